/- Plain laws of lists, partitions, shapes and tableaux; no program in sight. -/
import Derived.Test.YtloognjnfelgfaaGreatDoorAmP
import Derived.Test.YtloognjnfelgfaaGreatDoorAmM
import Derived.Lib.Strings
set_option linter.unusedSimpArgs false
set_option linter.unusedVariables false
set_option linter.unnecessarySimpa false
set_option linter.unusedSectionVars false
section
/- Rules for loops over data: a loop that looks at all, a loop that folds. -/
namespace Go.Am.Pu
open Go.Am
theorem w64{n:Int}(h1: -9223372036854775808≤n)(h2:n≤9223372036854775807):IntKind.i64.wrap n=n:=Go.Am.w64 h1 h2
theorem l9{R:Type}(L:Nat→Nat→Option R)(n:Nat)(p:Nat→Bool)(bad Fm:Option R)
  (hs: ∀j i,i<n→L (j+1) i=if p i=true then L j (i+1)else bad) (he: ∀j,L (j+1) n=Fm):
  ∀(m j i:Nat),i+m=n→m<j→L j i=if(List.range' i m).all p=true then Fm else bad
 |m,0,i,_,h=>by omega
 |0,j+1,i,h,_=>by
  have:i=n:=by omega
  subst this
  rw[he];rfl
 |m+1,j+1,i,h,hj=>by
  rw[hs j i (by omega),l9 L n p bad Fm hs he m j (i+1) (by omega) (by omega),List.range'_succ,List.all_cons]
  cases p i
  ·rw[if_neg (by simp),Bool.false_and,if_neg (by simp)]
  ·rw[if_pos rfl,Bool.true_and]
theorem cG{p:Nat→Bool}{n:Nat}:(List.range' 0 n).all p=true↔ ∀i,i<n→p i=true:=by
 simp[List.all_eq_true,List.mem_range'_1]
theorem an{α:Type}{xs:List α}{i:Nat}(h:i<xs.length)(d:α):xs.getD i d=xs[i]:=by
 simp only[List.getD_eq_getElem?_getD,List.getElem?_eq_getElem h,Option.getD_some]
theorem bo{α:Type}{xs:List α}{i:Nat}(h:xs.length≤i)(d:α):xs.getD i d=d:=by
 simp only[List.getD_eq_getElem?_getD,List.getElem?_eq_none h,Option.getD_none]
theorem drop_cons{α:Type}{xs:List α}{i:Nat}(h:i<xs.length)(d:α):xs.drop i=xs.getD i d::xs.drop (i+1):=by
 rw[an h,List.drop_eq_getElem_cons h]
theorem take_succ{α:Type}{xs:List α}{i:Nat}(h:i<xs.length)(d:α):xs.take (i+1)=xs.take i++ [xs.getD i d]:=by
 rw[an h,List.take_succ_eq_append_getElem h]
theorem E0{α:Type}{xs:List α}{i:Nat}(h:i<xs.length)(d z:α):(xs.take i++List.replicate (xs.length-i) z).set i (xs.getD i d)=xs.take (i+1)++List.replicate (xs.length-(i+1)) z:=by
 have e:xs.length-i=xs.length-(i+1)+1:=by omega
 rw[take_succ h d,e,List.replicate_succ,List.set_append_right _ _ (by simp;omega)]
 simp[Nat.min_eq_left (Nat.le_of_lt h)]
end Go.Am.Pu
end
section
/- Marking memory and looking whether the marks are held. -/
namespace Go.Am.Pu
def held:List Int→Int→Int
 | [],q=>q
 |x::xs,q=>if x=q then held xs (q+1)else-1
def mark:List Int→Int→List Int
 | [],_=> []
 |_::xs,q=>q::mark xs (q+1)
theorem nC: ∀(xs:List Int) (q:Int),(mark xs q).length=xs.length
 | [],_=>rfl
 |_::xs,q=>by simp[mark,nC xs]
theorem tg: ∀(xs:List Int) (q:Int),held (mark xs q) q=q+xs.length
 | [],q=>by simp[mark,held]
 |_::xs,q=>by
  simp only[mark,held,if_true,List.length_cons]
  rw[tg xs]
  omega
theorem DF: ∀(xs:List Int) (q:Int),0≤q→held xs q≤q+xs.length
 | [],q,_=>by simp[held]
 |x::xs,q,h=>by
  simp only[held,List.length_cons]
  split
  ·have:=DF xs (q+1) (by omega)
   omega
  ·omega
def ue:List (List Int)→Int→Int
 | [],q=>q
 |x::xs,q=>if held x q<0 then-1 else ue xs (held x q)
def kP:List (List Int)→Int→List (List Int)
 | [],_=> []
 |x::xs,q=>mark x q::kP xs (q+x.length)
def gu:List (List Int)→Nat
 | []=>0
 |x::xs=>x.length+gu xs
theorem vn: ∀(xs:List (List Int)) (n:Nat),(∀x∈xs,x.length≤n)→gu xs≤xs.length*n
 | [],n,_=>by simp[gu]
 |x::xs,n,h=>by
  have h1:=h x (by simp)
  have h2:=vn xs n fun y hy=>h y (by simp[hy])
  simp only[gu,List.length_cons,Nat.succ_mul]
  omega
theorem Ey{xs:List (List Int)}{q:Int}{n:Nat}(h: ∀x∈xs,x.length≤n): ∀y∈kP xs q,y.length≤n:=by
 induction xs generalizing q with
 |nil=>intro y hy;cases hy
 |cons x xs ih=>
  intro y hy
  simp only[kP,List.mem_cons]at hy
  rcases hy with rfl|hy
  ·rw[nC];exact h x (by simp)
  ·exact ih (fun z hz=>h z (by simp[hz])) y hy
theorem vy: ∀(xs:List (List Int)) (q:Int),gu (kP xs q)=gu xs
 | [],_=>rfl
 |x::xs,q=>by simp[kP,gu,nC,vy xs]
theorem yl: ∀(xs:List (List Int)) (q:Int),(kP xs q).length=xs.length
 | [],_=>rfl
 |_::xs,q=>by simp[kP,yl xs]
theorem vV: ∀(xs:List (List Int)) (q:Int),0≤q→ue (kP xs q) q=q+gu xs
 | [],q,_=>by simp[kP,ue,gu]
 |x::xs,q,h=>by
  simp only[kP,ue,gu]
  rw[tg,if_neg (by omega),vV xs _ (by omega)]
  omega
end Go.Am.Pu
end
section
/- Partitions, shapes and tableaux as plain words. -/
namespace Go.Am.Pu
def within(x lo hi:Int):Bool:=decide (lo≤x)&&decide (x≤hi)
def atI(p:List Int)(i:Int):Int:=if i<0 then 0 else p.getD i.toNat 0
theorem dn(p:List Int)(i:Nat):atI p (i:Int)=p.getD i 0:=by simp[atI];omega
theorem mD{p:List Int}{i:Int}(h:i<0):atI p i=0:=by simp[atI,h]
theorem xj{p:List Int}{i:Int}(h:(p.length:Int)≤i):atI p i=0:=by
 unfold atI
 split
 ·rfl
 ·exact bo (by omega) 0
def gT:List Int→Int→Int→Bool
 | [],_,_=>true
 |x::xs,prev,s=>decide (1≤x)&&(decide (x≤prev)&&(decide (s+x≤9)&&gT xs x (s+x)))
def aX(p:List Int):Bool:=gT p 9 0
def aT:List Int→Int
 | []=>0
 |x::xs=>x+aT xs
theorem uB: ∀(p:List Int) (prev s:Int),gT p prev s=true→(∀x∈p,1≤x∧x≤prev)∧(p≠ []→s+aT p≤9)∧(p.length:Int)≤aT p
 | [],prev,s,_=>⟨fun x h=>(by cases h),fun h=>absurd rfl h,(by simp[aT])⟩
 |x::xs,prev,s,h=>by
  simp only[gT,Bool.and_eq_true,decide_eq_true_eq]at h
  obtain⟨h1,h2,h3,h4⟩:=h
  obtain⟨k1,k2,k3⟩:=uB xs x (s+x) h4
  refine⟨fun y hy=> ?_,fun _=> ?_,?_⟩
  ·rcases List.mem_cons.1 hy with rfl|hy
   ·exact⟨h1,h2⟩
   ·have:=k1 y hy;omega
  ·simp only[aT]
   by_cases e:xs= []
   ·subst e;simp[aT];omega
   ·have:=k2 e;omega
  ·simp only[aT,List.length_cons];omega
theorem aH{p:List Int}(h:aX p=true):(∀x∈p,1≤x∧x≤9)∧aT p≤9∧p.length≤9∧(p.length:Int)≤aT p:=by
 obtain⟨h1,h2,h3⟩:=uB p 9 0 h
 have:aT p≤9:=by
  by_cases e:p= []
  ·subst e;simp[aT]
  ·have:=h2 e;omega
 exact⟨h1,this,by omega,h3⟩
theorem dm{p:List Int}(h:aX p=true)(i:Int):0≤atI p i∧atI p i≤9:=by
 unfold atI
 split
 ·omega
 ·by_cases hl:i.toNat<p.length
  ·rw[an hl]
   have:=(aH h).1 _ (List.getElem_mem hl)
   omega
  ·rw[bo (by omega)];omega
def aJ(q p:List Int):Bool:=aX q&&(aX p&&(decide (q.length≤p.length)&&(List.range' 0 q.length).all fun i=>decide (q.getD i 0≤p.getD i 0)))
theorem B8{q p:List Int}(hq:aX q=true)(h:(List.range' 0 q.length).all (fun i=>decide (q.getD i 0≤p.getD i 0))=true):q.length≤p.length:=by
 rw[cG]at h
 refine Nat.le_of_not_lt fun hlt=> ?_
 have h1:=h p.length hlt
 rw[decide_eq_true_eq,bo (Nat.le_refl _),an hlt]at h1
 have:=(aH hq).1 _ (List.getElem_mem hlt)
 omega
theorem mu{q p:List Int}:aJ q p=(aX q&&(aX p&&(List.range' 0 q.length).all fun i=>decide (q.getD i 0≤p.getD i 0))):=by
 unfold aJ
 cases hq:aX q with
 |false=>rfl
 |true=>
  cases hp:aX p with
  |false=>rfl
  |true=>
   simp only[Bool.true_and]
   cases ha:(List.range' 0 q.length).all fun i=>decide (q.getD i 0≤p.getD i 0)with
   |false=>simp
   |true=>simp[B8 hq ha]
def eV(inner:List Int):Nat→List (List Int)→List Int
 |_,[]=> []
 |i,r::rs=>(inner.getD i 0+r.length)::eV inner (i+1) rs
theorem iy(inner:List Int): ∀(rs:List (List Int)) (i:Nat),(eV inner i rs).length=rs.length
 | [],_=>rfl
 |_::rs,i=>by simp[eV,iy inner rs]
theorem fg(inner:List Int): ∀(rs:List (List Int)) (i q:Nat),q<rs.length→(eV inner i rs).getD q 0=inner.getD (i+q) 0+(rs.getD q []).length
 | [],i,q,h=>by simp at h
 |r::rs,i,0,_=>by simp[eV]
 |r::rs,i,q+1,h=>by
  have:=fg inner rs (i+1) q (by simpa using h)
  simp only[eV,List.getD_cons_succ]
  rw[this]
  have e:i+1+q=i+(q+1):=by omega
  rw[e]
abbrev Tab:=List Int×List (List Int)
def outer(t:Tab):List Int:=eV t.1 0 t.2
def cX(t:Tab):Bool:=aX t.1&&(decide (t.1.length≤t.2.length)&&aJ t.1 (outer t))
def shapeOf(t:Tab):(List Int×List Int)×Bool:=if cX t=true then((outer t,t.1),true)else(([],[]),false)
theorem By{t:Tab}(h:cX t=true):t.2.length≤9:=by
 simp only[cX,aJ,Bool.and_eq_true]at h
 have:=(aH h.2.2.2.1).2.2.1
 rw[outer,iy]at this
 exact this
def entry(t:Tab)(r c:Int):Int:=if r<0 then 0 else if(t.2.length:Int)≤r then 0 else atI (t.2.getD r.toNat []) (c-atI t.1 r)
theorem iL{t:Tab}{r:Nat}(h:r<t.2.length)(c:Int):entry t r c=atI (t.2.getD r []) (c-t.1.getD r 0):=by
 unfold entry
 rw[if_neg (by omega),if_neg (by omega),dn]
 rfl
theorem E6{t:Tab}{r c:Int}(h:r<0):entry t r c=0:=by unfold entry;rw[if_pos h]
theorem Ba{t:Tab}{r q:Nat}(h:r<t.2.length):entry t r (t.1.getD r 0+q)=(t.2.getD r []).getD q 0:=by
 rw[iL h]
 have e:t.1.getD r 0+(q:Int)-t.1.getD r 0=q:=by omega
 rw[e,dn]
theorem BM{t:Tab}{r q:Nat}(h:r<t.2.length):entry t r (t.1.getD r 0+q-1)=if q=0 then 0 else(t.2.getD r []).getD (q-1) 0:=by
 rw[iL h]
 by_cases e:q=0
 ·subst e
  rw[if_pos rfl,mD (by omega)]
 ·rw[if_neg e]
  have e:t.1.getD r 0+(q:Int)-1-t.1.getD r 0=((q-1:Nat):Int):=by omega
  rw[e,dn]
def fp(t:Tab)(i k:Nat):Bool:=within ((t.2.getD i []).getD k 0) 1 9&&((decide (k=0)||decide ((t.2.getD i []).getD (k-1) 0≤(t.2.getD i []).getD k 0))&&
 (decide (i=0)||decide (entry t ((i:Int)-1) (t.1.getD i 0+k)<(t.2.getD i []).getD k 0)))
def eI(t:Tab):Bool:=cX t&&(List.range' 0 t.2.length).all fun i=>(List.range' 0 (t.2.getD i []).length).all fun k=>fp t i k
def cQ(t:Tab):Bool:=eI t&&decide (t.1.length=0)
theorem yv{t:Tab}(h:eI t=true):cX t=true:=by
 simp only[eI,Bool.and_eq_true]at h;exact h.1
theorem qd(inner:List Int): ∀(rs:List (List Int)) (i:Nat),(∀q,i≤q→inner.getD q 0=0)→aT (eV inner i rs)=rs.flatten.length
 | [],i,_=>rfl
 |r::rs,i,h=>by
  simp only[eV,aT,List.flatten_cons,List.length_append]
  rw[qd inner rs (i+1) (fun q hq=>h q (by omega)),h i (Nat.le_refl _)]
  omega
theorem CY{t:Tab}(h:cQ t=true):t.2.flatten.length≤9:=by
 simp only[cQ,Bool.and_eq_true,decide_eq_true_eq]at h
 have hs:=yv h.1
 simp only[cX,aJ,Bool.and_eq_true]at hs
 have h9:=(aH hs.2.2.2.1).2.1
 have:t.1= []:=List.eq_nil_of_length_eq_zero h.2
 rw[outer,qd t.1 t.2 0 (fun q _=>by rw[this];rfl)]at h9
 omega
def cq:List (List Int)→Int→List (List Int)×Nat
 | [],x=>([[x]],0)
 |r::rs,x=>if r.findIdx (fun n=>decide (x<n))<r.length
   then(r.set (r.findIdx fun n=>decide (x<n)) x::(cq rs (r.getD (r.findIdx fun n=>decide (x<n)) 0)).1,(cq rs (r.getD (r.findIdx fun n=>decide (x<n)) 0)).2+1)
   else((r++ [x])::rs,0)
def j3(t:Tab):Prop:=t.1.length≤1048576∧t.2.length≤1048576∧ ∀x∈t.2,x.length≤1048576
theorem j3.nil:j3 ([],[]):=⟨by simp,by simp,fun x h=>by cases h⟩
theorem vR: ∀{rs:List (List Int)} {r:List Int},r∈rs→r.length≤rs.flatten.length
 |q::rs,r,h=>by
  simp only[List.flatten_cons,List.length_append]
  rcases List.mem_cons.1 h with rfl|h
  ·omega
  ·have:=vR h;omega
theorem Cl{p:Int→Bool}{r:List Int}(h:r.findIdx p<r.length):p (r.getD (r.findIdx p) 0)=true:=by
 rw[an h];exact List.findIdx_getElem
theorem mR{α:Type}{xs:List α}{i:Nat}(h:i<xs.length)(x:α):(xs.set i x).take (i+1)=xs.take i++ [x]:=by
 have h':i<(xs.set i x).length:=by rw[List.length_set];exact h
 rw[take_succ h' x,List.take_set_of_le (Nat.le_refl _),an h',List.getElem_set_self]
end Go.Am.Pu
end
section
/- Standard tableaux, weights, descents: plain words. -/
namespace Go.Am.Pu
def IT{α:Type}(p:α→Bool)(r:List α):Int:=if r.findIdx p<r.length then(r.findIdx p:Int)else-1
def has(l:List Int)(x:Int):Bool:=l.any fun y=>decide (x=y)
theorem uX{l:List Int}{x:Int}:has l x=true↔x∈l:=by
 simp[has,List.any_eq_true]
def mI(l:List Int):Bool:=(List.range' 0 l.length).all fun i=>has l ((i:Int)+1)
theorem uU: ∀(R l:List Int),R.Nodup→(∀x∈R,x∈l)→R.length≤l.length
 | [],l,_,_=>by simp
 |x::R,l,hn,h=>by
  rw[List.nodup_cons]at hn
  have hx:=h x (by simp)
  have:=uU R (l.erase x) hn.2 fun y hy=>(List.mem_erase_of_ne fun(e:y=x)=>hn.1 (e▸hy)).2 (h y (by simp[hy]))
  rw[List.length_erase_of_mem hx]at this
  have:0<l.length:=List.length_pos_of_mem hx
  simp only[List.length_cons]
  omega
def xo(n:Nat):List Int:=(List.range n).map fun(i:Nat)=>(i:Int)+1
theorem jc{n:Nat}{x:Int}:x∈xo n↔1≤x∧x≤n:=by
 simp only[xo,List.mem_map,List.mem_range]
 constructor
 ·rintro⟨i,h,rfl⟩;omega
 ·rintro⟨h1,h2⟩;exact⟨(x-1).toNat,by omega,by omega⟩
theorem vL(n:Nat):(xo n).Nodup:=by
 unfold xo
 refine List.Pairwise.map _ (fun(a b:Nat) (h:a≠b)=> ?_) List.nodup_range
 intro e
 exact h (by omega)
theorem u9(n:Nat):(xo n).length=n:=by simp[xo]
theorem lN{l:List Int}:mI l=true↔ ∀x∈xo l.length,x∈l:=by
 unfold mI
 rw[cG]
 constructor
 ·intro h x hx
  rw[jc]at hx
  have:=h (x-1).toNat (by omega)
  rw[uX]at this
  have e:(((x-1).toNat:Nat):Int)+1=x:=by omega
  rw[e]at this;exact this
 ·intro h i hi
  rw[uX]
  exact h _ (jc.2 (by omega))
theorem CO{l:List Int}(h1: ∀x∈l,1≤x):mI l=true↔l.Nodup∧ ∀x∈l,x≤l.length:=by
 rw[lN]
 constructor
 ·intro h
  refine⟨?_,fun x hx=> ?_⟩
  ·
   refine Classical.byContradiction fun hn=> ?_
   have: ∃x,x∈l∧x∈l.erase x:=by
    have key: ∀l:List Int,¬l.Nodup→ ∃x,x∈l∧x∈l.erase x:=by
     intro l
     induction l with
     |nil=>intro h;exact absurd List.nodup_nil h
     |cons a l ih=>
      intro h
      by_cases ha:a∈l
      ·exact⟨a,by simp,by simpa using ha⟩
      ·have: ¬l.Nodup:=fun hl=>h (List.nodup_cons.2 ⟨ha,hl⟩)
       obtain⟨x,h1,h2⟩:=ih this
       refine⟨x,by simp[h1],?_⟩
       have hne:a≠x:=fun e=>ha (e▸h1)
       rw[List.erase_cons_tail (by simpa using hne)]
       exact List.mem_cons_of_mem _ h2
    exact key l hn
   obtain⟨x,hx,hx2⟩:=this
   have:=uU (xo l.length) (l.erase x) (vL _) fun y hy=>by
    by_cases e:y=x
    ·rw[e];exact hx2
    ·exact(List.mem_erase_of_ne e).2 (h y hy)
   rw[u9,List.length_erase_of_mem hx]at this
   have:0<l.length:=List.length_pos_of_mem hx
   omega
  ·refine Int.not_lt.1 fun hlt=> ?_
   have:=uU (xo l.length) (l.erase x) (vL _) fun y hy=>by
    have hy':=jc.1 hy
    exact(List.mem_erase_of_ne (by omega)).2 (h y hy)
   rw[u9,List.length_erase_of_mem hx]at this
   have:0<l.length:=List.length_pos_of_mem hx
   omega
 ·rintro⟨hn,hb⟩ x hx
  refine Classical.byContradiction fun hxl=> ?_
  have:=uU (x::l) (xo l.length) (List.nodup_cons.2 ⟨hxl,hn⟩) fun y hy=>by
   rcases List.mem_cons.1 hy with rfl|hy
   ·exact hx
   ·exact jc.2 ⟨h1 y hy,hb y hy⟩
  rw[u9,List.length_cons]at this
  omega
theorem A7{t:Tab}(h:eI t=true): ∀x∈t.2.flatten,1≤x∧x≤9:=by
 intro x hx
 simp only[eI,Bool.and_eq_true]at h
 obtain⟨r,hr,hxr⟩:=List.mem_flatten.1 hx
 obtain⟨i,hi,e⟩:=List.mem_iff_getElem.1 hr
 obtain⟨q,hq,e2⟩:=List.mem_iff_getElem.1 hxr
 have h1:=cG.1 h.2 i hi
 rw[an hi,e]at h1
 have h2:=cG.1 h1 q hq
 simp only[fp,within,Bool.and_eq_true,decide_eq_true_eq]at h2
 rw[an hi,e,an hq,e2]at h2
 exact h2.1
def jh(t:Tab):Bool:=eI t&&mI t.2.flatten
def rowOf(t:Tab)(n:Int):Int:=IT (fun r=>has r n) t.2
theorem iw: ∀(w:List Int),(∀x∈w,0≤x)→0≤aT w
 | [],_=>by simp[aT]
 |x::xs,h=>by
  have:=iw xs fun y hy=>h y (by simp[hy])
  have:=h x (by simp)
  simp only[aT];omega
theorem tD(w:List Int)(h: ∀x∈w,0≤x)(i:Nat):0≤aT (w.take i)∧aT (w.take i)≤aT w:=by
 induction w generalizing i with
 |nil=>simp[aT]
 |cons x xs ih=>
  have hx:=h x (by simp)
  have h': ∀y∈xs,0≤y:=fun y hy=>h y (by simp[hy])
  cases i with
  |zero=>simp only[List.take_zero,aT];have:=iw xs h';omega
  |succ i=>
   simp only[List.take_succ_cons,aT]
   have:=ih h' i
   omega
theorem BK(a b:List Int):aT (a++b)=aT a+aT b:=by
 induction a with
 |nil=>simp[aT]
 |cons x a ih=>simp only[List.cons_append,aT,ih];omega
end Go.Am.Pu
end
section
/- Plain laws of draws, and of boxes. -/
namespace Go.Am.Pu
open Go Go.Am
attribute [local instance] D.real
theorem uZ{α:Type}(a b:Int)(x y:Option α):D.test (D.lt a b) x y=if a<b then x else y:=by
 show(if decide (a<b)=true then x else y)=_
 simp only[decide_eq_true_eq]
def H6(n:Nat)(x:List Int):Prop:=x.length≤n∧ ∀y∈x,1≤y∧y≤9
def cW (p : List Int) (r : Int) : List Int × Bool :=
  if aX p = true ∧ 0 ≤ r ∧ r ≤ p.length then
    (let q := if r = p.length then p ++ [0] else p
     let o := q.set r.toNat (q.getD r.toNat 0 + 1)
     if aX o = true then (o, true) else ([], false))
  else ([], false)
end Go.Am.Pu
end
section
/- Steps over equations: what a word comes to, told by what must hold of it. -/
namespace Go.Am.Pu
open Go Go.Am
attribute [local instance] D.real
section
variable {α β : Type}
def Ok(x:Option α)(Q:α→Prop):Prop:= ∃y,x=some y∧Q y
theorem Ok.ret{y:α}{Q:α→Prop}(h:Q y):Ok (some y) Q:=⟨y,rfl,h⟩
theorem Ok.mono{x:Option α}{P Q:α→Prop}(h:Ok x P)(g: ∀y,P y→Q y):Ok x Q:=
 let⟨y,e,hp⟩:=h
 ⟨y,e,g y hp⟩
theorem Ok.bnd{x:Option α}{f:α→Option β}{P:α→Prop}{Q:β→Prop}(h:Ok x P)(g: ∀y,P y→Ok (f y) Q):Ok (D.bnd x f) Q:=by
 obtain⟨y,e,hp⟩:=h
 rw[e]
 exact g y hp
theorem Ok.eN{x:Option α}{y:α}{f:α→Option β}{Q:β→Prop}(h:x=some y)(g:Ok (f y) Q):Ok (D.bnd x f) Q:=by
 rw[h]
 exact g
theorem Ok.t{p:Prop} [Decidable p]{x y:Option α}{Q:α→Prop}(h1:p→Ok x Q)(h2: ¬p→Ok y Q):Ok (D.test (decide p) x y) Q:=by
 show Ok (if decide p=true then x else y) Q
 by_cases h:p
 ·rw[if_pos (decide_eq_true h)];exact h1 h
 ·rw[if_neg (by rw[decide_eq_false h];simp)];exact h2 h
theorem Ok.tb{b:Bool}{x y:Option α}{Q:α→Prop}(h1:b=true→Ok x Q)(h2:b=false→Ok y Q):Ok (D.test b x y) Q:=by
 cases b
 ·exact h2 rfl
 ·exact h1 rfl
theorem Ok.tn{b:Bool}{x y:Option α}{Q:α→Prop}(h1:b=false→Ok x Q)(h2:b=true→Ok y Q):Ok (D.test (!b) x y) Q:=by
 cases b
 ·exact h1 rfl
 ·exact h2 rfl
theorem Ok.tnd{p:Prop} [Decidable p]{x y:Option α}{Q:α→Prop}(h1: ¬p→Ok x Q)(h2:p→Ok y Q):Ok (D.test (!decide p) x y) Q:=
 Ok.tn (fun h=>h1 (of_decide_eq_false h)) (fun h=>h2 (of_decide_eq_true h))
theorem Ok.g{p:Prop} [Decidable p]{x y:Option α}{Q:α→Prop}(h:p)(g:Ok x Q):Ok (D.test (decide p) x y) Q:=Ok.t (fun _=>g) (fun h'=>absurd h h')
theorem Ok.no{p:Prop} [Decidable p]{x y:Option α}{Q:α→Prop}(h: ¬p)(g:Ok y Q):Ok (D.test (decide p) x y) Q:=Ok.t (fun h'=>absurd h' h) (fun _=>g)
theorem Ok.gn{p:Prop} [Decidable p]{x y:Option α}{Q:α→Prop}(h: ¬p)(g:Ok x Q):Ok (D.test (!decide p) x y) Q:=Ok.tnd (fun _=>g) (fun h'=>absurd h' h)
theorem Ok.some{x:Option α}{Q:α→Prop}(h:Ok x Q): ∃y,x=Option.some y:=let⟨y,e,_⟩:=h;⟨y,e⟩
end
def eu(n m:Nat)(rs:List (List Int)):Prop:=rs.length≤n∧ ∀r∈rs,r.length≤m
theorem eu.at{n m:Nat}{rs:List (List Int)}(h:eu n m rs)(i:Nat):(rs.getD i []).length≤m:=by
 by_cases hi:i<rs.length
 ·rw[an hi];exact h.2 _ (List.getElem_mem hi)
 ·rw[bo (by omega)];simp
theorem eu.set{n m:Nat}{rs:List (List Int)}(h:eu n m rs)(i:Nat){r:List Int}(hr:r.length≤m):eu n m (rs.set i r):=by
 refine⟨by rw[List.length_set];exact h.1,fun x hx=> ?_⟩
 rcases List.mem_or_eq_of_mem_set hx with h'|rfl
 ·exact h.2 x h'
 ·exact hr
theorem eu.mono{n m n' m':Nat}{rs:List (List Int)}(h:eu n m rs)(hn:n≤n')(hm:m≤m'):eu n' m' rs:=
 ⟨Nat.le_trans h.1 hn,fun x hx=>Nat.le_trans (h.2 x hx) hm⟩
theorem eu.app{n m:Nat}{rs:List (List Int)}(h:eu n m rs){r:List Int}(hr:r.length≤m):eu (n+1) m (rs++ [r]):=by
 refine⟨by rw[List.length_append];simp;exact h.1,fun x hx=> ?_⟩
 rcases List.mem_append.1 hx with h'|h'
 ·exact h.2 x h'
 ·simp only[List.mem_singleton]at h';subst h';exact hr
theorem Cp(p:List Int)(r:Int):(cW p r).1.length≤p.length+1:=by
 unfold cW
 split
 ·simp only
  generalize hq:(if r=(p.length:Int)then p++ [0]else p)=q
  have hl:q.length≤p.length+1:=by
   rw[←hq]
   split
   ·simp
   ·omega
  split
  ·rw[List.length_set];exact hl
  ·simp
 ·simp
end Go.Am.Pu
end
section
/- Corners; a number taken out of rows. Plain words. -/
namespace Go.Am.Pu
theorem sD: ∀{p:List Int} {prev s:Int},gT p prev s=true→ ∀i,i+1<p.length→p.getD (i+1) 0≤p.getD i 0
 | [],_,_,_,i,h=>by simp at h
 | [x],_,_,_,i,h=>by simp at h
 |x::y::xs,prev,s,hp,i,h=>by
  simp only[gT,Bool.and_eq_true,decide_eq_true_eq]at hp
  cases i with
  |zero=>simpa using hp.2.2.2.2.1
  |succ i=>
   have h2:gT (y::xs) x (s+x)=true:=by
    simp only[gT,Bool.and_eq_true,decide_eq_true_eq]
    exact hp.2.2.2
   have:=sD h2 i (by simpa using h)
   simpa using this
def mV(r:List Int)(y:Int):Nat→Option Nat
 |0=>none
 |i+1=>if r.getD i 0<y then some i else mV r y i
theorem uA{r:List Int}{y:Int}: ∀{m q:Nat},mV r y m=some q→q<m∧r.getD q 0<y
 |0,q,h=>by simp[mV]at h
 |m+1,q,h=>by
  unfold mV at h
  split at h
  ·next hc=>injection h with h;subst h;exact⟨by omega,hc⟩
  ·have:=uA h;exact⟨by omega,this.2⟩
theorem yb{r:List Int}{y:Int}: ∀{m i:Nat},i<m→r.getD i 0<y→ ∃q,mV r y m=some q
 |0,i,h,_=>by omega
 |m+1,i,h,hi=>by
  unfold mV
  split
  ·exact⟨_,rfl⟩
  ·next hc=>
   have:i≠m:=fun e=>hc (e▸hi)
   exact yb (by omega) hi
def mX:Nat→List (List Int)→Int→List (List Int)×Int
 |0,rs,y=>(rs,y)
 |r+1,rs,y=>match mV (rs.getD r []) y (rs.getD r []).length with
  |some q=>mX r (rs.set r ((rs.getD r []).set q y)) ((rs.getD r []).getD q 0)
  |none=>mX r rs y
theorem getD_set_ne{α:Type}{xs:List α}{i j:Nat}(h:j≠i)(x d:α):(xs.set j x).getD i d=xs.getD i d:=by
 simp only[List.getD_eq_getElem?_getD,List.getElem?_set]
 rw[if_neg h]
theorem qZ{n m:Nat}: ∀(r:Nat) (rs:List (List Int)) (y:Int),eu n m rs→eu n m (mX r rs y).1
 |0,_,_,h=>h
 |r+1,rs,y,h=>by
  unfold mX
  split
  ·exact qZ r _ _ (h.set r (by rw[List.length_set];exact h.at r))
  ·exact qZ r rs y h
def ml (rs : List (List Int)) (row : Nat) : List (List Int) × Int :=
  ((if (rs.getD row []).length = 1 then (mX row (rs.set row ((rs.getD row []).take ((rs.getD row []).length - 1))) ((rs.getD row []).getD ((rs.getD row []).length - 1) 0)).1.take row
    else (mX row (rs.set row ((rs.getD row []).take ((rs.getD row []).length - 1))) ((rs.getD row []).getD ((rs.getD row []).length - 1) 0)).1),
   (mX row (rs.set row ((rs.getD row []).take ((rs.getD row []).length - 1))) ((rs.getD row []).getD ((rs.getD row []).length - 1) 0)).2)
theorem zz{n m:Nat}{rs:List (List Int)}(h:eu n m rs)(row:Nat):eu n m (ml rs row).1:=by
 have h1:=qZ row (rs.set row ((rs.getD row []).take ((rs.getD row []).length-1))) ((rs.getD row []).getD ((rs.getD row []).length-1) 0) (h.set row (by rw[List.length_take];have:=h.at row;omega))
 unfold ml
 simp only
 split
 ·exact⟨by rw[List.length_take];have:=h1.1;omega,fun x hx=>h1.2 x (List.mem_of_mem_take hx)⟩
 ·exact h1
theorem kM{t:Tab}(h:cQ t=true):t.1= []:=by
 simp only[cQ,Bool.and_eq_true,decide_eq_true_eq]at h
 exact List.eq_nil_of_length_eq_zero h.2
theorem gM{t:Tab}(h:cQ t=true){i:Nat}(hi:i<t.2.length):(outer t).getD i 0=(t.2.getD i []).length:=by
 have e:=fg t.1 t.2 0 i hi
 rw[kM h]at e
 unfold outer
 rw[kM h,e]
 simp
theorem j8{t:Tab}(h:cQ t=true):aX (outer t)=true:=by
 simp only[cQ,Bool.and_eq_true]at h
 have hs:=yv h.1
 simp only[cX,aJ,Bool.and_eq_true]at hs
 exact hs.2.2.2.1
theorem dx(t:Tab):(outer t).length=t.2.length:=by unfold outer;rw[iy]
theorem CB{t:Tab}(h:cQ t=true):eu 9 9 t.2:=by
 have h9:=CY h
 have hl:=(aH (j8 h)).2.2.1
 rw[dx]at hl
 exact⟨hl,fun r hr=>by have:=vR hr;omega⟩
theorem qV{t:Tab}(h:cQ t=true): ∀i,i+1<t.2.length→(t.2.getD (i+1) []).length≤(t.2.getD i []).length∧ ∀q,q<(t.2.getD (i+1) []).length→(t.2.getD i []).getD q 0<(t.2.getD (i+1) []).getD q 0:=by
 intro i hi
 have hm:=sD (show gT (outer t) 9 0=true from j8 h) i (by rw[dx];exact hi)
 rw[gM h hi,gM h (by omega)]at hm
 have hl:(t.2.getD (i+1) []).length≤(t.2.getD i []).length:=by omega
 refine⟨hl,fun q hq=> ?_⟩
 have ht:=h
 simp only[cQ,Bool.and_eq_true]at ht
 have ht:=ht.1
 simp only[eI,Bool.and_eq_true]at ht
 have h1:=cG.1 (cG.1 ht.2 (i+1) hi) q hq
 simp only[fp,Bool.and_eq_true,Bool.or_eq_true,decide_eq_true_eq]at h1
 have h2:=h1.2.2.resolve_left (by omega)
 rw[kM h]at h2
 have e:((i+1:Nat):Int)-1=(i:Int):=by omega
 have e2:([]:List Int).getD (i+1) 0+(q:Int)=([]:List Int).getD i 0+(q:Int):=by simp
 rw[e,e2]at h2
 have ee:entry t (i:Int) (([]:List Int).getD i 0+(q:Int))=(t.2.getD i []).getD q 0:=by
  have:=Ba (t:=t) (r:=i) (q:=q) (by omega)
  rw[kM h]at this
  exact this
 rw[ee]at h2
 exact h2
end Go.Am.Pu
end
section
/- Rows with noughts in front; a box taken from a partition. Plain words. -/
namespace Go.Am.Pu
def fL(t:Tab):List (List Int):=(List.range' 0 t.2.length).map fun i=>List.replicate (t.1.getD i 0).toNat 0++t.2.getD i []
theorem zL(t:Tab):(fL t).length=t.2.length:=by simp[fL]
theorem FN{t:Tab}{i:Nat}(h:i<t.2.length):(fL t).getD i []=List.replicate (t.1.getD i 0).toNat 0++t.2.getD i []:=by
 rw[an (by rw[zL];exact h)]
 simp[fL]
def aP(p:List Int)(n:Nat):List Int:=if p.getD n 0-1=0 then p.take n else p.set n (p.getD n 0-1)
theorem Bl(p:List Int)(n:Nat):(aP p n).length≤p.length:=by
 unfold aP
 split
 ·rw[List.length_take];omega
 ·rw[List.length_set];exact Nat.le_refl _
end Go.Am.Pu
end
section
/- A slide: the hole goes right or down until nothing is there. Plain words. -/
namespace Go.Am.Pu
def cel(g:List (List Int))(r c:Nat):Int:=(g.getD r []).getD c 0
def lk(g:List (List Int))(r c:Nat)(v:Int):List (List Int):=g.set r ((g.getD r []).set c v)
theorem yK{g:List (List Int)}{r c:Nat}(h:cel g r c≠0):r<g.length∧c<(g.getD r []).length:=by
 unfold cel at h
 by_cases h1:r<g.length
 ·refine⟨h1,?_⟩
  by_cases h2:c<(g.getD r []).length
  ·exact h2
  ·exact absurd (bo (by omega) 0) h
 ·rw[bo (xs:=g) (by omega)]at h
  simp at h
theorem ji(g:List (List Int))(r c:Nat)(v:Int):(lk g r c v).length=g.length:=by unfold lk;rw[List.length_set]
theorem b8(g:List (List Int))(r c:Nat)(v:Int)(q:Nat):((lk g r c v).getD q []).length=(g.getD q []).length:=by
 unfold lk
 by_cases e:q=r
 ·subst e
  by_cases h:q<g.length
  ·rw[an (by rw[List.length_set];exact h),List.getElem_set_self,List.length_set]
  ·rw[bo (by rw[List.length_set];omega),bo (by omega)]
 ·rw[getD_set_ne (Ne.symm e)]
theorem kJ{g:List (List Int)}{r c:Nat}(v:Int)(h1:r<g.length)(h2:c<(g.getD r []).length):cel (lk g r c v) r c=v:=by
 unfold cel lk
 rw[an (xs:=g.set r _) (by rw[List.length_set];exact h1),List.getElem_set_self,an (by rw[List.length_set];exact h2),List.getElem_set_self]
theorem jq{g:List (List Int)}{r c q x:Nat}(v:Int)(h: ¬(q=r∧x=c)):cel (lk g r c v) q x=cel g q x:=by
 unfold cel lk
 by_cases e:q=r
 ·subst e
  have hx:x≠c:=fun e=>h ⟨rfl,e⟩
  by_cases hl:q<g.length
  ·rw[an (xs:=g.set q _) (by rw[List.length_set];exact hl),List.getElem_set_self,getD_set_ne (Ne.symm hx)]
  ·rw[bo (xs:=g.set q _) (by rw[List.length_set];omega),bo (xs:=g) (by omega)]
 ·rw[getD_set_ne (Ne.symm e)]
structure Sl (q : List Int) (g : List (List Int)) (i c : Nat) : Prop where
  q0 : ∀ r, 0 ≤ q.getD r 0
  qm : ∀ r, q.getD (r + 1) 0 ≤ q.getD r 0
  lm : ∀ r, (g.getD (r + 1) []).length ≤ (g.getD r []).length
  hi : i < g.length
  hc : c < (g.getD i []).length
  hq : q.getD i 0 ≤ c
  pos : ∀ r x, 0 ≤ cel g r x
  num : ∀ r x : Nat, q.getD r 0 ≤ x → x < (g.getD r []).length → ¬ (r = i ∧ x = c) → 1 ≤ cel g r x ∧ cel g r x ≤ 9
  row : ∀ r x : Nat, q.getD r 0 ≤ x → x + 1 < (g.getD r []).length → ¬ (r = i ∧ x = c) → ¬ (r = i ∧ x + 1 = c) → cel g r x ≤ cel g r (x + 1)
  col : ∀ r x : Nat, q.getD r 0 ≤ x → x < (g.getD (r + 1) []).length → ¬ (r = i ∧ x = c) → ¬ (r + 1 = i ∧ x = c) → cel g r x < cel g (r + 1) x
  Ix : ∀ x : Nat, x + 1 = c → q.getD i 0 ≤ x → c + 1 < (g.getD i []).length → cel g i x ≤ cel g i (c + 1)
  colH : ∀ r : Nat, r + 1 = i → q.getD r 0 ≤ c → c < (g.getD (i + 1) []).length → cel g r c < cel g (i + 1) c
theorem Sl.right{q:List Int}{g:List (List Int)}{i c:Nat}(h:Sl q g i c)(hr:cel g i (c+1)≠0)(hb: ¬(0<cel g (i+1) c∧cel g (i+1) c≤cel g i (c+1))):
  Sl q (lk g i c (cel g i (c+1))) i (c+1):=by
 obtain⟨b1,b2⟩:=yK hr
 have hq:=h.hq
 have hrn:=h.num i (c+1) (by omega) b2 (by omega)
 have e0:=kJ (cel g i (c+1)) h.hi h.hc
 have en: ∀r x,¬(r=i∧x=c)→cel (lk g i c (cel g i (c+1))) r x=cel g r x:=fun r x hh=>jq _ hh
 refine⟨h.q0,h.qm,fun r=> ?_,?_,?_,by omega,fun r x=> ?_,fun r x h1 h2 h3=> ?_,fun r x h1 h2 h3 h4=> ?_,fun r x h1 h2 h3 h4=> ?_,fun x h1 h2 h3=> ?_,fun r h1 h2 h3=> ?_⟩
 ·rw[b8,b8];exact h.lm r
 ·rw[ji];exact b1
 ·rw[b8];exact b2
 ·by_cases e:r=i∧x=c
  ·rw[e.1,e.2,e0];exact h.pos _ _
  ·rw[en r x e];exact h.pos _ _
 ·rw[b8]at h2
  by_cases e:r=i∧x=c
  ·rw[e.1,e.2,e0];exact hrn
  ·rw[en r x e];exact h.num r x h1 h2 e
 ·rw[b8]at h2
  by_cases e:r=i∧x=c
  ·exact(h4 ⟨e.1,by omega⟩).elim
  ·rw[en r x e]
   by_cases e':r=i∧x+1=c
   ·obtain⟨rfl,rfl⟩:=e'
    rw[e0]
    exact h.Ix x rfl h1 b2
   ·rw[en r (x+1) e'];exact h.row r x h1 h2 e e'
 ·rw[b8]at h2
  by_cases e:r=i∧x=c
  ·obtain⟨rfl,rfl⟩:=e
   rw[e0,en _ _ (by omega)]
   have hqm:=h.qm r
   have h5:=(h.num (r+1) x (by omega) h2 (by omega)).1
   omega
  ·rw[en r x e]
   by_cases e':r+1=i∧x=c
   ·obtain⟨rfl,rfl⟩:=e'
    rw[e0]
    have hl:=h.lm r
    have h5:=h.row r x h1 (by omega) (by omega) (by omega)
    have h6:=h.col r (x+1) (by omega) b2 (by omega) (by omega)
    omega
   ·rw[en (r+1) x e']
    exact h.col r x h1 h2 e e'
 ·rw[b8]at h3
  have:x=c:=by omega
  subst this
  rw[e0,en _ _ (by omega)]
  exact h.row i (x+1) (by omega) h3 (by omega) (by omega)
 ·rw[b8]at h3
  rw[en _ _ (by omega),en _ _ (by omega)]
  subst h1
  have h5:=h.col r (c+1) h2 (by omega) (by omega) (by omega)
  have h6:=h.col (r+1) (c+1) (by omega) h3 (by omega) (by omega)
  omega
end Go.Am.Pu
end
section
/- A slide's end and its start. Plain words. -/
namespace Go.Am.Pu
theorem fN{p:List Int}(hp:aX p=true)(r:Nat):p.getD (r+1) 0≤p.getD r 0:=by
 by_cases h:r+1<p.length
 ·exact sD hp r h
 ·rw[bo (by omega)]
  have:=(dm hp r).1
  rw[dn]at this
  exact this
theorem rq{p:List Int}{n:Nat}(hp:aX p=true)(hn:n<p.length)(hc:p.getD (n+1) 0<p.getD n 0)(r:Nat):(aP p n).getD r 0=if r=n then p.getD n 0-1 else p.getD r 0:=by
 unfold aP
 by_cases h:p.getD n 0-1=0
 ·rw[if_pos h]
  have h0:=(dm hp (n+1:Nat)).1
  rw[dn]at h0
  have hl:p.length≤n+1:=by
   refine Nat.le_of_not_lt fun hlt=> ?_
   have:=(aH hp).1 _ (List.getElem_mem hlt)
   rw[←an hlt 0]at this
   omega
  by_cases e:r=n
  ·subst e
   rw[if_pos rfl,h,bo (by rw[List.length_take];omega)]
  ·rw[if_neg e]
   by_cases e2:r<n
   ·rw[an (by rw[List.length_take];omega),List.getElem_take,an (by omega)]
   ·rw[bo (by rw[List.length_take];omega),bo (by omega)]
 ·rw[if_neg h]
  by_cases e:r=n
  ·subst e
   rw[if_pos rfl,an (by rw[List.length_set];exact hn),List.getElem_set_self]
  ·rw[if_neg e,getD_set_ne (Ne.symm e)]
theorem BH{t:Tab}{r:Nat}(h:r<t.2.length):((fL t).getD r []).length=(t.1.getD r 0).toNat+(t.2.getD r []).length:=by
 rw[FN h];simp
theorem HG{t:Tab}{r:Nat}(h:t.2.length≤r):(fL t).getD r []= []:=bo (by rw[zL];exact h) []
structure I8 (t : Tab) : Prop where
  q0 : ∀ r, 0 ≤ t.1.getD r 0
  qm : ∀ r, t.1.getD (r + 1) 0 ≤ t.1.getD r 0
  lm : ∀ r, ((fL t).getD (r + 1) []).length ≤ ((fL t).getD r []).length
  num : ∀ r x : Nat, t.1.getD r 0 ≤ x → x < ((fL t).getD r []).length → 1 ≤ cel (fL t) r x ∧ cel (fL t) r x ≤ 9
  row : ∀ r x : Nat, t.1.getD r 0 ≤ x → x + 1 < ((fL t).getD r []).length → cel (fL t) r x ≤ cel (fL t) r (x + 1)
  col : ∀ r x : Nat, t.1.getD r 0 ≤ x → x < ((fL t).getD (r + 1) []).length → cel (fL t) r x < cel (fL t) (r + 1) x
end Go.Am.Pu
end
section
/- A tableau cell by cell; a slide's start. Plain words. -/
namespace Go.Am.Pu
theorem ib{t:Tab}(h:eI t=true):aX t.1=true∧aX (outer t)=true∧t.1.length≤t.2.length∧(∀i k,i<t.2.length→k<(t.2.getD i []).length→fp t i k=true):=by
 simp only[eI,cX,aJ,Bool.and_eq_true,decide_eq_true_eq]at h
 obtain⟨⟨h1,h2,h3,h4,h5⟩,h6⟩:=h
 refine⟨h1,h4,h2,fun i k hi hk=> ?_⟩
 rw[cG]at h6
 have:=h6 i hi
 rw[cG]at this
 exact this k hk
theorem Gt{t:Tab}(h:aX t.1=true)(r:Nat):(((fL t).getD r []).length:Int)=(outer t).getD r 0:=by
 have h0:=(dm h r).1
 rw[dn]at h0
 by_cases hr:r<t.2.length
 ·rw[BH hr]
  have:=fg t.1 t.2 0 r hr
  rw[Nat.zero_add]at this
  unfold outer
  rw[this]
  omega
 ·rw[HG (by omega),bo (by rw[dx];omega)]
  rfl
end Go.Am.Pu
end
section
/- A partition less a box; the tableau that a slide leaves. Plain words. -/
namespace Go.Am.Pu
theorem lC: ∀(p:List Int) (prev s:Int),(∀x∈p,1≤x)→(0<p.length→p.getD 0 0≤prev)→(∀i,i+1<p.length→p.getD (i+1) 0≤p.getD i 0)→s+aT p≤9→gT p prev s=true
 | [],_,_,_,_,_,_=>rfl
 |x::xs,prev,s,h1,h2,h3,h4=>by
  have hs: ∀(l:List Int),(∀y∈l,1≤y)→0≤aT l:=by
   intro l
   induction l with
   |nil=>intro _;simp[aT]
   |cons y l ih=>
    intro h
    have a:=h y List.mem_cons_self
    have b:=ih (fun z hz=>h z (List.mem_cons_of_mem _ hz))
    simp only[aT];omega
  have hx:=h1 x List.mem_cons_self
  have hxs:=hs xs (fun z hz=>h1 z (List.mem_cons_of_mem _ hz))
  have h2':=h2 (by simp)
  simp only[List.getD_cons_zero]at h2'
  simp only[aT]at h4
  have ih:=lC xs x (s+x) (fun z hz=>h1 z (List.mem_cons_of_mem _ hz)) (fun hl=>by have:=h3 0 (by simpa using hl);simpa using this) (fun i hi=>by have:=h3 (i+1) (by simpa using hi);simpa using this) (by omega)
  simp only[gT,Bool.and_eq_true,decide_eq_true_eq]
  exact⟨hx,h2',by omega,ih⟩
theorem oI: ∀(p:List Int) (n:Nat) (v:Int),n<p.length→aT (p.set n v)=aT p-p.getD n 0+v
 | [],n,v,h=>by simp at h
 |x::xs,0,v,_=>by simp[aT];omega
 |x::xs,n+1,v,h=>by
  have:=oI xs n v (by simpa using h)
  simp only[List.set_cons_succ,aT,List.getD_cons_succ,this]
  omega
theorem zE: ∀(p:List Int) (n:Nat),p.length=n+1→aT (p.take n)=aT p-p.getD n 0
 | [],n,h=>by simp at h
 | [x],0,_=>by simp[aT]
 |x::xs,n+1,h=>by
  have:=zE xs n (by simpa using h)
  simp only[List.take_succ_cons,aT,List.getD_cons_succ,this]
  omega
 |x::y::xs,0,h=>by simp at h
theorem yD{p:List Int}{n:Nat}(hp:aX p=true)(hc:p.getD (n+1) 0<p.getD n 0)(h:p.getD n 0-1=0):p.length≤n+1:=by
 have h0:=(dm hp (n+1:Nat)).1
 rw[dn]at h0
 refine Nat.le_of_not_lt fun hlt=> ?_
 have:=(aH hp).1 _ (List.getElem_mem hlt)
 rw[←an hlt 0]at this
 omega
theorem AF{p:List Int}{n:Nat}(hp:aX p=true)(hn:n<p.length)(hc:p.getD (n+1) 0<p.getD n 0){i:Nat}(hi:i<(aP p n).length):1≤(aP p n).getD i 0:=by
 rw[rq hp hn hc]
 have hl:=Bl p n
 have h1: ∀i,i<p.length→1≤p.getD i 0:=fun i hi=>by
  rw[an hi]
  exact((aH hp).1 _ (List.getElem_mem hi)).1
 by_cases h:p.getD n 0-1=0
 ·unfold aP at hi
  rw[if_pos h,List.length_take]at hi
  rw[if_neg (by omega)]
  exact h1 i (by omega)
 ·have a:=h1 n hn
  have b:=h1 i (by omega)
  split<;>omega
theorem pH{p:List Int}{n:Nat}(hp:aX p=true)(hn:n<p.length)(hc:p.getD (n+1) 0<p.getD n 0):aX (aP p n)=true:=by
 have hs:=aH hp
 have hg:=rq hp hn hc
 have hpn:1≤p.getD n 0:=by
  rw[an hn]
  exact(hs.1 _ (List.getElem_mem hn)).1
 refine lC _ _ _ (fun x hx=> ?_) (fun _=> ?_) (fun i _=> ?_) ?_
 ·obtain⟨i,hi,rfl⟩:=List.getElem_of_mem hx
  rw[←an hi 0]
  exact AF hp hn hc hi
 ·rw[hg]
  have: ∀i,p.getD i 0≤9:=fun i=>by
   have:=(dm hp i).2
   rw[dn]at this
   exact this
  have a:=this 0
  have b:=this n
  split<;>omega
 ·rw[hg,hg]
  have:=fN hp i
  by_cases e:i=n
  ·subst e
   rw[if_neg (by omega),if_pos rfl];omega
  ·rw[if_neg e]
   by_cases e2:i+1=n
   ·subst e2;rw[if_pos rfl];omega
   ·rw[if_neg e2];exact this
 ·have h9:=hs.2.1
  unfold aP
  split
  ·next h=>
   have hl:=yD hp hc h
   rw[zE p n (by omega)]
   omega
  ·rw[oI p n _ hn]
   omega
def dA(q:List Int)(g:List (List Int))(n:Nat):List (List Int):=(List.range' 0 n).map fun r=>(g.getD r []).drop (q.getD r 0).toNat
theorem jf(q:List Int)(g:List (List Int))(n:Nat):(dA q g n).length=n:=by simp[dA]
theorem kD{q:List Int}{g:List (List Int)}{n r:Nat}(h:r<n):(dA q g n).getD r []=(g.getD r []).drop (q.getD r 0).toNat:=by
 rw[an (by rw[jf];exact h)]
 simp[dA]
def pf(g:List (List Int))(i c:Nat):List (List Int):=g.set i ((g.getD i []).take c)
end Go.Am.Pu
namespace Go.Am.Pu
end Go.Am.Pu
end
section
/- What a slide leaves. Plain words. -/
namespace Go.Am.Pu
theorem Dw{g:List (List Int)}{i c r:Nat}(hi:i<g.length):(pf g i c).getD r []=if r=i then(g.getD i []).take c else g.getD r []:=by
 unfold pf
 by_cases e:r=i
 ·subst e
  rw[if_pos rfl,an (by rw[List.length_set];exact hi),List.getElem_set_self]
 ·rw[if_neg e,getD_set_ne (Ne.symm e)]
theorem nZ(g:List (List Int))(i c:Nat):(pf g i c).length=g.length:=by unfold pf;rw[List.length_set]
theorem Hf{g:List (List Int)}{i c r x:Nat}(hi:i<g.length)(hx:x<((pf g i c).getD r []).length):cel (pf g i c) r x=cel g r x:=by
 unfold cel
 rw[Dw hi]at hx⊢
 by_cases e:r=i
 ·subst e
  rw[if_pos rfl]at hx⊢
  rw[List.length_take]at hx
  rw[an (by rw[List.length_take];exact hx),List.getElem_take]
  exact(an (by omega) 0).symm
 ·rw[if_neg e]
structure Bi (t : Tab) (n : Nat) (g : List (List Int)) (i c : Nat) : Prop where
  sl : Sl (aP t.1 n) g i c
  len : g.length = t.2.length
  row : ∀ r, (g.getD r []).length = ((fL t).getD r []).length
  hi : i < (outer t).length
  end_ : (outer t).getD i 0 = c + 1
  cor : (outer t).getD (i + 1) 0 < (outer t).getD i 0
  cutl : ∀ r, (((pf g i c).getD r []).length : Int) = (aP (outer t) i).getD r 0
  ins : ∀ r, (aP t.1 n).getD r 0 ≤ (aP (outer t) i).getD r 0
  rows : eu 9 9 (pf g i c)
end Go.Am.Pu
end
section
/- The square that the reference slides in. Plain words. -/
namespace Go.Am.Pu
structure Sq (s g : List (List Int)) (i c : Nat) : Prop where
  len : s.length = 11
  row : ∀ r, r < 11 → (s.getD r []).length = 11
  at_ : ∀ r x, r < 11 → x < 11 → ¬ (r = i ∧ x = c) → cel s r x = cel g r x
  hole : cel s i c = 0
theorem Sq.step{s g:List (List Int)}{i c i' c':Nat}(h:Sq s g i c)(hi:i<g.length)(hc:c<(g.getD i []).length)(h1:i<11)(h2:c<11)(h3:i'<11)(h4:c'<11)(hne: ¬(i'=i∧c'=c))(v:Int):
  Sq (lk (lk s i c v) i' c' 0) (lk g i c v) i' c':=by
 refine⟨by rw[ji,ji];exact h.len,fun r hr=>by rw[b8,b8];exact h.row r hr,fun r x hr hx hn=> ?_,?_⟩
 ·rw[jq _ hn]
  by_cases e:r=i∧x=c
  ·obtain⟨rfl,rfl⟩:=e
   rw[kJ _ (by rw[h.len];exact h1) (by rw[h.row _ h1];exact h2),kJ _ hi hc]
  ·rw[jq _ e,jq _ e];exact h.at_ r x hr hx e
 ·rw[kJ _ (by rw[ji,h.len];exact h3) (by rw[b8,h.row _ h3];exact h4)]
end Go.Am.Pu
end
section
/- What a slide leaves is a tableau. Plain words. -/
namespace Go.Am.Pu
theorem ya{α:Type}(l:List α)(a x:Nat)(d:α):(l.drop a).getD x d=l.getD (a+x) d:=by
 simp[List.getD_eq_getElem?_getD,List.getElem?_drop]
section
variable {t : Tab} {n : Nat} {g : List (List Int)} {i c : Nat}
theorem Bi.cell(E:Bi t n g i c){r k:Nat}(hr:r<(aP (outer t) i).length)
  (hk:k<((dA (aP t.1 n) (pf g i c) (aP (outer t) i).length).getD r []).length):
  ((aP t.1 n).getD r 0).toNat+k<(g.getD r []).length∧((((aP t.1 n).getD r 0).toNat+k:Nat):Int)<(aP (outer t) i).getD r 0∧ ¬(r=i∧((aP t.1 n).getD r 0).toNat+k=c)∧
   ((dA (aP t.1 n) (pf g i c) (aP (outer t) i).length).getD r []).getD k 0=cel g r (((aP t.1 n).getD r 0).toNat+k):=by
 have hq:=E.sl.q0 r
 rw[kD hr]at hk⊢
 rw[List.length_drop]at hk
 have hx:((aP t.1 n).getD r 0).toNat+k<((pf g i c).getD r []).length:=by omega
 have hl:=E.cutl r
 have hcut:=Dw (c:=c) (r:=r) E.sl.hi
 refine⟨?_,by omega,fun e=> ?_,?_⟩
 ·rw[hcut]at hx
  by_cases e:r=i
  ·subst e;rw[if_pos rfl,List.length_take]at hx;omega
  ·rw[if_neg e]at hx;exact hx
 ·rw[hcut,if_pos e.1,List.length_take]at hx
  omega
 ·rw[ya]
  exact Hf E.sl.hi hx
theorem Bi.zW(E:Bi t n g i c){r:Nat}(hr:r<(aP (outer t) i).length):
  (aP (outer t) i).getD r 0=(aP t.1 n).getD r 0+(((dA (aP t.1 n) (pf g i c) (aP (outer t) i).length).getD r []).length:Int):=by
 have hq:=E.sl.q0 r
 have hi:=E.ins r
 have hl:=E.cutl r
 rw[kD hr,List.length_drop]
 omega
theorem Bi.tab(E:Bi t n g i c)(h:eI t=true)(hn:n<t.1.length)(hc:t.1.getD (n+1) 0<t.1.getD n 0):
  eI (aP t.1 n,dA (aP t.1 n) (pf g i c) (aP (outer t) i).length)=true:=by
 obtain⟨hp,ho,hl,_⟩:=ib h
 have hqp:=pH hp hn hc
 have hop:=pH ho E.hi E.cor
 generalize hR:dA (aP t.1 n) (pf g i c) (aP (outer t) i).length=R
 have hRl:R.length=(aP (outer t) i).length:=by rw[←hR,jf]
 have cell: ∀{r k:Nat},r<R.length→k<(R.getD r []).length→((aP t.1 n).getD r 0).toNat+k<(g.getD r []).length∧((((aP t.1 n).getD r 0).toNat+k:Nat):Int)<(aP (outer t) i).getD r 0∧ ¬(r=i∧((aP t.1 n).getD r 0).toNat+k=c)∧(R.getD r []).getD k 0=cel g r (((aP t.1 n).getD r 0).toNat+k):=by
  intro r k hr hk
  subst hR
  exact E.cell (by omega) hk
 have zW: ∀{r:Nat},r<R.length→(aP (outer t) i).getD r 0=(aP t.1 n).getD r 0+((R.getD r []).length:Int):=by
  intro r hr
  subst hR
  exact E.zW (by omega)
 have q0:=E.sl.q0
 have hout:outer (aP t.1 n,R)=aP (outer t) i:=by
  refine List.ext_getElem (by rw[dx];exact hRl) fun r h1 h2=> ?_
  rw[←an h1 0,←an h2 0]
  have h3:r<R.length:=by omega
  have:=fg (aP t.1 n) R 0 r h3
  rw[Nat.zero_add]at this
  unfold outer
  rw[this]
  exact(zW h3).symm
 have hlen:(aP t.1 n).length≤R.length:=by
  refine Nat.le_of_not_lt fun hlt=> ?_
  have a:=AF hp hn hc hlt
  have b:=E.ins R.length
  rw[bo (xs:=aP (outer t) i) (by omega)]at b
  omega
 have om:=fN hop
 simp only[eI,cX,aJ,Bool.and_eq_true,decide_eq_true_eq]
 rw[hout]
 refine⟨⟨hqp,hlen,hqp,hop,by omega,?_⟩,?_⟩
 ·rw[cG]
  intro r _
  exact decide_eq_true (E.ins r)
 ·rw[cG]
  intro r hr
  rw[cG]
  intro k hk
  have hq:=q0 r
  obtain⟨c1,c2,c3,c4⟩:=cell hr hk
  have hx:(aP t.1 n).getD r 0≤((((aP t.1 n).getD r 0).toNat+k:Nat):Int):=by omega
  have hnum:=E.sl.num r _ hx c1 c3
  simp only[fp,within,Bool.and_eq_true,Bool.or_eq_true,decide_eq_true_eq]
  rw[c4]
  refine⟨hnum,?_,?_⟩
  ·cases k with
   |zero=>exact .inl rfl
   |succ k=>
    obtain⟨d1,d2,d3,d4⟩:=cell hr (show k<(R.getD r []).length by omega)
    right
    rw[show k+1-1=k from rfl,d4]
    exact E.sl.row r (((aP t.1 n).getD r 0).toNat+k) (by omega) (by omega) d3 (by omega)
  ·cases r with
   |zero=>exact .inl rfl
   |succ r=>
    right
    have hr':r<R.length:=by omega
    have em:((r+1:Nat):Int)-1=(r:Int):=by omega
    rw[em,iL hr']
    have hqr:=q0 r
    have hrl:=zW hr'
    have hom:=om r
    simp only
    by_cases e:(aP t.1 n).getD (r+1) 0+(k:Int)<(aP t.1 n).getD r 0
    ·rw[mD (by omega)];omega
    ·obtain⟨y,hy⟩: ∃y:Nat,(aP t.1 n).getD (r+1) 0+(k:Int)-(aP t.1 n).getD r 0=y:=⟨((aP t.1 n).getD (r+1) 0+(k:Int)-(aP t.1 n).getD r 0).toNat,by omega⟩
     rw[hy,dn]
     obtain⟨d1,d2,d3,d4⟩:=cell hr' (show y<(R.getD r []).length by omega)
     have ey:((aP t.1 n).getD r 0).toNat+y=((aP t.1 n).getD (r+1) 0).toNat+k:=by omega
     rw[d4,ey]
     rw[ey]at d3
     exact E.sl.col r _ (by omega) c1 d3 c3
end
theorem yE{t:Tab}(h:eI t=true):t.1.length≤9∧eu 9 9 t.2:=by
 obtain⟨hp,ho,hl,_⟩:=ib h
 have h9:=(aH ho).2.2.1
 rw[dx]at h9
 refine⟨by omega,h9,fun r hr=> ?_⟩
 obtain⟨k,hk,rfl⟩:=List.getElem_of_mem hr
 have a:=Gt hp k
 have b:=(dm ho k).2
 rw[dn]at b
 rw[BH hk]at a
 rw[←an hk []]
 omega
theorem AM{p:List Int}{n:Nat}(hp:aX p=true)(hn:n<p.length)(hc:p.getD (n+1) 0<p.getD n 0):aT (aP p n)=aT p-1:=by
 unfold aP
 split
 ·next h=>
  have hl:=yD hp hc h
  rw[zE p n (by omega)]
  omega
 ·rw[oI p n _ hn]
  omega
end Go.Am.Pu
namespace Go.Am.Pu
end Go.Am.Pu
end
section
/- Taking the least number out of a plain tableau; evacuation. Plain words. -/
namespace Go.Am.Pu
theorem Bi.out{t:Tab}{n:Nat}{g:List (List Int)}{i c:Nat}(E:Bi t n g i c):
  outer (aP t.1 n,dA (aP t.1 n) (pf g i c) (aP (outer t) i).length)=aP (outer t) i:=by
 refine List.ext_getElem (by rw[dx];exact jf _ _ _) fun r h1 h2=> ?_
 rw[←an h1 0,←an h2 0]
 have h3:r<(dA (aP t.1 n) (pf g i c) (aP (outer t) i).length).length:=by rw[jf];exact h2
 have:=fg (aP t.1 n) (dA (aP t.1 n) (pf g i c) (aP (outer t) i).length) 0 r h3
 rw[Nat.zero_add]at this
 exact this.trans (E.zW h2).symm
theorem DM{t:Tab}(h:cQ t=true){r:Nat}(hr:r<t.2.length):1≤(t.2.getD r []).length:=by
 have hl:=gM h hr
 have hp:=(aH (j8 h)).1 ((outer t)[r]'(by rw[dx];exact hr)) (List.getElem_mem _)
 rw[an (by rw[dx];exact hr)]at hl
 omega
theorem yr{t:Tab}(h:cQ t=true):aT (outer t)=t.2.flatten.length:=by
 unfold outer
 exact qd t.1 t.2 0 fun q _=>by rw[kM h];rfl
end Go.Am.Pu
end
section
/- Promotion. Plain words. -/
namespace Go.Am.Pu
def Small(rs:List (List Int)):Prop:= ∀i q,-100≤(rs.getD i []).getD q 0∧(rs.getD i []).getD q 0≤100
end Go.Am.Pu
end
section
/- Slides undone. Plain words. -/
namespace Go.Am.Pu
def leftOf(g:List (List Int))(i c:Nat):Int:=if c=0 then 0 else cel g i (c-1)
def BE(g:List (List Int))(i c:Nat):Int:=if i=0 then 0 else cel g (i-1) c
def sI:Nat→List (List Int)→Nat→Nat→List (List Int)×(Nat×Nat)
 |0,g,i,c=>(g,(i,c))
 |m+1,g,i,c=>if leftOf g i c=0∧BE g i c=0 then(g,(i,c))
  else if leftOf g i c≤BE g i c then sI m (lk g i c (BE g i c)) (i-1) c
  else sI m (lk g i c (leftOf g i c)) i (c-1)
structure Ag (f : Int → Int) (g h : List (List Int)) (i c : Nat) : Prop where
  len : h.length = g.length
  row : ∀ r, (h.getD r []).length = (g.getD r []).length
  at_ : ∀ r x, ¬ (r = i ∧ x = c) → cel h r x = f (cel g r x)
def Inn(q:List Int)(g:List (List Int)):Prop:= ∀r x:Nat,(x:Int)<q.getD r 0→cel g r x=0
theorem Inn.step{q:List Int}{g:List (List Int)}{i c:Nat}(h:Inn q g)(hq:q.getD i 0≤c)(v:Int):Inn q (lk g i c v):=by
 intro r x hx
 by_cases e:r=i∧x=c
 ·obtain⟨rfl,rfl⟩:=e;omega
 ·rw[jq _ e];exact h r x hx
theorem Ag.right{f:Int→Int}{q:List Int}{g h:List (List Int)}{i c:Nat}(hs:Sl q g i c)(hi:Inn q g)(hf: ∀a b x y,cel g a b<cel g x y→f (cel g a b)<f (cel g x y))(f0:f 0=0)
  (hr:cel g i (c+1)≠0) (ha:Ag f (lk g i c (cel g i (c+1))) h i (c+1)):
  ∃h',Ag f g h' i c∧ ∀m,sI (m+1) h i (c+1)=sI m h' i c:=by
 obtain⟨b1,b2⟩:=yK hr
 have f0': ∀a b,cel g a b=0→f (cel g a b)=0:=fun a b e=>by rw[e];exact f0
 have hl:leftOf h i (c+1)=f (cel g i (c+1)):=by
  unfold leftOf
  rw[if_neg (by omega),show c+1-1=c by omega,ha.at_ i c (by omega),kJ _ hs.hi hs.hc]
 have hpos:0<f (cel g i (c+1)):=by
  have hp:=hs.pos i (c+1)
  have e:cel g g.length 0=0:=by unfold cel;rw[bo (Nat.le_refl _)];rfl
  have:=hf g.length 0 i (c+1) (by omega)
  rw[e,f0]at this
  exact this
 have hu:BE h i (c+1)<f (cel g i (c+1)):=by
  unfold BE
  by_cases e:i=0
  ·rw[if_pos e];exact hpos
  ·rw[if_neg e,ha.at_ _ _ (by omega),jq _ (by omega)]
   by_cases hq:q.getD (i-1) 0≤((c+1:Nat):Int)
   ·have hc:=hs.col (i-1) (c+1) hq (by rw[show i-1+1=i by omega];exact b2) (by omega) (by omega)
    rw[show i-1+1=i by omega]at hc
    exact hf _ _ _ _ hc
   ·rw[f0' _ _ (hi (i-1) (c+1) (by omega))];exact hpos
 have hhi:i<h.length:=by rw[ha.len,ji];exact b1
 have hhc:c+1<(h.getD i []).length:=by rw[ha.row,b8];exact b2
 refine⟨lk h i (c+1) (leftOf h i (c+1)),⟨by rw[ji,ha.len,ji],fun r=>by rw[b8,ha.row,b8],fun r x hn=> ?_⟩,fun m=> ?_⟩
 ·by_cases e:r=i∧x=c+1
  ·obtain⟨rfl,rfl⟩:=e
   rw[kJ _ hhi hhc,hl]
  ·rw[jq _ e,ha.at_ r x e,jq _ hn]
 ·conv=>lhs;unfold sI
  rw[if_neg (by omega),if_neg (by omega)]
  rfl
def Occ(q:List Int)(v:Int)(g:List (List Int))(i c:Nat):Prop:= ∃r x:Nat,¬(r=i∧x=c)∧x<(g.getD r []).length∧q.getD r 0≤x∧cel g r x=v
theorem Occ.step{q:List Int}{v:Int}{g:List (List Int)}{i c a b:Nat}(h:Occ q v g i c)(hi:i<g.length)(hc:c<(g.getD i []).length)(hq:q.getD i 0≤c)(hne: ¬(a=i∧b=c)):Occ q v (lk g i c (cel g a b)) a b:=by
 obtain⟨r,x,h1,h2,h3,h4⟩:=h
 by_cases e:r=a∧x=b
 ·obtain⟨rfl,rfl⟩:=e
  exact⟨i,c,fun e=>hne ⟨e.1.symm,e.2.symm⟩,by rw[b8];exact hc,hq,by rw[kJ _ hi hc];exact h4⟩
 ·exact⟨r,x,e,by rw[b8];exact h2,h3,by rw[jq _ h1];exact h4⟩
end Go.Am.Pu
end
section
/- Promotion of a standard tableau is standard, of the same shape, and can be undone. Plain words. -/
namespace Go.Am.Pu
theorem tO{t:Tab}(h0:t.1= [])(hp:aX (outer t)=true)(hn: ∀r x,r<t.2.length→x<(t.2.getD r []).length→1≤cel t.2 r x∧cel t.2 r x≤9)
  (hr: ∀r x,r<t.2.length→x+1<(t.2.getD r []).length→cel t.2 r x≤cel t.2 r (x+1)) (hc: ∀r x,r+1<t.2.length→x<(t.2.getD (r+1) []).length→cel t.2 r x<cel t.2 (r+1) x):cQ t=true:=by
 simp only[cQ,eI,cX,aJ,Bool.and_eq_true,decide_eq_true_eq,h0]
 refine⟨⟨⟨rfl,by simp,rfl,hp,by simp,?_⟩,?_⟩,rfl⟩
 ·rw[cG]
  intro i hi
  simp at hi
 ·rw[cG]
  intro r hr'
  rw[cG]
  intro k hk
  simp only[fp,within,Bool.and_eq_true,Bool.or_eq_true,decide_eq_true_eq]
  refine⟨hn r k hr' hk,?_,?_⟩
  ·by_cases e:k=0
   ·exact .inl e
   ·right
    have:=hr r (k-1) hr' (by omega)
    rw[show k-1+1=k by omega]at this
    exact this
  ·by_cases e:r=0
   ·exact .inl e
   ·right
    have:=hc (r-1) k (by omega) (by rw[show r-1+1=r by omega];exact hk)
    rw[show r-1+1=r by omega]at this
    rw[show(r:Int)-1=((r-1:Nat):Int) by omega,iL (by omega),h0]
    simp only[List.getD_nil]
    rw[show(0:Int)+(k:Int)-0=(k:Int) by omega,dn]
    exact this
theorem oP{t:Tab}(h:cQ t=true):(∀r x,r<t.2.length→x<(t.2.getD r []).length→1≤cel t.2 r x∧cel t.2 r x≤9)∧(∀r x,r<t.2.length→x+1<(t.2.getD r []).length→cel t.2 r x≤cel t.2 r (x+1)):=by
 have h':=h
 simp only[cQ,Bool.and_eq_true]at h'
 obtain⟨_,_,_,hc⟩:=ib h'.1
 refine⟨fun r x hr hx=> ?_,fun r x hr hx=> ?_⟩
 ·have:=hc r x hr hx
  simp only[fp,within,Bool.and_eq_true,decide_eq_true_eq]at this
  exact this.1
 ·have:=hc r (x+1) hr hx
  simp only[fp,within,Bool.and_eq_true,Bool.or_eq_true,decide_eq_true_eq]at this
  exact this.2.1.resolve_left (by omega)
theorem mG{rs:List (List Int)}{r x:Nat}(hr:r<rs.length)(hx:x<(rs.getD r []).length):cel rs r x∈rs.flatten:=by
 refine List.mem_flatten.2 ⟨rs.getD r [],by rw[an hr];exact List.getElem_mem hr,?_⟩
 unfold cel
 rw[an hx]
 exact List.getElem_mem hx
theorem sw{rs:List (List Int)}{v:Int}(h:v∈rs.flatten): ∃r x,r<rs.length∧x<(rs.getD r []).length∧cel rs r x=v:=by
 obtain⟨l,hl,hv⟩:=List.mem_flatten.1 h
 obtain⟨r,hr,rfl⟩:=List.getElem_of_mem hl
 obtain⟨x,hx,rfl⟩:=List.getElem_of_mem hv
 have e:=an hr ([]:List Int)
 refine⟨r,x,hr,by rw[e];exact hx,?_⟩
 unfold cel
 rw[e,an hx]
theorem nM{t:Tab}(h:cQ t=true)(hs:jh t=true):t.2.flatten.Nodup∧(∀x∈t.2.flatten,1≤x∧x≤t.2.flatten.length):=by
 simp only[jh,Bool.and_eq_true]at hs
 have h1:=A7 hs.1
 obtain⟨a,b⟩:=(CO fun x hx=>(h1 x hx).1).1 hs.2
 exact⟨a,fun x hx=>⟨(h1 x hx).1,b x hx⟩⟩
end Go.Am.Pu
end
section
/- Promotion keeps shapes and standardness. Plain words. -/
namespace Go.Am.Pu
section
variable {t : Tab}
theorem sP{xs ys:List Int}{x:Nat}(h:x<xs.length):(xs++ys).getD x 0=xs.getD x 0:=by
 simp only[List.getD_eq_getElem?_getD,List.getElem?_append_left h]
theorem sJ{xs ys:List Int}{x:Nat}(h:xs.length≤x):(xs++ys).getD x 0=ys.getD (x-xs.length) 0:=by
 simp only[List.getD_eq_getElem?_getD,List.getElem?_append_right h]
end
end Go.Am.Pu
end
section
/- Promotion undone: it is one to one. Plain words. -/
namespace Go.Am.Pu
def G3(t:Tab)(n:Nat):List (List Int):=
 (if n=t.2.length then fL t++ [[]]else fL t).set n ((if n=t.2.length then fL t++ [[]]else fL t).getD n []++ [0])
section
variable {t : Tab}
end
end Go.Am.Pu
end
section
/- Orbits of promotion come back. Plain words. -/
namespace Go.Am.Pu
structure Good (t : Tab) : Prop where
  pl : cQ t = true
  st : jh t = true
  ne : t.2.flatten.length ≠ 0
end Go.Am.Pu
end
section
/- A slide outwards, as the program has it; demotion. Plain words. -/
namespace Go.Am.Pu
theorem iR{p q:List Int}{n:Nat}(h:cW p n=(q,true)):n≤p.length∧n<q.length∧q.length≤p.length+1∧(∀r,q.getD r 0=if r=n then p.getD n 0+1 else p.getD r 0)∧aX q=true:=by
 have hl:=Cp p n
 rw[h]at hl
 unfold cW at h
 by_cases hc:aX p=true∧(0:Int)≤n∧(n:Int)≤p.length
 ·rw[if_pos hc]at h
  have hn:n≤p.length:=by omega
  generalize hw:(if(n:Int)=p.length then p++ [0]else p)=w at h
  have hb: ∀r,w.getD r 0=p.getD r 0:=fun r=>by
   rw[←hw]
   split
   ·by_cases hr:r<p.length
    ·rw[sP hr]
    ·rw[sJ (by omega),bo (xs:=p) (by omega)]
     cases r-p.length<;>rfl
   ·rfl
  have hwl:n<w.length:=by
   rw[←hw]
   split
   ·rw[List.length_append,List.length_singleton];omega
   ·omega
  simp only[Int.toNat_natCast]at h
  by_cases hp:aX (w.set n (w.getD n 0+1))=true
  ·rw[if_pos hp]at h
   have h1:=congrArg Prod.fst h
   simp only at h1
   subst h1
   refine⟨hn,by rw[List.length_set];exact hwl,hl,fun r=> ?_,hp⟩
   by_cases e:r=n
   ·subst e
    rw[if_pos rfl,an (by rw[List.length_set];exact hwl),List.getElem_set_self,hb]
   ·rw[if_neg e,getD_set_ne (Ne.symm e),hb]
  ·rw[if_neg hp]at h
   have h2:=congrArg Prod.snd h
   simp at h2
 ·rw[if_neg hc]at h
  have h2:=congrArg Prod.snd h
  simp at h2
theorem FO{l m:List Int}(hl:l.length=m.length)(h: ∀x,x<m.length→l.getD x 0=m.getD x 0):l=m:=
 List.ext_getElem hl fun x h1 h2=>by rw[←an h1 0,←an h2 0];exact h x h2
section
variable {u : Tab}
end
end Go.Am.Pu
end
section
/- The last promotion of an orbit; orbits' sizes. Plain words. -/
namespace Go.Am.Pu
def Dl(t:Tab):Prop:=t.1= []∧eu 10 10 t.2
theorem Dl.ok{t:Tab}(h:Dl t):j3 t:=⟨by rw[h.1];simp,by have:=h.2.1;omega,fun r hr=>by have:=h.2.2 r hr;omega⟩
theorem Dl.size{t:Tab}(h:Dl t):gu t.2≤100:=by
 have a:=vn t.2 10 h.2.2
 have b:=h.2.1
 omega
def j4(l:List Tab):Nat:=(l.map fun t=>t.1.length+gu t.2).foldr (· + ·) 0
def lY:List Tab→Int→List Tab
 | [],_=> []
 |t::l,q=>(mark t.1 q,kP t.2 (q+t.1.length))::lY l (q+t.1.length+gu t.2)
theorem w8: ∀(l:List Tab) (q:Int),(lY l q).length=l.length
 | [],_=>rfl
 |_::l,q=>by simp[lY,w8 l]
theorem qP(t:Tab)(l:List Tab):j4 (t::l)=t.1.length+gu t.2+j4 l:=by simp[j4]
section
attribute [local instance] D.real
variable {α β : Type} {x y v : Option α}
theorem bE{x:Option β}{z:β}{f:β→Option α}(h:x=some z)(g:f z=v):D.bnd x f=v:=by rw[h];exact g
theorem tN(g:x=v):D.test (D.no true) y x=v:=g
theorem tG{p:Prop} [Decidable p](h:p)(g:x=v):D.test (decide p) x y=v:=by
 show(if decide p=true then x else y)=v
 rw[if_pos (decide_eq_true h)];exact g
theorem tX{p:Prop} [Decidable p](h: ¬p)(g:y=v):D.test (decide p) x y=v:=by
 show(if decide p=true then x else y)=v
 rw[decide_eq_false h];exact g
theorem tE{a b:Int}(h:a=b)(g:x=v):D.test (D.no (D.eq a b)) y x=v:=by
 show(if(!decide (a=b))=true then y else x)=v
 rw[decide_eq_true h];exact g
end
end Go.Am.Pu
end
section
/- The rewriting rules of the plain laws, in one. -/
namespace Go.Am.Pu
open Go Go.Am
attribute [local instance] D.real
theorem sss:type_of% @dI∧type_of% @dP∧type_of% @cd∧type_of% @cK∧type_of% @cL∧type_of% @bJ∧type_of% @bK∧type_of% @bY∧type_of% @du∧type_of% @cp∧type_of% @cJ∧type_of% @bL∧type_of% @bM∧type_of% @cI∧type_of% @bc∧type_of% @bZ∧type_of% @cx∧type_of% @dN∧type_of% @dU∧type_of% @cM∧type_of% @cH∧type_of% @ch∧type_of% @w64∧type_of% @Int.toNat_natCast∧type_of% @decide_eq_true_eq∧type_of% @Int.ofNat_lt∧type_of% @Int.ofNat_le∧type_of% @Int.natCast_nonneg∧type_of% @decide_true∧type_of% @decide_false∧type_of% @Bool.not_true∧type_of% @Bool.not_false∧type_of% @Bool.false_eq_true∧type_of% @Bool.not_eq_true∧type_of% @Bool.true_and∧type_of% @Bool.and_true∧type_of% @Bool.false_and∧type_of% @Bool.and_false:=
 ⟨@dI,@dP,@cd,@cK,@cL,@bJ,@bK,@bY,@du,@cp,@cJ,@bL,@bM,@cI,@bc,@bZ,@cx,@dN,@dU,@cM,@cH,@ch,@w64,@Int.toNat_natCast,@decide_eq_true_eq,@Int.ofNat_lt,@Int.ofNat_le,@Int.natCast_nonneg,@decide_true,@decide_false,@Bool.not_true,@Bool.not_false,@Bool.false_eq_true,@Bool.not_eq_true,@Bool.true_and,@Bool.and_true,@Bool.false_and,@Bool.and_false⟩
end Go.Am.Pu
end
section
/- Cells taken out of plain tableaux, one behind another. Plain words. -/
namespace Go.Am.Pu
def rE(rs:List (List Int)):Prop:= ∀i,i+1<rs.length→(rs.getD (i+1) []).length≤(rs.getD i []).length∧ ∀q,q<(rs.getD (i+1) []).length→(rs.getD i []).getD q 0<(rs.getD (i+1) []).getD q 0
theorem wI{r:List Int}{y:Int}: ∀{m q:Nat},mV r y m=some q→ ∀c,q<c→c<m→y≤r.getD c 0
 |0,q,h,_,_,_=>by simp[mV]at h
 |m+1,q,h,c,h1,h2=>by
  unfold mV at h
  split at h
  ·next hc=>injection h with h;omega
  ·next hc=>
   by_cases e:c=m
   ·subst e;omega
   ·exact wI h c h1 (by omega)
theorem tt: ∀(r:Nat) (rs:List (List Int)) (y:Int),(mX r rs y).1.length=rs.length∧ ∀i,((mX r rs y).1.getD i []).length=(rs.getD i []).length
 |0,_,_=>⟨rfl,fun _=>rfl⟩
 |r+1,rs,y=>by
  unfold mX
  split
  ·next q hq=>
   obtain⟨a,b⟩:=tt r (rs.set r ((rs.getD r []).set q y)) ((rs.getD r []).getD q 0)
   refine⟨by rw[a,List.length_set],fun i=> ?_⟩
   rw[b]
   by_cases e:i=r
   ·subst e
    by_cases h:i<rs.length
    ·rw[an (by rw[List.length_set];exact h),List.getElem_set_self,List.length_set]
    ·rw[bo (by rw[List.length_set];omega),bo (xs:=rs) (by omega)]
   ·rw[getD_set_ne (Ne.symm e)]
  ·exact tt r rs y
theorem yz: ∀(r:Nat) (rs:List (List Int)) (y:Int) (q:Nat),r<rs.length→(∀i,i+1<r→(rs.getD (i+1) []).length≤(rs.getD i []).length∧ ∀q,q<(rs.getD (i+1) []).length→(rs.getD i []).getD q 0<(rs.getD (i+1) []).getD q 0)→
  (∀i,r≤i→i+1<rs.length→(rs.getD (i+1) []).length≤(rs.getD i []).length∧ ∀q,q<(rs.getD (i+1) []).length→(rs.getD i []).getD q 0<(rs.getD (i+1) []).getD q 0)→
  (∀i,i+1=r→(rs.getD r []).length≤(rs.getD i []).length∧q<(rs.getD i []).length∧(rs.getD i []).getD q 0<y∧(∀c,c<(rs.getD r []).length→c≠q→(rs.getD i []).getD c 0<(rs.getD r []).getD c 0)∧(∀c,q≤c→c<(rs.getD r []).length→y<(rs.getD r []).getD c 0))→
  rE (mX r rs y).1
 |0,rs,y,q,hr,_,hB,_=>fun i hi=>hB i (Nat.zero_le _) hi
 |r+1,rs,y,q,hr,hA,hB,hI=>by
  obtain⟨i1,i2,i3,i4,i5⟩:=hI r rfl
  obtain⟨q0,hq0⟩:=yb i2 i3
  have hmax:=wI hq0
  obtain⟨k1,k2⟩:=uA hq0
  have hqq:q≤q0:=Nat.le_of_not_lt fun hlt=>by
   have:=hmax q hlt i2
   omega
  unfold mX
  rw[hq0]
  have hrow:(rs.set r ((rs.getD r []).set q0 y)).getD r []=(rs.getD r []).set q0 y:=by
   rw[an (by rw[List.length_set];omega),List.getElem_set_self]
  have hne: ∀i,i≠r→(rs.set r ((rs.getD r []).set q0 y)).getD i []=rs.getD i []:=fun i h=>getD_set_ne (Ne.symm h) _ _
  have hset: ∀c,c≠q0→((rs.getD r []).set q0 y).getD c 0=(rs.getD r []).getD c 0:=fun c h=>getD_set_ne (Ne.symm h) _ _
  have hself:((rs.getD r []).set q0 y).getD q0 0=y:=by rw[an (by rw[List.length_set];exact k1),List.getElem_set_self]
  refine yz r _ _ q0 (by rw[List.length_set];omega) (fun i hi=> ?_) (fun i hi hl=> ?_) (fun i hi=> ?_)
  ·rw[hne _ (by omega),hne _ (by omega)]
   exact hA i (by omega)
  ·rw[List.length_set]at hl
   by_cases e:i=r
   ·subst e
    rw[hne (i+1) (by omega),hrow,List.length_set]
    refine⟨i1,fun c hc=> ?_⟩
    by_cases e2:c=q0
    ·subst e2;rw[hself];exact i5 c hqq hc
    ·rw[hset c e2]
     by_cases e3:c=q
     ·subst e3
      have:=i5 c (Nat.le_refl _) hc
      omega
     ·exact i4 c hc e3
   ·rw[hne (i+1) (by omega),hne i e]
    exact hB i (by omega) hl
  ·subst hi
   obtain⟨a1,a2⟩:=hA i (by omega)
   rw[hrow,hne i (by omega),List.length_set]
   refine⟨a1,by omega,a2 q0 k1,fun c hc e=> ?_,fun c h1 h2=> ?_⟩
   ·rw[hset c e];exact a2 c hc
   ·by_cases e:c=q0
    ·subst e;rw[hself];exact k2
    ·rw[hset c e]
     have:=hmax c (by omega) h2
     omega
def cS(rs:List (List Int))(r:Nat):List (List Int):=
 if(rs.getD r []).length=1 then(rs.set r ((rs.getD r []).take ((rs.getD r []).length-1))).take r else rs.set r ((rs.getD r []).take ((rs.getD r []).length-1))
def fC(a b:List (List Int)):Prop:=a.length=b.length∧ ∀i,(a.getD i []).length=(b.getD i []).length
theorem getD_take{α:Type}{l:List α}{n i:Nat}(h:i<n)(d:α):(l.take n).getD i d=l.getD i d:=by
 simp only[List.getD_eq_getElem?_getD,List.getElem?_take,if_pos h]
theorem yd{a b:List (List Int)}(h:fC a b)(n:Nat):fC (a.take n) (b.take n):=by
 refine⟨by rw[List.length_take,List.length_take,h.1],fun i=> ?_⟩
 by_cases hi:i<n
 ·rw[getD_take hi,getD_take hi];exact h.2 i
 ·rw[bo (xs:=a.take n) (by rw[List.length_take];omega),bo (xs:=b.take n) (by rw[List.length_take];omega)]
theorem zt(rs:List (List Int))(r:Nat):fC (ml rs r).1 (cS rs r):=by
 have a:=tt r (rs.set r ((rs.getD r []).take ((rs.getD r []).length-1))) ((rs.getD r []).getD ((rs.getD r []).length-1) 0)
 unfold ml cS
 simp only
 split
 ·exact yd a r
 ·exact a
theorem Bq{a b:List (List Int)}(h:fC a b)(r:Nat):fC (cS a r) (cS b r):=by
 have hs:fC (a.set r ((a.getD r []).take ((a.getD r []).length-1))) (b.set r ((b.getD r []).take ((b.getD r []).length-1))):=by
  refine⟨by rw[List.length_set,List.length_set,h.1],fun i=> ?_⟩
  by_cases e:i=r
  ·subst e
   by_cases hi:i<a.length
   ·rw[an (xs:=a.set _ _) (by rw[List.length_set];exact hi),List.getElem_set_self,an (xs:=b.set _ _) (by rw[List.length_set,←h.1];exact hi),List.getElem_set_self,List.length_take,List.length_take,h.2 i]
   ·rw[bo (xs:=a.set _ _) (by rw[List.length_set];omega),bo (xs:=b.set _ _) (by rw[List.length_set,←h.1];omega)]
  ·rw[getD_set_ne (Ne.symm e),getD_set_ne (Ne.symm e)];exact h.2 i
 unfold cS
 rw[h.2 r]
 split
 ·rw[←h.2 r];rw[h.2 r]at*;exact yd hs r
 ·rw[h.2 r]at hs;exact hs
theorem fC.trans{a b c:List (List Int)}(h:fC a b)(h':fC b c):fC a c:=⟨h.1.trans h'.1,fun i=>(h.2 i).trans (h'.2 i)⟩
theorem FM{rs:List (List Int)}(h:rE rs)(n:Nat):rE (rs.take n):=by
 intro i hi
 rw[List.length_take]at hi
 rw[getD_take (by omega),getD_take (by omega)]
 exact h i (by omega)
theorem Bm{rs:List (List Int)}{r:Nat}(h:rE rs)(hr:r<rs.length)(hl:1≤(rs.getD r []).length)(hc:(rs.getD (r+1) []).length<(rs.getD r []).length):rE (ml rs r).1:=by
 have hrow:(rs.set r ((rs.getD r []).take ((rs.getD r []).length-1))).getD r []=(rs.getD r []).take ((rs.getD r []).length-1):=by
  rw[an (by rw[List.length_set];exact hr),List.getElem_set_self]
 have hne: ∀i,i≠r→(rs.set r ((rs.getD r []).take ((rs.getD r []).length-1))).getD i []=rs.getD i []:=fun i h=>getD_set_ne (Ne.symm h) _ _
 have key:rE (mX r (rs.set r ((rs.getD r []).take ((rs.getD r []).length-1))) ((rs.getD r []).getD ((rs.getD r []).length-1) 0)).1:=by
  refine yz r _ _ ((rs.getD r []).length-1) (by rw[List.length_set];exact hr) (fun i hi=> ?_) (fun i hi hil=> ?_) (fun i hi=> ?_)
  ·rw[hne _ (by omega),hne _ (by omega)];exact h i (by omega)
  ·rw[List.length_set]at hil
   by_cases e:i=r
   ·subst e
    rw[hne (i+1) (by omega),hrow,List.length_take]
    refine⟨by omega,fun c hc'=> ?_⟩
    rw[getD_take (by omega)]
    exact(h i hil).2 c hc'
   ·rw[hne (i+1) (by omega),hne i e];exact h i hil
  ·subst hi
   obtain⟨a1,a2⟩:=h i hr
   rw[hrow,hne i (by omega),List.length_take]
   refine⟨by omega,by omega,a2 _ (by omega),fun c h1 h2=> ?_,fun c h1 h2=>by omega⟩
   rw[getD_take (by omega)]
   exact a2 c (by omega)
 unfold ml
 simp only
 split
 ·exact FM key r
 ·exact key
end Go.Am.Pu
end
section
/- The greatest number of a standard tableau, and the tableau without it; a pair of tableaux unrolled. Plain words. -/
namespace Go.Am.Pu
section
variable {t : Tab}
theorem wv(h:cQ t=true)(hs:jh t=true){a b x y:Nat}(ha:a<t.2.length)(hx:x<(t.2.getD a []).length)(hb:b<t.2.length)(hy:y<(t.2.getD b []).length)(e:cel t.2 a x=cel t.2 b y):a=b∧x=y:=by
 have nd:=(nM h hs).1
 rw[List.Nodup,List.pairwise_flatten]at nd
 have mem: ∀{r z:Nat},r<t.2.length→(hz:z<(t.2.getD r []).length)→cel t.2 r z∈t.2.getD r []:=fun{r z} _ hz=>by
  unfold cel
  rw[an hz]
  exact List.getElem_mem hz
 have ab: ∀{a b x y:Nat},a<b→a<t.2.length→x<(t.2.getD a []).length→b<t.2.length→y<(t.2.getD b []).length→cel t.2 a x≠cel t.2 b y:=fun{a b x y} hab ha hx hb hy=>by
  have:=List.pairwise_iff_getElem.1 nd.2 a b ha hb hab
  exact this _ (by rw[←an ha []];exact mem ha hx) _ (by rw[←an hb []];exact mem hb hy)
 have e1:a=b:=by
  rcases Nat.lt_trichotomy a b with hl|hl|hl
  ·exact absurd e (ab hl ha hx hb hy)
  ·exact hl
  ·exact absurd e.symm (ab hl hb hy ha hx)
 subst e1
 refine⟨rfl,?_⟩
 have n2:=nd.1 _ (by rw[an ha];exact List.getElem_mem ha:t.2.getD a []∈t.2)
 unfold cel at e
 rw[an hx,an hy]at e
 rcases Nat.lt_trichotomy x y with hl|hl|hl
 ·exact absurd e (List.pairwise_iff_getElem.1 n2 x y hx hy hl)
 ·exact hl
 ·exact absurd e.symm (List.pairwise_iff_getElem.1 n2 y x hy hx hl)
theorem kj(h:cQ t=true)(hs:jh t=true){a x:Nat}{v:Int}(ha:a<t.2.length)(hx:x<(t.2.getD a []).length)(e:cel t.2 a x=v):rowOf t v=a:=by
 have hf:t.2.findIdx (fun r=>has r v)=a:=by
  rw[List.findIdx_eq ha]
  refine⟨?_,fun j hj=> ?_⟩
  ·rw[←an ha [],uX,←e]
   unfold cel
   rw[an hx]
   exact List.getElem_mem hx
  ·rw[Bool.eq_false_iff]
   intro hc
   rw[uX]at hc
   obtain⟨y,hy,e2⟩:=List.getElem_of_mem hc
   have hjl:j<t.2.length:=by omega
   have hy':y<(t.2.getD j []).length:=by rw[an hjl];exact hy
   have e3:cel t.2 j y=v:=by
    unfold cel
    rw[an hy']
    simp only[an hjl]
    exact e2
   have:=wv h hs hjl hy' ha hx (by rw[e,e3])
   omega
 unfold rowOf IT
 rw[hf,if_pos ha]
theorem Gq(h:cQ t=true)(hs:jh t=true)(hn:t.2.flatten.length≠0): ∃a:Nat,a<t.2.length∧1≤(t.2.getD a []).length∧cel t.2 a ((t.2.getD a []).length-1)=t.2.flatten.length∧(t.2.getD (a+1) []).length<(t.2.getD a []).length∧rowOf t t.2.flatten.length=a:=by
 have ho:mI t.2.flatten=true:=by
  have:=hs
  simp only[jh,Bool.and_eq_true]at this
  exact this.2
 obtain⟨a,x,ha,hx,e⟩:=sw (lN.1 ho t.2.flatten.length (jc.2 (by omega)))
 have hb:=(nM h hs).2
 obtain⟨c1,c2⟩:=oP h
 have hx1:x+1=(t.2.getD a []).length:=by
  refine Nat.le_antisymm hx (Nat.le_of_not_lt fun hlt=> ?_)
  have k1:=c2 a x ha hlt
  have k2:=(hb _ (mG ha hlt)).2
  have:=wv h hs ha hx ha hlt (by omega)
  omega
 have hbel:(t.2.getD (a+1) []).length≤x:=by
  refine Nat.le_of_not_lt fun hlt=> ?_
  have ha1:a+1<t.2.length:=Nat.lt_of_not_le fun hle=>by rw[bo hle]at hlt;simp at hlt
  have k1:=(qV h a ha1).2 x hlt
  have k2:=(hb _ (mG ha1 hlt)).2
  unfold cel at e k2
  omega
 refine⟨a,ha,by omega,by rw[show(t.2.getD a []).length-1=x by omega];exact e,by omega,kj h hs ha hx e⟩
theorem qQ{rs:List (List Int)}{a:Nat}(ha:a<rs.length)(hc:(rs.getD (a+1) []).length<(rs.getD a []).length)(hp: ∀r,r<rs.length→1≤(rs.getD r []).length)(r:Nat):(cS rs a).getD r []=if r=a then(rs.getD a []).take ((rs.getD a []).length-1)else rs.getD r []:=by
 have hset:(rs.set a ((rs.getD a []).take ((rs.getD a []).length-1))).getD r []=if r=a then(rs.getD a []).take ((rs.getD a []).length-1)else rs.getD r []:=by
  by_cases e:r=a
  ·subst e;rw[if_pos rfl,an (by rw[List.length_set];exact ha),List.getElem_set_self]
  ·rw[if_neg e,getD_set_ne (Ne.symm e)]
 unfold cS
 split
 ·next h1=>
  by_cases hr:r<a
  ·rw[getD_take hr,hset]
  ·rw[bo (by rw[List.length_take];omega)]
   by_cases e:r=a
   ·subst e;rw[if_pos rfl,h1];rfl
   ·rw[if_neg e]
    have hlast:rs.length≤a+1:=Nat.le_of_not_lt fun hlt=>by
     have:=hp (a+1) hlt
     omega
    rw[bo (by omega)]
 ·exact hset
theorem xa{rs:List (List Int)}{a:Nat}(ha:a<rs.length):(cS rs a).length=if(rs.getD a []).length=1 then a else rs.length:=by
 unfold cS
 split
 ·rw[List.length_take,List.length_set];omega
 ·rw[List.length_set]
theorem GY(h:cQ t=true)(hs:jh t=true){a:Nat}(hn:t.2.flatten.length≠0)(ha:a<t.2.length)(h1:1≤(t.2.getD a []).length)(htop:cel t.2 a ((t.2.getD a []).length-1)=t.2.flatten.length)(hc:(t.2.getD (a+1) []).length<(t.2.getD a []).length):
  cQ (([],cS t.2 a):Tab)=true∧jh (([],cS t.2 a):Tab)=true∧(cS t.2 a).flatten.length+1=t.2.flatten.length∧ ∀v,1≤v→v<(t.2.flatten.length:Int)→rowOf ([],cS t.2 a) v=rowOf t v:=by
 have hpos:=fun r (hr:r<t.2.length)=>DM h hr
 have hrow:=qQ ha hc hpos
 have hlen:=xa ha
 obtain⟨c1,c2⟩:=oP h
 have c3:=qV h
 have hcorner:(outer t).getD (a+1) 0<(outer t).getD a 0:=by
  rw[gM h ha]
  by_cases e:a+1<t.2.length
  ·rw[gM h e];omega
  ·rw[bo (by rw[dx];omega)];omega
 have hal:a<(outer t).length:=by rw[dx];exact ha
 have hout:outer (([],cS t.2 a):Tab)=aP (outer t) a:=by
  have hdl:(aP (outer t) a).length=(cS t.2 a).length:=by
   rw[hlen]
   unfold aP
   rw[gM h ha]
   by_cases e:(t.2.getD a []).length=1
   ·rw[if_pos (by omega),if_pos e,List.length_take,dx];omega
   ·rw[if_neg (by omega),if_neg e,List.length_set,dx]
  refine List.ext_getElem (by rw[dx,hdl]) fun r k1 k2=> ?_
  rw[←an k1 0,←an k2 0,rq (j8 h) hal hcorner]
  have k3:r<(cS t.2 a).length:=by rw[dx]at k1;exact k1
  have:=fg [] (cS t.2 a) 0 r k3
  unfold outer at this⊢
  rw[this,hrow]
  have hrl:r<t.2.length:=by
   rw[hlen]at k3
   split at k3<;>omega
  have po:=gM h hrl
  have pa:=gM h ha
  unfold outer at po pa
  by_cases e:r=a
  ·subst e
   rw[if_pos rfl,if_pos rfl,List.length_take,pa]
   simp only[List.getD_nil]
   omega
  ·rw[if_neg e,if_neg e,po]
   simp only[List.getD_nil]
   omega
 have hcel: ∀{r x:Nat},x<((cS t.2 a).getD r []).length→x<(t.2.getD r []).length∧cel (cS t.2 a) r x=cel t.2 r x:=fun{r x} hx=>by
  unfold cel
  rw[hrow]at hx⊢
  by_cases e:r=a
  ·subst e
   rw[if_pos rfl,List.length_take]at hx
   rw[if_pos rfl,getD_take (by omega)]
   exact⟨by omega,rfl⟩
  ·rw[if_neg e]at hx⊢
   exact⟨hx,rfl⟩
 have hrl: ∀{r:Nat},r<(cS t.2 a).length→r<t.2.length:=fun{r} hr=>by
  rw[hlen]at hr
  split at hr<;>omega
 have hin: ∀{r x:Nat},x<(t.2.getD r []).length→ ¬(r=a∧x+1=(t.2.getD a []).length)→x<((cS t.2 a).getD r []).length:=fun{r x} hx hne=>by
  rw[hrow]
  by_cases e:r=a
  ·subst e
   rw[if_pos rfl,List.length_take]
   have: ¬x+1=(t.2.getD r []).length:=fun e=>hne ⟨rfl,e⟩
   omega
  ·rw[if_neg e];exact hx
 have hpl:cQ (([],cS t.2 a):Tab)=true:=by
  refine tO rfl (by rw[hout];exact pH (j8 h) hal hcorner) (fun r x hr hx=> ?_) (fun r x hr hx=> ?_) (fun r x hr hx=> ?_)
  ·obtain⟨k1,k2⟩:=hcel hx
   rw[k2];exact c1 r x (hrl hr) k1
  ·obtain⟨k1,k2⟩:=hcel hx
   obtain⟨_,k4⟩:=hcel (show x<((cS t.2 a).getD r []).length from Nat.lt_of_succ_lt hx)
   rw[k2,k4];exact c2 r x (hrl hr) k1
  ·obtain⟨k1,k2⟩:=hcel hx
   have hr1:=hrl hr
   obtain⟨d1,d2⟩:=c3 r hr1
   have hxr:x<((cS t.2 a).getD r []).length:=by
    refine hin (by omega) fun e=> ?_
    rw[e.1]at k1
    omega
   obtain⟨_,k4⟩:=hcel hxr
   rw[k2,k4]
   exact d2 x k1
 have hfl:(cS t.2 a).flatten.length+1=t.2.flatten.length:=by
  have e1:=yr hpl
  rw[hout,AM (j8 h) hal hcorner,yr h]at e1
  simp only at e1
  omega
 have ho:mI t.2.flatten=true:=by
  have:=hs
  simp only[jh,Bool.and_eq_true]at this
  exact this.2
 have hcells: ∀v,1≤v→v<(t.2.flatten.length:Int)→ ∃r x,r<(cS t.2 a).length∧x<((cS t.2 a).getD r []).length∧cel (cS t.2 a) r x=v∧r<t.2.length∧x<(t.2.getD r []).length∧cel t.2 r x=v:=by
  intro v v1 v2
  obtain⟨r,x,hr,hx,e⟩:=sw (lN.1 ho v (jc.2 (by omega)))
  have hx':x<((cS t.2 a).getD r []).length:=by
   refine hin hx fun e2=> ?_
   rw[e2.1,show x=(t.2.getD a []).length-1 by omega,htop]at e
   omega
  exact⟨r,x,Nat.lt_of_not_le fun hle=>by rw[bo hle]at hx';simp at hx',hx',by rw[(hcel hx').2];exact e,hr,hx,e⟩
 have hst:jh (([],cS t.2 a):Tab)=true:=by
  have hp':=hpl
  simp only[cQ,Bool.and_eq_true]at hp'
  simp only[jh,Bool.and_eq_true]
  refine⟨hp'.1,lN.2 fun v hv=> ?_⟩
  rw[jc]at hv
  obtain⟨r,x,q1,q2,q3,_⟩:=hcells v hv.1 (by omega)
  rw[←q3]
  exact mG q1 q2
 refine⟨hpl,hst,hfl,fun v v1 v2=> ?_⟩
 obtain⟨r,x,q1,q2,q3,q4,q5,q6⟩:=hcells v v1 v2
 rw[kj h hs q4 q5 q6,kj hpl hst q1 q2 q3]
end
structure Unr (q : Tab) (k : Nat) (P Q : List (List Int)) : Prop where
  pl : cQ (([], Q) : Tab) = true
  st : jh (([], Q) : Tab) = true
  fl : Q.flatten.length = k
  col : rE P
  same : fC P Q
  p9 : eu 9 9 P
  row : ∀ v, 1 ≤ v → v ≤ (k : Int) → rowOf ([], Q) v = rowOf q v
theorem Unr.step{q:Tab}{k:Nat}{P Q:List (List Int)}(h:Unr q (k+1) P Q): ∃a:Nat,rowOf q ((k+1:Nat):Int)=a∧a<Q.length∧1≤(Q.getD a []).length∧cel Q a ((Q.getD a []).length-1)=(k+1:Nat)∧(Q.getD (a+1) []).length<(Q.getD a []).length∧Unr q k (ml P a).1 (cS Q a):=by
 have hfl:(([],Q):Tab).2.flatten.length=k+1:=h.fl
 obtain⟨a,a1,a2,a3,a4,a5⟩:=Gq h.pl h.st (by omega)
 obtain⟨b1,b2,b3,b4⟩:=GY h.pl h.st (by omega) a1 a2 a3 a4
 simp only at a1 a2 a3 a4 b3
 have hP1:a<P.length:=by rw[h.same.1];exact a1
 refine⟨a,?_,a1,a2,by rw[a3,h.fl],a4,⟨b1,b2,by have:=h.fl;omega,Bm h.col hP1 (by rw[h.same.2];exact a2) (by rw[h.same.2,h.same.2];exact a4),(zt P a).trans (Bq h.same a),zz h.p9 a,fun v v1 v2=> ?_⟩⟩
 ·rw[←h.row _ (by omega) (Int.le_refl _),←a5,hfl]
 ·rw[b4 v v1 (by rw[hfl];omega)]
  exact h.row v v1 (by omega)
end Go.Am.Pu
namespace Go.Am.Pu
end Go.Am.Pu
end
section
/- Insertion keeps tableaux; where the new cells lie; a tableau from its word. Plain words. -/
namespace Go.Am.Pu
def nA(r:List Int):Prop:= ∀i,i+1<r.length→r.getD i 0≤r.getD (i+1) 0
theorem nA.le{r:List Int}(h:nA r): ∀(d i:Nat),i+d<r.length→r.getD i 0≤r.getD (i+d) 0
 |0,i,_=>Int.le_refl _
 |d+1,i,hi=>by
  have a:=nA.le h d i (by omega)
  have b:=h (i+d) (by omega)
  rw[show i+(d+1)=i+d+1 by omega]
  omega
theorem nA.mono{r:List Int}(h:nA r){i j:Nat}(hij:i≤j)(hj:j<r.length):r.getD i 0≤r.getD j 0:=by
 have:=h.le (j-i) i (by omega)
 rw[show i+(j-i)=j by omega]at this
 exact this
def fst(r:List Int)(x:Int):Nat:=r.findIdx fun n=>decide (x<n)
theorem zw{r:List Int}{x:Int}:fst r x≤r.length:=List.findIdx_le_length
theorem FP{r:List Int}{x:Int}(h:fst r x<r.length):x<r.getD (fst r x) 0:=by
 have:=Cl (p:=fun n=>decide (x<n)) h
 exact of_decide_eq_true this
theorem yO{r:List Int}{x:Int}{i:Nat}(h:i<fst r x):r.getD i 0≤x:=by
 have h1:i<r.length:=Nat.lt_of_lt_of_le h zw
 have h2:=List.not_of_lt_findIdx h
 rw[an h1]
 exact Int.not_lt.1 (of_decide_eq_false h2)
theorem iN(r:List Int)(rs:List (List Int))(x:Int):cq (r::rs) x=if fst r x<r.length then(r.set (fst r x) x::(cq rs (r.getD (fst r x) 0)).1,(cq rs (r.getD (fst r x) 0)).2+1)else((r++ [x])::rs,0):=rfl
def Over(r:List Int):List (List Int)→Prop
 | []=>True
 |s::_=>s.length≤r.length∧ ∀q,q<s.length→r.getD q 0<s.getD q 0
def SSR:List (List Int)→Prop
 | []=>True
 |r::rs=>0<r.length∧nA r∧Over r rs∧SSR rs
theorem gA{r:List Int}{i:Nat}(x:Int)(h:i<r.length)(q:Nat):(r.set i x).getD q 0=if q=i then x else r.getD q 0:=by
 by_cases e:q=i
 ·subst e;rw[if_pos rfl,an (by rw[List.length_set];exact h),List.getElem_set_self]
 ·rw[if_neg e,getD_set_ne (Ne.symm e)]
theorem fj{r:List Int}(x:Int)(q:Nat):(r++ [x]).getD q 0=if q=r.length then x else r.getD q 0:=by
 by_cases h:q<r.length
 ·rw[sP h,if_neg (by omega)]
 ·rw[sJ (by omega)]
  by_cases e:q=r.length
  ·rw[if_pos e,e,Nat.sub_self];rfl
  ·rw[if_neg e,bo (by simp;omega),bo (by omega)]
theorem Ha{r:List Int}{x:Int}(h:nA r)(hf:fst r x<r.length):nA (r.set (fst r x) x):=by
 intro i hi
 rw[List.length_set]at hi
 rw[gA x hf,gA x hf]
 have h0:=h i hi
 by_cases e1:i=fst r x
 ·rw[if_pos e1,if_neg (by omega)]
  have:=FP hf
  rw[←e1]at this
  omega
 ·rw[if_neg e1]
  by_cases e2:i+1=fst r x
  ·rw[if_pos e2];exact yO (by omega)
  ·rw[if_neg e2];exact h0
theorem Hs{r:List Int}{x:Int}(h:nA r)(hf: ¬fst r x<r.length):nA (r++ [x]):=by
 intro i hi
 rw[List.length_append,List.length_singleton]at hi
 rw[fj,fj,if_neg (by omega)]
 by_cases e:i+1=r.length
 ·rw[if_pos e]
  have:= @zw r x
  exact yO (by omega)
 ·rw[if_neg e];exact h i (by omega)
theorem FL{r:List Int}{x:Int}{rs:List (List Int)}(h:nA r)(hf:fst r x<r.length)(ho:Over r rs):Over (r.set (fst r x) x) (cq rs (r.getD (fst r x) 0)).1:=by
 have hy:=FP hf
 have hle: ∀q,q<r.length→(r.set (fst r x) x).getD q 0≤r.getD q 0:=fun q hq=>by
  rw[gA x hf]
  split
  ·next e=>rw[e];omega
  ·exact Int.le_refl _
 have hlow: ∀p,p≤fst r x→(r.set (fst r x) x).getD p 0<r.getD (fst r x) 0:=fun p hp=>by
  rw[gA x hf]
  split
  ·exact hy
  ·have:=yO (r:=r) (x:=x) (i:=p) (by omega)
   omega
 cases rs with
 |nil=>
  show([r.getD (fst r x) 0]:List Int).length≤_∧_
  refine⟨by rw[List.length_set];simp;omega,fun q hq=> ?_⟩
  have e:q=0:=by simp at hq;exact hq
  subst e
  exact hlow 0 (by omega)
 |cons s rs=>
  obtain⟨o1,o2⟩:=ho
  have hp:fst s (r.getD (fst r x) 0)≤fst r x:=by
   refine Nat.le_of_not_lt fun hlt=> ?_
   have hs:fst r x<s.length:=Nat.lt_of_lt_of_le hlt zw
   have a:=yO hlt
   have b:=o2 _ hs
   omega
  rw[iN]
  by_cases c:fst s (r.getD (fst r x) 0)<s.length
  ·rw[if_pos c]
   refine⟨by rw[List.length_set,List.length_set];exact o1,fun q hq=> ?_⟩
   rw[List.length_set]at hq
   rw[gA (r:=s) _ c]
   split
   ·next e=>rw[e];exact hlow _ hp
   ·have a:=hle q (by omega)
    have b:=o2 q hq
    omega
  ·rw[if_neg c]
   have hsl:fst s (r.getD (fst r x) 0)=s.length:=Nat.le_antisymm zw (Nat.le_of_not_lt c)
   refine⟨by rw[List.length_set,List.length_append,List.length_singleton];omega,fun q hq=> ?_⟩
   rw[List.length_append,List.length_singleton]at hq
   rw[fj]
   split
   ·next e=>rw[e];exact hlow _ (by omega)
   ·have a:=hle q (by omega)
    have b:=o2 q (by omega)
    omega
theorem DN: ∀(rs:List (List Int)) (x:Int),SSR rs→SSR (cq rs x).1
 | [],x,_=>⟨by simp,fun i hi=>by simp at hi,trivial,trivial⟩
 |r::rs,x,h=>by
  obtain⟨h1,h2,h3,h4⟩:=h
  rw[iN]
  split
  ·next c=>exact⟨by rw[List.length_set];exact h1,Ha h2 c,FL h2 c h3,DN rs _ h4⟩
  ·next c=>
   refine⟨by simp,Hs h2 c,?_,h4⟩
   cases rs with
   |nil=>trivial
   |cons s rs=>
    obtain⟨o1,o2⟩:=h3
    refine⟨by rw[List.length_append];omega,fun q hq=> ?_⟩
    rw[fj,if_neg (by omega)]
    exact o2 q hq
end Go.Am.Pu
end
section
/- Plain tableaux, row by row; a tableau from its word; words inserted. Plain words. -/
namespace Go.Am.Pu
theorem zi: ∀{rs:List (List Int)},SSR rs→ ∀r,r<rs.length→0<(rs.getD r []).length∧nA (rs.getD r [])
 |r::rs,h,0,_=>⟨h.1,h.2.1⟩
 |r::rs,h,q+1,hq=>zi h.2.2.2 q (by simpa using hq)
theorem zp: ∀{rs:List (List Int)},SSR rs→rE rs
 | [],_,i,hi=>by simp at hi
 | [r],_,i,hi=>by simp at hi
 |r::s::rs,h,0,_=>h.2.2.1
 |r::s::rs,h,i+1,hi=>zp h.2.2.2 i (by simpa using hi)
theorem xX: ∀{rs:List (List Int)},(∀r,r<rs.length→0<(rs.getD r []).length∧nA (rs.getD r []))→rE rs→SSR rs
 | [],_,_=>trivial
 |r::rs,h1,h2=>by
  refine⟨(h1 0 (by simp)).1,(h1 0 (by simp)).2,?_,xX (fun q hq=>h1 (q+1) (by simpa using hq)) (fun i hi=>h2 (i+1) (by simpa using hi))⟩
  cases rs with
  |nil=>trivial
  |cons s rs=>exact h2 0 (by simp)
theorem pQ(rs:List (List Int)){i:Nat}(h:i<rs.length):(outer (([],rs):Tab)).getD i 0=(rs.getD i []).length:=by
 have:=fg [] rs 0 i h
 unfold outer
 rw[this]
 simp
theorem zh{rs:List (List Int)}(h:SSR rs)(hn: ∀x∈rs.flatten,1≤x∧x≤9)(h9:rs.flatten.length≤9):cQ (([],rs):Tab)=true:=by
 have hr:=fun r hr=>zi h r hr
 have hc:=zp h
 have hrl: ∀r,r<rs.length→(rs.getD r []).length≤9:=fun r h1=>by
  have:=vR (rs:=rs) (r:=rs.getD r []) (by rw[an h1];exact List.getElem_mem h1)
  omega
 refine tO rfl ?_ (fun r x h1 h2=>hn _ (mG h1 h2)) (fun r x h1 h2=>(hr r h1).2 x h2) (fun r x h1 h2=>(hc r h1).2 x h2)
 have hs:aT (outer (([],rs):Tab))=rs.flatten.length:=qd [] rs 0 fun q _=>by simp
 refine lC _ 9 0 (fun x hx=> ?_) (fun h0=> ?_) (fun i hi=> ?_) (by omega)
 ·obtain⟨i,hi,rfl⟩:=List.getElem_of_mem hx
  have hi':i<rs.length:=by rw[dx]at hi;exact hi
  rw[←an hi 0,pQ rs hi']
  have:=(hr i hi').1
  omega
 ·have h0':0<rs.length:=by rw[dx]at h0;exact h0
  rw[pQ rs h0']
  have:=hrl 0 h0'
  omega
 ·have hi':i+1<rs.length:=by rw[dx]at hi;exact hi
  rw[pQ rs hi',pQ rs (by omega)]
  have:=(hc i hi').1
  omega
theorem Dm: ∀(rs:List (List Int)) (x z:Int),z∈(cq rs x).1.flatten→z=x∨z∈rs.flatten
 | [],x,z,h=>by simp[cq]at h;exact .inl h
 |r::rs,x,z,h=>by
  rw[iN]at h
  split at h
  ·next c=>
   simp only[List.flatten_cons,List.mem_append]at h⊢
   rcases h with h|h
   ·rcases List.mem_or_eq_of_mem_set h with h|h
    ·exact .inr (.inl h)
    ·exact .inl h
   ·rcases Dm rs _ z h with h|h
    ·right;left
     rw[h,an c]
     exact List.getElem_mem c
    ·exact .inr (.inr h)
  ·simp only[List.flatten_cons,List.mem_append,List.mem_singleton]at h⊢
   rcases h with(h|h)|h
   ·exact .inr (.inl h)
   ·exact .inl h
   ·exact .inr (.inr h)
theorem zP: ∀(rs:List (List Int)) (x:Int),(cq rs x).1.flatten.length=rs.flatten.length+1
 | [],x=>by simp[cq]
 |r::rs,x=>by
  rw[iN]
  split
  ·have:=zP rs (r.getD (fst r x) 0)
   simp only[List.flatten_cons,List.length_append,List.length_set]
   omega
  ·simp only[List.flatten_cons,List.length_append,List.length_singleton]
   omega
theorem DI: ∀(rs:List (List Int)) (x:Int),(cq rs x).2≤rs.length∧((cq rs x).1.length=if(cq rs x).2=rs.length then rs.length+1 else rs.length)∧ ∀i,((cq rs x).1.getD i []).length=if i=(cq rs x).2 then(rs.getD i []).length+1 else(rs.getD i []).length
 | [],x=>by
  refine⟨Nat.le_refl _,rfl,fun i=> ?_⟩
  cases i with
  |zero=>rfl
  |succ i=>simp[cq]
 |r::rs,x=>by
  rw[iN]
  split
  ·next c=>
   obtain⟨a,b,d⟩:=DI rs (r.getD (fst r x) 0)
   refine⟨by simp only[List.length_cons];omega,?_,fun i=> ?_⟩
   ·simp only[List.length_cons,b,Nat.add_right_cancel_iff]
    split<;>rfl
   ·cases i with
    |zero=>simp
    |succ i=>
     have:=d i
     simp only[Nat.add_right_cancel_iff]
     exact this
  ·refine⟨Nat.zero_le _,by simp,fun i=> ?_⟩
   cases i with
   |zero=>simp
   |succ i=>simp
def np:List Int→List (List Int)→List (List Int)
 | [],P=>P
 |x::w,P=>np w (cq P x).1
theorem nf: ∀(v w:List Int) (P:List (List Int)),np (v++w) P=np w (np v P)
 | [],_,_=>rfl
 |x::v,w,P=>nf v w _
end Go.Am.Pu
end
section
/- The recording tableau is standard, and its descents are the word's. Plain words. -/
namespace Go.Am.Pu
def kR(Q:List (List Int))(a:Nat)(v:Int):List (List Int):=if a=Q.length then Q++ [[v]]else Q.set a (Q.getD a []++ [v])
theorem xF{Q:List (List Int)}{a:Nat}(v:Int)(ha:a≤Q.length)(i:Nat):(kR Q a v).getD i []=if i=a then Q.getD a []++ [v]else Q.getD i []:=by
 unfold kR
 by_cases e:a=Q.length
 ·rw[if_pos e]
  by_cases h:i<Q.length
  ·rw[if_neg (by omega)]
   simp only[List.getD_eq_getElem?_getD,List.getElem?_append_left h]
  ·by_cases e2:i=a
   ·rw[if_pos e2,e2,e,bo (xs:=Q) (Nat.le_refl _)]
    simp
   ·rw[if_neg e2,bo (xs:=Q) (by omega),bo (by rw[List.length_append,List.length_singleton];omega)]
 ·rw[if_neg e]
  by_cases e2:i=a
  ·subst e2;rw[if_pos rfl,an (by rw[List.length_set];omega),List.getElem_set_self]
  ·rw[if_neg e2,getD_set_ne (Ne.symm e2)]
theorem pT{Q:List (List Int)}{a:Nat}(v:Int):(kR Q a v).length=if a=Q.length then Q.length+1 else Q.length:=by
 unfold kR
 split
 ·rw[List.length_append,List.length_singleton]
 ·rw[List.length_set]
theorem CN{Q:List (List Int)}{a:Nat}(v:Int)(ha:a≤Q.length):(kR Q a v).flatten.length=Q.flatten.length+1:=by
 unfold kR
 split
 ·simp
 ·next e=>
  have: ∀(Q:List (List Int)) (a:Nat),a<Q.length→(Q.set a (Q.getD a []++ [v])).flatten.length=Q.flatten.length+1:=by
   intro Q
   induction Q with
   |nil=>intro a h;simp at h
   |cons r rs ih=>
    intro a h
    cases a with
    |zero=>simp;omega
    |succ a=>
     have:=ih a (by simpa using h)
     simp only[List.set_cons_succ,List.getD_cons_succ,List.flatten_cons,List.length_append,this]
     omega
  exact this Q a (by omega)
theorem Hd{Q P:List (List Int)}{a k:Nat}(hp:cQ (([],Q):Tab)=true)(hs:jh (([],Q):Tab)=true)(hk:Q.flatten.length=k)(h9:k+1≤9)(hP:SSR P)(ha:a≤Q.length)(hPl:P.length=if a=Q.length then Q.length+1 else Q.length)
  (hl: ∀i,(P.getD i []).length=if i=a then(Q.getD i []).length+1 else(Q.getD i []).length):
  cQ (([],kR Q a ((k+1:Nat):Int)):Tab)=true∧jh (([],kR Q a ((k+1:Nat):Int)):Tab)=true∧(kR Q a ((k+1:Nat):Int)).flatten.length=k+1∧fC P (kR Q a ((k+1:Nat):Int))∧
   rowOf ([],kR Q a ((k+1:Nat):Int)) ((k+1:Nat):Int)=a∧ ∀v,1≤v→v≤(k:Int)→rowOf ([],kR Q a ((k+1:Nat):Int)) v=rowOf ([],Q) v:=by
 have hget:=xF ((k+1:Nat):Int) ha
 have hlen:= @pT Q a ((k+1:Nat):Int)
 have hfl:=CN ((k+1:Nat):Int) ha
 generalize hN:kR Q a ((k+1:Nat):Int)=N at*
 have hNl: ∀i,(N.getD i []).length=if i=a then(Q.getD i []).length+1 else(Q.getD i []).length:=fun i=>by
  rw[hget]
  split
  ·next e=>rw[e,List.length_append,List.length_singleton]
  ·rfl
 have hsame:fC P N:=⟨by rw[hPl,hlen],fun i=>by rw[hl,hNl]⟩
 have hcel: ∀r x,cel N r x=if r=a∧x=(Q.getD a []).length then((k+1:Nat):Int)else cel Q r x:=fun r x=>by
  unfold cel
  rw[hget]
  by_cases e:r=a
  ·subst e
   rw[if_pos rfl,fj]
   by_cases e2:x=(Q.getD r []).length
   ·rw[if_pos e2,if_pos ⟨rfl,e2⟩]
   ·rw[if_neg e2,if_neg (fun h=>e2 h.2)]
  ·rw[if_neg e,if_neg (fun h=>e h.1)]
 have hb:=(nM hp hs).2
 simp only at hb
 rw[hk]at hb
 have hQ: ∀{r x:Nat},x<(Q.getD r []).length→1≤cel Q r x∧cel Q r x≤(k:Int):=fun{r x} hx=>by
  have hr:r<Q.length:=Nat.lt_of_not_le fun hle=>by rw[bo hle]at hx;simp at hx
  exact hb _ (mG hr hx)
 obtain⟨q1,q2⟩:=oP hp
 have q3:=qV hp
 simp only at q2 q3
 have pc:=zp hP
 have pr:=fun r hr=>zi hP r hr
 have hqlen: ∀i,(Q.getD (i+1) []).length≤(Q.getD i []).length:=fun i=>by
  by_cases h:i+1<Q.length
  ·exact(q3 i h).1
  ·rw[bo (by omega)];exact Nat.zero_le _
 have hssr:SSR N:=by
  refine xX (fun r hr=>⟨?_,fun x hx=> ?_⟩) (fun i hi=> ?_)
  ·rw[←hsame.2];exact(pr r (by rw[hsame.1];exact hr)).1
  ·have e1:=hcel r x
   have e2:=hcel r (x+1)
   unfold cel at e1 e2
   rw[e1,e2]
   rw[hNl]at hx
   have hxQ:x<(Q.getD r []).length:=by
    split at hx<;>omega
   rw[if_neg (fun h=>by rw[h.1]at hxQ;omega)]
   have hv:=hQ hxQ
   unfold cel at hv
   by_cases e:r=a∧x+1=(Q.getD a []).length
   ·rw[if_pos e];omega
   ·rw[if_neg e]
    have hx1:x+1<(Q.getD r []).length:=by
     split at hx
     ·next e3=>
      have: ¬x+1=(Q.getD a []).length:=fun h=>e ⟨e3,h⟩
      rw[←e3]at this
      omega
     ·exact hx
    have hr:r<Q.length:=Nat.lt_of_not_le fun hle=>by rw[bo hle]at hx1;simp at hx1
    exact q2 r x hr hx1
  ·obtain⟨c1,c2⟩:=pc i (by rw[hsame.1];exact hi)
   rw[hsame.2,hsame.2]at c1
   refine⟨c1,fun x hx=> ?_⟩
   have e1:=hcel i x
   have e2:=hcel (i+1) x
   unfold cel at e1 e2
   rw[e1,e2]
   rw[hNl]at hx
   have hxi:x<(N.getD i []).length:=by
    have:=hNl (i+1)
    omega
   rw[hNl]at hxi
   by_cases e:i+1=a∧x=(Q.getD a []).length
   ·rw[if_pos e,if_neg (fun h=>by omega)]
    have hxQ:x<(Q.getD i []).length:=by rw[if_neg (by omega)]at hxi;exact hxi
    have hv:=hQ hxQ
    unfold cel at hv
    omega
   ·rw[if_neg e]
    have hx1:x<(Q.getD (i+1) []).length:=by
     split at hx
     ·next e3=>
      have: ¬x=(Q.getD a []).length:=fun h=>e ⟨e3,h⟩
      rw[←e3]at this
      omega
     ·exact hx
    have hxQ:x<(Q.getD i []).length:=Nat.lt_of_lt_of_le hx1 (hqlen i)
    rw[if_neg (fun h=>by rw[h.1]at hxQ;omega)]
    have hr:i+1<Q.length:=Nat.lt_of_not_le fun hle=>by rw[bo hle]at hx1;simp at hx1
    exact(q3 i hr).2 x hx1
 have hflk:N.flatten.length=k+1:=by omega
 have hmem: ∀z∈N.flatten,1≤z∧z≤9:=fun z hz=>by
  obtain⟨r,x,hr,hx,e⟩:=sw hz
  rw[←e,hcel]
  split
  ·omega
  ·next hc=>
   rw[hNl]at hx
   have hxQ:x<(Q.getD r []).length:=by
    split at hx
    ·next e3=>
     have: ¬x=(Q.getD a []).length:=fun h=>hc ⟨e3,h⟩
     rw[←e3]at this
     omega
    ·exact hx
   have:=hQ hxQ
   omega
 have hpl:=zh hssr hmem (by omega)
 have haN:a<N.length:=by
  rw[hlen]
  split<;>omega
 have hxN:(Q.getD a []).length<(N.getD a []).length:=by rw[hNl,if_pos rfl];omega
 have hnew:cel N a (Q.getD a []).length=((k+1:Nat):Int):=by rw[hcel,if_pos ⟨rfl,rfl⟩]
 have hold: ∀{r x:Nat},x<(Q.getD r []).length→r<N.length∧x<(N.getD r []).length∧cel N r x=cel Q r x:=fun{r x} hx=>by
  have hx':x<(N.getD r []).length:=by
   rw[hNl]
   split<;>omega
  refine⟨Nat.lt_of_not_le fun hle=>by rw[bo hle]at hx';simp at hx',hx',?_⟩
  rw[hcel,if_neg (fun h=>by rw[h.1]at hx;omega)]
 have ho:mI Q.flatten=true:=by
  have:=hs
  simp only[jh,Bool.and_eq_true]at this
  exact this.2
 have hst:jh (([],N):Tab)=true:=by
  have hp':=hpl
  simp only[cQ,Bool.and_eq_true]at hp'
  simp only[jh,Bool.and_eq_true]
  refine⟨hp'.1,lN.2 fun v hv=> ?_⟩
  rw[hflk,jc]at hv
  by_cases e:v=((k+1:Nat):Int)
  ·rw[e,←hnew];exact mG haN hxN
  ·obtain⟨r,x,hr,hx,e2⟩:=sw (lN.1 ho v (jc.2 (by omega)))
   obtain⟨d1,d2,d3⟩:=hold hx
   rw[←e2,←d3]
   exact mG d1 d2
 refine⟨hpl,hst,hflk,hsame,kj hpl hst haN hxN hnew,fun v v1 v2=> ?_⟩
 obtain⟨r,x,hr,hx,e2⟩:=sw (lN.1 ho v (jc.2 (by omega)))
 obtain⟨d1,d2,d3⟩:=hold hx
 rw[kj hpl hst d1 d2 (by rw[d3];exact e2),kj hp hs hr hx e2]
def qF:List Int→List (List Int)→List (List Int)→Nat→List (List Int)
 | [],_,Q,_=>Q
 |x::w,P,Q,k=>qF w (cq P x).1 (kR Q (cq P x).2 ((k+1:Nat):Int)) (k+1)
def Du:List Int→List (List Int)→List Nat
 | [],_=> []
 |x::w,P=>(cq P x).2::Du w (cq P x).1
structure Ins (P Q : List (List Int)) (k : Nat) : Prop where
  ssr : SSR P
  num : ∀ x ∈ P.flatten, 1 ≤ x ∧ x ≤ 9
  fl : P.flatten.length = k
  pl : cQ (([], Q) : Tab) = true
  st : jh (([], Q) : Tab) = true
  qf : Q.flatten.length = k
  same : fC P Q
theorem Ins.step{P Q:List (List Int)}{k:Nat}{x:Int}(h:Ins P Q k)(hx:1≤x∧x≤9)(h9:k+1≤9):
  Ins (cq P x).1 (kR Q (cq P x).2 ((k+1:Nat):Int)) (k+1)∧rowOf ([],kR Q (cq P x).2 ((k+1:Nat):Int)) ((k+1:Nat):Int)=((cq P x).2:Nat)∧ ∀v,1≤v→v≤(k:Int)→rowOf ([],kR Q (cq P x).2 ((k+1:Nat):Int)) v=rowOf ([],Q) v:=by
 obtain⟨a,b,c⟩:=DI P x
 have hs:=DN P x h.ssr
 obtain⟨d1,d2,d3,d4,d5,d6⟩:=Hd (a:=(cq P x).2) h.pl h.st h.qf h9 hs (by rw[←h.same.1];exact a) (by rw[←h.same.1];exact b) (fun i=>by rw[←h.same.2];exact c i)
 refine⟨⟨hs,fun z hz=> ?_,by rw[zP,h.fl],d1,d2,d3,d4⟩,d5,d6⟩
 rcases Dm P x z hz with e|e
 ·rw[e];exact hx
 ·exact h.num z e
theorem Ins.nil:Ins [] [] 0:=⟨trivial,fun x hx=>by simp at hx,rfl,rfl,rfl,rfl,⟨rfl,fun _=>rfl⟩⟩
theorem Ins.word: ∀(w:List Int) {P Q:List (List Int)} {k:Nat},Ins P Q k→(∀x∈w,1≤x∧x≤9)→k+w.length≤9→
  Ins (np w P) (qF w P Q k) (k+w.length)∧(∀v,1≤v→v≤(k:Int)→rowOf ([],qF w P Q k) v=rowOf ([],Q) v)∧ ∀i,i<w.length→rowOf ([],qF w P Q k) ((k+i+1:Nat):Int)=((Du w P).getD i 0:Nat)
 | [],P,Q,k,h,_,_=>⟨h,fun _ _ _=>rfl,fun i hi=>by simp at hi⟩
 |x::w,P,Q,k,h,hx,hl=>by
  simp only[List.length_cons]at hl
  obtain⟨a,b,c⟩:=h.step (hx x (List.mem_cons_self ..)) (by omega)
  obtain⟨d,e,f⟩:=Ins.word w a (fun z hz=>hx z (List.mem_cons_of_mem _ hz)) (by omega)
  refine⟨by rw[List.length_cons,show k+(w.length+1)=k+1+w.length by omega];exact d,fun v v1 v2=> ?_,fun i hi=> ?_⟩
  ·show rowOf ([],qF w _ _ (k+1)) v=_
   rw[e v v1 (by omega)]
   exact c v v1 v2
  ·show rowOf ([],qF w _ _ (k+1)) _=_
   cases i with
   |zero=>
    have:=e ((k+1:Nat):Int) (by omega) (Int.le_refl _)
    rw[Nat.add_zero,this,b]
    rfl
   |succ i=>
    have:=f i (by simpa using hi)
    rw[show k+1+i+1=k+(i+1)+1 by omega]at this
    exact this
end Go.Am.Pu
end
section
/- Words, and what inserting makes of them. Plain words. -/
namespace Go.Am.Pu
def isWord(w:List Int):Bool:=decide (w.length≤9)&&w.all fun n=>within n 1 9
theorem BD{w:List Int}(h:isWord w=true):w.length≤9∧ ∀x∈w,1≤x∧x≤9:=by
 simp only[isWord,Bool.and_eq_true,decide_eq_true_eq,List.all_eq_true,within]at h
 exact⟨h.1,fun x hx=>h.2 x hx⟩
def l6(w:List Int):Tab×Bool:=if isWord w=true then(([],qF w [] [] 0),true)else(([],[]),false)
theorem Aq{w:List Int}(h:isWord w=true):Ins (np w []) (qF w [] [] 0) w.length∧ ∀i,i<w.length→rowOf ([],qF w [] [] 0) ((i+1:Nat):Int)=((Du w []).getD i 0:Nat):=by
 obtain⟨h1,h2⟩:=BD h
 obtain⟨a,_,c⟩:=Ins.word w Ins.nil h2 (by omega)
 rw[Nat.zero_add]at a
 refine⟨a,fun i hi=> ?_⟩
 have:=c i hi
 rw[Nat.zero_add]at this
 exact this
theorem wc{w:List Int}(h:isWord w=true):cQ (l6 w).1=true∧jh (l6 w).1=true∧(l6 w).1.2.flatten.length=w.length:=by
 unfold l6
 rw[if_pos h]
 have a:=(Aq h).1
 exact⟨a.pl,a.st,a.qf⟩
end Go.Am.Pu
end
section
/- Standardizing a tableau: the cells numbered by number and column. Plain words. -/
namespace Go.Am.Pu
def je(Q:List (List Int))(v:Int)(c r:Nat)(s:Nat×List (List Int)):Nat×List (List Int):=
 if c<(Q.getD r []).length∧cel Q r c=v then(s.1+1,lk s.2 r c ((s.1+1:Nat):Int))else s
structure Num (Q : List (List Int)) (D : Nat → Nat → Prop) (s : Nat × List (List Int)) (F : List Int) : Prop where
  same : fC s.2 Q
  len : F.length = s.1
  val : ∀ r x, r < Q.length → x < (Q.getD r []).length → D r x → ∃ k, k < s.1 ∧ cel s.2 r x = ((k + 1 : Nat) : Int) ∧ F.getD k 0 = cel Q r x
  inj : ∀ r x r' x', r < Q.length → x < (Q.getD r []).length → D r x → r' < Q.length → x' < (Q.getD r' []).length → D r' x' → cel s.2 r x = cel s.2 r' x' → r = r' ∧ x = x'
  all : ∀ k, k < s.1 → ∃ r x, r < Q.length ∧ x < (Q.getD r []).length ∧ D r x ∧ cel s.2 r x = ((k + 1 : Nat) : Int)
  lex : ∀ r x r' x', r < Q.length → x < (Q.getD r []).length → D r x → r' < Q.length → x' < (Q.getD r' []).length → D r' x' → cel s.2 r x < cel s.2 r' x' → cel Q r x < cel Q r' x' ∨ (cel Q r x = cel Q r' x' ∧ x ≤ x')
theorem Num.congr{Q:List (List Int)}{D D':Nat→Nat→Prop}{s:Nat×List (List Int)}{F:List Int}(h:Num Q D s F)(e: ∀r x,r<Q.length→x<(Q.getD r []).length→(D r x↔D' r x)):Num Q D' s F:=
 ⟨h.same,h.len,fun r x a b d=>h.val r x a b ((e r x a b).2 d),fun r x r' x' a b d a' b' d'=>h.inj r x r' x' a b ((e r x a b).2 d) a' b' ((e r' x' a' b').2 d'),
  fun k hk=>by obtain⟨r,x,a,b,d,q⟩:=h.all k hk;exact⟨r,x,a,b,(e r x a b).1 d,q⟩,fun r x r' x' a b d a' b' d'=>h.lex r x r' x' a b ((e r x a b).2 d) a' b' ((e r' x' a' b').2 d')⟩
def Dn(Q:List (List Int))(v:Int)(c r:Nat)(a i:Nat):Prop:=cel Q a i<v∨(cel Q a i=v∧(i<c∨(i=c∧a<r)))
theorem Num.step{Q:List (List Int)}{v:Int}{c r:Nat}{s:Nat×List (List Int)}{F:List Int}(h:Num Q (Dn Q v c r) s F)(hr:r<Q.length): ∃F',Num Q (Dn Q v c (r+1)) (je Q v c r s) F':=by
 unfold je
 split
 ·next hc=>
  obtain⟨hc,hv⟩:=hc
  have hnd: ¬Dn Q v c r r c:=by unfold Dn;omega
  have hsr:r<s.2.length:=by rw[h.same.1];exact hr
  have hsc:c<(s.2.getD r []).length:=by rw[h.same.2];exact hc
  have new: ∀a i,Dn Q v c (r+1) a i→(a=r∧i=c)∨(¬(a=r∧i=c)∧Dn Q v c r a i):=fun a i d=>by
   by_cases e:a=r∧i=c
   ·exact .inl e
   ·refine .inr ⟨e,?_⟩
    unfold Dn at d⊢
    omega
  have at1:=kJ (g:=s.2) (r:=r) (c:=c) ((s.1+1:Nat):Int) hsr hsc
  have ne1: ∀a i,¬(a=r∧i=c)→cel (lk s.2 r c ((s.1+1:Nat):Int)) a i=cel s.2 a i:=fun a i e=>jq _ e
  refine⟨F++ [v],⟨⟨by rw[ji];exact h.same.1,fun i=>by rw[b8];exact h.same.2 i⟩,by rw[List.length_append,List.length_singleton,h.len],?_,?_,?_,?_⟩⟩
  ·intro a i ha hi d
   rcases new a i d with⟨rfl,rfl⟩|⟨e,d'⟩
   ·refine⟨s.1,by simp only;omega,at1,?_⟩
    rw[hv,←h.len,List.getD_eq_getElem?_getD]
    simp
   ·obtain⟨k,k1,k2,k3⟩:=h.val a i ha hi d'
    refine⟨k,by simp only;omega,by rw[ne1 a i e];exact k2,?_⟩
    rw[←k3,List.getD_eq_getElem?_getD,List.getD_eq_getElem?_getD,List.getElem?_append_left (by rw[h.len];exact k1)]
  ·intro a i b j ha hi d hb hj d' e
   rcases new a i d with⟨rfl,rfl⟩|⟨ea,da⟩
   ·rcases new b j d' with⟨rfl,rfl⟩|⟨eb,db⟩
    ·exact⟨rfl,rfl⟩
    ·obtain⟨k,k1,k2,_⟩:=h.val b j hb hj db
     simp only at e
     rw[at1,ne1 b j eb,k2]at e
     omega
   ·rcases new b j d' with⟨rfl,rfl⟩|⟨eb,db⟩
    ·obtain⟨k,k1,k2,_⟩:=h.val a i ha hi da
     simp only at e
     rw[at1,ne1 a i ea,k2]at e
     omega
    ·simp only at e
     rw[ne1 a i ea,ne1 b j eb]at e
     exact h.inj a i b j ha hi da hb hj db e
  ·intro k hk
   simp only at hk
   by_cases ek:k=s.1
   ·subst ek
    exact⟨r,c,hr,hc,by unfold Dn;omega,at1⟩
   ·obtain⟨a,i,ha,hi,d,e⟩:=h.all k (by omega)
    have hne: ¬(a=r∧i=c):=fun q=>by rw[q.1,q.2]at d;exact hnd d
    exact⟨a,i,ha,hi,by unfold Dn at d⊢;omega,by simp only;rw[ne1 a i hne];exact e⟩
  ·intro a i b j ha hi d hb hj d' e
   simp only at e
   rcases new a i d with⟨rfl,rfl⟩|⟨ea,da⟩
   ·rcases new b j d' with⟨rfl,rfl⟩|⟨eb,db⟩
    ·omega
    ·obtain⟨k,k1,k2,_⟩:=h.val b j hb hj db
     rw[at1,ne1 b j eb,k2]at e
     omega
   ·rcases new b j d' with⟨rfl,rfl⟩|⟨eb,db⟩
    ·unfold Dn at da
     omega
    ·rw[ne1 a i ea,ne1 b j eb]at e
     exact h.lex a i b j ha hi da hb hj db e
 ·next hc=>
  refine⟨F,h.congr fun a i ha hi=> ?_⟩
  unfold Dn
  constructor
  ·intro d;omega
  ·intro d
   by_cases e:a=r∧i=c
   ·obtain⟨rfl,rfl⟩:=e
    have:cel Q a i≠v:=fun q=>hc ⟨hi,q⟩
    omega
   ·omega
structure yh (Q X : List (List Int)) (f : Int → Int) : Prop where
  same : fC X Q
  val : ∀ r x, r < X.length → x < (X.getD r []).length → cel Q r x = f (cel X r x)
  lex : ∀ r x r' x', r < X.length → x < (X.getD r []).length → r' < X.length → x' < (X.getD r' []).length → cel X r x < cel X r' x' → cel Q r x < cel Q r' x' ∨ (cel Q r x = cel Q r' x' ∧ x < x')
end Go.Am.Pu
end
section
/- A pair of tableaux unrolled, the second one semistandard; sorting; the matrix of a pair. Plain words. -/
namespace Go.Am.Pu
def Cq(R:Int→Prop)(rs:List (List Int)):Prop:= ∀r∈rs,∀v∈r,R v
theorem Cq.at{R:Int→Prop}{rs:List (List Int)}(h:Cq R rs){r x:Nat}(hr:r<rs.length)(hx:x<(rs.getD r []).length):R ((rs.getD r []).getD x 0):=by
 rw[an hx]
 exact h (rs.getD r []) (by rw[an hr];exact List.getElem_mem hr) _ (List.getElem_mem hx)
theorem Cq.set{R:Int→Prop}{rs:List (List Int)}(h:Cq R rs)(i:Nat){r:List Int}(hr: ∀v∈r,R v):Cq R (rs.set i r):=fun y hy=>by
 rcases List.mem_or_eq_of_mem_set hy with h'|rfl
 ·exact h y h'
 ·exact hr
theorem Cq.row{R:Int→Prop}{rs:List (List Int)}(h:Cq R rs)(i:Nat): ∀v∈rs.getD i [],R v:=by
 by_cases hi:i<rs.length
 ·exact h _ (by rw[an hi];exact List.getElem_mem hi)
 ·rw[bo (by omega)];simp
theorem Unr.top{q:Tab}{m:Nat}{P X:List (List Int)}(h:Unr q (m+1) P X){a:Nat}(ha:a<X.length)(htop:cel X a ((X.getD a []).length-1)=((m+1:Nat):Int)):
  (∀r,r<X.length→1≤(X.getD r []).length)∧(∀r,r<X.length→r≠a→cel X r ((X.getD r []).length-1)<((m+1:Nat):Int)):=by
 have hp:=fun r hr=>DM h.pl (r:=r) hr
 refine⟨hp,fun r hr hne=> ?_⟩
 have h1:=hp r hr
 have h2:=hp a ha
 simp only at h1 h2
 have hb:=((nM h.pl h.st).2 _ (mG (rs:=X) hr (show(X.getD r []).length-1<(X.getD r []).length by omega))).2
 have hf:=h.fl
 simp only at hb
 rw[hf]at hb
 have hx:cel X r ((X.getD r []).length-1)≠((m+1:Nat):Int):=fun e=>hne (wv h.pl h.st (a:=r) (b:=a) (x:=(X.getD r []).length-1) (y:=(X.getD a []).length-1) hr (show _<(X.getD r []).length by omega) ha (show _<(X.getD a []).length by omega) (by rw[htop];exact e)).1
 omega
theorem Em{n m:Nat}{A B:List (List Int)}(h:eu n m A)(s:fC A B):eu n m B:=by
 refine⟨by rw[←s.1];exact h.1,fun x hx=> ?_⟩
 obtain⟨i,hi,rfl⟩:=List.getElem_of_mem hx
 have:=h.at i
 rw[s.2 i,an hi]at this
 exact this
theorem yh.cut{Q X:List (List Int)}{f:Int→Int}(s:yh Q X f){a:Nat}(ha:a<X.length)(hc:(X.getD (a+1) []).length<(X.getD a []).length)(hp: ∀r,r<X.length→1≤(X.getD r []).length):yh (cS Q a) (cS X a) f:=by
 have hq: ∀r,r<Q.length→1≤(Q.getD r []).length:=fun r hr=>by rw[←s.same.2];exact hp r (by rw[s.same.1];exact hr)
 have rX:=qQ ha hc hp
 have rQ:=qQ (rs:=Q) (a:=a) (by rw[←s.same.1];exact ha) (by rw[←s.same.2,←s.same.2];exact hc) hq
 have old: ∀{r x},r<(cS X a).length→x<((cS X a).getD r []).length→r<X.length∧x<(X.getD r []).length∧cel (cS X a) r x=cel X r x∧cel (cS Q a) r x=cel Q r x:=fun{r x} hr hx=>by
  have hl:=xa (rs:=X) ha
  have hr':r<X.length:=by rw[hl]at hr;split at hr<;>omega
  have e1:=rX r
  have e2:=rQ r
  unfold cel
  by_cases e:r=a
  ·rw[if_pos e]at e1 e2
   rw[e1]at hx
   rw[List.length_take]at hx
   subst e
   refine⟨hr',by omega,by rw[e1,getD_take (by omega)],?_⟩
   rw[e2,getD_take (by have:=s.same.2 r;omega)]
  ·rw[if_neg e]at e1 e2
   rw[e1]at hx
   exact⟨hr',hx,by rw[e1],by rw[e2]⟩
 refine⟨Bq s.same a,fun r x hr hx=> ?_,fun r x r' x' hr hx hr' hx' hlt=> ?_⟩
 ·obtain⟨o1,o2,o3,o4⟩:=old hr hx
  rw[o3,o4]
  exact s.val r x o1 o2
 ·obtain⟨o1,o2,o3,o4⟩:=old hr hx
  obtain⟨p1,p2,p3,p4⟩:=old hr' hx'
  rw[o3,p3]at hlt
  rw[o4,p4]
  exact s.lex r x r' x' o1 o2 p1 p2 hlt
theorem yh.step{q:Tab}{m:Nat}{P X Q:List (List Int)}{f:Int→Int}(s:yh Q X f)(h:Unr q (m+1) P X):
  ∃a:Nat,rowOf q ((m+1:Nat):Int)=a∧a<Q.length∧1≤(Q.getD a []).length∧(Q.getD a []).getD ((Q.getD a []).length-1) 0=f ((m+1:Nat):Int)∧(∀r,r<Q.length→1≤(Q.getD r []).length)∧
   (∀r,r<Q.length→r≠a→(Q.getD r []).getD ((Q.getD r []).length-1) 0<f ((m+1:Nat):Int)∨((Q.getD r []).getD ((Q.getD r []).length-1) 0=f ((m+1:Nat):Int)∧(Q.getD r []).length<(Q.getD a []).length))∧
   eu 9 9 Q∧a<P.length∧1≤(P.getD a []).length∧Unr q m (ml P a).1 (cS X a)∧yh (cS Q a) (cS X a) f:=by
 obtain⟨a,a1,a2,a3,a4,a5,a6⟩:=h.step
 obtain⟨t1,t2⟩:=h.top a2 a4
 have v0:=s.val a ((X.getD a []).length-1) a2 (by omega)
 rw[a4]at v0
 unfold cel at v0
 rw[s.same.2]at v0
 refine⟨a,a1,by rw[←s.same.1];exact a2,by rw[←s.same.2];exact a3,v0,fun r hr=>by rw[←s.same.2];exact t1 r (by rw[s.same.1];exact hr),fun r hr hne=> ?_,Em (CB h.pl) s.same,
  by rw[h.same.1];exact a2,by rw[h.same.2];exact a3,a6,s.cut a2 a5 t1⟩
 have hr':r<X.length:=by rw[s.same.1];exact hr
 have u1:=t1 r hr'
 have hl:=s.lex r ((X.getD r []).length-1) a ((X.getD a []).length-1) hr' (by omega) a2 (by omega) (by rw[a4];exact t2 r hr' hne)
 have v:=s.val a ((X.getD a []).length-1) a2 (by omega)
 rw[v,a4]at hl
 unfold cel at hl
 rw[s.same.2 r,s.same.2 a]at hl
 have e1:=s.same.2 r
 rcases hl with hl|hl
 ·exact .inl hl
 ·exact .inr ⟨hl.1,by omega⟩
structure I5 (r c : Nat) (b : Int) (M : List (List Int)) : Prop where
  len : M.length = r
  row : ∀ i, i < r → (M.getD i []).length = c
  sm : ∀ x ∈ M, ∀ v ∈ x, 0 ≤ v ∧ v ≤ b
end Go.Am.Pu
end
section
/- Standardizing any tableau: its cells in the order of number and column. Plain words. -/
namespace Go.Am.Pu
theorem BC{p:List Int}(hp:aX p=true)(r:Nat): ∀d:Nat,p.getD (r+d) 0≤p.getD r 0
 |0=>Int.le_refl _
 |d+1=>Int.le_trans (fN hp (r+d)) (BC hp r d)
def F1(t:Tab)(r:Nat):List (Int×Int×Int):=(List.range (t.2.getD r []).length).map fun x=>(cel t.2 r x,t.1.getD r 0+x,(r:Int))
def cellsOf(t:Tab):List (Int×Int×Int):=((List.range t.2.length).map (F1 t)).flatten
def KLt(a b:Int×Int×Int):Prop:=a.1<b.1∨(a.1=b.1∧a.2.1<b.2.1)
end Go.Am.Pu
end
section
/- Sorting cells by insertion, as the library does. Plain words. -/
namespace Go.Am.Pu
instance(a b:Int×Int×Int):Decidable (KLt a b):=by unfold KLt;infer_instance
end Go.Am.Pu
end
section
/- All standard tableaux of given rows, found by taking out the greatest number. Plain words. -/
namespace Go.Am.Pu
def gU(ls:List Nat)(a:Nat):List Nat:=if ls.getD a 0=1 then ls.take a else ls.set a (ls.getD a 0-1)
theorem Gb{α:Type}{d:α}{A B:List α}(hl:A.length=B.length)(h: ∀i,i<A.length→A.getD i d=B.getD i d):A=B:=by
 refine List.ext_getElem hl fun i h1 h2=> ?_
 have:=h i h1
 rw[an h1,an h2]at this
 exact this
end Go.Am.Pu
end
section
/- Promotion of a rectangle comes back after as many steps as there are cells (reckoned over all of them). Plain words. -/
namespace Go.Am.Pu
end Go.Am.Pu
end
section
/- The length of an orbit divides every number of steps that come back. Plain words. -/
namespace Go.Am.Pu
end Go.Am.Pu
end
section
/- Knuth's relations: insertion does not tell related words apart, and a row and a number are related to what an insertion makes of them. Plain words. -/
namespace Go.Am.Pu
abbrev Up(r:List Int):Prop:=r.Pairwise (· ≤ ·)
def eW:List Int→Int→List Int×List Int
 | [],x=>([x],[])
 |a::r,x=>if x<a then(x::r,[a])else(a::(eW r x).1,(eW r x).2)
theorem fk{a x:Int}{r:List Int}(h:x<a):eW (a::r) x=(x::r,[a]):=by unfold eW;rw[if_pos h]
theorem eH{a x:Int}{r:List Int}(h:a≤x):eW (a::r) x=(a::(eW r x).1,(eW r x).2):=by
 conv=>lhs;unfold eW
 rw[if_neg (by omega)]
theorem u7: ∀(r:List Int) (x z:Int),z∈(eW r x).1→z=x∨z∈r
 | [],x,z,h=>by simp only[eW,List.mem_singleton]at h;exact .inl h
 |a::r,x,z,h=>by
  by_cases c:x<a
  ·rw[fk c]at h
   rcases List.mem_cons.1 h with h|h
   ·exact .inl h
   ·exact .inr (List.mem_cons_of_mem _ h)
  ·rw[eH (by omega)]at h
   rcases List.mem_cons.1 h with h|h
   ·exact .inr (by rw[h];exact List.mem_cons_self ..)
   ·rcases u7 r x z h with h|h
    ·exact .inl h
    ·exact .inr (List.mem_cons_of_mem _ h)
theorem yP: ∀{r:List Int} (x:Int),Up r→Up (eW r x).1
 | [],x,_=>List.pairwise_singleton ..
 |a::r,x,h=>by
  have h':=List.pairwise_cons.1 h
  by_cases c:x<a
  ·rw[fk c]
   exact List.pairwise_cons.2 ⟨fun z hz=>by have:=h'.1 z hz;omega,h'.2⟩
  ·rw[eH (by omega)]
   refine List.pairwise_cons.2 ⟨fun z hz=> ?_,yP x h'.2⟩
   rcases u7 r x z hz with e|e
   ·omega
   ·exact h'.1 z e
theorem kU: ∀(r:List Int) (x:Int),(eW r x).2= []∨ ∃b,(eW r x).2= [b]∧x<b∧b∈r
 | [],x=> .inl rfl
 |a::r,x=>by
  by_cases c:x<a
  ·rw[fk c];exact .inr ⟨a,rfl,c,List.mem_cons_self ..⟩
  ·rw[eH (by omega)]
   rcases kU r x with h|⟨b,h1,h2,h3⟩
   ·exact .inl h
   ·exact .inr ⟨b,h1,h2,List.mem_cons_of_mem _ h3⟩
theorem Dy: ∀{r:List Int} {y z:Int},Up r→y≤z→((eW r y).2= []→(eW (eW r y).1 z).2= [])∧ ∀p q,(eW r y).2= [p]→(eW (eW r y).1 z).2= [q]→p≤q
 | [],y,z,_,hz=>by
  refine⟨fun _=> ?_,fun p q h=>by simp[eW]at h⟩
  show(eW [y] z).2= []
  rw[eH hz];rfl
 |a::r,y,z,h,hz=>by
  have h':=List.pairwise_cons.1 h
  by_cases c:y<a
  ·rw[fk c]
   refine⟨fun e=>by simp at e,fun p q e1 e2=> ?_⟩
   rw[eH hz]at e2
   rcases kU r z with o|⟨b,o1,_,o3⟩
   ·simp only at e2;rw[o]at e2;simp at e2
   ·simp only at e2
    rw[o1]at e2
    simp only[List.cons.injEq,and_true]at e1 e2
    have:=h'.1 b o3
    omega
  ·rw[eH (show a≤y by omega)]
   show((eW r y).2= []→(eW (a::(eW r y).1) z).2= [])∧ ∀p q,(eW r y).2= [p]→(eW (a::(eW r y).1) z).2= [q]→p≤q
   rw[eH (show a≤z by omega)]
   exact Dy h'.2 hz
theorem DB: ∀{r:List Int} {y z:Int},Up r→y<z→z∈r→ ∃c,(eW r y).2= [c]∧y<c∧c≤z
 | [],_,_,_,_,hm=>by simp at hm
 |a::r,y,z,h,hz,hm=>by
  have h':=List.pairwise_cons.1 h
  by_cases c:y<a
  ·rw[fk c]
   refine⟨a,rfl,c,?_⟩
   rcases List.mem_cons.1 hm with e|e
   ·omega
   ·exact h'.1 z e
  ·rw[eH (by omega)]
   rcases List.mem_cons.1 hm with e|e
   ·omega
   ·exact DB h'.2 hz e
theorem yf: ∀(r:List Int) (x:Int),x∈(eW r x).1
 | [],x=>List.mem_singleton.2 rfl
 |a::r,x=>by
  by_cases c:x<a
  ·rw[fk c];exact List.mem_cons_self ..
  ·rw[eH (by omega)];exact List.mem_cons_of_mem _ (yf r x)
def Tri(u v:List Int):Prop:= ∃x y z:Int,(x<y∧y≤z∧u= [y,z,x]∧v= [y,x,z])∨(x≤y∧y<z∧u= [x,z,y]∧v= [z,x,y])
theorem Tri.a{x y z:Int}(h1:x<y)(h2:y≤z):Tri [y,z,x] [y,x,z]:=⟨x,y,z,.inl ⟨h1,h2,rfl,rfl⟩⟩
theorem Tri.b{x y z:Int}(h1:x≤y)(h2:y<z):Tri [x,z,y] [z,x,y]:=⟨x,y,z,.inr ⟨h1,h2,rfl,rfl⟩⟩
def iY:List Int→List Int→List Int×List Int
 |r,[]=>(r,[])
 |r,x::w=>((iY (eW r x).1 w).1,(eW r x).2++(iY (eW r x).1 w).2)
def C8(p q:List Int×List Int):Prop:=p.1=q.1∧(p.2=q.2∨Tri p.2 q.2)
theorem oM{a:Int}: ∀{w r:List Int},(∀x∈w,a≤x)→iY (a::r) w=(a::(iY r w).1,(iY r w).2)
 | [],_,_=>rfl
 |x::w,r,h=>by
  show((iY (eW (a::r) x).1 w).1,(eW (a::r) x).2++(iY (eW (a::r) x).1 w).2)=_
  rw[eH (h x (List.mem_cons_self ..))]
  simp only
  rw[oM fun y hy=>h y (List.mem_cons_of_mem _ hy)]
  rfl
theorem mz(r:List Int)(x y z:Int):iY r [x,y,z]=((eW (eW (eW r x).1 y).1 z).1,(eW r x).2++((eW (eW r x).1 y).2++(eW (eW (eW r x).1 y).1 z).2)):=by
 simp[iY]
theorem H9: ∀{r:List Int} {x y z:Int},Up r→x<y→y≤z→C8 (iY r [y,z,x]) (iY r [y,x,z])
 | [],x,y,z,_,h1,h2=>by
  refine⟨?_,.inl ?_⟩
  ·simp[iY,eW,h1,show¬z<y by omega,show¬z<x by omega]
  ·simp[iY,eW,h1,show¬z<y by omega,show¬z<x by omega]
 |a::r,x,y,z,h,h1,h2=>by
  have h':=List.pairwise_cons.1 h
  by_cases c:y<a
  ·rw[mz,mz,fk c]
   simp only
   rw[eH (r:=r) h2,fk (r:=r) h1]
   simp only
   rw[fk h1,eH (show x≤z by omega)]
   refine⟨rfl,?_⟩
   rcases kU r z with o|⟨b,o1,o2,o3⟩
   ·simp only;rw[o];exact .inl rfl
   ·simp only;rw[o1]
    exact .inr (Tri.a c (h'.1 b o3))
  ·by_cases c2:x<a
   ·rw[mz,mz,eH (show a≤y by omega)]
    simp only
    rw[eH (show a≤z by omega),fk c2]
    simp only
    rw[fk c2,eH (show x≤z by omega)]
    refine⟨rfl,?_⟩
    simp only
    obtain⟨e1,e2⟩:=Dy h'.2 h2
    rcases kU r y with o|⟨b,o1,o2,o3⟩
    ·rw[o,e1 o];exact .inl rfl
    ·rcases kU (eW r y).1 z with p|⟨d,p1,p2,p3⟩
     ·rw[p,o1];exact .inl rfl
     ·rw[o1,p1]
      exact .inr (Tri.a (by omega) (e2 _ _ o1 p1))
   ·have ih:=H9 h'.2 h1 h2
    rw[oM (by simp;omega),oM (by simp;omega)]
    exact⟨congrArg (a:: ·) ih.1,ih.2⟩
theorem HU: ∀{r:List Int} {x y z:Int},Up r→x≤y→y<z→C8 (iY r [x,z,y]) (iY r [z,x,y])
 | [],x,y,z,_,h1,h2=>by
  refine⟨?_,.inl ?_⟩
  ·simp[iY,eW,h2,show x<z by omega,show¬z<x by omega,show¬y<x by omega]
  ·simp[iY,eW,h2,show x<z by omega,show¬z<x by omega,show¬y<x by omega]
 |a::r,x,y,z,h,h1,h2=>by
  have h':=List.pairwise_cons.1 h
  by_cases c:z<a
  ·rw[mz,mz,fk (show x<a by omega),fk c]
   simp only
   rw[eH (r:=r) (show x≤z by omega),fk (r:=r) (show x<z by omega)]
   simp only
   rw[eH h1,eH h1]
   cases r with
   |nil=>simp[eW,h2,C8]
   |cons b r=>
    have hb:=h'.1 b (List.mem_cons_self ..)
    rw[fk (show z<b by omega),fk (show y<b by omega)]
    simp only
    rw[fk h2]
    exact⟨rfl,.inr (Tri.a c hb)⟩
  ·by_cases c2:x<a
   ·rw[mz,mz,fk c2,eH (show a≤z by omega)]
    simp only
    rw[fk c2,eH (show x≤z by omega)]
    simp only
    rw[eH h1]
    refine⟨rfl,?_⟩
    simp only
    rcases kU r z with o|⟨b,o1,o2,o3⟩
    ·rw[o];exact .inl rfl
    ·rw[o1]
     obtain⟨d,d1,d2,d3⟩:=DB (yP z h'.2) h2 (yf r z)
     rw[d1]
     refine .inr (Tri.b ?_ (by omega))
     rcases kU (eW r z).1 y with p|⟨q,p1,p2,p3⟩
     ·rw[p]at d1;simp at d1
     ·rw[p1]at d1
      have:q=d:=by simpa using d1
      subst this
      rcases u7 r z q p3 with e|e
      ·omega
      ·exact h'.1 q e
   ·have ih:=HU h'.2 h1 h2
    rw[oM (by simp;omega),oM (by simp;omega)]
    exact⟨congrArg (a:: ·) ih.1,ih.2⟩
theorem Hj{r u v:List Int}(h:Up r)(t:Tri u v):C8 (iY r u) (iY r v):=by
 obtain⟨x,y,z,⟨h1,h2,rfl,rfl⟩|⟨h1,h2,rfl,rfl⟩⟩:=t
 ·exact H9 h h1 h2
 ·exact HU h h1 h2
theorem Ff(a x:Int)(r:List Int):fst (a::r) x=if x<a then 0 else fst r x+1:=by
 unfold fst
 rw[List.findIdx_cons]
 by_cases c:x<a
 ·rw[if_pos c,decide_eq_true c];rfl
 ·rw[if_neg c,decide_eq_false c];rfl
theorem Aw: ∀(r:List Int) (x:Int),eW r x=if fst r x<r.length then(r.set (fst r x) x,[r.getD (fst r x) 0])else(r++ [x],[])
 | [],x=>rfl
 |a::r,x=>by
  rw[Ff]
  by_cases c:x<a
  ·rw[fk c,if_pos c,if_pos (by simp)];rfl
  ·rw[eH (by omega),if_neg c,Aw r x]
   by_cases d:fst r x<r.length
   ·rw[if_pos d,if_pos (by simpa using d)];rfl
   ·rw[if_neg d,if_neg (by simpa using d)];rfl
theorem Ac(r:List Int)(rs:List (List Int))(x:Int):(cq (r::rs) x).1=(eW r x).1::np (eW r x).2 rs:=by
 rw[iN,Aw]
 by_cases c:fst r x<r.length
 ·rw[if_pos c,if_pos c];rfl
 ·rw[if_neg c,if_neg c];rfl
theorem tC: ∀(w r:List Int) (rs:List (List Int)),np w (r::rs)=(iY r w).1::np (iY r w).2 rs
 | [],_,_=>rfl
 |x::w,r,rs=>by
  show np w (cq (r::rs) x).1=_
  rw[Ac,tC w]
  simp only[iY]
  rw[nf]
theorem G8{u v:List Int}(t:Tri u v):np u []=np v []:=by
 obtain⟨x,y,z,⟨h1,h2,rfl,rfl⟩|⟨h1,h2,rfl,rfl⟩⟩:=t
 ·simp[np,cq,List.findIdx_cons,h1,show¬z<y by omega,show¬z<x by omega]
 ·simp[np,cq,List.findIdx_cons,h2,show x<z by omega,show¬z<x by omega,show¬y<x by omega]
theorem DG: ∀{P:List (List Int)} {u v:List Int},(∀r∈P,Up r)→Tri u v→np u P=np v P
 | [],_,_,_,t=>G8 t
 |r::rs,u,v,h,t=>by
  rw[tC,tC]
  obtain⟨a,b|b⟩:=Hj (h r (List.mem_cons_self ..)) t
  ·rw[a,b]
  ·rw[a,DG (fun q hq=>h q (List.mem_cons_of_mem _ hq)) b]
inductive Kn : List Int → List Int → Prop
  | refl (w) : Kn w w
  | symm {v w} : Kn v w → Kn w v
  | trans {u v w} : Kn u v → Kn v w → Kn u w
  | tri {u v} (a b) : Tri u v → Kn (a ++ u ++ b) (a ++ v ++ b)
theorem Kn.ctx{u v:List Int}(c d:List Int)(h:Kn u v):Kn (c++u++d) (c++v++d):=by
 induction h with
 |refl w=>exact .refl _
 |symm _ ih=>exact .symm ih
 |trans _ _ h1 h2=>exact .trans h1 h2
 |tri a b t=>
  have:=Kn.tri (c++a) (b++d) t
  simp only[List.append_assoc]at this⊢
  exact this
theorem Kn.left{u v:List Int}(c:List Int)(h:Kn u v):Kn (c++u) (c++v):=by
 have:=h.ctx c []
 simpa using this
theorem Kn.right{u v:List Int}(d:List Int)(h:Kn u v):Kn (u++d) (v++d):=by
 have:=h.ctx [] d
 simpa using this
theorem Kn.cons{u v:List Int}(c:Int)(h:Kn u v):Kn (c::u) (c::v):=h.left [c]
theorem Kn.of{u v:List Int}(t:Tri u v):Kn u v:=by
 have:=Kn.tri [] [] t
 simpa using this
theorem Kn.app{u v u' v':List Int}(h:Kn u u')(g:Kn v v'):Kn (u++v) (u'++v'):=(h.right v).trans (g.left u')
theorem Dr: ∀{P:List (List Int)} (x:Int),(∀r∈P,Up r)→ ∀r∈(cq P x).1,Up r
 | [],x,_=>fun r hr=>by
  have:r= [x]:=by simpa[cq]using hr
  rw[this];exact List.pairwise_singleton ..
 |q::P,x,h=>by
  rw[Ac]
  intro r hr
  have hP: ∀r∈P,Up r:=fun r hr=>h r (List.mem_cons_of_mem _ hr)
  rcases List.mem_cons.1 hr with e|e
  ·rw[e];exact yP x (h q (List.mem_cons_self ..))
  ·rcases kU q x with o|⟨b,o,_,_⟩
   ·rw[o]at e;exact hP r e
   ·rw[o]at e;exact Dr b hP r e
theorem DL: ∀{w:List Int} {P:List (List Int)},(∀r∈P,Up r)→ ∀r∈np w P,Up r
 | [],_,h=>h
 |x::w,P,h=>show∀r∈np w (cq P x).1,Up r from DL (Dr x h)
theorem Kn.ins{u v:List Int}(h:Kn u v): ∀{P:List (List Int)},(∀r∈P,Up r)→np u P=np v P:=by
 induction h with
 |refl w=>intro P _;rfl
 |symm _ ih=>intro P hP;exact(ih hP).symm
 |trans _ _ h1 h2=>intro P hP;rw[h1 hP,h2 hP]
 |tri a b t=>
  intro P hP
  rw[nf,nf,nf,nf,DG (DL hP) t]
end Go.Am.Pu
end
section
/- Rows and slides keep words related. Plain words. -/
namespace Go.Am.Pu
def Ix(q:List Int)(g:List (List Int))(i c r:Nat):List Int:=
 if r=i then((g.getD r []).take c).drop (q.getD r 0).toNat++(g.getD r []).drop (c+1)else(g.getD r []).drop (q.getD r 0).toNat
end Go.Am.Pu
end
section
/- The rectification is the tableau of the word. Plain words. -/
namespace Go.Am.Pu
end Go.Am.Pu
end
section
/- Slides outwards: what holds on the way, what they leave; slides in and out undo each other. Plain words. -/
namespace Go.Am.Pu
theorem mC{p:List Int}(hp:aX p=true)(r:Nat):0≤p.getD r 0∧p.getD r 0≤9:=by
 have:=dm hp r
 rwa [dn]at this
theorem so{p:List Int}(hp:aX p=true){r:Nat}(hr:r<p.length):1≤p.getD r 0:=by
 rw[an hr];exact((aH hp).1 _ (List.getElem_mem hr)).1
theorem Fe{p q:List Int}(hp:aX p=true)(hq:aX q=true)(h: ∀r,p.getD r 0=q.getD r 0):p=q:=by
 have hl:p.length=q.length:=by
  rcases Nat.lt_trichotomy p.length q.length with c|c|c
  ·have:=so hq c
   rw[←h,bo (Nat.le_refl _)]at this;omega
  ·exact c
  ·have:=so hp c
   rw[h,bo (Nat.le_refl _)]at this;omega
 exact FO hl fun x _=>h x
theorem sC: ∀{a b:List Int},(∀i,a.getD i 0≤b.getD i 0)→aT a≤aT b∧ ∀j,a.getD j 0<b.getD j 0→aT a<aT b
 | [],[],_=>⟨Int.le_refl _,fun j h=>by simp at h⟩
 | [],y::b,h=>by
  have h0:=h 0
  obtain⟨i1,i2⟩:=sC (a:= []) (b:=b) fun i=>by have:=h (i+1);simpa using this
  simp only[List.getD_nil,List.getD_cons_zero]at h0
  simp only[aT]at*
  refine⟨by omega,fun j hj=> ?_⟩
  cases j with
  |zero=>simp at hj;omega
  |succ j=>have:=i2 j (by simpa using hj);omega
 |x::a,[],h=>by
  have h0:=h 0
  obtain⟨i1,i2⟩:=sC (a:=a) (b:= []) fun i=>by have:=h (i+1);simpa using this
  simp only[List.getD_nil,List.getD_cons_zero]at h0
  simp only[aT]at*
  refine⟨by omega,fun j hj=> ?_⟩
  cases j with
  |zero=>simp at hj;omega
  |succ j=>have:=i2 j (by simpa using hj);omega
 |x::a,y::b,h=>by
  have h0:=h 0
  obtain⟨i1,i2⟩:=sC (a:=a) (b:=b) fun i=>by have:=h (i+1);simpa using this
  simp only[List.getD_cons_zero]at h0
  simp only[aT]at*
  refine⟨by omega,fun j hj=> ?_⟩
  cases j with
  |zero=>simp at hj;omega
  |succ j=>have:=i2 j (by simpa using hj);omega
theorem FZ{q:List Int}{i:Nat}: ∀r,(if(i:Int)=q.length then q++ [0]else q).getD r 0=q.getD r 0:=fun r=>by
 split
 ·by_cases hr:r<q.length
  ·rw[sP hr]
  ·rw[sJ (by omega),bo (xs:=q) (by omega)]
   cases r-q.length<;>rfl
 ·rfl
theorem xK{q:List Int}{i:Nat}(hq:aX q=true)(hi:i≤q.length)(hm:i=0∨q.getD i 0+1≤q.getD (i-1) 0)(hs:aT q+1≤9): ∃o,cW q i=(o,true):=by
 have hlen:i<(if(i:Int)=q.length then q++ [0]else q).length:=by
  split
  ·rw[List.length_append,List.length_singleton];omega
  ·omega
 have hsum:aT (if(i:Int)=q.length then q++ [0]else q)=aT q:=by
  split
  ·rw[BK];simp[aT]
  ·rfl
 have hg:=FZ (q:=q) (i:=i)
 unfold cW
 rw[if_pos ⟨hq,by omega,by omega⟩]
 simp only[Int.toNat_natCast]
 generalize hw:(if(i:Int)=q.length then q++ [0]else q)=w at*
 have hset: ∀r,(w.set i (w.getD i 0+1)).getD r 0=if r=i then q.getD i 0+1 else q.getD r 0:=fun r=>by
  rw[gA _ hlen,hg]
  by_cases e:r=i
  ·rw[if_pos e,if_pos e]
  ·rw[if_neg e,if_neg e,hg]
 have hpart:aX (w.set i (w.getD i 0+1))=true:=by
  have hle:aT q≤8:=by omega
  have h1: ∀r,q.getD r 0≤8:=fun r=>by
   have h0:=(mC hq r).1
   by_cases hr:r<q.length
   ·have:=sC (a:=List.replicate (r+1) 0|>.set r (q.getD r 0)) (b:=q) fun i=>by
     rw[gA _ (by simp)]
     by_cases e:i=r
     ·rw[if_pos e,e];exact Int.le_refl _
     ·rw[if_neg e]
      have:(List.replicate (r+1) (0:Int)).getD i 0=0:=by
       by_cases hi:i<r+1
       ·rw[an (by simpa using hi)];simp
       ·rw[bo (by simp;omega)]
      rw[this];exact(mC hq i).1
    have h2:=this.1
    rw[oI _ _ _ (by simp)]at h2
    have h3: ∀n,aT (List.replicate n 0)=0:=fun n=>by
     induction n with
     |zero=>rfl
     |succ n ih=>rw[List.replicate_succ];simp[aT,ih]
    have h4:(List.replicate (r+1) (0:Int)).getD r 0=0:=by rw[an (by simp)];simp
    rw[h3,h4]at h2
    omega
   ·rw[bo (by omega)];omega
  refine lC _ _ _ (fun x hx=> ?_) (fun _=> ?_) (fun r _=> ?_) ?_
  ·obtain⟨r,hr,rfl⟩:=List.getElem_of_mem hx
   rw[←an hr 0,hset]
   by_cases e:r=i
   ·rw[if_pos e]
    have:=(mC hq i).1
    omega
   ·rw[if_neg e]
    rw[List.length_set]at hr
    refine so hq ?_
    rw[←hw]at hr
    split at hr
    ·rw[List.length_append,List.length_singleton]at hr;omega
    ·exact hr
  ·rw[hset]
   have:=h1 0
   have:=h1 i
   split<;>omega
  ·rw[hset,hset]
   have:=fN hq r
   by_cases e:r=i
   ·subst e
    rw[if_neg (by omega),if_pos rfl];omega
   ·rw[if_neg e]
    by_cases e2:r+1=i
    ·subst e2
     rw[if_pos rfl]
     rcases hm with hm|hm
     ·omega
     ·simpa using hm
    ·rw[if_neg e2];exact this
  ·rw[oI _ _ _ hlen,hg,hsum];omega
 rw[if_pos hpart]
 exact⟨_,rfl⟩
theorem FK{p q:List Int}{n:Nat}(hp:aX p=true)(h:cW p n=(q,true)):aP q n=p∧q.getD (n+1) 0<q.getD n 0:=by
 obtain⟨b1,b2,b3,b4,b5⟩:=iR h
 have hc:q.getD (n+1) 0<q.getD n 0:=by
  rw[b4,b4,if_neg (by omega),if_pos rfl]
  have:=fN hp n
  omega
 refine⟨Fe (pH b5 b2 hc) hp fun r=> ?_,hc⟩
 rw[rq b5 b2 hc,b4,b4,if_pos rfl]
 by_cases e:r=n
 ·rw[if_pos e,e];omega
 ·rw[if_neg e,if_neg e]
theorem Sl.up{q:List Int}{g:List (List Int)}{i c:Nat}(h:Sl q g (i+1) c)(hi:Inn q g)(hu:cel g i c≠0)(hl:leftOf g (i+1) c≤cel g i c):Sl q (lk g (i+1) c (cel g i c)) i c:=by
 obtain⟨b1,b2⟩:=yK hu
 have hq:q.getD i 0≤c:=Int.not_lt.1 fun hlt=>hu (hi i c hlt)
 have hqm:=h.qm i
 have hun:=h.num i c hq b2 (by omega)
 have e0:=kJ (cel g i c) h.hi h.hc
 have en: ∀r x,¬(r=i+1∧x=c)→cel (lk g (i+1) c (cel g i c)) r x=cel g r x:=fun r x hh=>jq _ hh
 have hll:=h.lm i
 refine⟨h.q0,h.qm,fun r=> ?_,?_,?_,hq,fun r x=> ?_,fun r x h1 h2 h3=> ?_,fun r x h1 h2 h3 h4=> ?_,fun r x h1 h2 h3 h4=> ?_,fun x h1 h2 h3=> ?_,fun r h1 h2 h3=> ?_⟩
 ·rw[b8,b8];exact h.lm r
 ·rw[ji];exact b1
 ·rw[b8];exact b2
 ·by_cases e:r=i+1∧x=c
  ·rw[e.1,e.2,e0];exact h.pos _ _
  ·rw[en r x e];exact h.pos _ _
 ·rw[b8]at h2
  by_cases e:r=i+1∧x=c
  ·rw[e.1,e.2,e0];exact hun
  ·rw[en r x e];exact h.num r x h1 h2 e
 ·rw[b8]at h2
  by_cases e:r=i+1∧x=c
  ·obtain⟨rfl,rfl⟩:=e
   rw[e0,en _ _ (by omega)]
   have h5:=h.row i x hq (by omega) (by omega) (by omega)
   have h6:=h.col i (x+1) (by omega) h2 (by omega) (by omega)
   omega
  ·rw[en r x e]
   by_cases e':r=i+1∧x+1=c
   ·obtain⟨rfl,rfl⟩:=e'
    rw[e0]
    unfold leftOf at hl
    rw[if_neg (by omega),show x+1-1=x by omega]at hl
    exact hl
   ·rw[en r (x+1) e'];exact h.row r x h1 h2 e e'
 ·rw[b8]at h2
  by_cases e:r=i+1∧x=c
  ·obtain⟨rfl,rfl⟩:=e
   rw[e0,en _ _ (by omega)]
   exact h.colH i rfl hq h2
  ·rw[en r x e]
   by_cases e':r+1=i+1∧x=c
   ·exact(h3 ⟨by omega,e'.2⟩).elim
   ·rw[en (r+1) x e']
    exact h.col r x h1 h2 e e'
 ·rw[b8]at h3
  rw[en _ _ (by omega),en _ _ (by omega)]
  subst h1
  have h5:=h.row i x h2 (by omega) (by omega) (by omega)
  have h6:=h.row i (x+1) (by omega) h3 (by omega) (by omega)
  omega
 ·rw[b8]at h3
  subst h1
  rw[en _ _ (by omega),e0]
  exact h.col r c h2 b2 (by omega) (by omega)
theorem Sl.left{q:List Int}{g:List (List Int)}{i c:Nat}(h:Sl q g i (c+1))(hi:Inn q g)(hv:cel g i c≠0)(hu:BE g i (c+1)<cel g i c):Sl q (lk g i (c+1) (cel g i c)) i c:=by
 obtain⟨b1,b2⟩:=yK hv
 have hq:q.getD i 0≤c:=Int.not_lt.1 fun hlt=>hv (hi i c hlt)
 have hqm:=h.qm i
 have hvn:=h.num i c hq b2 (by omega)
 have e0:=kJ (cel g i c) h.hi h.hc
 have en: ∀r x,¬(r=i∧x=c+1)→cel (lk g i (c+1) (cel g i c)) r x=cel g r x:=fun r x hh=>jq _ hh
 have hll:=h.lm i
 refine⟨h.q0,h.qm,fun r=> ?_,?_,?_,hq,fun r x=> ?_,fun r x h1 h2 h3=> ?_,fun r x h1 h2 h3 h4=> ?_,fun r x h1 h2 h3 h4=> ?_,fun x h1 h2 h3=> ?_,fun r h1 h2 h3=> ?_⟩
 ·rw[b8,b8];exact h.lm r
 ·rw[ji];exact b1
 ·rw[b8];exact b2
 ·by_cases e:r=i∧x=c+1
  ·rw[e.1,e.2,e0];exact h.pos _ _
  ·rw[en r x e];exact h.pos _ _
 ·rw[b8]at h2
  by_cases e:r=i∧x=c+1
  ·rw[e.1,e.2,e0];exact hvn
  ·rw[en r x e];exact h.num r x h1 h2 e
 ·rw[b8]at h2
  by_cases e:r=i∧x=c+1
  ·obtain⟨rfl,rfl⟩:=e
   rw[e0,en _ _ (by omega)]
   exact h.Ix c rfl hq h2
  ·rw[en r x e]
   by_cases e':r=i∧x+1=c+1
   ·exact(h3 ⟨e'.1,by omega⟩).elim
   ·rw[en r (x+1) e'];exact h.row r x h1 h2 e e'
 ·rw[b8]at h2
  by_cases e:r=i∧x=c+1
  ·obtain⟨rfl,rfl⟩:=e
   rw[e0,en _ _ (by omega)]
   have h5:=h.col r c hq (by omega) (by omega) (by omega)
   have h6:=h.row (r+1) c (by omega) h2 (by omega) (by omega)
   omega
  ·rw[en r x e]
   by_cases e':r+1=i∧x=c+1
   ·obtain⟨rfl,rfl⟩:=e'
    rw[e0]
    unfold BE at hu
    rw[if_neg (by omega),show r+1-1=r by omega]at hu
    exact hu
   ·rw[en (r+1) x e']
    exact h.col r x h1 h2 e e'
 ·rw[b8]at h3
  subst h1
  rw[en _ _ (by omega),e0]
  exact h.row i x h2 b2 (by omega) (by omega)
 ·rw[b8]at h3
  rw[en _ _ (by omega),en _ _ (by omega)]
  subst h1
  have h5:=h.col r c h2 b2 (by omega) (by omega)
  have h6:=h.col (r+1) c hq h3 (by omega) (by omega)
  omega
end Go.Am.Pu
end
section
/- What a slide outwards leaves is a tableau; slides in and out undo each other. Plain words. -/
namespace Go.Am.Pu
theorem D6{q o:List Int}{g:List (List Int)}(hq:aX q=true)(ho:aX o=true)(hin: ∀r,q.getD r 0≤o.getD r 0)(hl: ∀r,r<o.length→((g.getD r []).length:Int)=o.getD r 0)
  (num: ∀r x:Nat,r<o.length→q.getD r 0≤x→(x:Int)<o.getD r 0→1≤cel g r x∧cel g r x≤9)
  (row: ∀r x:Nat,r<o.length→q.getD r 0≤x→(x:Int)+1<o.getD r 0→cel g r x≤cel g r (x+1))
  (col: ∀r x:Nat,r+1<o.length→q.getD r 0≤x→(x:Int)<o.getD (r+1) 0→cel g r x<cel g (r+1) x):
  eI (q,dA q g o.length)=true∧outer (q,dA q g o.length)=o:=by
 have q0:=fun r=>(mC hq r).1
 generalize hR:dA q g o.length=R
 have hRl:R.length=o.length:=by rw[←hR,jf]
 have cell: ∀{r k:Nat},r<R.length→k<(R.getD r []).length→((q.getD r 0).toNat+k:Int)<o.getD r 0∧(R.getD r []).getD k 0=cel g r ((q.getD r 0).toNat+k):=by
  intro r k hr hk
  subst hR
  rw[kD (by omega)]at hk⊢
  rw[List.length_drop]at hk
  have:=hl r (by omega)
  refine⟨by omega,?_⟩
  rw[ya];rfl
 have zW: ∀{r:Nat},r<R.length→o.getD r 0=q.getD r 0+((R.getD r []).length:Int):=by
  intro r hr
  subst hR
  rw[kD (by omega),List.length_drop]
  have:=hl r (by omega)
  have:=hin r
  have:=q0 r
  omega
 have hout:outer (q,R)=o:=by
  refine List.ext_getElem (by rw[dx];exact hRl) fun r h1 h2=> ?_
  rw[←an h1 0,←an h2 0]
  have h3:r<R.length:=by omega
  have:=fg q R 0 r h3
  rw[Nat.zero_add]at this
  unfold outer
  rw[this]
  exact(zW h3).symm
 refine⟨?_,hout⟩
 have hlen:q.length≤R.length:=by
  refine Nat.le_of_not_lt fun hlt=> ?_
  have a:=so hq hlt
  have b:=hin R.length
  rw[bo (xs:=o) (by omega)]at b
  omega
 have om:=fN ho
 have qm:=fN hq
 simp only[eI,cX,aJ,Bool.and_eq_true,decide_eq_true_eq]
 rw[hout]
 refine⟨⟨hq,hlen,hq,ho,by omega,?_⟩,?_⟩
 ·rw[cG]
  intro r _
  exact decide_eq_true (hin r)
 ·rw[cG]
  intro r hr
  rw[cG]
  intro k hk
  have hqr:=q0 r
  obtain⟨c1,c4⟩:=cell hr hk
  have hnum:=num r ((q.getD r 0).toNat+k) (by omega) (by omega) (by omega)
  simp only[fp,within,Bool.and_eq_true,Bool.or_eq_true,decide_eq_true_eq]
  rw[c4]
  refine⟨hnum,?_,?_⟩
  ·cases k with
   |zero=>exact .inl rfl
   |succ k=>
    obtain⟨d1,d4⟩:=cell hr (show k<(R.getD r []).length by omega)
    right
    rw[show k+1-1=k from rfl,d4]
    exact row r ((q.getD r 0).toNat+k) (by omega) (by omega) (by omega)
  ·cases r with
   |zero=>exact .inl rfl
   |succ r=>
    right
    have hr':r<R.length:=by omega
    have em:((r+1:Nat):Int)-1=(r:Int):=by omega
    rw[em,iL hr']
    have hqr:=q0 r
    have hqm:=qm r
    have hrl:=zW hr'
    have hom:=om r
    simp only
    by_cases e:q.getD (r+1) 0+(k:Int)<q.getD r 0
    ·rw[mD (by omega)];omega
    ·obtain⟨y,hy⟩: ∃y:Nat,q.getD (r+1) 0+(k:Int)-q.getD r 0=y:=⟨(q.getD (r+1) 0+(k:Int)-q.getD r 0).toNat,by omega⟩
     rw[hy,dn]
     obtain⟨d1,d4⟩:=cell hr' (show y<(R.getD r []).length by omega)
     have ey:(q.getD r 0).toNat+y=(q.getD (r+1) 0).toNat+k:=by omega
     rw[d4,ey]
     exact col r _ (by omega) (by omega) (by omega)
section
variable {t : Tab} {n : Nat} {p : List Int}
def th(t:Tab)(n:Nat)(p:List Int):List (List Int)×(Nat×Nat):=sI 18 (G3 t n) n (p.getD n 0-1).toNat
structure GV (t : Tab) (n : Nat) (p : List Int) (g : List (List Int)) (i c : Nat) (q : List Int) : Prop where
  sl : Sl t.1 g i c
  inn : Inn t.1 g
  len : g.length = p.length
  row : ∀ r, ((g.getD r []).length : Int) = p.getD r 0
  l0 : leftOf g i c = 0
  u0 : BE g i c = 0
  add : cW t.1 i = (q, true)
  qi : q.getD i 0 = c + 1
  qr : ∀ r, q.getD r 0 = if r = i then (c : Int) + 1 else t.1.getD r 0
  qp : aX q = true
  ins : ∀ r, q.getD r 0 ≤ p.getD r 0
def ud(t:Tab)(n:Nat):Tab×Nat:=
 let p:=(cW (outer t) n).1
 let s:=th t n p
 let q:=(cW t.1 s.2.1).1
 ((q,dA q s.1 p.length),s.2.1)
theorem GV.tab{g:List (List Int)}{i c:Nat}{q:List Int}(E:GV t n p g i c q)(hp:cW (outer t) n=(p,true)):eI (q,dA q g p.length)=true∧outer (q,dA q g p.length)=p:=by
 obtain⟨b1,b2,b3,b4,b5⟩:=iR hp
 have hq:=E.sl.hq
 have old: ∀r x:Nat,q.getD r 0≤x→t.1.getD r 0≤x∧ ¬(r=i∧x=c):=fun r x hx=>by
  rw[E.qr]at hx
  by_cases e:r=i
  ·rw[if_pos e]at hx
   rw[e]
   exact⟨by omega,by omega⟩
  ·rw[if_neg e]at hx;exact⟨hx,fun e'=>e e'.1⟩
 refine D6 E.qp b5 E.ins (fun r _=>E.row r) (fun r x _ h1 h2=> ?_) (fun r x _ h1 h2=> ?_) (fun r x _ h1 h2=> ?_)
 ·have:=E.row r
  exact E.sl.num r x (old r x h1).1 (by omega) (old r x h1).2
 ·have:=E.row r
  exact E.sl.row r x (old r x h1).1 (by omega) (old r x h1).2 (by have:=(old r (x+1) (by omega)).2;exact this)
 ·have:=E.row (r+1)
  have hm:=fN E.qp r
  exact E.sl.col r x (old r x h1).1 (by omega) (old r x h1).2 (by have:=(old (r+1) x (by omega)).2;exact this)
theorem GV.eq{q:List Int}(E:GV t n p (th t n p).1 (th t n p).2.1 (th t n p).2.2 q)(hp:cW (outer t) n=(p,true)):ud t n=((q,dA q (th t n p).1 p.length),(th t n p).2.1):=by
 unfold ud
 rw[hp]
 simp only[E.add]
end
section
variable {t : Tab} {n : Nat}
end
end Go.Am.Pu
end
section
/- Words of tableaux; the rows of a slide outwards. Plain words. -/
namespace Go.Am.Pu
def HW(a n m:Nat)(t:Tab):Prop:=t.1.length≤a∧eu n m t.2
theorem HW.tab{a n m:Nat}{t:Tab}(h:HW a n m t)(ha:a≤1048576)(hn:n≤1048576)(hm:m≤1048576):t.1.length≤1048576∧t.2.length≤1048576∧ ∀x∈t.2,x.length≤1048576:=
 ⟨Nat.le_trans h.1 ha,Nat.le_trans h.2.1 hn,fun x hx=>Nat.le_trans (h.2.2 x hx) hm⟩
end Go.Am.Pu
end
section
/- Partitions that are drawn; chains of partitions. Plain words. -/
namespace Go.Am.Pu
end Go.Am.Pu
end
section
/- Plain laws: tableaux side by side; a number's copies. -/
namespace Go.Am.Pu
open Go Go.Am
attribute [local instance] D.real
theorem Fv{n:Int}(h0:0≤n)(h1:n<18446744073709551616):IntKind.u64.wrap n=n:=by
 show n % 18446744073709551616=n
 exact Int.emod_eq_of_lt h0 h1
theorem Fc{n:Nat}(h:n<4294967296):D.shrI .u64 (n:Int) 32=0:=by
 show(n:Int).fdiv (2^32)=0
 rw[Int.fdiv_eq_ediv_of_nonneg _ (by decide)]
 exact Int.ediv_eq_zero_of_lt (by omega) (by omega)
theorem FV{n:Nat}(h:n<4294967296):D.andI .u64 (n:Int) 4294967295=n:=by
 show IntKind.u64.wrap (((BitVec.ofInt 64 (n:Int)&&&BitVec.ofInt 64 4294967295).toNat:Nat):Int)=_
 have e:(BitVec.ofInt 64 (n:Int)&&&BitVec.ofInt 64 4294967295).toNat=n:=by
  rw[BitVec.toNat_and]
  have e1:(BitVec.ofInt 64 (n:Int)).toNat=n:=by
   rw[BitVec.toNat_ofInt]
   omega
  have e2:(BitVec.ofInt 64 4294967295).toNat=2^32-1:=by decide
  rw[e1,e2,Nat.and_two_pow_sub_one_eq_mod]
  exact Nat.mod_eq_of_lt h
 rw[e]
 exact Fv (by omega) (by omega)
end Go.Am.Pu
end
section
/- Plain laws: boxes that lead on to an outer partition; chains. -/
namespace Go.Am.Pu
open Go Go.Am
attribute [local instance] D.real
theorem kt{p q:List Int}(h:aJ p q=true)(i:Nat):p.getD i 0≤q.getD i 0:=by
 rw[mu]at h
 simp only[Bool.and_eq_true]at h
 rcases Nat.lt_or_ge i p.length with hi|hi
 ·have:=cG.1 h.2.2 i hi
  simpa using this
 ·rw[bo hi];exact(mC h.2.1 i).1
theorem eU{p q:List Int}(h:aJ p q=true):aX p=true∧aX q=true:=by
 rw[mu]at h
 simp only[Bool.and_eq_true]at h
 exact⟨h.1,h.2.1⟩
theorem rH{p q:List Int}(hp:aX p=true)(hq:aX q=true)(h: ∀i,p.getD i 0≤q.getD i 0):aJ p q=true:=by
 rw[mu,hp,hq]
 simp only[Bool.true_and]
 exact cG.2 fun i _=>decide_eq_true (h i)
theorem sum_add{p o:List Int}{r:Nat}(hp:aX p=true)(h:cW p r=(o,true)):aT o=aT p+1:=by
 obtain⟨_,b2,_,_,b5⟩:=iR h
 obtain⟨e,hc⟩:=FK hp h
 have:=AM b5 b2 hc
 rw[e]at this
 omega
theorem D0{P:Nat→Prop} [DecidablePred P]: ∀(n:Nat),P n→ ∃m,P m∧ ∀i,i<m→ ¬P i:=by
 intro n
 induction n using Nat.strongRecOn with
 |_ n ih=>
  intro h
  by_cases hm: ∃m,m<n∧P m
  ·obtain⟨m,h1,h2⟩:=hm;exact ih m h1 h2
  ·exact⟨n,h,fun i hi hP=>hm ⟨i,hi,hP⟩⟩
theorem Hy{p q:List Int}(h:aJ p q=true)(hs:aT p<aT q): ∃(r:Nat) (o:List Int),r≤p.length∧cW p r=(o,true)∧aJ o q=true:=by
 obtain⟨hp,hq⟩:=eU h
 have hle:=kt h
 have hex: ∃i,p.getD i 0<q.getD i 0:=by
  refine Classical.byContradiction fun hn=> ?_
  have: ∀i,q.getD i 0≤p.getD i 0:=fun i=>Int.not_lt.1 fun hlt=>hn ⟨i,hlt⟩
  have:=(sC this).1
  omega
 obtain⟨i,hi⟩:=hex
 obtain⟨r,hr,hmin⟩:=D0 (P:=fun i=>p.getD i 0<q.getD i 0) i hi
 have hrl:r≤p.length:=by
  refine Nat.le_of_not_lt fun hlt=> ?_
  have h1:=hmin p.length hlt
  have h2:p.getD p.length 0=0:=bo (Nat.le_refl _) 0
  have h3:=BC hq p.length (r-p.length)
  rw[show p.length+(r-p.length)=r by omega]at h3
  have h4:=(mC hp r).1
  omega
 have hsq:=(aH hq).2.1
 obtain⟨o,ho⟩:=xK hp hrl (by
  rcases Nat.eq_zero_or_pos r with h0|h0
  ·exact .inl h0
  ·right
   have h1:=hmin (r-1) (by omega)
   have h2:=fN hq (r-1)
   rw[show r-1+1=r by omega]at h2
   omega) (by omega)
 refine⟨r,o,hrl,ho,?_⟩
 obtain⟨_,_,_,b4,b5⟩:=iR ho
 refine rH b5 hq fun i=> ?_
 rw[b4]
 split
 ·next e=>subst e;omega
 ·exact hle i
def Ch(c:List (List Int)):Prop:=1≤c.length∧c.length≤10∧ ∀x∈c,H6 9 x
theorem cz{p:List Int}(h:aX p=true):H6 9 p:=⟨(aH h).2.2.1,(aH h).1⟩
def bD(c:List (List Int)):List Int:=c.getD (c.length-1) []
theorem j6(c:List (List Int))(o:List Int):bD (c++ [o])=o:=by
 unfold bD
 rw[List.length_append,List.length_singleton,Nat.add_sub_cancel,List.getD_eq_getElem?_getD,List.getElem?_append_right (Nat.le_refl _),Nat.sub_self]
 rfl
def fct:Nat→Nat
 |0=>1
 |n+1=>(n+1)*fct n
theorem FU{d:Nat}(h:d≤9):1≤fct d∧fct d≤362880:=by
 have: ∀d,d<10→1≤fct d∧fct d≤362880:=by decide
 exact this d (by omega)
theorem xy(w:List Int)(r:Nat):aT (w.take (r+1))=aT (w.take r)+w.getD r 0:=by
 rcases Nat.lt_or_ge r w.length with h|h
 ·rw[take_succ h 0,BK];simp[aT]
 ·rw[List.take_of_length_le (by omega),List.take_of_length_le (by omega),bo h];simp
end Go.Am.Pu
end
section
/- Plain laws: the local rule of insertion; exchanging places and numbers exchanges the two tableaux. -/
namespace Go.Am.Pu
end Go.Am.Pu
end
section
/- Plain laws: places and numbers exchanged: the tableau of the one is the recording of the other. -/
namespace Go.Am.Pu
def wd(L:List (Int×Int)):List Int:=L.map Prod.snd
def at1(s r:Nat):Nat:=if s=r then 1 else 0
structure Tr (L M : List (Int × Int)) : Prop where
  sl : L.Pairwise fun p q => p.1 < q.1
  sm : M.Pairwise fun p q => p.1 < q.1
  perm : M.Perm (L.map Prod.swap)
theorem Tr.symm{L M:List (Int×Int)}(h:Tr L M):Tr M L:=by
 refine⟨h.sm,h.sl,?_⟩
 have:=(h.perm.map Prod.swap).symm
 rwa [List.map_map,Prod.swap_swap_eq,List.map_id]at this
theorem Tr.len{L M:List (Int×Int)}(h:Tr L M):M.length=L.length:=by simpa using h.perm.length_eq
theorem Tr.mem{L M:List (Int×Int)}(h:Tr L M){p:Int×Int}(hp:p∈L):p.swap∈M:=h.perm.mem_iff.2 (List.mem_map_of_mem hp)
theorem Hz{A B:List (Int×Int)}{x:Int×Int}:(A++B).Sublist (A++x::B):=(List.Sublist.refl A).append (List.sublist_cons_self x B)
theorem Tr.cut{L0 A B:List (Int×Int)}{p:Int×Int}(h:Tr (L0++ [p]) (A++p.swap::B)):Tr L0 (A++B):=by
 refine⟨(List.pairwise_append.1 h.sl).1,h.sm.sublist Hz,?_⟩
 have h1:(A++p.swap::B).Perm (p.swap::(A++B)):=List.perm_middle
 have h2:((L0++ [p]).map Prod.swap).Perm (p.swap::L0.map Prod.swap):=by
  rw[List.map_append]
  exact List.perm_append_comm
 exact(List.perm_cons _).1 (h1.symm.trans (h.perm.trans h2))
theorem E8{L0:List (Int×Int)}{p:Int×Int}(h:(L0++ [p]).Pairwise fun p q=>p.1<q.1): ∀x∈L0,x.1<p.1:=fun x hx=>(List.pairwise_append.1 h).2.2 x hx p (by simp)
theorem Tr.top{L M0:List (Int×Int)}{q:Int×Int}(h:Tr L (M0++ [q])): ∀x∈L,x≠q.swap→x.2<q.1:=fun x hx hne=>by
 have hm:=h.mem hx
 rcases List.mem_append.1 hm with h1|h1
 ·exact E8 h.sm _ h1
 ·simp only[List.mem_singleton]at h1
  exact absurd (by rw[←h1,Prod.swap_swap]) hne
end Go.Am.Pu
end
section
/- Plain laws: taking a cell out undoes an insertion. -/
namespace Go.Am.Pu
structure Tk (rs : List (List Int)) (a : Nat) (R : List (List Int)) (y : Int) : Prop where
  ins : cq R y = (rs, a)
  ssr : SSR R
  pos : ∃ p, p < (rs.getD 0 []).length ∧ y = (rs.getD 0 []).getD p 0 ∧ (R.getD 0 []).length ≤ (rs.getD 0 []).length ∧ (∀ i, i < (R.getD 0 []).length → (rs.getD 0 []).getD i 0 ≤ (R.getD 0 []).getD i 0) ∧
    ∀ i, p ≤ i → i < (R.getD 0 []).length → y < (R.getD 0 []).getD i 0
end Go.Am.Pu
end
section
/- Plain laws: a removed number inserted again; a pair is what its word makes; the inverse of a permutation. -/
namespace Go.Am.Pu
end Go.Am.Pu
end
section
/- Plain laws: the inverse of a permutation; words that are their own standardization. -/
namespace Go.Am.Pu
section
variable {w : List Int} (h : isWord w = true) (ho : mI w = true)
include h ho
end
end Go.Am.Pu
end
section
/- Standardization step by step; what the law of the pairs wants, with no program in sight. -/
namespace Go.Am.Pu
set_option linter.unusedSimpArgs false
set_option linter.unusedVariables false
def pc(w:List Int)(i q:Nat):Nat:=((List.range q).filter fun k=>decide (w.getD k 0<w.getD i 0)||(decide (w.getD k 0=w.getD i 0)&&decide (k<i))).length
end Go.Am.Pu
end
section
/- Plain laws: insertion of letters told anew; insertion and recording of pairs in order, with repeats. -/
namespace Go.Am.Pu
set_option linter.unusedVariables false
section
variable {f : Int → Int} (hf : ∀ a b, a ≤ b → f a ≤ f b)
include hf
omit hf in
end
def Lex(p q:Int×Int):Prop:=p.1<q.1∨(p.1=q.1∧p.2≤q.2)
def dec(v:Int):Int:=v/100
end Go.Am.Pu
end
section
/- Plain laws: the word of a recorded pair is the word; a recording with repeats, told by standard numbers. -/
namespace Go.Am.Pu
set_option linter.unusedVariables false
theorem EV{X Y:List (List Int)}(h:fC X Y)(he: ∀r x,r<X.length→x<(X.getD r []).length→cel X r x=cel Y r x):X=Y:=by
 refine Gb (d:= []) h.1 fun r hr=>Gb (d:=0) (h.2 r) fun x hx=>he r x hr hx
end Go.Am.Pu
end
section
/- Plain laws: pairs in order and their two tableaux. -/
namespace Go.Am.Pu
set_option linter.unusedVariables false
def POK(L:List (Int×Int)):Prop:=L.length≤9∧ ∀p∈L,(1≤p.1∧p.1≤9)∧1≤p.2∧p.2≤9
theorem POK.word{L:List (Int×Int)}(h:POK L):isWord (wd L)=true:=by
 unfold isWord within
 simp only[Bool.and_eq_true,decide_eq_true_eq,List.all_eq_true,wd,List.length_map]
 refine⟨h.1,fun x hx=> ?_⟩
 obtain⟨p,hp,rfl⟩:=List.mem_map.1 hx
 exact(h.2 p hp).2
section
variable {L : List (Int × Int)} (h : POK L) (hl : L.Pairwise Lex)
include h
theorem Iv:cQ (([],qF (wd L) [] [] 0):Tab)=true∧jh (([],qF (wd L) [] [] 0):Tab)=true∧(qF (wd L) [] [] 0).flatten.length=L.length:=by
 have hw:=h.word
 have:=wc hw
 unfold l6 at this
 rw[if_pos hw]at this
 simpa[wd]using this
theorem ij{r x i:Nat}(hi:i<L.length)(hr:r<(qF (wd L) [] [] 0).length)(hx:x<((qF (wd L) [] [] 0).getD r []).length)(e:cel (qF (wd L) [] [] 0) r x=((i+1:Nat):Int)):(Du (wd L) []).getD i 0=r:=by
 obtain⟨p1,p2,p3⟩:=Iv h
 have a:=(Aq h.word).2 i (by simpa[wd]using hi)
 have b:=kj p1 p2 hr hx e
 omega
include hl
end
end Go.Am.Pu
end
section
/- Plain laws: matrices and their pairs. -/
namespace Go.Am.Pu
set_option linter.unusedVariables false
set_option linter.unusedSimpArgs false
def IQ(c:Nat)(r:List Int):Bool:=decide (r.length=c)&&(decide (r.length≤9)&&r.all fun n=>within n 0 9)
def wo(m:List (List Int)):Bool:=decide (m.length≤9)&&(m.all (IQ (m.getD 0 []).length)&&decide (aT m.flatten≤9))
structure Ie (r c : Nat) (m : List (List Int)) : Prop where
  len : m.length = r
  r9 : r ≤ 9
  row : ∀ x ∈ m, x.length = c
  c9 : ∀ x ∈ m, x.length ≤ 9
  num : ∀ x ∈ m, ∀ n ∈ x, 0 ≤ n ∧ n ≤ 9
  sum : aT m.flatten ≤ 9
theorem zl{m:List (List Int)}:wo m=true↔Ie m.length (m.getD 0 []).length m:=by
 unfold wo IQ within
 simp only[Bool.and_eq_true,decide_eq_true_eq,List.all_eq_true]
 constructor
 ·rintro⟨a,b,c⟩
  exact⟨rfl,a,fun x hx=>(b x hx).1,fun x hx=>(b x hx).2.1,fun x hx=>(b x hx).2.2,c⟩
 ·rintro⟨_,a,b,c,d,e⟩
  exact⟨a,fun x hx=>⟨b x hx,c x hx,d x hx⟩,e⟩
theorem Ie.is{r c:Nat}{m:List (List Int)}(h:Ie r c m):wo m=true:=by
 rw[zl]
 cases m with
 |nil=>exact⟨rfl,Nat.zero_le _,fun x hx=>(by cases hx),fun x hx=>(by cases hx),fun x hx=>(by cases hx),h.sum⟩
 |cons a m=>
  have:=h.row a (List.mem_cons_self ..)
  exact⟨rfl,by rw[h.len];exact h.r9,fun x hx=>by rw[List.getD_cons_zero,this];exact h.row x hx,h.c9,h.num,h.sum⟩
end Go.Am.Pu
end
section
/- Plain laws: a matrix is told by its two tableaux, and turning it exchanges them. -/
namespace Go.Am.Pu
set_option linter.unusedVariables false
end Go.Am.Pu
end
section
/- Plain laws: what the functions on matrices make step by step. -/
namespace Go.Am.Pu
set_option linter.unusedVariables false
end Go.Am.Pu
end
section
/- Plain laws: insertion by columns keeps the word's class. -/
namespace Go.Am.Pu
set_option linter.unusedVariables false
def gK(c:List Int)(x:Int):Nat:=c.findIdx fun n=>decide (x≤n)
def B9:List (List Int)→Int→List (List Int)
 | [],x=> [[x]]
 |c::cs,x=>if gK c x<c.length then c.set (gK c x) x::B9 cs (c.getD (gK c x) 0)else(c++ [x])::cs
end Go.Am.Pu
end
section
/- Plain laws: columns and rows of a tableau; insertion by columns keeps it a tableau. -/
namespace Go.Am.Pu
set_option linter.unusedVariables false
def C6(c:List Int):List (List Int)→Prop
 | []=>True
 |d::_=>d.length≤c.length∧ ∀q,q<d.length→c.getD q 0≤d.getD q 0
def CC:List (List Int)→Prop
 | []=>True
 |c::cs=>0<c.length∧c.Pairwise (· < ·)∧C6 c cs∧CC cs
theorem Dt{c:List Int}(h:c.Pairwise (· < ·)){i j:Nat}(hij:i<j)(hj:j<c.length):c.getD i 0<c.getD j 0:=by
 rw[List.pairwise_iff_getElem]at h
 rw[an (by omega),an hj]
 exact h i j (by omega) hj hij
theorem IM{c:List Int}(h:c.Pairwise (· < ·)){i j:Nat}(hij:i≤j)(hj:j<c.length):c.getD i 0≤c.getD j 0:=by
 rcases Nat.lt_or_ge i j with q|q
 ·have:=Dt h q hj;omega
 ·rw[show i=j by omega];exact Int.le_refl _
theorem Bs{c:List Int}(h: ∀i j,i<j→j<c.length→c.getD i 0<c.getD j 0):c.Pairwise (· < ·):=by
 rw[List.pairwise_iff_getElem]
 intro i j hi hj hij
 have:=h i j hij hj
 rwa [an hi,an hj]at this
theorem DK{c:List Int}{x:Int}(h:gK c x<c.length):x≤c.getD (gK c x) 0:=by
 have:=List.findIdx_getElem (w:=h) (p:=fun n=>decide (x≤n))
 rw[an h];exact of_decide_eq_true this
theorem yT{c:List Int}{x:Int}{i:Nat}(h:i<gK c x):c.getD i 0<x:=by
 have hl:i<c.length:=Nat.lt_of_lt_of_le h List.findIdx_le_length
 have:=List.not_of_lt_findIdx (p:=fun n=>decide (x≤n)) (xs:=c) h
 have:=of_decide_eq_false this
 rw[an hl];omega
theorem yU{c:List Int}{x:Int}:gK c x≤c.length:=List.findIdx_le_length
theorem HC{c:List Int}{x:Int}(h:c.Pairwise (· < ·))(hk:gK c x<c.length):(c.set (gK c x) x).Pairwise (· < ·):=Bs fun i j hij hj=>by
 rw[List.length_set]at hj
 rw[gA x hk,gA x hk]
 have ha:=DK hk
 by_cases ci:i=gK c x
 ·rw[if_pos ci,if_neg (by omega)]
  have:=Dt h (i:=gK c x) (j:=j) (by omega) hj
  omega
 ·rw[if_neg ci]
  by_cases cj:j=gK c x
  ·rw[if_pos cj];exact yT (by omega)
  ·rw[if_neg cj];exact Dt h hij hj
theorem HP{c:List Int}{x:Int}(h:c.Pairwise (· < ·))(hk: ¬gK c x<c.length):(c++ [x]).Pairwise (· < ·):=Bs fun i j hij hj=>by
 rw[List.length_append,List.length_singleton]at hj
 rw[fj,fj]
 by_cases cj:j=c.length
 ·rw[if_neg (by omega),if_pos cj];exact yT (by have:= @yU c x;omega)
 ·rw[if_neg (by omega),if_neg cj];exact Dt h hij (by omega)
theorem Ei{c:List Int}{x:Int}{cs:List (List Int)}(h:c.Pairwise (· < ·))(hk:gK c x<c.length)(ho:C6 c cs)(hc:CC cs):C6 (c.set (gK c x) x) (B9 cs (c.getD (gK c x) 0)):=by
 have hy:=DK hk
 have hle: ∀q,q<c.length→(c.set (gK c x) x).getD q 0≤c.getD q 0:=fun q hq=>by
  rw[gA x hk]
  split
  ·next e=>rw[e];exact hy
  ·exact Int.le_refl _
 have hset: ∀q,q≤gK c x→(c.set (gK c x) x).getD q 0≤c.getD (gK c x) 0:=fun q hq=>by
  have:=hle q (by omega)
  have:=IM h hq hk
  omega
 cases cs with
 |nil=>
  refine⟨by show 1≤_;rw[List.length_set];omega,fun q hq=> ?_⟩
  have hq:q<1:=hq
  rw[show q=0 by omega]
  exact hset 0 (Nat.zero_le _)
 |cons d ds=>
  obtain⟨o1,o2⟩:=ho
  have hk':gK d (c.getD (gK c x) 0)≤gK c x:=Nat.le_of_not_lt fun hlt=>by
   have hd:gK c x<d.length:=by have:= @yU d (c.getD (gK c x) 0);omega
   have a:=yT hlt
   have b:=o2 _ hd
   omega
  show C6 _ (if gK d (c.getD (gK c x) 0)<d.length then _ else _)
  by_cases g:gK d (c.getD (gK c x) 0)<d.length
  ·rw[if_pos g]
   refine⟨by rw[List.length_set,List.length_set];exact o1,fun q hq=> ?_⟩
   rw[List.length_set]at hq
   rw[gA _ g]
   split
   ·next e=>exact hset q (by omega)
   ·have:=hle q (by omega)
    have:=o2 q hq
    omega
  ·rw[if_neg g]
   have e:gK d (c.getD (gK c x) 0)=d.length:=by have:= @yU d (c.getD (gK c x) 0);omega
   refine⟨by rw[List.length_set,List.length_append,List.length_singleton];omega,fun q hq=> ?_⟩
   rw[List.length_append,List.length_singleton]at hq
   rw[fj]
   split
   ·next e2=>exact hset q (by omega)
   ·have:=hle q (by omega)
    have:=o2 q (by omega)
    omega
theorem FI: ∀(C:List (List Int)) (x:Int),CC C→CC (B9 C x)
 | [],x,_=>⟨by simp,by simp,trivial,trivial⟩
 |c::cs,x,⟨h1,h2,h3,h4⟩=>by
  show CC (if gK c x<c.length then _ else _)
  by_cases g:gK c x<c.length
  ·rw[if_pos g]
   exact⟨by rw[List.length_set];exact h1,HC h2 g,Ei h2 g h3 h4,FI cs _ h4⟩
  ·rw[if_neg g]
   refine⟨by rw[List.length_append,List.length_singleton];omega,HP h2 g,?_,h4⟩
   cases cs with
   |nil=>trivial
   |cons d ds=>
    obtain⟨o1,o2⟩:=h3
    exact⟨by rw[List.length_append,List.length_singleton];omega,fun q hq=>by rw[fj,if_neg (by omega)];exact o2 q hq⟩
theorem zd: ∀{C:List (List Int)},CC C→(∀c∈C,0<c.length∧c.Pairwise (· < ·))∧ ∀i,i+1<C.length→(C.getD (i+1) []).length≤(C.getD i []).length∧ ∀q,q<(C.getD (i+1) []).length→(C.getD i []).getD q 0≤(C.getD (i+1) []).getD q 0
 | [],_=>⟨fun c hc=>(by cases hc),fun i hi=>(by simp at hi)⟩
 |c::cs,⟨h1,h2,h3,h4⟩=>by
  obtain⟨a,b⟩:=zd h4
  refine⟨fun d hd=> ?_,fun i hi=> ?_⟩
  ·rcases List.mem_cons.1 hd with rfl|hd
   ·exact⟨h1,h2⟩
   ·exact a d hd
  ·cases i with
   |zero=>
    cases cs with
    |nil=>simp at hi
    |cons d ds=>exact h3
   |succ i=>exact b i (by simpa using hi)
def mE:List Int→List (List Int)→List (List Int)
 | [],C=>C
 |n::r,[]=> [n]::mE r []
 |n::r,c::C=>(n::c)::mE r C
def dz:List (List Int)→List (List Int)
 | []=> []
 |r::rs=>mE r (dz rs)
def Reg(t:List (List Int)):Prop:=(∀r∈t,0<r.length)∧ ∀i,i+1<t.length→(t.getD (i+1) []).length≤(t.getD i []).length
theorem Reg.tail{r:List Int}{rs:List (List Int)}(h:Reg (r::rs)):Reg rs∧(rs.getD 0 []).length≤r.length:=by
 refine⟨⟨fun s hs=>h.1 s (List.mem_cons_of_mem _ hs),fun i hi=>h.2 (i+1) (by simpa using hi)⟩,?_⟩
 cases rs with
 |nil=>exact Nat.zero_le _
 |cons s rs=>exact h.2 0 (by simp)
theorem ta: ∀(r:List Int) (C:List (List Int)),C.length≤r.length→(mE r C).length=r.length
 | [],C,h=>by simp at h;subst h;rfl
 |n::r,[],_=>by simp[mE,ta r [] (Nat.zero_le _)]
 |n::r,c::C,h=>by simp[mE,ta r C (by simpa using h)]
theorem sL: ∀(r:List Int) (C:List (List Int)) (q:Nat),C.length≤r.length→(mE r C).getD q []=if q<r.length then r.getD q 0::C.getD q []else []
 | [],C,q,h=>by simp at h;subst h;simp[mE]
 |n::r,[],0,_=>by simp[mE]
 |n::r,[],q+1,_=>by
  have:=sL r [] q (Nat.zero_le _)
  simp only[mE,List.getD_cons_succ,this,List.length_cons]
  by_cases h:q<r.length
  ·rw[if_pos h,if_pos (by omega)];simp
  ·rw[if_neg h,if_neg (by omega)]
 |n::r,c::C,0,_=>by simp[mE]
 |n::r,c::C,q+1,h=>by
  have:=sL r C q (by simpa using h)
  simp only[mE,List.getD_cons_succ,this,List.length_cons]
  by_cases g:q<r.length
  ·rw[if_pos g,if_pos (by omega)]
  ·rw[if_neg g,if_neg (by omega)]
theorem o6: ∀{t:List (List Int)},Reg t→(dz t).length=(t.getD 0 []).length
 | [],_=>rfl
 |r::rs,h=>by
  have:=o6 h.tail.1
  exact ta r _ (by rw[this];exact h.tail.2)
theorem lx: ∀{t:List (List Int)},Reg t→ ∀q i,(i<((dz t).getD q []).length↔q<(t.getD i []).length)∧((dz t).getD q []).getD i 0=(t.getD i []).getD q 0
 | [],_,q,i=>by simp[dz]
 |r::rs,h,q,i=>by
  have hl:=o6 h.tail.1
  have ht:=h.tail.2
  have e:=sL r (dz rs) q (by rw[hl];exact ht)
  show(i<((mE r (dz rs)).getD q []).length↔_)∧((mE r (dz rs)).getD q []).getD i 0=_
  rw[e]
  by_cases g:q<r.length
  ·rw[if_pos g]
   cases i with
   |zero=>simp[g]
   |succ i=>
    have:=lx h.tail.1 q i
    simp only[List.length_cons,List.getD_cons_succ]
    exact⟨by rw[←this.1];omega,this.2⟩
  ·rw[if_neg g]
   have hle: ∀i,((r::rs).getD i []).length≤r.length:=by
    intro i
    induction i with
    |zero=>simp
    |succ i ih=>
     by_cases hi:i+1<(r::rs).length
     ·exact Nat.le_trans (h.2 i hi) ih
     ·rw[List.getD_eq_getElem?_getD,List.getElem?_eq_none (by omega)];exact Nat.zero_le _
   have:=hle i
   refine⟨⟨fun h=>by simp at h,fun h=>by omega⟩,?_⟩
   rw[List.getD_eq_getElem?_getD (l:=(r::rs).getD i []),List.getElem?_eq_none (by omega)]
   simp
theorem Fi{C:List (List Int)}(h:CC C):Reg C:=⟨fun c hc=>((zd h).1 c hc).1,fun i hi=>((zd h).2 i hi).1⟩
end Go.Am.Pu
end
section
/- Plain laws: one step of insertion by columns, seen in the rows. -/
namespace Go.Am.Pu
set_option linter.unusedVariables false
theorem vM{α:Type}{l:List α}{i:Nat}(h:l.length≤i)(d:α):l.getD i d=d:=by
 rw[List.getD_eq_getElem?_getD,List.getElem?_eq_none h];rfl
theorem gss{l:List (List Int)}{i:Nat}(h:i<l.length)(v:List Int):(l.set i v).getD i []=v:=by
 rw[an (by rw[List.length_set];exact h),List.getElem_set_self]
def mh(D:List (List Int))(c:Nat)(x:Int):List (List Int):=if c=D.length then D++ [[x]]else D.set c (D.getD c []++ [x])
theorem BA{D:List (List Int)}{c:Nat}(x:Int)(hc:c≤D.length)(i:Nat):(mh D c x).getD i []=if i=c then D.getD c []++ [x]else D.getD i []:=xF (Q:=D) (a:=c) x hc i
theorem Fy{D:List (List Int)}(h:Reg D){c:Nat}(hc:c≤D.length)(x:Int)(h':Reg (mh D c x)):dz (mh D c x)=mh (dz D) (D.getD c []).length x∧(D.getD c []).length≤(dz D).length∧((dz D).getD (D.getD c []).length []).length=c:=by
 have hg:=BA x hc
 have hlen: ∀i,((mh D c x).getD i []).length=if i=c then(D.getD c []).length+1 else(D.getD i []).length:=fun i=>by
  rw[hg];split
  ·rw[List.length_append,List.length_singleton]
  ·rfl
 have ant: ∀d,(D.getD d []).length≤(D.getD 0 []).length:=by
  intro d
  induction d with
  |zero=>exact Nat.le_refl _
  |succ d ih=>
   by_cases hd:d+1<D.length
   ·exact Nat.le_trans (h.2 d hd) ih
   ·rw[vM (by omega)];exact Nat.zero_le _
 have hrl:(D.getD c []).length≤(dz D).length:=by rw[o6 h];exact ant c
 have hrc:((dz D).getD (D.getD c []).length []).length=c:=by
  refine Nat.le_antisymm (Nat.le_of_not_lt fun hlt=> ?_) (Nat.le_of_not_lt fun hlt=> ?_)
  ·have:=(lx h _ c).1.1 hlt
   omega
  ·
   have a:=(lx h (D.getD c []).length ((dz D).getD (D.getD c []).length []).length).1
   have hc':((dz D).getD (D.getD c []).length []).length<D.length:=by omega
   generalize hm:((dz D).getD (D.getD c []).length []).length=m at*
   have b: ¬(D.getD c []).length<(D.getD m []).length:=fun hh=>by have:=a.2 hh;omega
   have mono: ∀e,m+e≤c→((mh D c x).getD (m+e) []).length≤((mh D c x).getD m []).length:=by
    intro e
    induction e with
    |zero=>intro _;exact Nat.le_refl _
    |succ e ih=>
     intro he
     have hl2:(mh D c x).length=if c=D.length then D.length+1 else D.length:=pT x
     exact Nat.le_trans (h'.2 (m+e) (by rw[hl2];split<;>omega)) (ih (by omega))
   have:=mono (c-m) (by omega)
   rw[show m+(c-m)=c by omega,hlen,hlen,if_pos rfl,if_neg (by omega)]at this
   omega
 refine⟨?_,hrl,hrc⟩
 have hg2:=BA (D:=dz D) (c:=(D.getD c []).length) x hrl
 have hl2:(mh (dz D) (D.getD c []).length x).length=if(D.getD c []).length=(dz D).length then(dz D).length+1 else(dz D).length:=pT x
 have hrow2: ∀i,((mh (dz D) (D.getD c []).length x).getD i []).length=if i=(D.getD c []).length then c+1 else((dz D).getD i []).length:=fun i=>by
  rw[hg2];split
  ·rw[List.length_append,List.length_singleton,hrc]
  ·rfl
 have key: ∀i q,q<((dz (mh D c x)).getD i []).length↔q<((mh (dz D) (D.getD c []).length x).getD i []).length:=fun i q=>by
  rw[(lx h' i q).1,hlen,hrow2]
  have a:=(lx h i q).1
  by_cases e:q=c
  ·subst e
   rw[if_pos rfl]
   by_cases e2:i=(D.getD q []).length
   ·rw[if_pos e2];omega
   ·rw[if_neg e2,a];omega
  ·rw[if_neg e]
   by_cases e2:i=(D.getD c []).length
   ·rw[if_pos e2,←a,e2,hrc];omega
   ·rw[if_neg e2,a]
 have hl:(dz (mh D c x)).length=(mh (dz D) (D.getD c []).length x).length:=by
  rw[o6 h',hlen,hl2,o6 h]
  by_cases e:0=c
  ·subst e
   rw[if_pos rfl,if_pos rfl]
  ·rw[if_neg e]
   split
   ·next e2=>
    exfalso
    have mono: ∀e,e≤c→((mh D c x).getD e []).length≤((mh D c x).getD 0 []).length:=by
     intro e
     induction e with
     |zero=>intro _;exact Nat.le_refl _
     |succ e ih=>
      intro he
      have hl3:(mh D c x).length=if c=D.length then D.length+1 else D.length:=pT x
      exact Nat.le_trans (h'.2 e (by rw[hl3];split<;>omega)) (ih (by omega))
    have:=mono c (Nat.le_refl _)
    rw[hlen,hlen,if_pos rfl,if_neg e]at this
    omega
   ·rfl
 refine EV ⟨hl,fun i=> ?_⟩ fun i q hi hq=> ?_
 ·refine Nat.le_antisymm (Nat.le_of_not_lt fun hlt=> ?_) (Nat.le_of_not_lt fun hlt=> ?_)
  ·have:=(key i _).1 hlt;omega
  ·have:=(key i _).2 hlt;omega
 ·show((dz (mh D c x)).getD i []).getD q 0=((mh (dz D) (D.getD c []).length x).getD i []).getD q 0
  rw[(lx h' i q).2,hg,hg2]
  by_cases e:q=c
  ·rw[if_pos e]
   by_cases e2:i=(D.getD c []).length
   ·rw[if_pos e2,e2,fj,if_pos rfl,fj,if_pos (by rw[hrc];exact e)]
   ·rw[if_neg e2,fj,if_neg e2,(lx h i q).2,e]
  ·rw[if_neg e]
   by_cases e2:i=(D.getD c []).length
   ·rw[if_pos e2,fj,if_neg (by rw[hrc];exact e),(lx h _ q).2,e2]
   ·rw[if_neg e2,(lx h i q).2]
structure wh (C : List (List Int)) (z : Int) (D : List (List Int)) (c : Nat) (x : Int) : Prop where
  same : fC D C
  rest : D.drop c = C.drop c
  inv : D.take c ++ B9 (D.drop c) x = B9 C z
  le : c ≤ D.length
section
variable {C D : List (List Int)} {z x : Int} {c : Nat} (h : CC C) (s : wh C z D c x)
include s
theorem wh.col:D.getD c []=C.getD c []:=by
 have:=congrArg (fun l:List (List Int)=>l.getD 0 []) s.rest
 simp only[List.getD_eq_getElem?_getD,List.getElem?_drop,Nat.add_zero]at this⊢
 exact this
include h
theorem wh.reg:Reg D:=by
 have hr:=Fi h
 refine⟨fun d hd=> ?_,fun i hi=> ?_⟩
 ·obtain⟨i,hi,rfl⟩:=List.getElem_of_mem hd
  rw[←an hi [],s.same.2 i]
  have:i<C.length:=by rw[←s.same.1];exact hi
  exact hr.1 _ (by rw[an this];exact List.getElem_mem this)
 ·rw[s.same.2,s.same.2];exact hr.2 i (by rw[←s.same.1];exact hi)
theorem wh.up:(D.getD c []).Pairwise (· < ·):=by
 rw[s.col]
 by_cases hc:c<C.length
 ·rw[an hc];exact((zd h).1 _ (List.getElem_mem hc)).2
 ·rw[vM (by omega)];exact List.Pairwise.nil
theorem wh.step(hr:gK (D.getD c []) x<(D.getD c []).length):c<D.length∧wh C z (D.set c ((D.getD c []).set (gK (D.getD c []) x) x)) (c+1) ((D.getD c []).getD (gK (D.getD c []) x) 0):=by
 have hc:c<D.length:=Nat.lt_of_not_le fun hle=>by rw[vM hle]at hr;simp at hr
 refine⟨hc,⟨⟨by rw[List.length_set];exact s.same.1,fun i=> ?_⟩,?_,?_,by rw[List.length_set];exact hc⟩⟩
 ·rw[←s.same.2 i]
  by_cases e:i=c
  ·subst e;rw[gss hc,List.length_set]
  ·rw[getD_set_ne (fun h=>e h.symm)]
 ·have:=congrArg List.tail s.rest
  rw[List.tail_drop,List.tail_drop]at this
  rw[List.drop_set_of_lt (Nat.lt_succ_self _)]
  exact this
 ·rw[←s.inv,drop_cons hc [],List.drop_set_of_lt (Nat.lt_succ_self _),List.take_succ_eq_append_getElem (by rw[List.length_set];exact hc),List.take_set_of_le (Nat.le_refl _),List.getElem_set_self]
  show _=D.take c++(if gK (D.getD c []) x<(D.getD c []).length then _ else _)
  rw[if_pos hr]
  simp only[List.append_assoc,List.singleton_append]
theorem wh.fin(hr: ¬gK (D.getD c []) x<(D.getD c []).length):dz (B9 C z)=mh (dz D) (D.getD c []).length x∧(D.getD c []).length≤(dz D).length∧((dz D).getD (D.getD c []).length []).length=c:=by
 have e:mh D c x=B9 C z:=by
  rw[←s.inv]
  unfold mh
  by_cases hc:c=D.length
  ·rw[if_pos hc,hc,List.take_length,List.drop_length];rfl
  ·have hlt:c<D.length:=by have:=s.le;omega
   rw[if_neg hc,drop_cons hlt []]
   show _=D.take c++(if gK (D.getD c []) x<(D.getD c []).length then _ else _)
   rw[if_neg hr,List.set_eq_take_append_cons_drop,if_pos hlt]
 have:=Fy (s.reg h) s.le x (by rw[e];exact Fi (FI C z h))
 rw[e]at this
 exact this
end
end Go.Am.Pu
end
section
/- Plain laws: columns gathered row by row. -/
namespace Go.Am.Pu
set_option linter.unusedVariables false
section
variable {C : List (List Int)} {x : Int} {c : Nat}
end
end Go.Am.Pu
end
section
/- Plain laws: a word turned about and complemented. -/
namespace Go.Am.Pu
set_option linter.unusedVariables false
end Go.Am.Pu
end
section
/- Plain laws: evacuation is insertion of the word turned about. -/
namespace Go.Am.Pu
set_option linter.unusedVariables false
theorem Kn.perm{u v:List Int}(h:Kn u v):u.Perm v:=by
 induction h with
 |refl w=>exact .refl _
 |symm _ ih=>exact ih.symm
 |trans _ _ h1 h2=>exact h1.trans h2
 |tri a b t=>
  refine(List.Perm.append_left a ?_).append_right b
  obtain⟨x,y,z,⟨_,_,rfl,rfl⟩|⟨_,_,rfl,rfl⟩⟩:=t
  ·exact(List.Perm.swap x z []).cons y
  ·exact List.Perm.swap z x [y]
end Go.Am.Pu
end
section
/- Plain laws: evacuating a standard tableau twice. -/
namespace Go.Am.Pu
set_option linter.unusedVariables false
end Go.Am.Pu
end
section
/- Texts as lists of bytes. Plain words. -/
namespace Go.Am.Pu
open Go Go.Am
def tx(l:List UInt8):ByteArray:=⟨l.toArray⟩
theorem mJ(l:List UInt8):(tx l).size=l.length:=rfl
theorem yI(a b:List UInt8):tx a++tx b=tx (a++b):=by
 apply ByteArray.ext
 rw[ByteArray.data_append]
 show a.toArray++b.toArray=(a++b).toArray
 simp
theorem G7(l:List UInt8):(tx l).data.toList=l:=rfl
theorem ok_eq{α:Type}{x:Option α}{v:α}(h:Ok x (· =v)):x=some v:=by
 obtain⟨y,e,hy⟩:=h
 rw[e,hy]
def dcm(n:Int):List UInt8:=Lib.decDigits n.toNat
theorem nE{n:Int}(h:n<10):dcm n= [UInt8.ofNat (48+n.toNat)]:=by
 unfold dcm
 rw[Lib.decDigits,dif_pos (by omega)]
theorem C2{n:Int}(h0:10≤n)(h:n<100):dcm n= [UInt8.ofNat (48+n.toNat/10),UInt8.ofNat (48+n.toNat % 10)]:=by
 unfold dcm
 rw[Lib.decDigits,dif_neg (by omega),Lib.decDigits,dif_pos (by omega)]
 rfl
theorem zf{n:Int}(h:n<100):(dcm n).length≤2:=by
 by_cases c:n<10
 ·rw[nE c];simp
 ·rw[C2 (by omega) h];simp
theorem E4{n:Int}(h0:0≤n)(h:n<100):sH n=some (tx (dcm n)):=by
 unfold sH
 rw[if_pos ⟨h0,h⟩];rfl
theorem DE: ∀(ws:List (List UInt8)) (m:Nat),(∀w∈ws,w.length≤m)→Lib.lens ws≤ws.length*m
 | [],m,_=>by simp[Lib.lens]
 |w::r,m,h=>by
  have h1:=h w (by simp)
  have h2:=DE r m (fun x hx=>h x (by simp[hx]))
  have e:Lib.lens (w::r)=w.length+Lib.lens r:=by simp[Lib.lens]
  rw[e,List.length_cons,Nat.succ_mul]
  omega
theorem Au(ws:List (List UInt8))(sep:List UInt8)(m:Nat)(h: ∀w∈ws,w.length≤m):(Lib.join ws sep).length≤ws.length*(m+sep.length):=by
 cases ws with
 |nil=>simp[Lib.join_nil]
 |cons w r=>
  rw[Lib.join_cons,List.length_append,Lib.joinTail_length,List.length_cons,Nat.succ_mul,Nat.mul_add]
  have h1:=h w (by simp)
  have h2:=DE r m (fun x hx=>h x (by simp[hx]))
  have:=Nat.mul_comm sep.length r.length
  omega
theorem Ee{ws:List (List UInt8)}{sep:List UInt8}(h1:ws.length≤1000)(h2: ∀w∈ws,w.length≤10000)(hs:sep.length≤10):sV (ws.map tx) (tx sep)=some (tx (Lib.join ws sep)):=by
 unfold sV
 have e:(ws.map tx).map (fun s:ByteArray=>s.data.toList)=ws:=by
  rw[List.map_map]
  conv=>rhs;rw[←List.map_id ws]
  rfl
 have e2:(tx sep).data.toList=sep:=rfl
 simp only[e,e2]
 have hl:=Au ws sep 10000 h2
 have:ws.length*(10000+sep.length)≤1000*10010:=Nat.mul_le_mul h1 (by omega)
 rw[if_pos ⟨by rw[List.length_map];omega,by omega⟩]
 rfl
theorem uC: ∀n:Nat,Lib.repeatL [46] n=List.replicate n 46
 |0=>rfl
 |n+1=>by rw[Lib.repeatL,uC n];rfl
theorem Gg{n:Int}(h0:0≤n)(h:n≤1000):ym (tx [46]) n=some (tx (List.replicate n.toNat 46)):=by
 unfold ym
 have e:(tx [46]).size=1:=rfl
 have e2:(tx [46]).data.toList= [46]:=rfl
 rw[e,e2,if_pos ⟨h0,by omega,by omega⟩,uC]
 rfl
theorem C1(ws:List (List UInt8)):Lib.join ws []=ws.flatten:=by
 cases ws with
 |nil=>rfl
 |cons w r=>
  rw[Lib.join_cons]
  unfold Lib.joinTail
  simp
def fA(w:List Int):List UInt8:=w.flatMap dcm
theorem zY(w:List Int):Lib.join (w.map dcm) []=fA w:=by
 rw[C1];rfl
theorem u4{w:List Int}(h: ∀x∈w,x<100):(fA w).length≤w.length*2:=by
 induction w with
 |nil=>simp[fA]
 |cons x r ih=>
  have:=zf (h x (by simp))
  have:=ih (fun y hy=>h y (by simp[hy]))
  simp only[fA,List.flatMap_cons,List.length_append,List.length_cons]at*
  omega
def lZ(t:Tab)(i:Nat):List UInt8:=List.replicate (atI t.1 i).toNat 46++fA (t.2.getD i [])
def aZ(t:Tab):List UInt8:=if eI t=true then(if t.2= []then [45]else Lib.join ((List.range t.2.length).map (lZ t)) [47])else []
end Go.Am.Pu
namespace Go.Am.Pu
end Go.Am.Pu
namespace Go.Am.Pu
end Go.Am.Pu
namespace Go.Am.Pu
theorem iG{t:Tab}(h:eI t=true):eu 9 9 t.2:=by
 obtain⟨h1,h2,h3,h4⟩:=ib h
 obtain⟨b1,_,b3,_⟩:=aH h2
 have hl:(outer t).length=t.2.length:=dx t
 refine⟨by omega,fun r hr=> ?_⟩
 obtain⟨i,hi,rfl⟩:=List.getElem_of_mem hr
 have e:=fg t.1 t.2 0 i hi
 have hm:(outer t).getD i 0∈outer t:=by rw[an (show i<(outer t).length by omega) _];exact List.getElem_mem _
 have h9:=(b1 _ hm).2
 have h0:=(mC h1 (0+i)).1
 have e':(outer t).getD i 0=t.1.getD (0+i) 0+(t.2.getD i []).length:=e
 rw[an hi]at e'
 omega
theorem lH{t:Tab}(h:eI t=true){i:Nat}{x:Int}(hx:x∈t.2.getD i []):1≤x∧x≤9:=by
 obtain⟨q,hq,rfl⟩:=List.getElem_of_mem hx
 have hi:i<t.2.length:=by
  by_cases c:i<t.2.length
  ·exact c
  ·rw[List.getD_eq_getElem?_getD,List.getElem?_eq_none (by omega)]at hq;simp at hq
 have:=(ib h).2.2.2 i q hi hq
 simp only[fp,within,Bool.and_eq_true,decide_eq_true_eq]at this
 rw[an hq]at this
 exact this.1
theorem sB{t:Tab}(h:eI t=true)(i:Nat):(lZ t i).length≤100:=by
 unfold lZ
 rw[List.length_append,List.length_replicate]
 have h1:=dm (ib h).1 i
 have h2:=u4 (w:=t.2.getD i []) (fun x hx=>by have:=(lH h hx).2;omega)
 have h3:=(iG h).at i
 omega
theorem HJ(l:List UInt8):(⟨(((tx l).data.toList.map fun b=>(b.toNat:Int)).map fun n=>UInt8.ofNat n.toNat).toArray⟩:ByteArray)=tx l:=by
 rw[G7,List.map_map]
 have:((fun n:Int=>UInt8.ofNat n.toNat)∘fun b:UInt8=>(b.toNat:Int))=id:=by
  funext b;simp
 rw[this,List.map_id];rfl
def oU(ws:List (List UInt8))(sep:List UInt8)(i:Nat):List UInt8:=Lib.join (ws.take i) sep
theorem A8{ws:List (List UInt8)}{sep:List UInt8}{i:Nat}(h:i<ws.length):oU ws sep (i+1)=oU ws sep i++(if i=0 then []else sep)++ws.getD i []:=by
 unfold oU
 cases ws with
 |nil=>simp at h
 |cons w r=>
  cases i with
  |zero=>
   rw[List.take_succ_cons,List.take_zero,Lib.join_one,List.take_zero,Lib.join_nil]
   rfl
  |succ i=>
   have hr:i<r.length:=by simpa using h
   rw[List.take_succ_cons,List.take_succ_cons,Lib.join_cons,Lib.join_cons,Lib.joinTail_take_succ sep r i (r.getD i []) (by rw[an hr];exact List.getElem?_eq_getElem hr)]
   simp only[List.getD_cons_succ,List.append_assoc,Nat.succ_ne_zero,if_false]
end Go.Am.Pu
end
section
/- Inversions, major index, lattice words, raising: plain words. -/
namespace Go.Am.Pu
open Go Go.Am
def HY(w:List Int)(k:Nat):Nat→Nat→Int
 |0,_=>0
 |m+1,i=>(if w.getD k 0<w.getD i 0 then 1 else 0)+HY w k m (i+1)
def Ia(w:List Int):Nat→Nat→Int
 |0,_=>0
 |m+1,k=>HY w k k 0+Ia w m (k+1)
def inv(w:List Int):Int:=if isWord w=true then Ia w w.length 0 else-1
end Go.Am.Pu
namespace Go.Am.Pu
end Go.Am.Pu
end
section
/- Examples are words, and are described. Plain words. -/
namespace Go.Am.Pu
open Go Go.Am
theorem Ib(a b:List UInt8):((tx a).toList==(tx b).toList)=decide (a=b):=by
 rw[Lib.toList_data,Lib.toList_data]
 show(a==b)=_
 by_cases h:a=b
 ·subst h;simp
 ·rw[decide_eq_false h]
  exact beq_false_of_ne h
end Go.Am.Pu
end
section
/- All fillings of a shape by numbers, in the order in which the program lists them. Plain words. -/
namespace Go.Am.Pu
def fR(m:List Int)(R:List (List Int))(i:Nat):Int:=m.getD i 0+((R.getD i []).length:Int)
def shut(m o:List Int)(k:Int)(R:List (List Int))(i:Nat):Bool:=
 decide (fR m R i=o.getD i 0)||(decide (0<i)&&(decide (m.getD (i-1) 0≤fR m R i)&&(decide (entry (m,R) ((i:Int)-1) (fR m R i)=0)||decide (entry (m,R) ((i:Int)-1) (fR m R i)=k))))
def dH(k:Int)(R:List (List Int))(i:Nat):List (List Int):=R.set i (R.getD i []++ [k])
def nh(m o:List Int)(k:Int)(rest:List (List Int)→List Tab):Nat→Nat→Nat→List (List Int)→List Tab
 |0,_,_,R=>rest R
 |_+1,0,_,_=> []
 |l+1,q+1,i,R=>(if shut m o k R i=true then []else nh m o k rest l (q+1) i (dH k R i))++nh m o k rest (l+1) q (i+1) R
termination_by l q => (l, q)
def lq(m o:List Int):List Int→Int→List (List Int)→List Tab
 | [],_,R=> [(m,R)]
 |w::ws,k,R=>nh m o k (lq m o ws (k+1)) w.toNat o.length 0 R
def nW(m o:List Int)(R:List (List Int)):Prop:=R.length=o.length∧ ∀i,i<o.length→fR m R i≤o.getD i 0
theorem jS(k:Int)(R:List (List Int))(i:Nat):(dH k R i).length=R.length:=by unfold dH;rw[List.length_set]
theorem jO(k:Int)(R:List (List Int))(i j:Nat):(dH k R i).getD j []=if i=j∧j<R.length then R.getD i []++ [k]else R.getD j []:=by
 unfold dH
 simp only[List.getD_eq_getElem?_getD,List.getElem?_set]
 by_cases h:i=j
 ·subst h
  by_cases h2:i<R.length
  ·simp[h2]
  ·rw[if_pos rfl,if_neg h2,if_neg (fun h=>h2 h.2),List.getElem?_eq_none (by omega)]
 ·rw[if_neg h,if_neg (fun hh=>h hh.1)]
theorem Di{m o:List Int}{k:Int}{R:List (List Int)}{i:Nat}(h:nW m o R)(hi:i<o.length)(hs:shut m o k R i=false):nW m o (dH k R i):=by
 refine⟨by rw[jS];exact h.1,fun j hj=> ?_⟩
 have h1:=h.2 j hj
 unfold fR at*
 rw[jO]
 by_cases c:i=j∧j<R.length
 ·rw[if_pos c]
  obtain⟨rfl,c2⟩:=c
  unfold shut fR at hs
  simp only[Bool.or_eq_false_iff,decide_eq_false_iff_not]at hs
  have:=hs.1
  rw[List.length_append,List.length_singleton]
  omega
 ·rw[if_neg c];exact h1
theorem ER(k:Int){R:List (List Int)}{i:Nat}(hi:i<R.length):(dH k R i).set i (((dH k R i).getD i []).take (R.getD i []).length)=R:=by
 rw[jO,if_pos ⟨rfl,hi⟩,List.take_append_of_le_length (Nat.le_refl _),List.take_length]
 unfold dH
 rw[List.set_set,an hi,List.set_getElem_self]
theorem pV(m o:List Int)(k:Int)(rest:List (List Int)→List Tab)(q i:Nat)(R:List (List Int)):nh m o k rest 0 q i R=rest R:=by rw[nh]
theorem pO(m o:List Int)(k:Int)(rest:List (List Int)→List Tab)(l i:Nat)(R:List (List Int)):nh m o k rest (l+1) 0 i R= []:=by rw[nh]
theorem pM(m o:List Int)(k:Int)(rest:List (List Int)→List Tab)(l q i:Nat)(R:List (List Int)):
  nh m o k rest (l+1) (q+1) i R=(if shut m o k R i=true then []else nh m o k rest l (q+1) i (dH k R i))++nh m o k rest (l+1) q (i+1) R:=by rw[nh]
theorem sn{m o:List Int}{k:Int}{rest:List (List Int)→List Tab}{B:Nat}(hB: ∀R,(rest R).length≤B): ∀(l q i:Nat) (R:List (List Int)),(nh m o k rest l q i R).length≤q^l*B
 |0,q,i,R=>by rw[pV,Nat.pow_zero,Nat.one_mul];exact hB R
 |l+1,0,i,R=>by rw[pO];simp
 |l+1,q+1,i,R=>by
  rw[pM,List.length_append]
  have h1:=sn (k:=k) hB (m:=m) (o:=o) l (q+1) i (dH k R i)
  have h2:=sn (k:=k) hB (m:=m) (o:=o) (l+1) q (i+1) R
  have h3:(if shut m o k R i=true then []else nh m o k rest l (q+1) i (dH k R i)).length≤(q+1)^l*B:=by
   split
   ·simp
   ·exact h1
  have h4:q^(l+1)*B≤(q+1)^l*B*q:=by
   have:q^l≤(q+1)^l:=Nat.pow_le_pow_left (by omega) l
   calc q^(l+1)*B=q^l*(B*q):=by rw[Nat.pow_succ,Nat.mul_assoc,Nat.mul_comm q B]
    _≤(q+1)^l*(B*q):=Nat.mul_le_mul_right _ this
    _=(q+1)^l*B*q:=by rw[Nat.mul_assoc]
  have h5:(q+1)^(l+1)*B=(q+1)^l*B*q+(q+1)^l*B:=by
   rw[Nat.pow_succ,Nat.mul_assoc,Nat.mul_comm (q+1) B,←Nat.mul_assoc,Nat.mul_succ]
  rw[h5]
  omega
termination_by l q => (l, q)
def fG(w:List Int):Nat:=(w.map fun x=>x.toNat).sum
theorem nx(m o:List Int): ∀(ws:List Int) (k:Int) (R:List (List Int)),(lq m o ws k R).length≤o.length^fG ws
 | [],k,R=>by simp[lq,fG]
 |w::ws,k,R=>by
  have:=sn (m:=m) (o:=o) (k:=k) (fun R=>nx m o ws (k+1) R) w.toNat o.length 0 R
  have e:fG (w::ws)=w.toNat+fG ws:=by simp[fG]
  rw[lq,e,Nat.pow_add]
  exact this
end Go.Am.Pu
end
section
/- Tableaux in the order of their texts. Plain words. -/
namespace Go.Am.Pu
open Go
attribute [local instance] D.real
abbrev bl(a b:List UInt8):Bool:=Op.bytesLess a b
theorem mZ: ∀a,bl a a=false
 | []=>rfl
 |x::a=>by
  show(decide (x<x)||(x==x&&bl a a))=false
  rw[mZ a,Bool.and_false,Bool.or_false]
  exact decide_eq_false (UInt8.lt_irrefl x)
theorem uS{x y:UInt8}{a b:List UInt8}:bl (x::a) (y::b)=true↔x<y∨(x=y∧bl a b=true):=by
 show(decide (x<y)||(x==y&&bl a b))=true↔_
 rw[Bool.or_eq_true,Bool.and_eq_true,decide_eq_true_eq,beq_iff_eq]
theorem px: ∀a b c,bl a b=true→bl b c=true→bl a c=true
 |_,[],_,h,_=>by simp[bl,Op.bytesLess]at h
 |_,_::_,[],_,h=>by simp[bl,Op.bytesLess]at h
 | [],_::_,_::_,_,_=>rfl
 |x::a,y::b,z::c,h1,h2=>by
  rw[uS]at*
  rcases h1 with h1|⟨rfl,h1⟩
  ·rcases h2 with h2|⟨rfl,h2⟩
   ·exact .inl (UInt8.lt_trans h1 h2)
   ·exact .inl h1
  ·rcases h2 with h2|⟨rfl,h2⟩
   ·exact .inl h2
   ·exact .inr ⟨rfl,px a b c h1 h2⟩
theorem rM: ∀a b,bl a b=false→bl b a=false→a=b
 | [],[],_,_=>rfl
 | [],_::_,h,_=>by cases h
 |_::_,[],_,h=>by cases h
 |x::a,y::b,h1,h2=>by
  have h1': ¬(x<y∨(x=y∧bl a b=true)):=fun h=>by rw[←uS]at h;rw[h1]at h;cases h
  have h2': ¬(y<x∨(y=x∧bl b a=true)):=fun h=>by rw[←uS]at h;rw[h2]at h;cases h
  have e:x=y:=by
   refine Classical.byContradiction fun hne=> ?_
   have:y<x:=UInt8.lt_of_le_of_ne (UInt8.not_lt.1 fun h=>h1' (.inl h)) (Ne.symm hne)
   exact h2' (.inl this)
  subst e
  rw[rM a b (by cases h:bl a b with|false=>rfl|true=>exact absurd (.inr ⟨rfl,h⟩) h1') (by cases h:bl b a with|false=>rfl|true=>exact absurd (.inr ⟨rfl,h⟩) h2')]
theorem yq{a b c:List UInt8}(h1:bl a b=false)(h2:bl b c=false):bl a c=false:=by
 cases h:bl a c with
 |false=>rfl
 |true=>
  cases h3:bl b a with
  |true=>rw[px b a c h3 h]at h2;cases h2
  |false=>
   have:=rM a b h1 h3
   subst this
   rw[h]at h2;cases h2
theorem FW: ∀a b,Lib.compareBytes a b<0↔bl a b=true
 | [],[]=>by simp[Lib.compareBytes,bl,Op.bytesLess]
 | [],_::_=>by simp[Lib.compareBytes,bl,Op.bytesLess]
 |_::_,[]=>by simp[Lib.compareBytes,bl,Op.bytesLess]
 |x::a,y::b=>by
  rw[uS]
  unfold Lib.compareBytes
  by_cases h:x<y
  ·rw[if_pos h];simp[h]
  ·rw[if_neg h]
   by_cases h2:y<x
   ·rw[if_pos h2]
    have:x≠y:=fun e=>by subst e;exact UInt8.lt_irrefl x h2
    simp[h,this]
   ·rw[if_neg h2,FW a b]
    have:x=y:=by
     refine Classical.byContradiction fun hne=> ?_
     exact h2 (UInt8.lt_of_le_of_ne (UInt8.not_lt.1 h) (Ne.symm hne))
    simp[h,this]
def putAt(l:List Tab)(t:Tab):Nat→Nat
 |0=>0
 |a+1=>if bl (aZ t) (aZ (l.getD a ([],[])))=true then putAt l t a else a+1
def tu(l:List Tab)(t:Tab):List Tab:=l.take (putAt l t l.length)++t::l.drop (putAt l t l.length)
def hU(l:List Tab):List Tab:=l.foldl tu []
def kH(l:List Tab):Prop:=l.Pairwise fun a b=>bl (aZ b) (aZ a)=false
theorem vN(l:List Tab)(t:Tab): ∀a,putAt l t a≤a
 |0=>Nat.le_refl _
 |a+1=>by
  unfold putAt
  split
  ·have:=vN l t a;omega
  ·omega
theorem Av(l:List Tab)(t:Tab): ∀a i,putAt l t a≤i→i<a→bl (aZ t) (aZ (l.getD i ([],[])))=true
 |0,i,_,h=>by omega
 |a+1,i,h1,h2=>by
  unfold putAt at h1
  split at h1
  ·next h=>
   by_cases e:i=a
   ·subst e;exact h
   ·exact Av l t a i h1 (by omega)
  ·omega
theorem zS(l:List Tab)(t:Tab): ∀a,0<putAt l t a→bl (aZ t) (aZ (l.getD (putAt l t a-1) ([],[])))=false
 |0,h=>by simp[putAt]at h
 |a+1,h=>by
  unfold putAt at h⊢
  split
  ·next e=>rw[if_pos e]at h;exact zS l t a h
  ·next e=>simpa using e
theorem D3(l:List Tab)(t:Tab):(tu l t).Perm (t::l):=by
 unfold tu
 refine List.perm_middle.trans ?_
 rw[List.take_append_drop]
theorem BF{l:List Tab}{t:Tab}(h:kH l):kH (tu l t):=by
 unfold kH tu
 have hlen:=vN l t l.length
 have hg: ∀i j,i<j→j<l.length→bl (aZ (l.getD j ([],[]))) (aZ (l.getD i ([],[])))=false:=fun i j hij hj=>by
  have:=List.pairwise_iff_getElem.1 h i j (by omega) hj hij
  rw[an hj,an (show i<l.length by omega)]
  exact this
 rw[List.pairwise_append]
 refine⟨h.sublist (List.take_sublist _ _),?_,?_⟩
 ·rw[List.pairwise_cons]
  refine⟨fun b hb=> ?_,h.sublist (List.drop_sublist _ _)⟩
  obtain⟨i,hi,rfl⟩:=List.getElem_of_mem hb
  rw[List.length_drop]at hi
  rw[List.getElem_drop]
  have:=Av l t l.length (putAt l t l.length+i) (by omega) (by omega)
  rw[an (show putAt l t l.length+i<l.length by omega)]at this
  cases hb2:bl (aZ l[putAt l t l.length+i]) (aZ t)with
  |false=>rfl
  |true=>
   have:=px _ _ _ this hb2
   rw[mZ]at this;cases this
 ·intro a ha b hb
  obtain⟨i,hi,rfl⟩:=List.getElem_of_mem ha
  rw[List.length_take]at hi
  rw[List.getElem_take]
  have hat:bl (aZ t) (aZ (l.getD i ([],[])))=false:=by
   have h1:=zS l t l.length (by omega)
   by_cases e:i=putAt l t l.length-1
   ·rw[e];exact h1
   ·exact yq h1 (hg i _ (by omega) (by omega))
  rw[an (show i<l.length by omega)]at hat
  rcases List.mem_cons.1 hb with rfl|hb
  ·exact hat
  ·obtain⟨j,hj,rfl⟩:=List.getElem_of_mem hb
   rw[List.length_drop]at hj
   rw[List.getElem_drop]
   have:=hg i (putAt l t l.length+j) (by omega) (by omega)
   rwa [an (show putAt l t l.length+j<l.length by omega),an (show i<l.length by omega)]at this
theorem sR: ∀(xs l:List Tab),kH l→kH (xs.foldl tu l)∧(xs.foldl tu l).Perm (xs++l)
 | [],l,h=>⟨h,List.Perm.refl _⟩
 |t::xs,l,h=>by
  obtain⟨h1,h2⟩:=sR xs (tu l t) (BF h)
  refine⟨h1,h2.trans ?_⟩
  have:=(D3 l t).append_left xs
  exact this.trans List.perm_middle
theorem rB(l:List Tab):kH (hU l):=(sR l [] List.Pairwise.nil).1
theorem jt(l:List Tab):(hU l).Perm l:=by
 have:=(sR l [] List.Pairwise.nil).2
 rwa [List.append_nil]at this
theorem xQ(l:List Tab):(hU l).length=l.length:=(jt l).length_eq
theorem vx: ∀{l l':List Tab},l.Perm l'→kH l→kH l'→(∀a∈l,∀b∈l,aZ a=aZ b→a=b)→l=l'
 | [],l',hp,_,_,_=>(List.nil_perm.1 hp).symm
 |x::l,[],hp,_,_,_=>by have:=hp.length_eq;simp at this
 |x::l,y::l',hp,h1,h2,hi=>by
  have hx:x∈y::l':=hp.mem_iff.1 (by simp)
  have hy:y∈x::l:=hp.mem_iff.2 (by simp)
  have e:x=y:=by
   rcases List.mem_cons.1 hx with e|hx
   ·exact e
   rcases List.mem_cons.1 hy with e|hy
   ·exact e.symm
   refine hi x (by simp) y (by simp[hy]) (rM _ _ ?_ ?_)
   ·exact(List.pairwise_cons.1 h2).1 x hx
   ·exact(List.pairwise_cons.1 h1).1 y hy
  subst e
  rw[vx (List.Perm.cons_inv hp) (List.pairwise_cons.1 h1).2 (List.pairwise_cons.1 h2).2 fun a ha b hb=>hi a (by simp[ha]) b (by simp[hb])]
theorem Il{F:Tab→Tab→Option Int}{xs:List Tab}(hF: ∀a∈xs,∀b∈xs,F a b=some (Lib.compareBytes (aZ a) (aZ b)))(hi: ∀a∈xs,∀b∈xs,aZ a=aZ b→a=b)(hl:xs.length<4611686018427387904):D.srt F xs=some (hU xs):=by
 have hl': ∀a∈xs,∀b∈xs,mK F a b↔bl (aZ a) (aZ b)=true:=fun a ha b hb=>by
  unfold mK
  rw[hF a ha b hb]
  exact FW _ _
 have hn: ∀a∈xs,∀b∈xs,¬mK F a b↔bl (aZ a) (aZ b)=false:=fun a ha b hb=>by
  rw[hl' a ha b hb];cases bl (aZ a) (aZ b)<;>simp
 have hs: ∀ys,oi F xs ys→kH ys:=fun ys ⟨h1,h2⟩=>by
  unfold kH
  rw[List.pairwise_iff_getElem]
  intro i j hi hj hij
  exact(hn _ (h1.mem_iff.1 (List.getElem_mem hj)) _ (h1.mem_iff.1 (List.getElem_mem hi))).1 (h2 i j _ _ hij (List.getElem?_eq_getElem hi) (List.getElem?_eq_getElem hj))
 have hu: ∀zs,oi F xs zs→zs=hU xs:=fun zs hz=>
  vx (hz.1.trans (jt xs).symm) (hs zs hz) (rB xs) fun a ha b hb=>hi a (hz.1.mem_iff.1 ha) b (hz.1.mem_iff.1 hb)
 have h0:oi F xs (hU xs):=⟨jt xs,fun i j a b hij ha hb=>by
  obtain⟨hi',ea⟩:=List.getElem?_eq_some_iff.1 ha
  obtain⟨hj',eb⟩:=List.getElem?_eq_some_iff.1 hb
  have ha':a∈xs:=(jt xs).mem_iff.1 (ea▸List.getElem_mem hi')
  have hb':b∈xs:=(jt xs).mem_iff.1 (eb▸List.getElem_mem hj')
  refine(hn b hb' a ha').2 ?_
  have:=List.pairwise_iff_getElem.1 (rB xs) i j hi' hj' hij
  rw[ea,eb]at this
  exact this⟩
 have hok:CM F xs:=⟨hl,fun a ha b hb=>by rw[hF a ha b hb];rfl,fun a ha=>(hn a ha a ha).2 (mZ _),fun a ha b hb c hc h1 h2=>(hl' a ha c hc).2 (px _ _ _ ((hl' a ha b hb).1 h1) ((hl' b hb c hc).1 h2)),
  fun a ha b hb c hc h1 h2=>(hn a ha c hc).2 (yq ((hn a ha b hb).1 h1) ((hn b hb c hc).1 h2)),hU xs,h0,hu⟩
 show DX F xs=_
 unfold DX
 rw[dif_pos hok]
 congr 1
 exact hu _ (Classical.choose_spec hok.2.2.2.2.2).1
end Go.Am.Pu
end
section
/- Texts tell tableaux apart; all fillings are tableaux. Plain words. -/
namespace Go.Am.Pu
open Go
theorem Gi: ∀(w w' s s':List UInt8),(47:UInt8)∉w→(47:UInt8)∉w'→(s= []∨ ∃r,s=47::r)→(s'= []∨ ∃r,s'=47::r)→w++s=w'++s'→w=w'∧s=s'
 | [],[],s,s',_,_,_,_,h=>⟨rfl,h⟩
 | [],x::w',s,s',_,h2,h3,_,h=>by
  rcases h3 with rfl|⟨r,rfl⟩
  ·cases h
  ·injection h with h _
   exact absurd (h▸List.mem_cons_self) h2
 |x::w,[],s,s',h1,_,_,h4,h=>by
  rcases h4 with rfl|⟨r,rfl⟩
  ·cases h
  ·injection h with h _
   exact absurd (h▸List.mem_cons_self) h1
 |x::w,y::w',s,s',h1,h2,h3,h4,h=>by
  injection h with ha hb
  obtain⟨e1,e2⟩:=Gi w w' s s' (fun hh=>h1 (List.mem_cons_of_mem _ hh)) (fun hh=>h2 (List.mem_cons_of_mem _ hh)) h3 h4 hb
  exact⟨by rw[ha,e1],e2⟩
theorem y4(r:List (List UInt8)):Lib.joinTail [47] r= []∨ ∃q,Lib.joinTail [47] r=47::q:=by
 cases r with
 |nil=>exact .inl rfl
 |cons w r=>exact .inr ⟨_,rfl⟩
theorem rD: ∀(l l':List (List UInt8)),l.length=l'.length→(∀w∈l,(47:UInt8)∉w)→(∀w∈l',(47:UInt8)∉w)→Lib.joinTail [47] l=Lib.joinTail [47] l'→l=l'
 | [],[],_,_,_,_=>rfl
 | [],_::_,h,_,_,_=>by simp at h
 |_::_,[],h,_,_,_=>by simp at h
 |w::l,w'::l',h,h1,h2,he=>by
  have e: ∀(w:List UInt8) l,Lib.joinTail [47] (w::l)=47::(w++Lib.joinTail [47] l):=fun w l=>rfl
  rw[e,e]at he
  injection he with _ he
  obtain⟨e1,e2⟩:=Gi w w' _ _ (h1 w (by simp)) (h2 w' (by simp)) (y4 l) (y4 l') he
  rw[e1,rD l l' (by simpa using h) (fun x hx=>h1 x (by simp[hx])) (fun x hx=>h2 x (by simp[hx])) e2]
theorem Gx{l l':List (List UInt8)}(h:l.length=l'.length)(h1: ∀w∈l,(47:UInt8)∉w)(h2: ∀w∈l',(47:UInt8)∉w)(he:Lib.join l [47]=Lib.join l' [47]):l=l':=by
 cases l with
 |nil=>
  cases l' with
  |nil=>rfl
  |cons _ _=>simp at h
 |cons w l=>
  cases l' with
  |nil=>simp at h
  |cons w' l'=>
   rw[Lib.join_cons,Lib.join_cons]at he
   obtain⟨e1,e2⟩:=Gi w w' _ _ (h1 w (by simp)) (h2 w' (by simp)) (y4 l) (y4 l') he
   rw[e1,rD l l' (by simpa using h) (fun x hx=>h1 x (by simp[hx])) (fun x hx=>h2 x (by simp[hx])) e2]
theorem pn{x:Int}(h1:1≤x)(h9:x≤9):dcm x= [UInt8.ofNat (48+x.toNat)]∧(UInt8.ofNat (48+x.toNat)).toNat=48+x.toNat:=by
 refine⟨nE (by omega),?_⟩
 rw[UInt8.toNat_ofNat']
 omega
theorem wg: ∀(w w':List Int),(∀x∈w,1≤x∧x≤9)→(∀x∈w',1≤x∧x≤9)→fA w=fA w'→w=w'
 | [],[],_,_,_=>rfl
 | [],y::w',_,h2,h=>by
  have e:fA (y::w')=dcm y++fA w':=rfl
  rw[e,(pn (h2 y (by simp)).1 (h2 y (by simp)).2).1]at h
  cases h
 |x::w,[],h1,_,h=>by
  have e:fA (x::w)=dcm x++fA w:=rfl
  rw[e,(pn (h1 x (by simp)).1 (h1 x (by simp)).2).1]at h
  cases h
 |x::w,y::w',h1,h2,h=>by
  have e: ∀(x:Int) w,fA (x::w)=dcm x++fA w:=fun _ _=>rfl
  obtain⟨a1,a2⟩:=h1 x (by simp)
  obtain⟨b1,b2⟩:=h2 y (by simp)
  obtain⟨c1,c2⟩:=pn a1 a2
  obtain⟨d1,d2⟩:=pn b1 b2
  rw[e,e,c1,d1]at h
  injection h with h3 h4
  have h5:=congrArg UInt8.toNat h3
  rw[c2,d2]at h5
  rw[wg w w' (fun z hz=>h1 z (by simp[hz])) (fun z hz=>h2 z (by simp[hz])) h4,show x=y by omega]
theorem yn: ∀(w:List Int),(∀x∈w,1≤x∧x≤9)→ ∀b∈fA w,48≤b.toNat
 | [],_,b,hb=>by cases hb
 |x::w,h,b,hb=>by
  have e:fA (x::w)=dcm x++fA w:=rfl
  obtain⟨c1,c2⟩:=pn (h x (by simp)).1 (h x (by simp)).2
  rw[e,c1]at hb
  rcases List.mem_append.1 hb with hb|hb
  ·simp only[List.mem_singleton]at hb
   subst hb
   omega
  ·exact yn w (fun z hz=>h z (by simp[hz])) b hb
theorem Aj{t:Tab}(h:eI t=true)(i:Nat):(47:UInt8)∉lZ t i:=by
 intro hb
 unfold lZ at hb
 rcases List.mem_append.1 hb with hb|hb
 ·have:=(List.mem_replicate.1 hb).2
  revert this;decide
 ·have:=yn _ (fun x hx=>lH h hx) _ hb
  revert this;decide
theorem E9{a b:Tab}(ha:eI a=true)(hb:eI b=true)(h1:a.1=b.1)(h2:a.2.length=b.2.length)(h:aZ a=aZ b):a=b:=by
 unfold aZ at h
 rw[if_pos ha,if_pos hb]at h
 by_cases e:a.2= []
 ·have e':b.2= []:=List.eq_nil_of_length_eq_zero (by rw[←h2,e];rfl)
  exact Prod.ext h1 (by rw[e,e'])
 ·have e':b.2≠ []:=fun e'=>e (List.eq_nil_of_length_eq_zero (by rw[h2,e'];rfl))
  rw[if_neg e,if_neg e']at h
  have hj:=Gx (by simp[h2]) (fun w hw=>by obtain⟨i,_,rfl⟩:=List.mem_map.1 hw;exact Aj ha i) (fun w hw=>by obtain⟨i,_,rfl⟩:=List.mem_map.1 hw;exact Aj hb i) h
  refine Prod.ext h1 (List.ext_getElem h2 fun i hi hi'=> ?_)
  have hr:lZ a i=lZ b i:=by
   have:=congrArg (fun l=>l[i]?) hj
   simpa[hi,hi',h2]using this
  unfold lZ at hr
  rw[h1]at hr
  have hw:=List.append_cancel_left hr
  rw[an hi,an hi']at hw
  exact wg _ _ (fun x hx=>lH (i:=i) ha (by rw[an hi];exact hx)) (fun x hx=>lH (i:=i) hb (by rw[an hi'];exact hx)) hw
end Go.Am.Pu
end
section
/- All fillings are tableaux. Plain words. -/
namespace Go.Am.Pu
open Go
theorem qL{t:Tab}{i q:Nat}:fp t i q=true↔(1≤cel t.2 i q∧cel t.2 i q≤9)∧(q=0∨cel t.2 i (q-1)≤cel t.2 i q)∧(i=0∨entry t ((i:Int)-1) (t.1.getD i 0+q)<cel t.2 i q):=by
 unfold fp within cel
 simp only[Bool.and_eq_true,Bool.or_eq_true,decide_eq_true_eq]
structure lu (m o : List Int) (k : Int) (R : List (List Int)) : Prop where
  ok : nW m o R
  dec : ∀ i, i + 1 < o.length → fR m R (i + 1) ≤ fR m R i
  cell : ∀ i q, i < R.length → q < (R.getD i []).length → fp (m, R) i q = true
  le : ∀ i, ∀ x ∈ R.getD i [], x ≤ k
theorem lu.mono{m o:List Int}{k k':Int}{R:List (List Int)}(h:lu m o k R)(hk:k≤k'):lu m o k' R:=⟨h.ok,h.dec,h.cell,fun i x hx=>Int.le_trans (h.le i x hx) hk⟩
theorem vK(m:List Int)(k:Int){R:List (List Int)}{i:Nat}(hi:i<R.length)(j:Nat):fR m (dH k R i) j=fR m R j+(if i=j then 1 else 0):=by
 unfold fR
 rw[jO]
 by_cases c:i=j
 ·subst c
  rw[if_pos ⟨rfl,hi⟩,if_pos rfl,List.length_append,List.length_singleton]
  omega
 ·rw[if_neg (fun h=>c h.1),if_neg c,Int.add_zero]
theorem q9(k:Int){R:List (List Int)}{i:Nat}(hi:i<R.length)(a q:Nat):cel (dH k R i) a q=if i=a∧q=(R.getD i []).length then k else cel R a q:=by
 unfold cel
 rw[jO]
 by_cases c:i=a
 ·subst c
  rw[if_pos ⟨rfl,hi⟩]
  by_cases c2:q=(R.getD i []).length
  ·rw[if_pos ⟨rfl,c2⟩,c2,List.getD_eq_getElem?_getD,List.getElem?_append_right (Nat.le_refl _),Nat.sub_self]
   rfl
  ·rw[if_neg (fun h=>c2 h.2)]
   simp only[List.getD_eq_getElem?_getD]
   rcases Nat.lt_or_ge q (R.getD i []).length with h|h
   ·rw[List.getD_eq_getElem?_getD]at h
    rw[List.getElem?_append_left h]
   ·rw[List.getD_eq_getElem?_getD]at h c2
    rw[List.getElem?_append_right h,List.getElem?_eq_none h,List.getElem?_eq_none (by simp;omega)]
 ·rw[if_neg (fun h=>c h.1),if_neg (fun h=>c h.1)]
theorem wm(m:List Int)(k:Int){R:List (List Int)}{i:Nat}(hi:i<R.length)(a:Nat){c:Int}(hc:i=a→c<fR m R i):entry (m,dH k R i) a c=entry (m,R) a c:=by
 by_cases ha:a<R.length
 ·rw[iL (t:=(m,dH k R i)) (by rw[jS];exact ha),iL (t:=(m,R)) ha]
  show atI ((dH k R i).getD a []) (c-m.getD a 0)=atI (R.getD a []) (c-m.getD a 0)
  rw[jO]
  by_cases e:i=a
  ·subst e
   have:=hc rfl
   unfold fR at this
   rw[if_pos ⟨rfl,hi⟩]
   unfold atI
   by_cases h0:c-m.getD i 0<0
   ·rw[if_pos h0,if_pos h0]
   ·rw[if_neg h0,if_neg h0,List.getD_eq_getElem?_getD,List.getElem?_append_left (by omega),←List.getD_eq_getElem?_getD]
  ·rw[if_neg (fun h=>e h.1)]
 ·unfold entry
  have h1:((dH k R i).length:Int)≤a:=by rw[jS];omega
  have h2:(R.length:Int)≤a:=by omega
  rw[if_neg (show¬((a:Int)<0) by omega),if_pos h1,if_neg (show¬((a:Int)<0) by omega),if_pos h2]
theorem vw{m o:List Int}{k:Int}{R:List (List Int)}{i:Nat}(h:shut m o k R i=false):fR m R i≠o.getD i 0∧(i=0∨fR m R i<m.getD (i-1) 0∨(entry (m,R) ((i:Int)-1) (fR m R i)≠0∧entry (m,R) ((i:Int)-1) (fR m R i)≠k)):=by
 unfold shut at h
 simp only[Bool.or_eq_false_iff,decide_eq_false_iff_not,Bool.and_eq_false_iff]at h
 refine⟨h.1,?_⟩
 rcases h.2 with h|h|h
 ·exact .inl (by omega)
 ·exact .inr (.inl (by omega))
 ·exact .inr (.inr h)
theorem lu.push{m o:List Int}{k:Int}{R:List (List Int)}{i:Nat}(h:lu m o k R)(k1:1≤k)(k9:k≤9)(hi:i<o.length)(hs:shut m o k R i=false):lu m o k (dH k R i):=by
 have hlen:=h.ok.1
 have hiR:i<R.length:=by omega
 obtain⟨s1,s2⟩:=vw hs
 have hab: ∀a:Nat,i=a+1→fR m R i+1≤fR m R a∧entry (m,R) (a:Int) (fR m R i)<k:=fun a ha=>by
  subst ha
  have e:(((a+1:Nat):Int)-1)=(a:Int):=by omega
  have e2:a+1-1=a:=rfl
  rw[e,e2]at s2
  have hent:=iL (t:=(m,R)) (r:=a) (by show a<R.length;omega) (fR m R (a+1))
  have hent':entry (m,R) (a:Int) (fR m R (a+1))=atI (R.getD a []) (fR m R (a+1)-m.getD a 0):=hent
  have hext:fR m R a=m.getD a 0+((R.getD a []).length:Int):=rfl
  rcases s2 with s2|s2|s2
  ·omega
  ·refine⟨by omega,?_⟩
   rw[hent',mD (by omega)]
   omega
  ·obtain⟨s2,s3⟩:=s2
   rw[hent']at s2 s3⊢
   have hin:0≤fR m R (a+1)-m.getD a 0∧fR m R (a+1)-m.getD a 0<(R.getD a []).length:=by
    refine⟨?_,?_⟩
    ·refine Int.not_lt.1 fun hh=>s2 (mD hh)
    ·refine Int.not_le.1 fun hh=>s2 (xj hh)
   refine⟨by omega,?_⟩
   have hm:atI (R.getD a []) (fR m R (a+1)-m.getD a 0)∈R.getD a []:=by
    unfold atI
    rw[if_neg (by omega),an (show(fR m R (a+1)-m.getD a 0).toNat<(R.getD a []).length by omega)]
    exact List.getElem_mem _
   have:=h.le a _ hm
   omega
 refine⟨Di h.ok hi hs,fun j hj=> ?_,fun a q ha hq=> ?_,fun a x hx=> ?_⟩
 ·rw[vK m k hiR,vK m k hiR]
  have h1:=h.dec j hj
  by_cases c1:i=j+1
  ·have:=(hab j c1).1
   rw[if_pos c1,if_neg (by omega),←c1]
   omega
  ·rw[if_neg c1]
   split<;>omega
 ·rw[jS]at ha
  rw[qL]
  show(1≤cel (dH k R i) a q∧cel (dH k R i) a q≤9)∧(q=0∨cel (dH k R i) a (q-1)≤cel (dH k R i) a q)∧(a=0∨entry (m,dH k R i) ((a:Int)-1) (m.getD a 0+q)<cel (dH k R i) a q)
  rw[jO]at hq
  by_cases c:i=a∧q=(R.getD i []).length
  ·obtain⟨rfl,c2⟩:=c
   have e1:cel (dH k R i) i q=k:=by rw[q9 k hiR,if_pos ⟨rfl,c2⟩]
   rw[e1]
   refine⟨⟨k1,k9⟩,?_,?_⟩
   ·by_cases q0:q=0
    ·exact .inl q0
    ·right
     rw[q9 k hiR,if_neg (by omega)]
     refine h.le i _ ?_
     unfold cel
     rw[an (show q-1<(R.getD i []).length by omega)]
     exact List.getElem_mem _
   ·cases i with
    |zero=>exact .inl rfl
    |succ a=>
     right
     have e:(((a+1:Nat):Int)-1)=(a:Int):=by omega
     have ec:m.getD (a+1) 0+(q:Int)=fR m R (a+1):=by rw[c2];rfl
     rw[e,ec,wm m k hiR a (fun hh=>by omega)]
     exact(hab a rfl).2
  ·have hq':q<(R.getD a []).length:=by
    by_cases c1:i=a
    ·subst c1
     rw[if_pos ⟨rfl,hiR⟩,List.length_append,List.length_singleton]at hq
     have:q≠(R.getD i []).length:=fun e=>c ⟨rfl,e⟩
     omega
    ·rwa [if_neg (fun hh=>c1 hh.1)]at hq
   have hc:=qL.1 (h.cell a q ha hq')
   have hc:(1≤cel R a q∧cel R a q≤9)∧(q=0∨cel R a (q-1)≤cel R a q)∧(a=0∨entry (m,R) ((a:Int)-1) (m.getD a 0+q)<cel R a q):=hc
   have e1:cel (dH k R i) a q=cel R a q:=by rw[q9 k hiR,if_neg c]
   have e2:cel (dH k R i) a (q-1)=cel R a (q-1):=by
    rw[q9 k hiR,if_neg]
    rintro⟨rfl,hh⟩
    omega
   rw[e1,e2]
   refine⟨hc.1,hc.2.1,?_⟩
   cases a with
   |zero=>exact .inl rfl
   |succ a=>
    right
    have e:(((a+1:Nat):Int)-1)=(a:Int):=by omega
    have h3:=hc.2.2
    rw[e]at h3⊢
    rw[wm m k hiR a (fun hh=> ?_)]
    ·rcases h3 with h3|h3
     ·omega
     ·exact h3
    ·subst hh
     have h4:=h.dec i (by omega)
     have h5:fR m R (i+1)=m.getD (i+1) 0+((R.getD (i+1) []).length:Int):=rfl
     omega
 ·rw[jO]at hx
  split at hx
  ·rcases List.mem_append.1 hx with hx|hx
   ·exact h.le i x hx
   ·simp only[List.mem_singleton]at hx;omega
  ·exact h.le a x hx
theorem AO(k:Int): ∀{R:List (List Int)} {i:Nat},i<R.length→(dH k R i).flatten.length=R.flatten.length+1
 | [],i,h=>by simp at h
 |r::R,0,_=>by simp[dH];omega
 |r::R,i+1,h=>by
  have:=AO k (R:=R) (i:=i) (by simpa using h)
  have e:dH k (r::R) (i+1)=r::dH k R i:=by simp[dH]
  rw[e,List.flatten_cons,List.length_append,this,List.flatten_cons,List.length_append]
  omega
theorem xf{m o:List Int}{k:Int}{rest:List (List Int)→List Tab}(k1:1≤k)(k9:k≤9){Q:List (List Int)→Tab→Prop}{t:Tab}: ∀(l q i:Nat) (R:List (List Int)),i+q=o.length→lu m o k R→t∈nh m o k rest l q i R→ ∃R',lu m o k R'∧R'.flatten.length=R.flatten.length+l∧t∈rest R'
 |0,q,i,R,_,hR,ht=>by rw[pV]at ht;exact⟨R,hR,rfl,ht⟩
 |l+1,0,i,R,_,_,ht=>by rw[pO]at ht;cases ht
 |l+1,q+1,i,R,hi,hR,ht=>by
  rw[pM]at ht
  rcases List.mem_append.1 ht with ht|ht
  ·split at ht
   ·cases ht
   ·next hs=>
    obtain⟨R',h1,h2,h3⟩:=xf k1 k9 (Q:=Q) l (q+1) i (dH k R i) hi (hR.push k1 k9 (by omega) (by simpa using hs)) ht
    exact⟨R',h1,by rw[h2,AO k (by have:=hR.ok.1;omega)];omega,h3⟩
  ·exact xf k1 k9 (Q:=Q) (l+1) q (i+1) R (by omega) hR ht
termination_by l q => (l, q)
theorem xU{m o:List Int}{t:Tab}: ∀(ws:List Int) (k:Int) (R:List (List Int)),1≤k→k+ws.length≤10→lu m o k R→t∈lq m o ws k R→ ∃R',t=(m,R')∧lu m o (k+ws.length) R'∧R'.flatten.length=R.flatten.length+fG ws
 | [],k,R,_,_,hR,ht=>by
  rw[lq,List.mem_singleton]at ht
  exact⟨R,ht,by simpa using hR,by simp[fG]⟩
 |w::ws,k,R,k1,k9,hR,ht=>by
  rw[List.length_cons]at k9
  rw[lq]at ht
  obtain⟨R1,h1,h2,h3⟩:=xf (Q:=fun _ _=>True) k1 (by omega) w.toNat o.length 0 R (by omega) hR ht
  obtain⟨R2,e,g1,g2⟩:=xU ws (k+1) R1 (by omega) (by omega) (h1.mono (by omega)) h3
  refine⟨R2,e,?_,?_⟩
  ·rw[List.length_cons]
   have e:k+1+(ws.length:Int)=k+((ws.length+1:Nat):Int):=by omega
   rw[←e];exact g1
  ·rw[g2,h2]
   simp[fG];omega
theorem vI(m:List Int): ∀(R:List (List Int)) (i:Nat),m.length≤i+R.length→aT (eV m i R)=aT (m.drop i)+(R.flatten.length:Int)
 | [],i,h=>by
  rw[List.drop_of_length_le (by simpa using h)]
  simp[eV,aT]
 |r::R,i,h=>by
  rw[List.length_cons]at h
  rw[eV,aT,vI m R (i+1) (by omega),List.flatten_cons,List.length_append]
  by_cases hi:i<m.length
  ·rw[drop_cons hi 0,aT]
   omega
  ·rw[bo (by omega),List.drop_of_length_le (show m.length≤i by omega),List.drop_of_length_le (show m.length≤i+1 by omega)]
   simp[aT]
theorem yF: ∀(a b:List Int),a.length=b.length→(∀i,i<a.length→a.getD i 0≤b.getD i 0)→aT a=aT b→a=b
 | [],[],_,_,_=>rfl
 | [],_::_,h,_,_=>by simp at h
 |_::_,[],h,_,_=>by simp at h
 |x::a,y::b,h,hl,hs=>by
  have hle: ∀(a b:List Int),a.length=b.length→(∀i,i<a.length→a.getD i 0≤b.getD i 0)→aT a≤aT b:=by
   intro a
   induction a with
   |nil=>intro b h _;cases b with
    |nil=>exact Int.le_refl _
    |cons _ _=>simp at h
   |cons x a ih=>intro b h hl;cases b with
    |nil=>simp at h
    |cons y b=>
     have h0:=hl 0 (by simp)
     have:=ih b (by simpa using h) (fun i hi=>by have:=hl (i+1) (by simpa using hi);simpa using this)
     simp only[List.getD_cons_zero]at h0
     simp only[aT];omega
  have h0:=hl 0 (by simp)
  simp only[List.getD_cons_zero]at h0
  have ht: ∀i,i<a.length→a.getD i 0≤b.getD i 0:=fun i hi=>by have:=hl (i+1) (by simpa using hi);simpa using this
  have:=hle a b (by simpa using h) ht
  simp only[aT]at hs
  rw[show x=y by omega,yF a b (by simpa using h) ht (by omega)]
theorem fE{m o:List Int}(h:aJ m o=true):aX m=true∧aX o=true∧m.length≤o.length∧ ∀i,i<m.length→m.getD i 0≤o.getD i 0:=by
 unfold aJ at h
 simp only[Bool.and_eq_true,decide_eq_true_eq]at h
 obtain⟨h1,h2,h3,h4⟩:=h
 exact⟨h1,h2,h3,fun i hi=>by rw[cG]at h4;simpa using h4 i hi⟩
theorem lu.outer{m o:List Int}{k:Int}{R:List (List Int)}(h:lu m o k R)(hi:aJ m o=true)(hs:(R.flatten.length:Int)=aT o-aT m):Pu.outer (m,R)=o:=by
 obtain⟨h1,h2,h3,h4⟩:=fE hi
 have hl:=h.ok.1
 have e:Pu.outer (m,R)=eV m 0 R:=rfl
 refine yF _ _ (by rw[e,iy];exact hl) (fun i hi=> ?_) ?_
 ·rw[e,iy]at hi
  rw[e,fg m R 0 i hi,Nat.zero_add]
  exact h.ok.2 i (by omega)
 ·rw[e,vI m R 0 (by omega),List.drop_zero]
  omega
theorem lu.tab{m o:List Int}{k:Int}{R:List (List Int)}(h:lu m o k R)(hi:aJ m o=true)(hs:(R.flatten.length:Int)=aT o-aT m):eI (m,R)=true:=by
 obtain⟨h1,h2,h3,h4⟩:=fE hi
 have ho:=h.outer hi hs
 unfold eI cX
 rw[ho]
 have e1:aX (m,R).1=true:=h1
 have e2:decide ((m,R).1.length≤(m,R).2.length)=true:=decide_eq_true (by show m.length≤R.length;have:=h.ok.1;omega)
 have e3:aJ (m,R).1 o=true:=hi
 rw[e1,e2,e3]
 simp only[Bool.true_and]
 rw[cG]
 intro i hi
 rw[cG]
 intro q hq
 exact h.cell i q hi hq
theorem nk(n i:Nat):(List.replicate n ([]:List Int)).getD i []= []:=by
 rw[List.getD_eq_getElem?_getD,List.getElem?_replicate]
 split<;>rfl
theorem Fq{m o:List Int}(hi':aJ m o=true)(k:Int):lu m o k (List.replicate o.length []):=by
 obtain⟨h1,h2,h3,h4⟩:=fE hi'
 refine⟨⟨by simp,fun i hi=> ?_⟩,fun i hi=> ?_,fun i q _ hq=> ?_,fun i x hx=> ?_⟩
 ·unfold fR
  rw[nk]
  have:=kt hi' i
  simpa using this
 ·unfold fR
  rw[nk,nk]
  have:=fN h1 i
  simpa using this
 ·rw[nk]at hq;simp at hq
 ·rw[nk]at hx;cases hx
def kN(m o ws:List Int):List Tab:=lq m o ws 1 (List.replicate o.length [])
theorem pJ{m o ws:List Int}(hi:aJ m o=true)(hw:ws.length≤9)(hs:(fG ws:Int)=aT o-aT m){t:Tab}(ht:t∈kN m o ws):t.1=m∧t.2.length=o.length∧eI t=true∧outer t=o:=by
 obtain⟨R,rfl,h1,h2⟩:=xU ws 1 _ (by omega) (by omega) (Fq hi 1) ht
 have e:(List.replicate o.length ([]:List Int)).flatten.length=0:=by simp
 rw[e,Nat.zero_add]at h2
 exact⟨rfl,h1.ok.1,h1.tab hi (by rw[h2];exact hs),h1.outer hi (by rw[h2];exact hs)⟩
theorem D7{m o ws:List Int}(hi:aJ m o=true)(hw:ws.length≤9)(hs:(fG ws:Int)=aT o-aT m): ∀a∈kN m o ws,∀b∈kN m o ws,aZ a=aZ b→a=b:=fun a ha b hb h=>by
 obtain⟨a1,a2,a3,_⟩:=pJ hi hw hs ha
 obtain⟨b1,b2,b3,_⟩:=pJ hi hw hs hb
 exact E9 a3 b3 (a1.trans b1.symm) (a2.trans b2.symm) h
end Go.Am.Pu
namespace Go.Am.Pu
theorem lI: ∀{ws:List Int},(∀x∈ws,0≤x)→(fG ws:Int)=aT ws
 | [],_=>rfl
 |w::ws,h=>by
  have e:fG (w::ws)=w.toNat+fG ws:=by simp[fG]
  rw[e,aT,Int.natCast_add,lI fun x hx=>h x (by simp[hx])]
  have:=h w (by simp)
  omega
theorem jF{m o:List Int}(hi:aJ m o=true):0≤aT o-aT m∧aT o-aT m≤9∧o.length≤9:=by
 obtain⟨i1,i2,i3,i4⟩:=fE hi
 have b1:=aH i1
 have b2:=aH i2
 have n2:=iw m fun x hx=>by have:=b1.1 x hx;omega
 refine⟨?_,by omega,b2.2.2.1⟩
 have hle: ∀(m o:List Int),m.length≤o.length→(∀x∈o,0≤x)→(∀i,i<m.length→m.getD i 0≤o.getD i 0)→aT m≤aT o:=by
  intro m
  induction m with
  |nil=>intro o _ h _;exact iw o h
  |cons x m ih=>intro o hl h hi;cases o with
   |nil=>simp at hl
   |cons y o=>
    have h0:=hi 0 (by simp)
    have:=ih o (by simpa using hl) (fun z hz=>h z (by simp[hz])) (fun i hi'=>by have:=hi (i+1) (by simpa using hi');simpa using this)
    simp only[List.getD_cons_zero]at h0
    simp only[aT];omega
 have:=hle m o i3 (fun x hx=>by have:=b2.1 x hx;omega) i4
 omega
theorem xG{m o ws:List Int}(hi:aJ m o=true)(hw: ∀w∈ws,0≤w∧w≤9)(hs:aT ws=aT o-aT m):o.length^fG ws≤1099511627776:=by
 have hd:=jF hi
 have hn:=lI (ws:=ws) fun x hx=>(hw x hx).1
 have h1:o.length^fG ws≤9^fG ws:=Nat.pow_le_pow_left hd.2.2 _
 have h2:9^fG ws≤9^9:=Nat.pow_le_pow_right (by omega) (by omega)
 have h3:9^9≤1099511627776:=by decide
 exact Nat.le_trans h1 (Nat.le_trans h2 h3)
theorem yG{m o ws:List Int}(hi:aJ m o=true)(hw: ∀w∈ws,0≤w∧w≤9)(hs:aT ws=aT o-aT m):(kN m o ws).length≤1099511627776:=
 Nat.le_trans (nx m o ws 1 _) (xG hi hw hs)
theorem wT{m o ws:List Int}(hi:aJ m o=true)(hw:ws.length≤9)(hs:(fG ws:Int)=aT o-aT m){t:Tab}(ht:t∈kN m o ws):j3 t:=by
 obtain⟨a1,a2,a3,_⟩:=pJ hi hw hs ht
 have h:=yE a3
 exact⟨by omega,by have:=h.2.1;omega,fun x hx=>by have:=h.2.2 x hx;omega⟩
theorem pI: ∀n:Nat,aT (List.replicate n 1)=n
 |0=>rfl
 |n+1=>by rw[List.replicate_succ,aT,pI n];omega
end Go.Am.Pu
end
section
/- Chains of partitions and fillings by single numbers. Plain words. -/
namespace Go.Am.Pu
open Go
theorem Ic{l:List Int}{z:Int}(h0:0≤z)(h1:z<l.length):atI l z∈l:=by
 unfold atI
 rw[if_neg (by omega),an (show z.toNat<l.length by omega)]
 exact List.getElem_mem _
theorem HN{m o:List Int}{k:Int}{R:List (List Int)}{i:Nat}{A:List Int}{c:Nat}(hR:i≤R.length)(hrow:0<i→R.getD (i-1) []=A++List.replicate c k)(hA: ∀x∈A,1≤x∧x<k)(hk:1≤k):
  shut m o k R i=false↔fR m R i≠o.getD i 0∧(i=0∨fR m R i<m.getD (i-1) 0+A.length):=by
 have key:shut m o k R i=false↔fR m R i≠o.getD i 0∧(i=0∨fR m R i<m.getD (i-1) 0∨(entry (m,R) ((i:Int)-1) (fR m R i)≠0∧entry (m,R) ((i:Int)-1) (fR m R i)≠k)):=by
  refine⟨vw,fun h=> ?_⟩
  unfold shut
  simp only[Bool.or_eq_false_iff,decide_eq_false_iff_not,Bool.and_eq_false_iff]
  refine⟨h.1,?_⟩
  rcases h.2 with h|h|h
  ·exact .inl (by omega)
  ·exact .inr (.inl (by omega))
  ·exact .inr (.inr h)
 rw[key]
 by_cases h0:i=0
 ·simp[h0]
 ·obtain⟨a,rfl⟩: ∃a,i=a+1:=⟨i-1,by omega⟩
  have e:(((a+1:Nat):Int)-1)=(a:Int):=by omega
  have e2:a+1-1=a:=rfl
  have hent:entry (m,R) (a:Int) (fR m R (a+1))=atI (R.getD a []) (fR m R (a+1)-m.getD a 0):=iL (t:=(m,R)) (r:=a) (by show a<R.length;omega) _
  rw[e,e2,hent]
  have hr:=hrow (by omega)
  rw[e2]at hr
  rw[hr]
  generalize fR m R (a+1)=x
  refine and_congr_right fun _=>⟨fun h=> ?_,fun h=> ?_⟩
  ·rcases h with h|h|⟨h1,h2⟩
   ·exact .inl h
   ·exact .inr (by omega)
   ·right
    refine Int.not_le.1 fun hle=> ?_
    have hz:0≤x-m.getD a 0:=by omega
    rcases Int.lt_or_le (x-m.getD a 0) ((A++List.replicate c k).length:Int)with hlt|hge
    ·refine h2 ?_
     unfold atI
     rw[if_neg (by omega),List.getD_eq_getElem?_getD,List.getElem?_append_right (by omega),List.getElem?_replicate]
     rw[List.length_append,List.length_replicate]at hlt
     rw[if_pos (by omega)]
     rfl
    ·exact h1 (xj hge)
  ·rcases h with h|h
   ·exact .inl h
   ·right
    by_cases hm:x<m.getD a 0
    ·exact .inl hm
    ·right
     have e3:atI (A++List.replicate c k) (x-m.getD a 0)=atI A (x-m.getD a 0):=by
      unfold atI
      rw[if_neg (by omega),if_neg (by omega),List.getD_eq_getElem?_getD,List.getElem?_append_left (by omega),←List.getD_eq_getElem?_getD]
     rw[e3]
     have:=hA _ (Ic (l:=A) (z:=x-m.getD a 0) (by omega) (by omega))
     exact⟨by omega,by omega⟩
theorem BI(m o:List Int)(k:Int)(rest:List (List Int)→List Tab): ∀(q i:Nat) (R:List (List Int)),nh m o k rest 1 q i R=(List.range' i q).flatMap fun j=>if shut m o k R j=true then []else rest (dH k R j)
 |0,i,R=>by rw[pO];rfl
 |q+1,i,R=>by
  rw[pM,BI m o k rest q (i+1) R,List.range'_succ,List.flatMap_cons,pV]
def fU(o:List Int):Nat→List (List Int)→List (List (List Int))
 |0,c=> [c]
 |d+1,c=>(List.range ((bD c).length+1)).flatMap fun r=>if(cW (bD c) (r:Nat)).2=true∧aJ (cW (bD c) (r:Nat)).1 o=true then fU o d (c++ [(cW (bD c) (r:Nat)).1])else []
theorem nw{α β:Type}(f:α→List β)(B:Nat): ∀l:List α,(∀x∈l,(f x).length≤B)→(l.flatMap f).length≤l.length*B
 | [],_=>by simp
 |x::l,h=>by
  rw[List.flatMap_cons,List.length_append,List.length_cons,Nat.succ_mul]
  have:=nw f B l fun y hy=>h y (by simp[hy])
  have:=h x (by simp)
  omega
theorem tU(o:List Int): ∀(d:Nat) (c:List (List Int)),aX (bD c)=true→(fU o d c).length≤10^d
 |0,c,_=>by simp[fU]
 |d+1,c,hc=>by
  have h9:=(aH hc).2.2.1
  rw[fU]
  have:=nw (fun r:Nat=>if(cW (bD c) (r:Nat)).2=true∧aJ (cW (bD c) (r:Nat)).1 o=true then fU o d (c++ [(cW (bD c) (r:Nat)).1])else []) (10^d) (List.range ((bD c).length+1)) (fun r _=>by
   split
   ·next h=>
    refine tU o d _ ?_
    rw[j6]
    exact(eU h.2).1
   ·simp)
  refine Nat.le_trans this ?_
  rw[List.length_range,Nat.pow_succ,Nat.mul_comm]
  exact Nat.mul_le_mul_left _ (by omega)
def zq(c:List (List Int))(r:Nat):List Int:=((List.range' 1 (c.length-1)).filter fun k=>decide ((c.getD (k-1) []).getD r 0<(c.getD k []).getD r 0)).map fun k:Nat=>(k:Int)
def ou(c:List (List Int)):Tab:=(c.getD 0 [],(List.range (bD c).length).map (zq c))
theorem FY{c:List (List Int)}(hc:1≤c.length)(q:List Int)(r:Nat):zq (c++ [q]) r=zq c r++(if(bD c).getD r 0<q.getD r 0 then [(c.length:Int)]else []):=by
 unfold zq
 have hg: ∀k,k<c.length→(c++ [q]).getD k []=c.getD k []:=fun k hk=>by
  rw[List.getD_eq_getElem?_getD,List.getElem?_append_left hk,←List.getD_eq_getElem?_getD]
 have hq:(c++ [q]).getD c.length []=q:=by
  rw[List.getD_eq_getElem?_getD,List.getElem?_append_right (Nat.le_refl _),Nat.sub_self];rfl
 have e:(c++ [q]).length-1=(c.length-1)+1:=by rw[List.length_append,List.length_singleton];omega
 rw[e,List.range'_concat,List.filter_append,List.map_append]
 congr 1
 ·congr 1
  apply List.filter_congr
  intro k hk
  have:=List.mem_range'_1.1 hk
  rw[hg k (by omega),hg (k-1) (by omega)]
 ·have e2:1+1*(c.length-1)=c.length:=by omega
  rw[e2]
  have e3:(c++ [q]).getD (c.length-1) []=bD c:=hg _ (by omega)
  by_cases h:(bD c).getD r 0<q.getD r 0
  ·rw[if_pos h,List.filter_cons_of_pos (by rw[e3,hq];exact decide_eq_true h)]
   rfl
  ·rw[if_neg h,List.filter_cons_of_neg (by rw[e3,hq];simpa using h)]
   rfl
theorem EN{p o:List Int}(h:aJ p o=true)(hs:aT o=aT p):p=o:=by
 obtain⟨i1,i2,i3,i4⟩:=fE h
 have hle:=kt h
 have hge: ∀i,o.getD i 0≤p.getD i 0:=fun i=>Int.not_lt.1 fun hlt=>by
  have:=(sC hle).2 i hlt
  omega
 have hl:p.length=o.length:=by
  refine Nat.le_antisymm i3 (Nat.le_of_not_lt fun hlt=> ?_)
  have h1:=hge p.length
  rw[bo (Nat.le_refl _),an hlt]at h1
  have:=(aH i2).1 _ (List.getElem_mem hlt)
  omega
 refine List.ext_getElem hl fun i h1 h2=> ?_
 have a:=hle i
 have b:=hge i
 rw[an h1,an h2]at a b
 omega
structure Tog (m o : List Int) (c : List (List Int)) (R : List (List Int)) : Prop where
  pos : 1 ≤ c.length
  inn : aJ (bD c) o = true
  row : R = (List.range o.length).map (zq c)
  fst : c.getD 0 [] = m
  fill : lu m o ((c.length : Int) - 1) R
  ext : ∀ i, i < o.length → fR m R i = (bD c).getD i 0
theorem Tog.shut{m o:List Int}{c:List (List Int)}{R:List (List Int)}(h:Tog m o c R){i:Nat}(hi:i<o.length):Pu.shut m o c.length R i=false↔(bD c).getD i 0≠o.getD i 0∧(i=0∨(bD c).getD i 0<(bD c).getD (i-1) 0):=by
 have hl:=h.fill.ok.1
 rw[HN (A:=R.getD (i-1) []) (c:=0) (by omega) (fun _=>by simp) (fun x hx=> ?_) (by have:=h.pos;omega),h.ext i hi]
 ·refine and_congr_right fun _=> ?_
  by_cases h0:i=0
  ·simp[h0]
  ·rw[←h.ext (i-1) (by omega)]
   rfl
 ·have h1:=h.fill.le (i-1) x hx
  obtain⟨q,hq,rfl⟩:=List.getElem_of_mem hx
  have hr:i-1<R.length:=by omega
  have h2:=(qL.1 (h.fill.cell (i-1) q hr hq)).1.1
  unfold cel at h2
  have h3:(m,R).2=R:=rfl
  rw[h3,an hq]at h2
  exact⟨h2,by omega⟩
theorem Tog.add{m o:List Int}{c:List (List Int)}{R:List (List Int)}(h:Tog m o c R)(h9:c.length≤9){i:Nat}(hi:i<o.length)(hs:aT (bD c)<aT o)(hsh:Pu.shut m o c.length R i=false):
  ∃q,cW (bD c) i=(q,true)∧aJ q o=true∧Tog m o (c++ [q]) (dH c.length R i):=by
 obtain⟨hp,ho⟩:=eU h.inn
 have hle:=kt h.inn
 have ho9:=(aH ho).2.1
 obtain⟨s1,s2⟩:=(h.shut hi).1 hsh
 have hil:i≤(bD c).length:=by
  refine Nat.le_of_not_lt fun hlt=> ?_
  rcases s2 with s2|s2
  ·omega
  ·rw[bo (by omega),bo (by omega)]at s2;omega
 obtain⟨q,hq⟩:=xK hp hil (by rcases s2 with s2|s2;exact .inl s2;exact .inr (by omega)) (by omega)
 obtain⟨b1,b2,b3,b4,b5⟩:=iR hq
 have hin:aJ q o=true:=rH b5 ho fun r=>by
  rw[b4]
  have:=hle r
  split
  ·next e=>subst e;omega
  ·exact this
 have hR:=h.fill.ok.1
 refine⟨q,hq,hin,⟨by rw[List.length_append,List.length_singleton];omega,by rw[j6];exact hin,?_,?_,?_,?_⟩⟩
 ·have hrow: ∀r,r<o.length→R.getD r []=zq c r:=fun r hr=>by
   rw[h.row,List.getD_eq_getElem?_getD,List.getElem?_map,List.getElem?_range hr]
   rfl
  refine List.ext_getElem (by rw[jS,hR];simp) fun r h1 h2=> ?_
  rw[jS,hR]at h1
  have e1:(dH (c.length:Int) R i)[r]'(by rw[jS];omega)=(dH (c.length:Int) R i).getD r []:=(an (by rw[jS];omega) []).symm
  rw[e1,jO,List.getElem_map,List.getElem_range,FY h.pos]
  by_cases e:i=r
  ·subst e
   rw[if_pos ⟨rfl,by omega⟩,hrow i hi,if_pos (by rw[b4,if_pos rfl];omega)]
  ·rw[if_neg (fun hh=>e hh.1),hrow r h1,if_neg (by rw[b4,if_neg (Ne.symm e)];omega),List.append_nil]
 ·rw[List.getD_eq_getElem?_getD,List.getElem?_append_left (by have:=h.pos;omega),←List.getD_eq_getElem?_getD]
  exact h.fst
 ·have:=(h.fill.mono (show(c.length:Int)-1≤c.length by omega)).push (by have:=h.pos;omega) (by omega) hi hsh
  rw[List.length_append,List.length_singleton]
  have e:((c.length+1:Nat):Int)-1=c.length:=by omega
  rw[e]
  exact this
 ·intro r hr
  rw[vK m _ (by omega),j6,b4,h.ext r hr]
  by_cases e:i=r
  ·subst e;rw[if_pos rfl,if_pos rfl]
  ·rw[if_neg e,if_neg (Ne.symm e),Int.add_zero]
theorem yg{m o:List Int}: ∀(d:Nat) (c:List (List Int)) (R:List (List Int)),c.length+d≤10→Tog m o c R→aT o=aT (bD c)+d→lq m o (List.replicate d 1) c.length R=(fU o d c).map ou
 |0,c,R,_,h,hs=>by
  have e:bD c=o:=EN h.inn (by omega)
  rw[fU]
  show [(m,R)]= [ou c]
  unfold ou
  rw[e,←h.row,h.fst]
 |d+1,c,R,hd,h,hs=>by
  obtain⟨hp,ho⟩:=eU h.inn
  have hlen:=(fE h.inn).2.2.1
  rw[List.replicate_succ,lq,fU,show(1:Int).toNat=1 from rfl,BI,List.map_flatMap]
  obtain⟨g,hg⟩: ∃g:Nat→List Tab,g=fun r:Nat=>(if(cW (bD c) (r:Nat)).2=true∧aJ (cW (bD c) (r:Nat)).1 o=true then fU o d (c++ [(cW (bD c) (r:Nat)).1])else []).map ou:=⟨_,rfl⟩
  have hg0: ∀r,((bD c).length<r∨o.length≤r)→g r= []:=fun r hr=>by
   rw[hg]
   dsimp only
   rw[if_neg]
   ·rfl
   ·rintro⟨h1,h2⟩
    cases hq:cW (bD c) (r:Nat)with
    |mk q b=>
    rw[hq]at h1 h2
    dsimp only at h1 h2
    subst h1
    obtain⟨b1,b2,b3,b4,b5⟩:=iR hq
    have:=(fE h2).2.2.1
    omega
  have ext: ∀a b,a≤b→(∀r,a≤r→r<b→g r= [])→(List.range a).flatMap g=(List.range b).flatMap g:=fun a b hab h0=>by
   obtain⟨e,rfl⟩: ∃e,b=a+e:=⟨b-a,by omega⟩
   clear hab
   induction e with
   |zero=>rfl
   |succ e ih=>
    rw[←Nat.add_assoc,List.range_succ,List.flatMap_append,←ih fun r h1 h2=>h0 r h1 (by omega)]
    have:=h0 (a+e) (by omega) (by omega)
    simp[this]
  have e1:(List.range ((bD c).length+1)).flatMap g=(List.range (o.length+1)).flatMap g:=ext _ _ (by omega) fun r h1 h2=>hg0 r (.inl (by omega))
  have e2:(List.range o.length).flatMap g=(List.range (o.length+1)).flatMap g:=ext _ _ (by omega) fun r h1 h2=>hg0 r (.inr (by omega))
  show _=(List.range ((bD c).length+1)).flatMap (fun r:Nat=>(if(cW (bD c) (r:Nat)).2=true∧aJ (cW (bD c) (r:Nat)).1 o=true then fU o d (c++ [(cW (bD c) (r:Nat)).1])else []).map ou)
  rw[←hg,e1,←e2,←List.range_eq_range']
  have cong: ∀(l:List Nat),(∀r∈l,r<o.length)→(l.flatMap fun j=>if Pu.shut m o c.length R j=true then []else lq m o (List.replicate d 1) ((c.length:Int)+1) (dH c.length R j))=l.flatMap g:=by
   intro l
   induction l with
   |nil=>intro _;rfl
   |cons r l ih=>
    intro hl
    rw[List.flatMap_cons,List.flatMap_cons,ih fun x hx=>hl x (by simp[hx])]
    congr 1
    have hr:=hl r (by simp)
    rw[hg]
    dsimp only
    cases hsh:Pu.shut m o c.length R r with
    |true=>
     rw[if_pos rfl,if_neg]
     ·rfl
     ·rintro⟨h1,h2⟩
      cases hq:cW (bD c) (r:Nat)with
      |mk q b=>
      rw[hq]at h1 h2
      dsimp only at h1 h2
      subst h1
      obtain⟨b1,b2,b3,b4,b5⟩:=iR hq
      have hf:Pu.shut m o c.length R r=false:=(h.shut hr).2 ⟨?_,?_⟩
      ·rw[hf]at hsh;cases hsh
      ·have:=kt h2 r
       rw[b4,if_pos rfl]at this
       omega
      ·by_cases r0:r=0
       ·exact .inl r0
       ·right
        have:=fN b5 (r-1)
        rw[show r-1+1=r by omega,b4,if_pos rfl,b4,if_neg (by omega)]at this
        omega
    |false=>
     obtain⟨q,h1,h2,h3⟩:=h.add (by omega) hr (by omega) hsh
     rw[h1]
     dsimp only
     rw[if_neg (by decide),if_pos ⟨rfl,h2⟩]
     have hsq:=sum_add hp h1
     have:=yg d (c++ [q]) (dH c.length R r) (by rw[List.length_append,List.length_singleton];omega) h3 (by rw[j6];omega)
     rw[List.length_append,List.length_singleton,Int.natCast_add]at this
     exact this
  exact cong _ fun r hr=>List.mem_range.1 hr
theorem I0{m o:List Int}(hi:aJ m o=true):Tog m o [m] (List.replicate o.length []):=by
 refine⟨by simp,hi,?_,rfl,Fq hi _,fun i hi=> ?_⟩
 ·refine List.ext_getElem (by simp) fun i h1 h2=> ?_
  rw[List.getElem_replicate,List.getElem_map]
  rfl
 ·unfold fR
  rw[nk]
  show m.getD i 0+((0:Nat):Int)=m.getD i 0
  omega
theorem ru{m o:List Int}(hi:aJ m o=true){d:Nat}(hd:aT o=aT m+d):kN m o (List.replicate d 1)=(fU o d [m]).map ou:=by
 have h9:=jF hi
 exact yg d [m] _ (by show 1+d≤10;omega) (I0 hi) hd
end Go.Am.Pu
end
section
/- A chain's tableau, row by row; lists put in order one by one. Plain words. -/
namespace Go.Am.Pu
open Go
def tQ(c:List (List Int))(r q:Nat):List Int:=((List.range' 1 (q-1)).filter fun k=>decide ((c.getD (k-1) []).getD r 0<(c.getD k []).getD r 0)).map fun k:Nat=>(k:Int)
theorem EM(c:List (List Int))(r:Nat):tQ c r c.length=zq c r:=rfl
theorem Cy(c:List (List Int))(r:Nat){q:Nat}(hq:1≤q):tQ c r (q+1)=tQ c r q++(if(c.getD (q-1) []).getD r 0<(c.getD q []).getD r 0 then [(q:Int)]else []):=by
 unfold tQ
 have e:q+1-1=(q-1)+1:=by omega
 rw[e,List.range'_concat,List.filter_append,List.map_append]
 congr 1
 have e2:1+1*(q-1)=q:=by omega
 rw[e2]
 by_cases h:(c.getD (q-1) []).getD r 0<(c.getD q []).getD r 0
 ·rw[if_pos h,List.filter_cons_of_pos (by simpa using h)]
  rfl
 ·rw[if_neg h,List.filter_cons_of_neg (by simpa using h)]
  rfl
theorem EY(c:List (List Int))(r q:Nat):(tQ c r q).length≤q-1:=by
 unfold tQ
 rw[List.length_map]
 exact Nat.le_trans (List.length_filter_le _ _) (by simp)
theorem Ck(l:List Tab)(t:Tab)(a:Nat):putAt l t (a+1)=if bl (aZ t) (aZ (l.getD a ([],[])))=true then putAt l t a else a+1:=rfl
theorem Ew(l:List Tab)(t:Tab):hU (l++ [t])=tu (hU l) t:=by
 unfold hU
 rw[List.foldl_append]
 rfl
theorem ID(x y:List UInt8):(!(bl x y||decide (x=y)))=bl y x:=by
 cases h:bl y x with
 |true=>
  have h1:bl x y=false:=by
   cases h2:bl x y with
   |false=>rfl
   |true=>have:=px _ _ _ h h2;rw[mZ]at this;cases this
  have h2:x≠y:=fun e=>by subst e;rw[mZ]at h;cases h
  rw[h1,decide_eq_false h2];rfl
 |false=>
  cases h2:bl x y with
  |true=>rfl
  |false=>rw[decide_eq_true (rM x y h2 h)];rfl
end Go.Am.Pu
namespace Go.Am.Pu
theorem tK: ∀(l:List Tab),(∀t∈l,t.1.length≤9∧eu 9 9 t.2)→j4 l≤l.length*100
 | [],_=>by simp[j4]
 |t::l,h=>by
  obtain⟨a,b,c⟩:=h t (List.mem_cons_self ..)
  have d:=vn t.2 9 c
  have e:=tK l fun x hx=>h x (List.mem_cons_of_mem _ hx)
  rw[qP,List.length_cons]
  omega
theorem Cm{m o ws:List Int}(hi:aJ m o=true)(hw: ∀w∈ws,0≤w∧w≤9)(hs:aT ws=aT o-aT m):(kN m o ws).length≤387420489:=by
 have hd:=jF hi
 have hn:=lI (ws:=ws) fun x hx=>(hw x hx).1
 have h1:o.length^fG ws≤9^fG ws:=Nat.pow_le_pow_left hd.2.2 _
 have h2:9^fG ws≤9^9:=Nat.pow_le_pow_right (by omega) (by omega)
 exact Nat.le_trans (nx m o ws 1 _) (Nat.le_trans h1 h2)
theorem zu{m o ws:List Int}(hi:aJ m o=true)(h9:ws.length≤9)(hw: ∀w∈ws,0≤w∧w≤9)(hs:aT ws=aT o-aT m):(hU (kN m o ws)).length≤387420489∧ ∀t∈hU (kN m o ws),t.1.length≤9∧eu 9 9 t.2:=by
 refine⟨by rw[xQ];exact Cm hi hw hs,fun t ht=> ?_⟩
 have ht:=(jt _).mem_iff.1 ht
 exact yE (pJ hi h9 (by rw[lI fun x hx=>(hw x hx).1];exact hs) ht).2.2.1
theorem Gz{t:Tab}(h:t.1.length≤9∧eu 9 9 t.2):j3 t:=⟨by omega,by have:=h.2.1;omega,fun x hx=>by have:=h.2.2 x hx;omega⟩
end Go.Am.Pu
end
