/- Plain laws of lists, partitions, shapes and tableaux; no program in sight. -/
import Derived.Test.YtlfpegcoaebmkaaGreatAmP
set_option linter.unusedSimpArgs false
set_option linter.unusedVariables false
set_option linter.unnecessarySimpa false
set_option linter.unusedSectionVars false
section
/- Rules for loops over data: a loop that looks at all, a loop that folds. -/
namespace Go.Am.Pu
open Go.Am
theorem w64{n:Int}(h1: -9223372036854775808≤n)(h2:n≤9223372036854775807):IntKind.i64.wrap n=n:=Go.Am.w64 h1 h2
theorem mO{R:Type}(L:Nat→Nat→Option R)(n:Nat)(p:Nat→Bool)(bad Ff:Option R)
  (hs: ∀j i,i<n→L (j+1) i=if p i=true then L j (i+1)else bad) (he: ∀j,L (j+1) n=Ff):
  ∀(m j i:Nat),i+m=n→m<j→L j i=if(List.range' i m).all p=true then Ff else bad
 |m,0,i,_,h=>by omega
 |0,j+1,i,h,_=>by
  have:i=n:=by omega
  subst this
  rw[he];rfl
 |m+1,j+1,i,h,hj=>by
  rw[hs j i (by omega),mO L n p bad Ff hs he m j (i+1) (by omega) (by omega),List.range'_succ,List.all_cons]
  cases p i
  ·rw[if_neg (by simp),Bool.false_and,if_neg (by simp)]
  ·rw[if_pos rfl,Bool.true_and]
theorem eF{p:Nat→Bool}{n:Nat}:(List.range' 0 n).all p=true↔ ∀i,i<n→p i=true:=by
 simp[List.all_eq_true,List.mem_range'_1]
theorem au{α:Type}{xs:List α}{i:Nat}(h:i<xs.length)(d:α):xs.getD i d=xs[i]:=by
 simp only[List.getD_eq_getElem?_getD,List.getElem?_eq_getElem h,Option.getD_some]
theorem bS{α:Type}{xs:List α}{i:Nat}(h:xs.length≤i)(d:α):xs.getD i d=d:=by
 simp only[List.getD_eq_getElem?_getD,List.getElem?_eq_none h,Option.getD_none]
theorem drop_cons{α:Type}{xs:List α}{i:Nat}(h:i<xs.length)(d:α):xs.drop i=xs.getD i d::xs.drop (i+1):=by
 rw[au h,List.drop_eq_getElem_cons h]
theorem take_succ{α:Type}{xs:List α}{i:Nat}(h:i<xs.length)(d:α):xs.take (i+1)=xs.take i++ [xs.getD i d]:=by
 rw[au h,List.take_succ_eq_append_getElem h]
end Go.Am.Pu
end
section
/- Marking memory and looking whether the marks are held. -/
namespace Go.Am.Pu
def held:List Int→Int→Int
 | [],q=>q
 |x::xs,q=>if x=q then held xs (q+1)else-1
def j4:List (List Int)→Nat
 | []=>0
 |x::xs=>x.length+j4 xs
theorem xF: ∀(xs:List (List Int)) (n:Nat),(∀x∈xs,x.length≤n)→j4 xs≤xs.length*n
 | [],n,_=>by simp[j4]
 |x::xs,n,h=>by
  have h1:=h x (by simp)
  have h2:=xF xs n fun y hy=>h y (by simp[hy])
  simp only[j4,List.length_cons,Nat.succ_mul]
  omega
theorem xX{xs:List (List Int)}(h:xs.length≤1048576)(hr: ∀x∈xs,x.length≤1048576):j4 xs≤1099511627776:=by
 have h1:=xF xs 1048576 hr
 have h2:xs.length*1048576≤1048576*1048576:=Nat.mul_le_mul_right _ h
 omega
end Go.Am.Pu
end
section
/- Partitions, shapes and tableaux as plain words. -/
namespace Go.Am.Pu
def within(x lo hi:Int):Bool:=decide (lo≤x)&&decide (x≤hi)
def atI(p:List Int)(i:Int):Int:=if i<0 then 0 else p.getD i.toNat 0
theorem cH(p:List Int)(i:Nat):atI p (i:Int)=p.getD i 0:=by simp[atI];omega
theorem qB{p:List Int}{i:Int}(h:i<0):atI p i=0:=by simp[atI,h]
theorem BY{p:List Int}{i:Int}(h:(p.length:Int)≤i):atI p i=0:=by
 unfold atI
 split
 ·rfl
 ·exact bS (by omega) 0
def fO:List Int→Int→Int→Bool
 | [],_,_=>true
 |x::xs,prev,s=>decide (1≤x)&&(decide (x≤prev)&&(decide (s+x≤9)&&fO xs x (s+x)))
def b8(p:List Int):Bool:=fO p 9 0
def fX:List Int→Int
 | []=>0
 |x::xs=>x+fX xs
theorem uX: ∀(p:List Int) (prev s:Int),fO p prev s=true→(∀x∈p,1≤x∧x≤prev)∧(p≠ []→s+fX p≤9)∧(p.length:Int)≤fX p
 | [],prev,s,_=>⟨fun x h=>(by cases h),fun h=>absurd rfl h,(by simp[fX])⟩
 |x::xs,prev,s,h=>by
  simp only[fO,Bool.and_eq_true,decide_eq_true_eq]at h
  obtain⟨h1,h2,h3,h4⟩:=h
  obtain⟨k1,k2,k3⟩:=uX xs x (s+x) h4
  refine⟨fun y hy=> ?_,fun _=> ?_,?_⟩
  ·rcases List.mem_cons.1 hy with rfl|hy
   ·exact⟨h1,h2⟩
   ·have:=k1 y hy;omega
  ·simp only[fX]
   by_cases e:xs= []
   ·subst e;simp[fX];omega
   ·have:=k2 e;omega
  ·simp only[fX,List.length_cons];omega
theorem bQ{p:List Int}(h:b8 p=true):(∀x∈p,1≤x∧x≤9)∧fX p≤9∧p.length≤9∧(p.length:Int)≤fX p:=by
 obtain⟨h1,h2,h3⟩:=uX p 9 0 h
 have:fX p≤9:=by
  by_cases e:p= []
  ·subst e;simp[fX]
  ·have:=h2 e;omega
 exact⟨h1,this,by omega,h3⟩
theorem dX{p:List Int}(h:b8 p=true)(i:Int):0≤atI p i∧atI p i≤9:=by
 unfold atI
 split
 ·omega
 ·by_cases hl:i.toNat<p.length
  ·rw[au hl]
   have:=(bQ h).1 _ (List.getElem_mem hl)
   omega
  ·rw[bS (by omega)];omega
def dQ(q p:List Int):Bool:=b8 q&&(b8 p&&(decide (q.length≤p.length)&&(List.range' 0 q.length).all fun i=>decide (q.getD i 0≤p.getD i 0)))
theorem BA{q p:List Int}(hq:b8 q=true)(h:(List.range' 0 q.length).all (fun i=>decide (q.getD i 0≤p.getD i 0))=true):q.length≤p.length:=by
 rw[eF]at h
 refine Nat.le_of_not_lt fun hlt=> ?_
 have h1:=h p.length hlt
 rw[decide_eq_true_eq,bS (Nat.le_refl _),au hlt]at h1
 have:=(bQ hq).1 _ (List.getElem_mem hlt)
 omega
theorem AS{q p:List Int}:dQ q p=(b8 q&&(b8 p&&(List.range' 0 q.length).all fun i=>decide (q.getD i 0≤p.getD i 0))):=by
 unfold dQ
 cases hq:b8 q with
 |false=>rfl
 |true=>
  cases hp:b8 p with
  |false=>rfl
  |true=>
   simp only[Bool.true_and]
   cases ha:(List.range' 0 q.length).all fun i=>decide (q.getD i 0≤p.getD i 0)with
   |false=>simp
   |true=>simp[BA hq ha]
def fE(inner:List Int):Nat→List (List Int)→List Int
 |_,[]=> []
 |i,r::rs=>(inner.getD i 0+r.length)::fE inner (i+1) rs
theorem lE(inner:List Int): ∀(rs:List (List Int)) (i:Nat),(fE inner i rs).length=rs.length
 | [],_=>rfl
 |_::rs,i=>by simp[fE,lE inner rs]
theorem gK(inner:List Int): ∀(rs:List (List Int)) (i q:Nat),q<rs.length→(fE inner i rs).getD q 0=inner.getD (i+q) 0+(rs.getD q []).length
 | [],i,q,h=>by simp at h
 |r::rs,i,0,_=>by simp[fE]
 |r::rs,i,q+1,h=>by
  have:=gK inner rs (i+1) q (by simpa using h)
  simp only[fE,List.getD_cons_succ]
  rw[this]
  have e:i+1+q=i+(q+1):=by omega
  rw[e]
abbrev Tab:=List Int×List (List Int)
def outer(t:Tab):List Int:=fE t.1 0 t.2
def dt(t:Tab):Bool:=b8 t.1&&(decide (t.1.length≤t.2.length)&&dQ t.1 (outer t))
def shapeOf(t:Tab):(List Int×List Int)×Bool:=if dt t=true then((outer t,t.1),true)else(([],[]),false)
theorem Bf{t:Tab}(h:dt t=true):t.2.length≤9:=by
 simp only[dt,dQ,Bool.and_eq_true]at h
 have:=(bQ h.2.2.2.1).2.2.1
 rw[outer,lE]at this
 exact this
def entry(t:Tab)(r c:Int):Int:=if r<0 then 0 else if(t.2.length:Int)≤r then 0 else atI (t.2.getD r.toNat []) (c-atI t.1 r)
theorem kT{t:Tab}{r:Nat}(h:r<t.2.length)(c:Int):entry t r c=atI (t.2.getD r []) (c-t.1.getD r 0):=by
 unfold entry
 rw[if_neg (by omega),if_neg (by omega),cH]
 rfl
theorem DM{t:Tab}{r c:Int}(h:r<0):entry t r c=0:=by unfold entry;rw[if_pos h]
theorem zV{t:Tab}{r q:Nat}(h:r<t.2.length):entry t r (t.1.getD r 0+q)=(t.2.getD r []).getD q 0:=by
 rw[kT h]
 have e:t.1.getD r 0+(q:Int)-t.1.getD r 0=q:=by omega
 rw[e,cH]
theorem Cg{t:Tab}{r q:Nat}(h:r<t.2.length):entry t r (t.1.getD r 0+q-1)=if q=0 then 0 else(t.2.getD r []).getD (q-1) 0:=by
 rw[kT h]
 by_cases e:q=0
 ·subst e
  rw[if_pos rfl,qB (by omega)]
 ·rw[if_neg e]
  have e:t.1.getD r 0+(q:Int)-1-t.1.getD r 0=((q-1:Nat):Int):=by omega
  rw[e,cH]
def fY(t:Tab)(i k:Nat):Bool:=within ((t.2.getD i []).getD k 0) 1 9&&((decide (k=0)||decide ((t.2.getD i []).getD (k-1) 0≤(t.2.getD i []).getD k 0))&&
 (decide (i=0)||decide (entry t ((i:Int)-1) (t.1.getD i 0+k)<(t.2.getD i []).getD k 0)))
def dD(t:Tab):Bool:=dt t&&(List.range' 0 t.2.length).all fun i=>(List.range' 0 (t.2.getD i []).length).all fun k=>fY t i k
def ba(t:Tab):Bool:=dD t&&decide (t.1.length=0)
theorem tq{t:Tab}(h:dD t=true):dt t=true:=by
 simp only[dD,Bool.and_eq_true]at h;exact h.1
theorem qo(inner:List Int): ∀(rs:List (List Int)) (i:Nat),(∀q,i≤q→inner.getD q 0=0)→fX (fE inner i rs)=rs.flatten.length
 | [],i,_=>rfl
 |r::rs,i,h=>by
  simp only[fE,fX,List.flatten_cons,List.length_append]
  rw[qo inner rs (i+1) (fun q hq=>h q (by omega)),h i (Nat.le_refl _)]
  omega
theorem ig{t:Tab}(h:ba t=true):t.2.flatten.length≤9:=by
 simp only[ba,Bool.and_eq_true,decide_eq_true_eq]at h
 have hs:=tq h.1
 simp only[dt,dQ,Bool.and_eq_true]at hs
 have h9:=(bQ hs.2.2.2.1).2.1
 have:t.1= []:=List.eq_nil_of_length_eq_zero h.2
 rw[outer,qo t.1 t.2 0 (fun q _=>by rw[this];rfl)]at h9
 omega
def bq:List (List Int)→Int→List (List Int)×Nat
 | [],x=>([[x]],0)
 |r::rs,x=>if r.findIdx (fun n=>decide (x<n))<r.length
   then(r.set (r.findIdx fun n=>decide (x<n)) x::(bq rs (r.getD (r.findIdx fun n=>decide (x<n)) 0)).1,(bq rs (r.getD (r.findIdx fun n=>decide (x<n)) 0)).2+1)
   else((r++ [x])::rs,0)
def iO(t:Tab):Prop:=t.1.length≤1048576∧t.2.length≤1048576∧ ∀x∈t.2,x.length≤1048576
theorem iO.nil:iO ([],[]):=⟨by simp,by simp,fun x h=>by cases h⟩
theorem pS: ∀{rs:List (List Int)} {r:List Int},r∈rs→r.length≤rs.flatten.length
 |q::rs,r,h=>by
  simp only[List.flatten_cons,List.length_append]
  rcases List.mem_cons.1 h with rfl|h
  ·omega
  ·have:=pS h;omega
theorem findIdx_le{p:Int→Bool}{r:List Int}{i:Nat}(hlt:i<r.length)(h:p (r.getD i 0)=true):r.findIdx p≤i:=
 Nat.le_of_not_lt fun h'=>by
  have:=List.not_of_lt_findIdx h'
  rw[au hlt]at h
  rw[h]at this;cases this
theorem oK{p:Int→Bool}{r:List Int}(h:r.findIdx p<r.length):p (r.getD (r.findIdx p) 0)=true:=by
 rw[au h];exact List.findIdx_getElem
theorem yu{α:Type}{xs:List α}{i:Nat}(h:i<xs.length)(x:α):xs.set i x=xs.take i++x::xs.drop (i+1):=by
 rw[List.set_eq_take_append_cons_drop,if_pos h]
theorem qV{α:Type}{xs:List α}{i:Nat}(h:i<xs.length)(x:α):(xs.set i x).take (i+1)=xs.take i++ [x]:=by
 have h':i<(xs.set i x).length:=by rw[List.length_set];exact h
 rw[take_succ h' x,List.take_set_of_le (Nat.le_refl _),au h',List.getElem_set_self]
theorem qN{α:Type}{xs:List α}{i:Nat}(x:α):(xs.set i x).drop (i+1)=xs.drop (i+1):=by
 rw[List.drop_set_of_lt (by omega)]
end Go.Am.Pu
end
section
/- Standard tableaux, weights, descents: plain words. -/
namespace Go.Am.Pu
theorem v9{α R:Type}(r:List α)(d:α)(p:α→Bool)(L:Nat→Nat→Option R)(hit:Nat→Option R)(miss:Option R)
  (hs: ∀j i,i<r.length→L (j+1) i=if p (r.getD i d)=true then hit i else L j (i+1)) (he: ∀j,L (j+1) r.length=miss):
  ∀(m j i:Nat),i+m=r.length→m<j→i≤r.findIdx p→L j i=if r.findIdx p<r.length then hit (r.findIdx p)else miss
 |m,0,i,_,hj,_=>by omega
 |0,j+1,i,hm,_,hi=>by
  have e:i=r.length:=by omega
  rw[if_neg (by omega),e,he]
 |m+1,j+1,i,hm,hj,hi=>by
  have hlt:i<r.length:=by omega
  rw[hs j i hlt]
  by_cases c:p (r.getD i d)=true
  ·have e:r.findIdx p=i:=Nat.le_antisymm (Nat.le_of_not_lt fun h'=>by
    have:=List.not_of_lt_findIdx h'
    rw[au hlt]at c
    rw[c]at this;cases this) hi
   rw[if_pos c,e,if_pos hlt]
  ·rw[if_neg c]
   refine v9 r d p L hit miss hs he m j (i+1) (by omega) (by omega) ?_
   refine Nat.succ_le_of_lt (Nat.lt_of_le_of_ne hi fun e=>c ?_)
   have hlt':r.findIdx p<r.length:=by omega
   have:=List.findIdx_getElem (p:=p) (xs:=r) (w:=hlt')
   rw[←au hlt' d,←e]at this
   exact this
def zw{α:Type}(p:α→Bool)(r:List α):Int:=if r.findIdx p<r.length then(r.findIdx p:Int)else-1
theorem zG{α:Type}(p:α→Bool)(r:List α):decide (0≤zw p r)=r.any p:=by
 unfold zw
 by_cases h:r.findIdx p<r.length
 ·rw[if_pos h,List.any_eq_true.2 ⟨_,List.getElem_mem h,List.findIdx_getElem⟩]
  simp
 ·rw[if_neg h]
  have:r.any p=false:=by
   rw[List.any_eq_false]
   intro x hx hp
   exact h (List.findIdx_lt_length_of_exists ⟨x,hx,hp⟩)
  rw[this];rfl
def has(l:List Int)(x:Int):Bool:=l.any fun y=>decide (x=y)
theorem rP{l:List Int}{x:Int}:has l x=true↔x∈l:=by
 simp[has,List.any_eq_true]
def mW(l:List Int):Bool:=(List.range' 0 l.length).all fun i=>has l ((i:Int)+1)
theorem vm: ∀(R l:List Int),R.Nodup→(∀x∈R,x∈l)→R.length≤l.length
 | [],l,_,_=>by simp
 |x::R,l,hn,h=>by
  rw[List.nodup_cons]at hn
  have hx:=h x (by simp)
  have:=vm R (l.erase x) hn.2 fun y hy=>(List.mem_erase_of_ne fun(e:y=x)=>hn.1 (e▸hy)).2 (h y (by simp[hy]))
  rw[List.length_erase_of_mem hx]at this
  have:0<l.length:=List.length_pos_of_mem hx
  simp only[List.length_cons]
  omega
def nJ(n:Nat):List Int:=(List.range n).map fun(i:Nat)=>(i:Int)+1
theorem jI{n:Nat}{x:Int}:x∈nJ n↔1≤x∧x≤n:=by
 simp only[nJ,List.mem_map,List.mem_range]
 constructor
 ·rintro⟨i,h,rfl⟩;omega
 ·rintro⟨h1,h2⟩;exact⟨(x-1).toNat,by omega,by omega⟩
theorem vS(n:Nat):(nJ n).Nodup:=by
 unfold nJ
 refine List.Pairwise.map _ (fun(a b:Nat) (h:a≠b)=> ?_) List.nodup_range
 intro e
 exact h (by omega)
theorem n5(n:Nat):(nJ n).length=n:=by simp[nJ]
theorem mI{l:List Int}:mW l=true↔ ∀x∈nJ l.length,x∈l:=by
 unfold mW
 rw[eF]
 constructor
 ·intro h x hx
  rw[jI]at hx
  have:=h (x-1).toNat (by omega)
  rw[rP]at this
  have e:(((x-1).toNat:Nat):Int)+1=x:=by omega
  rw[e]at this;exact this
 ·intro h i hi
  rw[rP]
  exact h _ (jI.2 (by omega))
theorem Bx{l:List Int}(h1: ∀x∈l,1≤x):mW l=true↔l.Nodup∧ ∀x∈l,x≤l.length:=by
 rw[mI]
 constructor
 ·intro h
  refine⟨?_,fun x hx=> ?_⟩
  ·
   refine Classical.byContradiction fun hn=> ?_
   have: ∃x,x∈l∧x∈l.erase x:=by
    have key: ∀l:List Int,¬l.Nodup→ ∃x,x∈l∧x∈l.erase x:=by
     intro l
     induction l with
     |nil=>intro h;exact absurd List.nodup_nil h
     |cons a l ih=>
      intro h
      by_cases ha:a∈l
      ·exact⟨a,by simp,by simpa using ha⟩
      ·have: ¬l.Nodup:=fun hl=>h (List.nodup_cons.2 ⟨ha,hl⟩)
       obtain⟨x,h1,h2⟩:=ih this
       refine⟨x,by simp[h1],?_⟩
       have hne:a≠x:=fun e=>ha (e▸h1)
       rw[List.erase_cons_tail (by simpa using hne)]
       exact List.mem_cons_of_mem _ h2
    exact key l hn
   obtain⟨x,hx,hx2⟩:=this
   have:=vm (nJ l.length) (l.erase x) (vS _) fun y hy=>by
    by_cases e:y=x
    ·rw[e];exact hx2
    ·exact(List.mem_erase_of_ne e).2 (h y hy)
   rw[n5,List.length_erase_of_mem hx]at this
   have:0<l.length:=List.length_pos_of_mem hx
   omega
  ·refine Int.not_lt.1 fun hlt=> ?_
   have:=vm (nJ l.length) (l.erase x) (vS _) fun y hy=>by
    have hy':=jI.1 hy
    exact(List.mem_erase_of_ne (by omega)).2 (h y hy)
   rw[n5,List.length_erase_of_mem hx]at this
   have:0<l.length:=List.length_pos_of_mem hx
   omega
 ·rintro⟨hn,hb⟩ x hx
  refine Classical.byContradiction fun hxl=> ?_
  have:=vm (x::l) (nJ l.length) (List.nodup_cons.2 ⟨hxl,hn⟩) fun y hy=>by
   rcases List.mem_cons.1 hy with rfl|hy
   ·exact hx
   ·exact jI.2 ⟨h1 y hy,hb y hy⟩
  rw[n5,List.length_cons]at this
  omega
theorem pD{t:Tab}(h:dD t=true): ∀x∈t.2.flatten,1≤x∧x≤9:=by
 intro x hx
 simp only[dD,Bool.and_eq_true]at h
 obtain⟨r,hr,hxr⟩:=List.mem_flatten.1 hx
 obtain⟨i,hi,e⟩:=List.mem_iff_getElem.1 hr
 obtain⟨q,hq,e2⟩:=List.mem_iff_getElem.1 hxr
 have h1:=eF.1 h.2 i hi
 rw[au hi,e]at h1
 have h2:=eF.1 h1 q hq
 simp only[fY,within,Bool.and_eq_true,decide_eq_true_eq]at h2
 rw[au hi,e,au hq,e2]at h2
 exact h2.1
theorem sX(inner:List Int)(h: ∀q,0≤inner.getD q 0): ∀(rs:List (List Int)) (i:Nat),(rs.flatten.length:Int)≤fX (fE inner i rs)
 | [],i=>by simp[fE,fX]
 |r::rs,i=>by
  have:=sX inner h rs (i+1)
  have:=h i
  simp only[fE,fX,List.flatten_cons,List.length_append]
  omega
theorem EO{t:Tab}(h:dD t=true):t.2.flatten.length≤9:=by
 have hs:=tq h
 simp only[dt,dQ,Bool.and_eq_true]at hs
 have h9:=(bQ hs.2.2.2.1).2.1
 have:=sX t.1 (fun q=>by
  have:=(dX hs.1 q).1
  rw[cH]at this;exact this) t.2 0
 unfold outer at h9
 omega
def jD(t:Tab):Bool:=dD t&&mW t.2.flatten
def rowOf(t:Tab)(n:Int):Int:=zw (fun r=>has r n) t.2
theorem uu: ∀(w:List Int),(∀x∈w,0≤x)→0≤fX w
 | [],_=>by simp[fX]
 |x::xs,h=>by
  have:=uu xs fun y hy=>h y (by simp[hy])
  have:=h x (by simp)
  simp only[fX];omega
end Go.Am.Pu
end
section
/- Plain laws of draws, and of boxes. -/
namespace Go.Am.Pu
open Go Go.Am
attribute [local instance] D.real
theorem y4(a:Int):0≤D.andI .i64 a 255∧D.andI .i64 a 255≤255:=by
 have h:(BitVec.ofInt 64 a&&&BitVec.ofInt 64 255).toNat≤255:=by
  rw[BitVec.toNat_and]
  exact Nat.le_trans Nat.and_le_right (by decide)
 have e:D.andI .i64 a 255=(((BitVec.ofInt 64 a&&&BitVec.ofInt 64 255).toNat:Nat):Int):=by
  show IntKind.i64.wrap (((BitVec.ofInt 64 a&&&BitVec.ofInt 64 255).toNat:Nat):Int)=_
  rw[w64 (by omega) (by omega)]
 rw[e]
 omega
theorem gr{α:Type}(a b:Int)(x y:Option α):D.test (D.lt a b) x y=if a<b then x else y:=by
 show(if decide (a<b)=true then x else y)=_
 simp only[decide_eq_true_eq]
def zf:Nat→Nat
 |0=>1
 |n+1=>2^n
def Cd(n:Nat):Nat→Nat
 |0=>0
 |p+1=>zf (n-(p+1))+Cd n p
theorem F8{n p:Nat}(hn:n≤9)(h1:1≤n)(hp:p≤n):Cd n p≤zf n:=by
 have key: ∀n<10,∀p<10,1≤n→p≤n→Cd n p≤zf n:=by decide
 exact key n (by omega) p (by omega) h1 hp
theorem CJ{n:Nat}(hn:n≤9):zf n≤256:=by
 have key: ∀n<10,zf n≤256:=by decide
 exact key n (by omega)
def pw(n:Nat)(x:List Int):Prop:=x.length≤n∧ ∀y∈x,1≤y∧y≤9
def oP (p : List Int) (r : Int) : List Int × Bool :=
  if b8 p = true ∧ 0 ≤ r ∧ r ≤ p.length then
    (let q := if r = p.length then p ++ [0] else p
     let o := q.set r.toNat (q.getD r.toNat 0 + 1)
     if b8 o = true then (o, true) else ([], false))
  else ([], false)
end Go.Am.Pu
end
section
/- Steps over equations: what a word comes to, told by what must hold of it. -/
namespace Go.Am.Pu
open Go Go.Am
attribute [local instance] D.real
section
variable {α β : Type}
def Ok(x:Option α)(Q:α→Prop):Prop:= ∃y,x=some y∧Q y
theorem Ok.ret{y:α}{Q:α→Prop}(h:Q y):Ok (some y) Q:=⟨y,rfl,h⟩
theorem Ok.mono{x:Option α}{P Q:α→Prop}(h:Ok x P)(g: ∀y,P y→Q y):Ok x Q:=
 let⟨y,e,hp⟩:=h
 ⟨y,e,g y hp⟩
theorem Ok.bnd{x:Option α}{f:α→Option β}{P:α→Prop}{Q:β→Prop}(h:Ok x P)(g: ∀y,P y→Ok (f y) Q):Ok (D.bnd x f) Q:=by
 obtain⟨y,e,hp⟩:=h
 rw[e]
 exact g y hp
theorem Ok.lZ{x:Option α}{y:α}{f:α→Option β}{Q:β→Prop}(h:x=some y)(g:Ok (f y) Q):Ok (D.bnd x f) Q:=by
 rw[h]
 exact g
theorem Ok.t{p:Prop} [Decidable p]{x y:Option α}{Q:α→Prop}(h1:p→Ok x Q)(h2: ¬p→Ok y Q):Ok (D.test (decide p) x y) Q:=by
 show Ok (if decide p=true then x else y) Q
 by_cases h:p
 ·rw[if_pos (decide_eq_true h)];exact h1 h
 ·rw[if_neg (by rw[decide_eq_false h];simp)];exact h2 h
theorem Ok.tb{b:Bool}{x y:Option α}{Q:α→Prop}(h1:b=true→Ok x Q)(h2:b=false→Ok y Q):Ok (D.test b x y) Q:=by
 cases b
 ·exact h2 rfl
 ·exact h1 rfl
theorem Ok.tn{b:Bool}{x y:Option α}{Q:α→Prop}(h1:b=false→Ok x Q)(h2:b=true→Ok y Q):Ok (D.test (!b) x y) Q:=by
 cases b
 ·exact h1 rfl
 ·exact h2 rfl
theorem Ok.g{p:Prop} [Decidable p]{x y:Option α}{Q:α→Prop}(h:p)(g:Ok x Q):Ok (D.test (decide p) x y) Q:=Ok.t (fun _=>g) (fun h'=>absurd h h')
theorem Ok.no{p:Prop} [Decidable p]{x y:Option α}{Q:α→Prop}(h: ¬p)(g:Ok y Q):Ok (D.test (decide p) x y) Q:=Ok.t (fun h'=>absurd h' h) (fun _=>g)
theorem Ok.some{x:Option α}{Q:α→Prop}(h:Ok x Q): ∃y,x=Option.some y:=let⟨y,e,_⟩:=h;⟨y,e⟩
end
def dz(n m:Nat)(rs:List (List Int)):Prop:=rs.length≤n∧ ∀r∈rs,r.length≤m
theorem dz.at{n m:Nat}{rs:List (List Int)}(h:dz n m rs)(i:Nat):(rs.getD i []).length≤m:=by
 by_cases hi:i<rs.length
 ·rw[au hi];exact h.2 _ (List.getElem_mem hi)
 ·rw[bS (by omega)];simp
theorem dz.set{n m:Nat}{rs:List (List Int)}(h:dz n m rs)(i:Nat){r:List Int}(hr:r.length≤m):dz n m (rs.set i r):=by
 refine⟨by rw[List.length_set];exact h.1,fun x hx=> ?_⟩
 rcases List.mem_or_eq_of_mem_set hx with h'|rfl
 ·exact h.2 x h'
 ·exact hr
theorem dz.mono{n m n' m':Nat}{rs:List (List Int)}(h:dz n m rs)(hn:n≤n')(hm:m≤m'):dz n' m' rs:=
 ⟨Nat.le_trans h.1 hn,fun x hx=>Nat.le_trans (h.2 x hx) hm⟩
theorem dz.app{n m:Nat}{rs:List (List Int)}(h:dz n m rs){r:List Int}(hr:r.length≤m):dz (n+1) m (rs++ [r]):=by
 refine⟨by rw[List.length_append];simp;exact h.1,fun x hx=> ?_⟩
 rcases List.mem_append.1 hx with h'|h'
 ·exact h.2 x h'
 ·simp only[List.mem_singleton]at h';subst h';exact hr
theorem BP(p:List Int)(r:Int):(oP p r).1.length≤p.length+1:=by
 unfold oP
 split
 ·simp only
  generalize hq:(if r=(p.length:Int)then p++ [0]else p)=q
  have hl:q.length≤p.length+1:=by
   rw[←hq]
   split
   ·simp
   ·omega
  split
  ·rw[List.length_set];exact hl
  ·simp
 ·simp
end Go.Am.Pu
end
section
/- Corners; a number taken out of rows. Plain words. -/
namespace Go.Am.Pu
def mL(p:List Int):Nat→Nat→List Int
 |0,_=> []
 |m+1,i=>if p.getD (i+1) 0<p.getD i 0 then(i:Int)::mL p m (i+1)else mL p m (i+1)
def mZ(p:List Int):List Int:=if b8 p=true then mL p p.length 0 else []
theorem wK(p:List Int): ∀(m i:Nat),(mL p m i).length≤m
 |0,_=>by simp[mL]
 |m+1,i=>by
  have:=wK p m (i+1)
  unfold mL
  split<;>simp<;>omega
theorem ur(p:List Int):(mZ p).length≤p.length:=by
 unfold mZ
 split
 ·exact wK _ _ _
 ·simp
theorem tC: ∀{p:List Int} {prev s:Int},fO p prev s=true→ ∀i,i+1<p.length→p.getD (i+1) 0≤p.getD i 0
 | [],_,_,_,i,h=>by simp at h
 | [x],_,_,_,i,h=>by simp at h
 |x::y::xs,prev,s,hp,i,h=>by
  simp only[fO,Bool.and_eq_true,decide_eq_true_eq]at hp
  cases i with
  |zero=>simpa using hp.2.2.2.2.1
  |succ i=>
   have h2:fO (y::xs) x (s+x)=true:=by
    simp only[fO,Bool.and_eq_true,decide_eq_true_eq]
    exact hp.2.2.2
   have:=tC h2 i (by simpa using h)
   simpa using this
def nE(r:List Int)(y:Int):Nat→Option Nat
 |0=>none
 |i+1=>if r.getD i 0<y then some i else nE r y i
theorem uo{r:List Int}{y:Int}: ∀{m q:Nat},nE r y m=some q→q<m∧r.getD q 0<y
 |0,q,h=>by simp[nE]at h
 |m+1,q,h=>by
  unfold nE at h
  split at h
  ·next hc=>injection h with h;subst h;exact⟨by omega,hc⟩
  ·have:=uo h;exact⟨by omega,this.2⟩
theorem yp{r:List Int}{y:Int}: ∀{m i:Nat},i<m→r.getD i 0<y→ ∃q,nE r y m=some q
 |0,i,h,_=>by omega
 |m+1,i,h,hi=>by
  unfold nE
  split
  ·exact⟨_,rfl⟩
  ·next hc=>
   have:i≠m:=fun e=>hc (e▸hi)
   exact yp (by omega) hi
def og:Nat→List (List Int)→Int→List (List Int)×Int
 |0,rs,y=>(rs,y)
 |r+1,rs,y=>match nE (rs.getD r []) y (rs.getD r []).length with
  |some q=>og r (rs.set r ((rs.getD r []).set q y)) ((rs.getD r []).getD q 0)
  |none=>og r rs y
theorem getD_set_ne{α:Type}{xs:List α}{i j:Nat}(h:j≠i)(x d:α):(xs.set j x).getD i d=xs.getD i d:=by
 simp only[List.getD_eq_getElem?_getD,List.getElem?_set]
 rw[if_neg h]
theorem ri{n m:Nat}: ∀(r:Nat) (rs:List (List Int)) (y:Int),dz n m rs→dz n m (og r rs y).1
 |0,_,_,h=>h
 |r+1,rs,y,h=>by
  unfold og
  split
  ·exact ri r _ _ (h.set r (by rw[List.length_set];exact h.at r))
  ·exact ri r rs y h
def mX (rs : List (List Int)) (row : Nat) : List (List Int) × Int :=
  ((if (rs.getD row []).length = 1 then (og row (rs.set row ((rs.getD row []).take ((rs.getD row []).length - 1))) ((rs.getD row []).getD ((rs.getD row []).length - 1) 0)).1.take row
    else (og row (rs.set row ((rs.getD row []).take ((rs.getD row []).length - 1))) ((rs.getD row []).getD ((rs.getD row []).length - 1) 0)).1),
   (og row (rs.set row ((rs.getD row []).take ((rs.getD row []).length - 1))) ((rs.getD row []).getD ((rs.getD row []).length - 1) 0)).2)
theorem yO{n m:Nat}{rs:List (List Int)}(h:dz n m rs)(row:Nat):dz n m (mX rs row).1:=by
 have h1:=ri row (rs.set row ((rs.getD row []).take ((rs.getD row []).length-1))) ((rs.getD row []).getD ((rs.getD row []).length-1) 0) (h.set row (by rw[List.length_take];have:=h.at row;omega))
 unfold mX
 simp only
 split
 ·exact⟨by rw[List.length_take];have:=h1.1;omega,fun x hx=>h1.2 x (List.mem_of_mem_take hx)⟩
 ·exact h1
theorem iR{t:Tab}(h:ba t=true):t.1= []:=by
 simp only[ba,Bool.and_eq_true,decide_eq_true_eq]at h
 exact List.eq_nil_of_length_eq_zero h.2
theorem ic{t:Tab}(h:ba t=true){i:Nat}(hi:i<t.2.length):(outer t).getD i 0=(t.2.getD i []).length:=by
 have e:=gK t.1 t.2 0 i hi
 rw[iR h]at e
 unfold outer
 rw[iR h,e]
 simp
theorem kS{t:Tab}(h:ba t=true):b8 (outer t)=true:=by
 simp only[ba,Bool.and_eq_true]at h
 have hs:=tq h.1
 simp only[dt,dQ,Bool.and_eq_true]at hs
 exact hs.2.2.2.1
theorem du(t:Tab):(outer t).length=t.2.length:=by unfold outer;rw[lE]
theorem iM{t:Tab}(h:ba t=true):dz 9 9 t.2:=by
 have h9:=ig h
 have hl:=(bQ (kS h)).2.2.1
 rw[du]at hl
 exact⟨hl,fun r hr=>by have:=pS hr;omega⟩
theorem oI{t:Tab}(h:ba t=true): ∀i,i+1<t.2.length→(t.2.getD (i+1) []).length≤(t.2.getD i []).length∧ ∀q,q<(t.2.getD (i+1) []).length→(t.2.getD i []).getD q 0<(t.2.getD (i+1) []).getD q 0:=by
 intro i hi
 have hm:=tC (show fO (outer t) 9 0=true from kS h) i (by rw[du];exact hi)
 rw[ic h hi,ic h (by omega)]at hm
 have hl:(t.2.getD (i+1) []).length≤(t.2.getD i []).length:=by omega
 refine⟨hl,fun q hq=> ?_⟩
 have ht:=h
 simp only[ba,Bool.and_eq_true]at ht
 have ht:=ht.1
 simp only[dD,Bool.and_eq_true]at ht
 have h1:=eF.1 (eF.1 ht.2 (i+1) hi) q hq
 simp only[fY,Bool.and_eq_true,Bool.or_eq_true,decide_eq_true_eq]at h1
 have h2:=h1.2.2.resolve_left (by omega)
 rw[iR h]at h2
 have e:((i+1:Nat):Int)-1=(i:Int):=by omega
 have e2:([]:List Int).getD (i+1) 0+(q:Int)=([]:List Int).getD i 0+(q:Int):=by simp
 rw[e,e2]at h2
 have ee:entry t (i:Int) (([]:List Int).getD i 0+(q:Int))=(t.2.getD i []).getD q 0:=by
  have:=zV (t:=t) (r:=i) (q:=q) (by omega)
  rw[iR h]at this
  exact this
 rw[ee]at h2
 exact h2
end Go.Am.Pu
end
section
/- Rows with noughts in front; a box taken from a partition. Plain words. -/
namespace Go.Am.Pu
def uP(a:List (List Int))(i c:Int):Int:=if i<0 then 0 else atI (a.getD i.toNat []) c
theorem qE(a:List (List Int))(i j:Nat):uP a i j=(a.getD i []).getD j 0:=by
 unfold uP
 rw[if_neg (by omega),cH,Int.toNat_natCast]
theorem Du{a:List (List Int)}{i c:Int}(h:i<0):uP a i c=0:=by unfold uP;rw[if_pos h]
theorem Et{a:List (List Int)}{i c:Int}(h:(a.length:Int)≤i):uP a i c=0:=by
 unfold uP
 rw[if_neg (by omega),bS (by omega)]
 unfold atI
 split<;>simp
def cY(t:Tab):List (List Int):=(List.range' 0 t.2.length).map fun i=>List.replicate (t.1.getD i 0).toNat 0++t.2.getD i []
theorem jF(t:Tab):(cY t).length=t.2.length:=by simp[cY]
theorem sr{t:Tab}{i:Nat}(h:i<t.2.length):(cY t).getD i []=List.replicate (t.1.getD i 0).toNat 0++t.2.getD i []:=by
 rw[au (by rw[jF];exact h)]
 simp[cY]
theorem xg(p:List Int): ∀(m i n:Nat),i≤n→n<i+m→p.getD (n+1) 0<p.getD n 0→(n:Int)∈mL p m i
 |0,i,n,h1,h2,_=>by omega
 |m+1,i,n,h1,h2,h3=>by
  unfold mL
  by_cases e:n=i
  ·subst e
   rw[if_pos h3]
   exact List.mem_cons_self
  ·have ih:=xg p m (i+1) n (by omega) (by omega) h3
   split
   ·exact List.mem_cons_of_mem _ ih
   ·exact ih
theorem uF{p:List Int}{n:Nat}(hp:b8 p=true)(hn:n<p.length)(h:p.getD (n+1) 0<p.getD n 0):has (mZ p) n=true:=by
 rw[rP]
 unfold mZ
 rw[if_pos hp]
 exact xg p p.length 0 n (by omega) (by omega) h
def aR(p:List Int)(n:Nat):List Int:=if p.getD n 0-1=0 then p.take n else p.set n (p.getD n 0-1)
theorem nj(p:List Int)(n:Nat):(aR p n).length≤p.length:=by
 unfold aR
 split
 ·rw[List.length_take];omega
 ·rw[List.length_set];exact Nat.le_refl _
end Go.Am.Pu
end
section
/- A slide: the hole goes right or down until nothing is there. Plain words. -/
namespace Go.Am.Pu
def cel(g:List (List Int))(r c:Nat):Int:=(g.getD r []).getD c 0
def g6(g:List (List Int))(r c:Nat)(v:Int):List (List Int):=g.set r ((g.getD r []).set c v)
def dh:Nat→List (List Int)→Nat→Nat→List (List Int)×(Nat×Nat)
 |0,g,i,c=>(g,(i,c))
 |m+1,g,i,c=>if cel g i (c+1)=0∧cel g (i+1) c=0 then(g,(i,c))
  else if cel g i (c+1)=0∨(0<cel g (i+1) c∧cel g (i+1) c≤cel g i (c+1))then dh m (g6 g i c (cel g (i+1) c)) (i+1) c
  else dh m (g6 g i c (cel g i (c+1))) i (c+1)
theorem ny{g:List (List Int)}{r c:Nat}(h:cel g r c≠0):r<g.length∧c<(g.getD r []).length:=by
 unfold cel at h
 by_cases h1:r<g.length
 ·refine⟨h1,?_⟩
  by_cases h2:c<(g.getD r []).length
  ·exact h2
  ·exact absurd (bS (by omega) 0) h
 ·rw[bS (xs:=g) (by omega)]at h
  simp at h
theorem dN(g:List (List Int))(r c:Nat)(v:Int):(g6 g r c v).length=g.length:=by unfold g6;rw[List.length_set]
theorem bG(g:List (List Int))(r c:Nat)(v:Int)(q:Nat):((g6 g r c v).getD q []).length=(g.getD q []).length:=by
 unfold g6
 by_cases e:q=r
 ·subst e
  by_cases h:q<g.length
  ·rw[au (by rw[List.length_set];exact h),List.getElem_set_self,List.length_set]
  ·rw[bS (by rw[List.length_set];omega),bS (by omega)]
 ·rw[getD_set_ne (Ne.symm e)]
theorem jj{g:List (List Int)}{r c:Nat}(v:Int)(h1:r<g.length)(h2:c<(g.getD r []).length):cel (g6 g r c v) r c=v:=by
 unfold cel g6
 rw[au (xs:=g.set r _) (by rw[List.length_set];exact h1),List.getElem_set_self,au (by rw[List.length_set];exact h2),List.getElem_set_self]
theorem gU{g:List (List Int)}{r c q x:Nat}(v:Int)(h: ¬(q=r∧x=c)):cel (g6 g r c v) q x=cel g q x:=by
 unfold cel g6
 by_cases e:q=r
 ·subst e
  have hx:x≠c:=fun e=>h ⟨rfl,e⟩
  by_cases hl:q<g.length
  ·rw[au (xs:=g.set q _) (by rw[List.length_set];exact hl),List.getElem_set_self,getD_set_ne (Ne.symm hx)]
  ·rw[bS (xs:=g.set q _) (by rw[List.length_set];omega),bS (xs:=g) (by omega)]
 ·rw[getD_set_ne (Ne.symm e)]
structure Sl (q : List Int) (g : List (List Int)) (i c : Nat) : Prop where
  q0 : ∀ r, 0 ≤ q.getD r 0
  qm : ∀ r, q.getD (r + 1) 0 ≤ q.getD r 0
  lm : ∀ r, (g.getD (r + 1) []).length ≤ (g.getD r []).length
  hi : i < g.length
  hc : c < (g.getD i []).length
  hq : q.getD i 0 ≤ c
  pos : ∀ r x, 0 ≤ cel g r x
  num : ∀ r x : Nat, q.getD r 0 ≤ x → x < (g.getD r []).length → ¬ (r = i ∧ x = c) → 1 ≤ cel g r x ∧ cel g r x ≤ 9
  row : ∀ r x : Nat, q.getD r 0 ≤ x → x + 1 < (g.getD r []).length → ¬ (r = i ∧ x = c) → ¬ (r = i ∧ x + 1 = c) → cel g r x ≤ cel g r (x + 1)
  col : ∀ r x : Nat, q.getD r 0 ≤ x → x < (g.getD (r + 1) []).length → ¬ (r = i ∧ x = c) → ¬ (r + 1 = i ∧ x = c) → cel g r x < cel g (r + 1) x
  xN : ∀ x : Nat, x + 1 = c → q.getD i 0 ≤ x → c + 1 < (g.getD i []).length → cel g i x ≤ cel g i (c + 1)
  colH : ∀ r : Nat, r + 1 = i → q.getD r 0 ≤ c → c < (g.getD (i + 1) []).length → cel g r c < cel g (i + 1) c
theorem Sl.down{q:List Int}{g:List (List Int)}{i c:Nat}(h:Sl q g i c)(hb:cel g (i+1) c≠0)(hr:cel g i (c+1)=0∨(0<cel g (i+1) c∧cel g (i+1) c≤cel g i (c+1))):
  Sl q (g6 g i c (cel g (i+1) c)) (i+1) c:=by
 obtain⟨b1,b2⟩:=ny hb
 have hqm:=h.qm i
 have hq:=h.hq
 have hbn:=h.num (i+1) c (by omega) b2 (by omega)
 have e0:=jj (cel g (i+1) c) h.hi h.hc
 have en: ∀r x,¬(r=i∧x=c)→cel (g6 g i c (cel g (i+1) c)) r x=cel g r x:=fun r x hh=>gU _ hh
 refine⟨h.q0,h.qm,fun r=> ?_,?_,?_,by omega,fun r x=> ?_,fun r x h1 h2 h3=> ?_,fun r x h1 h2 h3 h4=> ?_,fun r x h1 h2 h3 h4=> ?_,fun x h1 h2 h3=> ?_,fun r h1 h2 h3=> ?_⟩
 ·rw[bG,bG];exact h.lm r
 ·rw[dN];exact b1
 ·rw[bG];exact b2
 ·by_cases e:r=i∧x=c
  ·rw[e.1,e.2,e0];exact h.pos _ _
  ·rw[en r x e];exact h.pos _ _
 ·rw[bG]at h2
  by_cases e:r=i∧x=c
  ·rw[e.1,e.2,e0];exact hbn
  ·rw[en r x e];exact h.num r x h1 h2 e
 ·rw[bG]at h2
  by_cases e:r=i∧x=c
  ·obtain⟨rfl,rfl⟩:=e
   rw[e0,en _ _ (by omega)]
   rcases hr with hr|hr
   ·have:=(h.num r (x+1) (by omega) h2 (by omega)).1
    omega
   ·exact hr.2
  ·rw[en r x e]
   by_cases e':r=i∧x+1=c
   ·obtain⟨rfl,rfl⟩:=e'
    rw[e0]
    have hl:=h.lm r
    have h5:=h.col r x h1 (by omega) (by omega) (by omega)
    have h6:=h.row (r+1) x (by omega) (by omega) (by omega) (by omega)
    omega
   ·rw[en r (x+1) e'];exact h.row r x h1 h2 e e'
 ·rw[bG]at h2
  by_cases e:r=i∧x=c
  ·exact(h4 ⟨by omega,e.2⟩).elim
  ·rw[en r x e]
   by_cases e':r+1=i∧x=c
   ·obtain⟨rfl,rfl⟩:=e'
    rw[e0]
    exact h.colH r rfl h1 b2
   ·rw[en (r+1) x e']
    exact h.col r x h1 h2 e e'
 ·rw[bG]at h3
  rw[en _ _ (by omega),en _ _ (by omega)]
  have h5:=h.row (i+1) x h2 (by omega) (by omega) (by omega)
  have h6:=h.row (i+1) c (by omega) h3 (by omega) (by omega)
  subst h1
  omega
 ·rw[bG]at h3
  have:r=i:=by omega
  subst this
  rw[e0,en _ _ (by omega)]
  exact h.col (r+1) c (by omega) h3 (by omega) (by omega)
theorem Sl.right{q:List Int}{g:List (List Int)}{i c:Nat}(h:Sl q g i c)(hr:cel g i (c+1)≠0)(hb: ¬(0<cel g (i+1) c∧cel g (i+1) c≤cel g i (c+1))):
  Sl q (g6 g i c (cel g i (c+1))) i (c+1):=by
 obtain⟨b1,b2⟩:=ny hr
 have hq:=h.hq
 have hrn:=h.num i (c+1) (by omega) b2 (by omega)
 have e0:=jj (cel g i (c+1)) h.hi h.hc
 have en: ∀r x,¬(r=i∧x=c)→cel (g6 g i c (cel g i (c+1))) r x=cel g r x:=fun r x hh=>gU _ hh
 refine⟨h.q0,h.qm,fun r=> ?_,?_,?_,by omega,fun r x=> ?_,fun r x h1 h2 h3=> ?_,fun r x h1 h2 h3 h4=> ?_,fun r x h1 h2 h3 h4=> ?_,fun x h1 h2 h3=> ?_,fun r h1 h2 h3=> ?_⟩
 ·rw[bG,bG];exact h.lm r
 ·rw[dN];exact b1
 ·rw[bG];exact b2
 ·by_cases e:r=i∧x=c
  ·rw[e.1,e.2,e0];exact h.pos _ _
  ·rw[en r x e];exact h.pos _ _
 ·rw[bG]at h2
  by_cases e:r=i∧x=c
  ·rw[e.1,e.2,e0];exact hrn
  ·rw[en r x e];exact h.num r x h1 h2 e
 ·rw[bG]at h2
  by_cases e:r=i∧x=c
  ·exact(h4 ⟨e.1,by omega⟩).elim
  ·rw[en r x e]
   by_cases e':r=i∧x+1=c
   ·obtain⟨rfl,rfl⟩:=e'
    rw[e0]
    exact h.xN x rfl h1 b2
   ·rw[en r (x+1) e'];exact h.row r x h1 h2 e e'
 ·rw[bG]at h2
  by_cases e:r=i∧x=c
  ·obtain⟨rfl,rfl⟩:=e
   rw[e0,en _ _ (by omega)]
   have hqm:=h.qm r
   have h5:=(h.num (r+1) x (by omega) h2 (by omega)).1
   omega
  ·rw[en r x e]
   by_cases e':r+1=i∧x=c
   ·obtain⟨rfl,rfl⟩:=e'
    rw[e0]
    have hl:=h.lm r
    have h5:=h.row r x h1 (by omega) (by omega) (by omega)
    have h6:=h.col r (x+1) (by omega) b2 (by omega) (by omega)
    omega
   ·rw[en (r+1) x e']
    exact h.col r x h1 h2 e e'
 ·rw[bG]at h3
  have:x=c:=by omega
  subst this
  rw[e0,en _ _ (by omega)]
  exact h.row i (x+1) (by omega) h3 (by omega) (by omega)
 ·rw[bG]at h3
  rw[en _ _ (by omega),en _ _ (by omega)]
  subst h1
  have h5:=h.col r (c+1) h2 (by omega) (by omega) (by omega)
  have h6:=h.col (r+1) (c+1) (by omega) h3 (by omega) (by omega)
  omega
end Go.Am.Pu
end
section
/- A slide's end and its start. Plain words. -/
namespace Go.Am.Pu
theorem rC{q:List Int}{w:Nat}: ∀(m:Nat) (g:List (List Int)) (i c:Nat),Sl q g i c→(∀r,(g.getD r []).length≤w)→g.length+w≤i+c+m→
  Sl q (dh m g i c).1 (dh m g i c).2.1 (dh m g i c).2.2∧(dh m g i c).1.length=g.length∧(∀r,((dh m g i c).1.getD r []).length=(g.getD r []).length)∧
   cel (dh m g i c).1 (dh m g i c).2.1 ((dh m g i c).2.2+1)=0∧cel (dh m g i c).1 ((dh m g i c).2.1+1) (dh m g i c).2.2=0
 |0,g,i,c,h,hw,hm=>by
  have h1:=h.hi
  have h2:=h.hc
  have h3:=hw i
  omega
 |m+1,g,i,c,h,hw,hm=>by
  unfold dh
  by_cases c1:cel g i (c+1)=0∧cel g (i+1) c=0
  ·rw[if_pos c1]
   exact⟨h,rfl,fun _=>rfl,c1.1,c1.2⟩
  ·rw[if_neg c1]
   by_cases c2:cel g i (c+1)=0∨(0<cel g (i+1) c∧cel g (i+1) c≤cel g i (c+1))
   ·rw[if_pos c2]
    have hd:=h.down (by
     intro e
     rcases c2 with c2|c2
     ·exact c1 ⟨c2,e⟩
     ·omega) c2
    obtain⟨a1,a2,a3,a4,a5⟩:=rC (q:=q) (w:=w) m _ _ _ hd (fun r=>by rw[bG];exact hw r) (by rw[dN];omega)
    exact⟨a1,by rw[a2,dN],fun r=>by rw[a3,bG],a4,a5⟩
   ·rw[if_neg c2]
    have hd:=h.right (fun e=>c2 (.inl e)) (fun e=>c2 (.inr e))
    obtain⟨a1,a2,a3,a4,a5⟩:=rC (q:=q) (w:=w) m _ _ _ hd (fun r=>by rw[bG];exact hw r) (by rw[dN];omega)
    exact⟨a1,by rw[a2,dN],fun r=>by rw[a3,bG],a4,a5⟩
theorem Sl.Gq{q:List Int}{g:List (List Int)}{i c:Nat}(h:Sl q g i c)(hr:cel g i (c+1)=0):(g.getD i []).length=c+1:=by
 have h1:=h.hc
 have h2:=h.hq
 refine Nat.le_antisymm (Nat.le_of_not_lt fun hlt=> ?_) h1
 have:=(h.num i (c+1) (by omega) hlt (by omega)).1
 omega
theorem Sl.Gy{q:List Int}{g:List (List Int)}{i c:Nat}(h:Sl q g i c)(hb:cel g (i+1) c=0):(g.getD (i+1) []).length≤c:=by
 have h2:=h.hq
 have h3:=h.qm i
 refine Nat.le_of_not_lt fun hlt=> ?_
 have:=(h.num (i+1) c (by omega) hlt (by omega)).1
 omega
theorem im{p:List Int}(hp:b8 p=true)(r:Nat):p.getD (r+1) 0≤p.getD r 0:=by
 by_cases h:r+1<p.length
 ·exact tC hp r h
 ·rw[bS (by omega)]
  have:=(dX hp r).1
  rw[cH]at this
  exact this
theorem mM{p:List Int}{n:Nat}(hp:b8 p=true)(hn:n<p.length)(hc:p.getD (n+1) 0<p.getD n 0)(r:Nat):(aR p n).getD r 0=if r=n then p.getD n 0-1 else p.getD r 0:=by
 unfold aR
 by_cases h:p.getD n 0-1=0
 ·rw[if_pos h]
  have h0:=(dX hp (n+1:Nat)).1
  rw[cH]at h0
  have hl:p.length≤n+1:=by
   refine Nat.le_of_not_lt fun hlt=> ?_
   have:=(bQ hp).1 _ (List.getElem_mem hlt)
   rw[←au hlt 0]at this
   omega
  by_cases e:r=n
  ·subst e
   rw[if_pos rfl,h,bS (by rw[List.length_take];omega)]
  ·rw[if_neg e]
   by_cases e2:r<n
   ·rw[au (by rw[List.length_take];omega),List.getElem_take,au (by omega)]
   ·rw[bS (by rw[List.length_take];omega),bS (by omega)]
 ·rw[if_neg h]
  by_cases e:r=n
  ·subst e
   rw[if_pos rfl,au (by rw[List.length_set];exact hn),List.getElem_set_self]
  ·rw[if_neg e,getD_set_ne (Ne.symm e)]
theorem pJ{t:Tab}{r:Nat}(h:r<t.2.length):((cY t).getD r []).length=(t.1.getD r 0).toNat+(t.2.getD r []).length:=by
 rw[sr h];simp
theorem AD{t:Tab}{r:Nat}(h:r<t.2.length)(x:Nat):cel (cY t) r x=if x<(t.1.getD r 0).toNat then 0 else(t.2.getD r []).getD (x-(t.1.getD r 0).toNat) 0:=by
 unfold cel
 rw[sr h]
 generalize(t.1.getD r 0).toNat=n
 generalize t.2.getD r []=y
 by_cases c:x<n
 ·rw[if_pos c]
  simp only[List.getD_eq_getElem?_getD]
  rw[List.getElem?_append_left (by rw[List.length_replicate];exact c),List.getElem?_replicate,if_pos c]
  rfl
 ·rw[if_neg c]
  simp only[List.getD_eq_getElem?_getD]
  rw[List.getElem?_append_right (by rw[List.length_replicate];omega),List.length_replicate]
theorem CY{t:Tab}{r:Nat}(h:t.2.length≤r):(cY t).getD r []= []:=bS (by rw[jF];exact h) []
structure IK (t : Tab) : Prop where
  q0 : ∀ r, 0 ≤ t.1.getD r 0
  qm : ∀ r, t.1.getD (r + 1) 0 ≤ t.1.getD r 0
  lm : ∀ r, ((cY t).getD (r + 1) []).length ≤ ((cY t).getD r []).length
  num : ∀ r x : Nat, t.1.getD r 0 ≤ x → x < ((cY t).getD r []).length → 1 ≤ cel (cY t) r x ∧ cel (cY t) r x ≤ 9
  row : ∀ r x : Nat, t.1.getD r 0 ≤ x → x + 1 < ((cY t).getD r []).length → cel (cY t) r x ≤ cel (cY t) r (x + 1)
  col : ∀ r x : Nat, t.1.getD r 0 ≤ x → x < ((cY t).getD (r + 1) []).length → cel (cY t) r x < cel (cY t) (r + 1) x
end Go.Am.Pu
end
section
/- A tableau cell by cell; a slide's start. Plain words. -/
namespace Go.Am.Pu
theorem eW{t:Tab}(h:dD t=true):b8 t.1=true∧b8 (outer t)=true∧t.1.length≤t.2.length∧(∀i k,i<t.2.length→k<(t.2.getD i []).length→fY t i k=true):=by
 simp only[dD,dt,dQ,Bool.and_eq_true,decide_eq_true_eq]at h
 obtain⟨⟨h1,h2,h3,h4,h5⟩,h6⟩:=h
 refine⟨h1,h4,h2,fun i k hi hk=> ?_⟩
 rw[eF]at h6
 have:=h6 i hi
 rw[eF]at this
 exact this k hk
theorem lO{t:Tab}(h:b8 t.1=true)(r:Nat):(((cY t).getD r []).length:Int)=(outer t).getD r 0:=by
 have h0:=(dX h r).1
 rw[cH]at h0
 by_cases hr:r<t.2.length
 ·rw[pJ hr]
  have:=gK t.1 t.2 0 r hr
  rw[Nat.zero_add]at this
  unfold outer
  rw[this]
  omega
 ·rw[CY (by omega),bS (by rw[du];omega)]
  rfl
theorem qe{t:Tab}{r x:Nat}(h:x<((cY t).getD r []).length):r<t.2.length:=by
 refine Nat.lt_of_not_le fun hle=> ?_
 rw[CY hle]at h
 simp at h
theorem IF{t:Tab}(h:dD t=true):IK t:=by
 obtain⟨hp,ho,hl,hc⟩:=eW h
 have q0: ∀r,0≤t.1.getD r 0:=fun r=>by
  have:=(dX hp r).1
  rw[cH]at this
  exact this
 have at_: ∀r x:Nat,t.1.getD r 0≤x→x<((cY t).getD r []).length→ ∃k:Nat,(x:Int)=t.1.getD r 0+k∧k<(t.2.getD r []).length∧cel (cY t) r x=(t.2.getD r []).getD k 0:=by
  intro r x h1 h2
  have hr:=qe h2
  rw[pJ hr]at h2
  have:=q0 r
  refine⟨x-(t.1.getD r 0).toNat,by omega,by omega,?_⟩
  rw[AD hr,if_neg (by omega)]
 refine⟨q0,im hp,fun r=> ?_,fun r x h1 h2=> ?_,fun r x h1 h2=> ?_,fun r x h1 h2=> ?_⟩
 ·have a:=lO hp r
  have b:=lO hp (r+1)
  have c:=im ho r
  omega
 ·obtain⟨k,e1,e2,e3⟩:=at_ r x h1 h2
  have:=hc r k (qe h2) e2
  simp only[fY,within,Bool.and_eq_true,decide_eq_true_eq]at this
  rw[e3]
  exact this.1
 ·obtain⟨k,e1,e2,e3⟩:=at_ r x h1 (by omega)
  obtain⟨k',e1',e2',e3'⟩:=at_ r (x+1) (by omega) h2
  have:k'=k+1:=by omega
  subst this
  have:=hc r (k+1) (qe h2) e2'
  simp only[fY,Bool.and_eq_true,Bool.or_eq_true,decide_eq_true_eq]at this
  rw[e3,e3']
  rcases this.2.1 with h|h
  ·omega
  ·simpa using h
 ·have hm:=im hp r
  have a:=lO hp r
  have b:=lO hp (r+1)
  have c:=im ho r
  obtain⟨k,e1,e2,e3⟩:=at_ r x h1 (by omega)
  obtain⟨k',e1',e2',e3'⟩:=at_ (r+1) x (by omega) h2
  have:=hc (r+1) k' (qe h2) e2'
  simp only[fY,Bool.and_eq_true,Bool.or_eq_true,decide_eq_true_eq]at this
  rw[e3,e3']
  rcases this.2.2 with h|h
  ·omega
  ·have hr:r<t.2.length:=by have:=qe h2;omega
   have er:((r+1:Nat):Int)-1=(r:Int):=by omega
   rw[er,kT hr,show t.1.getD (r+1) 0+(k':Int)-t.1.getD r 0=(k:Int) by omega,cH]at h
   exact h
theorem xp{t:Tab}(h:dD t=true){n:Nat}(hn:n<t.1.length)(hc:t.1.getD (n+1) 0<t.1.getD n 0):
  Sl (aR t.1 n) (cY t) n (t.1.getD n 0-1).toNat:=by
 have hP:=IF h
 obtain⟨hp,ho,hl,_⟩:=eW h
 have h1:=hP.q0 (n+1)
 have hd:=mM hp hn hc
 have hne:t.2.length>n:=by omega
 have hrow:=pJ hne
 have hlen:(t.1.getD n 0).toNat≤((cY t).getD n []).length:=by rw[hrow];omega
 have old: ∀r x:Nat,(aR t.1 n).getD r 0≤x→ ¬(r=n∧x=(t.1.getD n 0-1).toNat)→t.1.getD r 0≤x:=by
  intro r x h2 h3
  rw[hd]at h2
  by_cases e:r=n
  ·subst e
   rw[if_pos rfl]at h2
   have:x≠(t.1.getD r 0-1).toNat:=fun e=>h3 ⟨rfl,e⟩
   omega
  ·rw[if_neg e]at h2
   exact h2
 refine⟨fun r=> ?_,fun r=> ?_,hP.lm,by rw[jF];exact hne,by omega,by rw[hd,if_pos rfl];omega,fun r x=> ?_,fun r x h2 h3 h4=>hP.num r x (old r x h2 h4) h3,
  fun r x h2 h3 h4 h5=>hP.row r x (old r x h2 h4) h3,fun r x h2 h3 h4 h5=>hP.col r x (old r x h2 h4) h3,fun x h2 h3 h4=> ?_,fun r h2 h3 h4=> ?_⟩
 ·rw[hd]
  have:=hP.q0 r
  split<;>omega
 ·rw[hd,hd]
  have:=hP.qm r
  by_cases e:r=n
  ·subst e
   rw[if_neg (by omega),if_pos rfl];omega
  ·rw[if_neg e]
   by_cases e2:r+1=n
   ·subst e2;rw[if_pos rfl];omega
   ·rw[if_neg e2];exact this
 ·by_cases hx:x<((cY t).getD r []).length
  ·have hr:=qe hx
   by_cases hq:t.1.getD r 0≤x
   ·have:=(hP.num r x hq hx).1;omega
   ·rw[AD hr,if_pos (by omega)];exact Int.le_refl _
  ·unfold cel
   rw[bS (by omega)];exact Int.le_refl _
 ·
  rw[hd,if_pos rfl]at h3
  omega
 ·
  rw[hd,if_neg (by omega)]at h3
  subst h2
  have:=hP.qm r
  omega
end Go.Am.Pu
end
section
/- A partition less a box; the tableau that a slide leaves. Plain words. -/
namespace Go.Am.Pu
theorem oS: ∀(p:List Int) (prev s:Int),(∀x∈p,1≤x)→(0<p.length→p.getD 0 0≤prev)→(∀i,i+1<p.length→p.getD (i+1) 0≤p.getD i 0)→s+fX p≤9→fO p prev s=true
 | [],_,_,_,_,_,_=>rfl
 |x::xs,prev,s,h1,h2,h3,h4=>by
  have hs: ∀(l:List Int),(∀y∈l,1≤y)→0≤fX l:=by
   intro l
   induction l with
   |nil=>intro _;simp[fX]
   |cons y l ih=>
    intro h
    have a:=h y List.mem_cons_self
    have b:=ih (fun z hz=>h z (List.mem_cons_of_mem _ hz))
    simp only[fX];omega
  have hx:=h1 x List.mem_cons_self
  have hxs:=hs xs (fun z hz=>h1 z (List.mem_cons_of_mem _ hz))
  have h2':=h2 (by simp)
  simp only[List.getD_cons_zero]at h2'
  simp only[fX]at h4
  have ih:=oS xs x (s+x) (fun z hz=>h1 z (List.mem_cons_of_mem _ hz)) (fun hl=>by have:=h3 0 (by simpa using hl);simpa using this) (fun i hi=>by have:=h3 (i+1) (by simpa using hi);simpa using this) (by omega)
  simp only[fO,Bool.and_eq_true,decide_eq_true_eq]
  exact⟨hx,h2',by omega,ih⟩
theorem vx: ∀(p:List Int) (n:Nat) (v:Int),n<p.length→fX (p.set n v)=fX p-p.getD n 0+v
 | [],n,v,h=>by simp at h
 |x::xs,0,v,_=>by simp[fX];omega
 |x::xs,n+1,v,h=>by
  have:=vx xs n v (by simpa using h)
  simp only[List.set_cons_succ,fX,List.getD_cons_succ,this]
  omega
theorem zd: ∀(p:List Int) (n:Nat),p.length=n+1→fX (p.take n)=fX p-p.getD n 0
 | [],n,h=>by simp at h
 | [x],0,_=>by simp[fX]
 |x::xs,n+1,h=>by
  have:=zd xs n (by simpa using h)
  simp only[List.take_succ_cons,fX,List.getD_cons_succ,this]
  omega
 |x::y::xs,0,h=>by simp at h
theorem tD{p:List Int}{n:Nat}(hp:b8 p=true)(hc:p.getD (n+1) 0<p.getD n 0)(h:p.getD n 0-1=0):p.length≤n+1:=by
 have h0:=(dX hp (n+1:Nat)).1
 rw[cH]at h0
 refine Nat.le_of_not_lt fun hlt=> ?_
 have:=(bQ hp).1 _ (List.getElem_mem hlt)
 rw[←au hlt 0]at this
 omega
theorem xj{p:List Int}{n:Nat}(hp:b8 p=true)(hn:n<p.length)(hc:p.getD (n+1) 0<p.getD n 0){i:Nat}(hi:i<(aR p n).length):1≤(aR p n).getD i 0:=by
 rw[mM hp hn hc]
 have hl:=nj p n
 have h1: ∀i,i<p.length→1≤p.getD i 0:=fun i hi=>by
  rw[au hi]
  exact((bQ hp).1 _ (List.getElem_mem hi)).1
 by_cases h:p.getD n 0-1=0
 ·unfold aR at hi
  rw[if_pos h,List.length_take]at hi
  rw[if_neg (by omega)]
  exact h1 i (by omega)
 ·have a:=h1 n hn
  have b:=h1 i (by omega)
  split<;>omega
theorem uc{p:List Int}{n:Nat}(hp:b8 p=true)(hn:n<p.length)(hc:p.getD (n+1) 0<p.getD n 0):b8 (aR p n)=true:=by
 have hs:=bQ hp
 have hg:=mM hp hn hc
 have hpn:1≤p.getD n 0:=by
  rw[au hn]
  exact(hs.1 _ (List.getElem_mem hn)).1
 refine oS _ _ _ (fun x hx=> ?_) (fun _=> ?_) (fun i _=> ?_) ?_
 ·obtain⟨i,hi,rfl⟩:=List.getElem_of_mem hx
  rw[←au hi 0]
  exact xj hp hn hc hi
 ·rw[hg]
  have: ∀i,p.getD i 0≤9:=fun i=>by
   have:=(dX hp i).2
   rw[cH]at this
   exact this
  have a:=this 0
  have b:=this n
  split<;>omega
 ·rw[hg,hg]
  have:=im hp i
  by_cases e:i=n
  ·subst e
   rw[if_neg (by omega),if_pos rfl];omega
  ·rw[if_neg e]
   by_cases e2:i+1=n
   ·subst e2;rw[if_pos rfl];omega
   ·rw[if_neg e2];exact this
 ·have h9:=hs.2.1
  unfold aR
  split
  ·next h=>
   have hl:=tD hp hc h
   rw[zd p n (by omega)]
   omega
  ·rw[vx p n _ hn]
   omega
def cN(q:List Int)(g:List (List Int))(n:Nat):List (List Int):=(List.range' 0 n).map fun r=>(g.getD r []).drop (q.getD r 0).toNat
theorem eN(q:List Int)(g:List (List Int))(n:Nat):(cN q g n).length=n:=by simp[cN]
theorem iE{q:List Int}{g:List (List Int)}{n r:Nat}(h:r<n):(cN q g n).getD r []=(g.getD r []).drop (q.getD r 0).toNat:=by
 rw[au (by rw[eN];exact h)]
 simp[cN]
def lW(g:List (List Int))(i c:Nat):List (List Int):=g.set i ((g.getD i []).take c)
def cP(t:Tab)(n:Nat):List (List Int)×(Nat×Nat):=dh 18 (cY t) n (t.1.getD n 0-1).toNat
def kj(t:Tab)(n:Nat):Tab×Nat:=
 let s:=cP t n
 ((aR t.1 n,cN (aR t.1 n) (lW s.1 s.2.1 s.2.2) (aR (outer t) s.2.1).length),s.2.1)
end Go.Am.Pu
namespace Go.Am.Pu
end Go.Am.Pu
end
section
/- What a slide leaves. Plain words. -/
namespace Go.Am.Pu
theorem vu{g:List (List Int)}{i c r:Nat}(hi:i<g.length):(lW g i c).getD r []=if r=i then(g.getD i []).take c else g.getD r []:=by
 unfold lW
 by_cases e:r=i
 ·subst e
  rw[if_pos rfl,au (by rw[List.length_set];exact hi),List.getElem_set_self]
 ·rw[if_neg e,getD_set_ne (Ne.symm e)]
theorem l7(g:List (List Int))(i c:Nat):(lW g i c).length=g.length:=by unfold lW;rw[List.length_set]
theorem F6{g:List (List Int)}{i c r x:Nat}(hi:i<g.length)(hx:x<((lW g i c).getD r []).length):cel (lW g i c) r x=cel g r x:=by
 unfold cel
 rw[vu hi]at hx⊢
 by_cases e:r=i
 ·subst e
  rw[if_pos rfl]at hx⊢
  rw[List.length_take]at hx
  rw[au (by rw[List.length_take];exact hx),List.getElem_take]
  exact(au (by omega) 0).symm
 ·rw[if_neg e]
structure zn (t : Tab) (n : Nat) (g : List (List Int)) (i c : Nat) : Prop where
  sl : Sl (aR t.1 n) g i c
  len : g.length = t.2.length
  row : ∀ r, (g.getD r []).length = ((cY t).getD r []).length
  hi : i < (outer t).length
  end_ : (outer t).getD i 0 = c + 1
  cor : (outer t).getD (i + 1) 0 < (outer t).getD i 0
  cutl : ∀ r, (((lW g i c).getD r []).length : Int) = (aR (outer t) i).getD r 0
  ins : ∀ r, (aR t.1 n).getD r 0 ≤ (aR (outer t) i).getD r 0
  rows : dz 9 9 (lW g i c)
theorem Gu{t:Tab}(h:dD t=true){n:Nat}(hn:n<t.1.length)(hc:t.1.getD (n+1) 0<t.1.getD n 0):
  zn t n (cP t n).1 (cP t n).2.1 (cP t n).2.2∧cel (cP t n).1 (cP t n).2.1 ((cP t n).2.2+1)=0∧cel (cP t n).1 ((cP t n).2.1+1) (cP t n).2.2=0:=by
 obtain⟨hp,ho,hl,_⟩:=eW h
 have hout:=lO hp
 have h9: ∀r,(outer t).getD r 0≤9:=fun r=>by
  have:=(dX ho r).2
  rw[cH]at this
  exact this
 have hol:=du t
 have ho9:=(bQ ho).2.2.1
 have hst:=xp h hn hc
 have hok:=rC (w:=9) 18 (cY t) n (t.1.getD n 0-1).toNat hst (fun r=>by have:=hout r;have:=h9 r;omega) (by rw[jF];omega)
 unfold cP
 generalize hS:dh 18 (cY t) n (t.1.getD n 0-1).toNat=S at hok
 obtain⟨g,i,c⟩:=S
 obtain⟨a1,a2,a3,a4,a5⟩:=hok
 simp only at a1 a2 a3 a4 a5⊢
 have er:=a1.Gq a4
 have ec:=a1.Gy a5
 have o1:=hout i
 have o2:=hout (i+1)
 rw[←a3]at o1 o2
 rw[jF]at a2
 have hi:=a1.hi
 have cor:(outer t).getD (i+1) 0<(outer t).getD i 0:=by omega
 have hdg:=mM ho (by omega) cor
 have hcl: ∀r,(((lW g i c).getD r []).length:Int)=(aR (outer t) i).getD r 0:=fun r=>by
  rw[vu hi,hdg]
  by_cases e:r=i
  ·rw[if_pos e,if_pos e,List.length_take];omega
  ·rw[if_neg e,if_neg e,a3,hout]
 refine⟨⟨a1,a2,a3,by omega,by omega,cor,hcl,fun r=> ?_,?_⟩,a4,a5⟩
 ·rw[hdg]
  by_cases e:r=i
  ·subst e
   rw[if_pos rfl]
   have:=a1.hq
   omega
  ·rw[if_neg e,mM hp hn hc]
   have hin:t.1.getD r 0≤(outer t).getD r 0:=by
    rw[←hout r]
    by_cases hr:r<t.2.length
    ·rw[pJ hr]
     have:=(dX hp r).1
     rw[cH]at this
     omega
    ·rw[bS (xs:=t.1) (by omega)]
     omega
   split
   ·next e2=>subst e2;omega
   ·exact hin
 ·refine⟨by rw[l7];omega,fun r hr=> ?_⟩
  obtain⟨k,hk,rfl⟩:=List.getElem_of_mem hr
  have a:=hcl k
  have b:=h9 k
  have c':=h9 i
  rw[au hk,hdg]at a
  split at a<;>omega
end Go.Am.Pu
end
section
/- The square that the reference slides in. Plain words. -/
namespace Go.Am.Pu
structure Sq (s g : List (List Int)) (i c : Nat) : Prop where
  len : s.length = 11
  row : ∀ r, r < 11 → (s.getD r []).length = 11
  at_ : ∀ r x, r < 11 → x < 11 → ¬ (r = i ∧ x = c) → cel s r x = cel g r x
  hole : cel s i c = 0
theorem Sq.step{s g:List (List Int)}{i c i' c':Nat}(h:Sq s g i c)(hi:i<g.length)(hc:c<(g.getD i []).length)(h1:i<11)(h2:c<11)(h3:i'<11)(h4:c'<11)(hne: ¬(i'=i∧c'=c))(v:Int):
  Sq (g6 (g6 s i c v) i' c' 0) (g6 g i c v) i' c':=by
 refine⟨by rw[dN,dN];exact h.len,fun r hr=>by rw[bG,bG];exact h.row r hr,fun r x hr hx hn=> ?_,?_⟩
 ·rw[gU _ hn]
  by_cases e:r=i∧x=c
  ·obtain⟨rfl,rfl⟩:=e
   rw[jj _ (by rw[h.len];exact h1) (by rw[h.row _ h1];exact h2),jj _ hi hc]
  ·rw[gU _ e,gU _ e];exact h.at_ r x hr hx e
 ·rw[jj _ (by rw[dN,h.len];exact h3) (by rw[bG,h.row _ h3];exact h4)]
end Go.Am.Pu
end
section
/- What a slide leaves is a tableau. Plain words. -/
namespace Go.Am.Pu
theorem iD{α:Type}(l:List α)(a x:Nat)(d:α):(l.drop a).getD x d=l.getD (a+x) d:=by
 simp[List.getD_eq_getElem?_getD,List.getElem?_drop]
section
variable {t : Tab} {n : Nat} {g : List (List Int)} {i c : Nat}
theorem zn.cell(E:zn t n g i c){r k:Nat}(hr:r<(aR (outer t) i).length)
  (hk:k<((cN (aR t.1 n) (lW g i c) (aR (outer t) i).length).getD r []).length):
  ((aR t.1 n).getD r 0).toNat+k<(g.getD r []).length∧((((aR t.1 n).getD r 0).toNat+k:Nat):Int)<(aR (outer t) i).getD r 0∧ ¬(r=i∧((aR t.1 n).getD r 0).toNat+k=c)∧
   ((cN (aR t.1 n) (lW g i c) (aR (outer t) i).length).getD r []).getD k 0=cel g r (((aR t.1 n).getD r 0).toNat+k):=by
 have hq:=E.sl.q0 r
 rw[iE hr]at hk⊢
 rw[List.length_drop]at hk
 have hx:((aR t.1 n).getD r 0).toNat+k<((lW g i c).getD r []).length:=by omega
 have hl:=E.cutl r
 have hcut:=vu (c:=c) (r:=r) E.sl.hi
 refine⟨?_,by omega,fun e=> ?_,?_⟩
 ·rw[hcut]at hx
  by_cases e:r=i
  ·subst e;rw[if_pos rfl,List.length_take]at hx;omega
  ·rw[if_neg e]at hx;exact hx
 ·rw[hcut,if_pos e.1,List.length_take]at hx
  omega
 ·rw[iD]
  exact F6 E.sl.hi hx
theorem zn.AA(E:zn t n g i c){r:Nat}(hr:r<(aR (outer t) i).length):
  (aR (outer t) i).getD r 0=(aR t.1 n).getD r 0+(((cN (aR t.1 n) (lW g i c) (aR (outer t) i).length).getD r []).length:Int):=by
 have hq:=E.sl.q0 r
 have hi:=E.ins r
 have hl:=E.cutl r
 rw[iE hr,List.length_drop]
 omega
theorem zn.tab(E:zn t n g i c)(h:dD t=true)(hn:n<t.1.length)(hc:t.1.getD (n+1) 0<t.1.getD n 0):
  dD (aR t.1 n,cN (aR t.1 n) (lW g i c) (aR (outer t) i).length)=true:=by
 obtain⟨hp,ho,hl,_⟩:=eW h
 have hqp:=uc hp hn hc
 have hop:=uc ho E.hi E.cor
 generalize hR:cN (aR t.1 n) (lW g i c) (aR (outer t) i).length=R
 have hRl:R.length=(aR (outer t) i).length:=by rw[←hR,eN]
 have cell: ∀{r k:Nat},r<R.length→k<(R.getD r []).length→((aR t.1 n).getD r 0).toNat+k<(g.getD r []).length∧((((aR t.1 n).getD r 0).toNat+k:Nat):Int)<(aR (outer t) i).getD r 0∧ ¬(r=i∧((aR t.1 n).getD r 0).toNat+k=c)∧(R.getD r []).getD k 0=cel g r (((aR t.1 n).getD r 0).toNat+k):=by
  intro r k hr hk
  subst hR
  exact E.cell (by omega) hk
 have AA: ∀{r:Nat},r<R.length→(aR (outer t) i).getD r 0=(aR t.1 n).getD r 0+((R.getD r []).length:Int):=by
  intro r hr
  subst hR
  exact E.AA (by omega)
 have q0:=E.sl.q0
 have hout:outer (aR t.1 n,R)=aR (outer t) i:=by
  refine List.ext_getElem (by rw[du];exact hRl) fun r h1 h2=> ?_
  rw[←au h1 0,←au h2 0]
  have h3:r<R.length:=by omega
  have:=gK (aR t.1 n) R 0 r h3
  rw[Nat.zero_add]at this
  unfold outer
  rw[this]
  exact(AA h3).symm
 have hlen:(aR t.1 n).length≤R.length:=by
  refine Nat.le_of_not_lt fun hlt=> ?_
  have a:=xj hp hn hc hlt
  have b:=E.ins R.length
  rw[bS (xs:=aR (outer t) i) (by omega)]at b
  omega
 have om:=im hop
 simp only[dD,dt,dQ,Bool.and_eq_true,decide_eq_true_eq]
 rw[hout]
 refine⟨⟨hqp,hlen,hqp,hop,by omega,?_⟩,?_⟩
 ·rw[eF]
  intro r _
  exact decide_eq_true (E.ins r)
 ·rw[eF]
  intro r hr
  rw[eF]
  intro k hk
  have hq:=q0 r
  obtain⟨c1,c2,c3,c4⟩:=cell hr hk
  have hx:(aR t.1 n).getD r 0≤((((aR t.1 n).getD r 0).toNat+k:Nat):Int):=by omega
  have hnum:=E.sl.num r _ hx c1 c3
  simp only[fY,within,Bool.and_eq_true,Bool.or_eq_true,decide_eq_true_eq]
  rw[c4]
  refine⟨hnum,?_,?_⟩
  ·cases k with
   |zero=>exact .inl rfl
   |succ k=>
    obtain⟨d1,d2,d3,d4⟩:=cell hr (show k<(R.getD r []).length by omega)
    right
    rw[show k+1-1=k from rfl,d4]
    exact E.sl.row r (((aR t.1 n).getD r 0).toNat+k) (by omega) (by omega) d3 (by omega)
  ·cases r with
   |zero=>exact .inl rfl
   |succ r=>
    right
    have hr':r<R.length:=by omega
    have em:((r+1:Nat):Int)-1=(r:Int):=by omega
    rw[em,kT hr']
    have hqr:=q0 r
    have hrl:=AA hr'
    have hom:=om r
    simp only
    by_cases e:(aR t.1 n).getD (r+1) 0+(k:Int)<(aR t.1 n).getD r 0
    ·rw[qB (by omega)];omega
    ·obtain⟨y,hy⟩: ∃y:Nat,(aR t.1 n).getD (r+1) 0+(k:Int)-(aR t.1 n).getD r 0=y:=⟨((aR t.1 n).getD (r+1) 0+(k:Int)-(aR t.1 n).getD r 0).toNat,by omega⟩
     rw[hy,cH]
     obtain⟨d1,d2,d3,d4⟩:=cell hr' (show y<(R.getD r []).length by omega)
     have ey:((aR t.1 n).getD r 0).toNat+y=((aR t.1 n).getD (r+1) 0).toNat+k:=by omega
     rw[d4,ey]
     rw[ey]at d3
     exact E.sl.col r _ (by omega) c1 d3 c3
end
theorem qg{t:Tab}(h:dD t=true){n:Nat}(hn:n<t.1.length)(hc:t.1.getD (n+1) 0<t.1.getD n 0):dD (kj t n).1=true:=(Gu h hn hc).1.tab h hn hc
theorem yL{t:Tab}(h:dD t=true):t.1.length≤9∧dz 9 9 t.2:=by
 obtain⟨hp,ho,hl,_⟩:=eW h
 have h9:=(bQ ho).2.2.1
 rw[du]at h9
 refine⟨by omega,h9,fun r hr=> ?_⟩
 obtain⟨k,hk,rfl⟩:=List.getElem_of_mem hr
 have a:=lO hp k
 have b:=(dX ho k).2
 rw[cH]at b
 rw[pJ hk]at a
 rw[←au hk []]
 omega
theorem xh{p:List Int}{n:Nat}(hp:b8 p=true)(hn:n<p.length)(hc:p.getD (n+1) 0<p.getD n 0):fX (aR p n)=fX p-1:=by
 unfold aR
 split
 ·next h=>
  have hl:=tD hp hc h
  rw[zd p n (by omega)]
  omega
 ·rw[vx p n _ hn]
  omega
def mP:Nat→Tab→Tab
 |0,t=>t
 |m+1,t=>if t.1.length=0 then t else mP m (kj t (t.1.length-1)).1
def j8(t:Tab):Tab×Bool:=if dD t=true then(mP 9 t,true)else(([],[]),false)
theorem m7{p:List Int}(hp:b8 p=true)(h:0<p.length):p.getD (p.length-1+1) 0<p.getD (p.length-1) 0:=by
 rw[bS (by omega),au (show p.length-1<p.length by omega)]
 have:=(bQ hp).1 _ (List.getElem_mem (show p.length-1<p.length by omega))
 omega
theorem A0: ∀(m:Nat) (t:Tab),dD t=true→dD (mP m t)=true
 |0,t,h=>h
 |m+1,t,h=>by
  unfold mP
  split
  ·exact h
  ·exact A0 m _ (qg h (by omega) (m7 (eW h).1 (by omega)))
end Go.Am.Pu
namespace Go.Am.Pu
end Go.Am.Pu
end
section
/- Taking the least number out of a plain tableau; evacuation. Plain words. -/
namespace Go.Am.Pu
theorem zn.out{t:Tab}{n:Nat}{g:List (List Int)}{i c:Nat}(E:zn t n g i c):
  outer (aR t.1 n,cN (aR t.1 n) (lW g i c) (aR (outer t) i).length)=aR (outer t) i:=by
 refine List.ext_getElem (by rw[du];exact eN _ _ _) fun r h1 h2=> ?_
 rw[←au h1 0,←au h2 0]
 have h3:r<(cN (aR t.1 n) (lW g i c) (aR (outer t) i).length).length:=by rw[eN];exact h2
 have:=gK (aR t.1 n) (cN (aR t.1 n) (lW g i c) (aR (outer t) i).length) 0 r h3
 rw[Nat.zero_add]at this
 exact this.trans (E.AA h2).symm
theorem qH{t:Tab}(h:ba t=true){r:Nat}(hr:r<t.2.length):1≤(t.2.getD r []).length:=by
 have hl:=ic h hr
 have hp:=(bQ (kS h)).1 ((outer t)[r]'(by rw[du];exact hr)) (List.getElem_mem _)
 rw[au (by rw[du];exact hr)]at hl
 omega
theorem yI{t:Tab}(h:ba t=true):fX (outer t)=t.2.flatten.length:=by
 unfold outer
 exact qo t.1 t.2 0 fun q _=>by rw[iR h];rfl
end Go.Am.Pu
end
section
/- Promotion. Plain words. -/
namespace Go.Am.Pu
def Small(rs:List (List Int)):Prop:= ∀i q,-100≤(rs.getD i []).getD q 0∧(rs.getD i []).getD q 0≤100
end Go.Am.Pu
end
section
/- Slides undone. Plain words. -/
namespace Go.Am.Pu
def leftOf(g:List (List Int))(i c:Nat):Int:=if c=0 then 0 else cel g i (c-1)
def vy(g:List (List Int))(i c:Nat):Int:=if i=0 then 0 else cel g (i-1) c
def oB:Nat→List (List Int)→Nat→Nat→List (List Int)×(Nat×Nat)
 |0,g,i,c=>(g,(i,c))
 |m+1,g,i,c=>if leftOf g i c=0∧vy g i c=0 then(g,(i,c))
  else if leftOf g i c≤vy g i c then oB m (g6 g i c (vy g i c)) (i-1) c
  else oB m (g6 g i c (leftOf g i c)) i (c-1)
structure Ag (f : Int → Int) (g h : List (List Int)) (i c : Nat) : Prop where
  len : h.length = g.length
  row : ∀ r, (h.getD r []).length = (g.getD r []).length
  at_ : ∀ r x, ¬ (r = i ∧ x = c) → cel h r x = f (cel g r x)
def Inn(q:List Int)(g:List (List Int)):Prop:= ∀r x:Nat,(x:Int)<q.getD r 0→cel g r x=0
theorem Inn.step{q:List Int}{g:List (List Int)}{i c:Nat}(h:Inn q g)(hq:q.getD i 0≤c)(v:Int):Inn q (g6 g i c v):=by
 intro r x hx
 by_cases e:r=i∧x=c
 ·obtain⟨rfl,rfl⟩:=e;omega
 ·rw[gU _ e];exact h r x hx
theorem Ag.down{f:Int→Int}{q:List Int}{g h:List (List Int)}{i c:Nat}(hs:Sl q g i c)(hi:Inn q g)(hf: ∀a b x y,cel g a b<cel g x y→f (cel g a b)<f (cel g x y))(f0:f 0=0)
  (hb:cel g (i+1) c≠0) (ha:Ag f (g6 g i c (cel g (i+1) c)) h (i+1) c):
  ∃h',Ag f g h' i c∧ ∀m,oB (m+1) h (i+1) c=oB m h' i c:=by
 obtain⟨b1,b2⟩:=ny hb
 have mono: ∀a b x y,cel g a b≤cel g x y→f (cel g a b)≤f (cel g x y):=fun a b x y hh=>by
  rcases Int.lt_or_eq_of_le hh with h1|h1
  ·exact Int.le_of_lt (hf _ _ _ _ h1)
  ·rw[h1];exact Int.le_refl _
 have f0': ∀a b,cel g a b=0→f (cel g a b)=0:=fun a b e=>by rw[e];exact f0
 have hu:vy h (i+1) c=f (cel g (i+1) c):=by
  unfold vy
  rw[if_neg (by omega),show i+1-1=i by omega,ha.at_ i c (by omega),jj _ hs.hi hs.hc]
 have hpos:0<f (cel g (i+1) c):=by
  have hp:=hs.pos (i+1) c
  have:=hf g.length 0 (i+1) c (by
   have:cel g g.length 0=0:=by unfold cel;rw[bS (Nat.le_refl _)];rfl
   omega)
  have e:cel g g.length 0=0:=by unfold cel;rw[bS (Nat.le_refl _)];rfl
  rw[e,f0]at this
  exact this
 have hl:leftOf h (i+1) c≤f (cel g (i+1) c):=by
  unfold leftOf
  by_cases e:c=0
  ·rw[if_pos e];omega
  ·rw[if_neg e,ha.at_ _ _ (by omega),gU _ (by omega)]
   by_cases hq:q.getD (i+1) 0≤((c-1:Nat):Int)
   ·have hr:=hs.row (i+1) (c-1) hq (by omega) (by omega) (by omega)
    rw[show c-1+1=c by omega]at hr
    exact mono _ _ _ _ hr
   ·rw[f0' _ _ (hi (i+1) (c-1) (by omega))];omega
 have hhi:i+1<h.length:=by rw[ha.len,dN];exact b1
 have hhc:c<(h.getD (i+1) []).length:=by rw[ha.row,bG];exact b2
 refine⟨g6 h (i+1) c (vy h (i+1) c),⟨by rw[dN,ha.len,dN],fun r=>by rw[bG,ha.row,bG],fun r x hn=> ?_⟩,fun m=> ?_⟩
 ·by_cases e:r=i+1∧x=c
  ·obtain⟨rfl,rfl⟩:=e
   rw[jj _ hhi hhc,hu]
  ·rw[gU _ e,ha.at_ r x e,gU _ hn]
 ·conv=>lhs;unfold oB
  rw[if_neg (by omega),if_pos (by omega)]
  rfl
theorem Ag.right{f:Int→Int}{q:List Int}{g h:List (List Int)}{i c:Nat}(hs:Sl q g i c)(hi:Inn q g)(hf: ∀a b x y,cel g a b<cel g x y→f (cel g a b)<f (cel g x y))(f0:f 0=0)
  (hr:cel g i (c+1)≠0) (ha:Ag f (g6 g i c (cel g i (c+1))) h i (c+1)):
  ∃h',Ag f g h' i c∧ ∀m,oB (m+1) h i (c+1)=oB m h' i c:=by
 obtain⟨b1,b2⟩:=ny hr
 have f0': ∀a b,cel g a b=0→f (cel g a b)=0:=fun a b e=>by rw[e];exact f0
 have hl:leftOf h i (c+1)=f (cel g i (c+1)):=by
  unfold leftOf
  rw[if_neg (by omega),show c+1-1=c by omega,ha.at_ i c (by omega),jj _ hs.hi hs.hc]
 have hpos:0<f (cel g i (c+1)):=by
  have hp:=hs.pos i (c+1)
  have e:cel g g.length 0=0:=by unfold cel;rw[bS (Nat.le_refl _)];rfl
  have:=hf g.length 0 i (c+1) (by omega)
  rw[e,f0]at this
  exact this
 have hu:vy h i (c+1)<f (cel g i (c+1)):=by
  unfold vy
  by_cases e:i=0
  ·rw[if_pos e];exact hpos
  ·rw[if_neg e,ha.at_ _ _ (by omega),gU _ (by omega)]
   by_cases hq:q.getD (i-1) 0≤((c+1:Nat):Int)
   ·have hc:=hs.col (i-1) (c+1) hq (by rw[show i-1+1=i by omega];exact b2) (by omega) (by omega)
    rw[show i-1+1=i by omega]at hc
    exact hf _ _ _ _ hc
   ·rw[f0' _ _ (hi (i-1) (c+1) (by omega))];exact hpos
 have hhi:i<h.length:=by rw[ha.len,dN];exact b1
 have hhc:c+1<(h.getD i []).length:=by rw[ha.row,bG];exact b2
 refine⟨g6 h i (c+1) (leftOf h i (c+1)),⟨by rw[dN,ha.len,dN],fun r=>by rw[bG,ha.row,bG],fun r x hn=> ?_⟩,fun m=> ?_⟩
 ·by_cases e:r=i∧x=c+1
  ·obtain⟨rfl,rfl⟩:=e
   rw[jj _ hhi hhc,hl]
  ·rw[gU _ e,ha.at_ r x e,gU _ hn]
 ·conv=>lhs;unfold oB
  rw[if_neg (by omega),if_neg (by omega)]
  rfl
def Occ(q:List Int)(v:Int)(g:List (List Int))(i c:Nat):Prop:= ∃r x:Nat,¬(r=i∧x=c)∧x<(g.getD r []).length∧q.getD r 0≤x∧cel g r x=v
theorem Occ.step{q:List Int}{v:Int}{g:List (List Int)}{i c a b:Nat}(h:Occ q v g i c)(hi:i<g.length)(hc:c<(g.getD i []).length)(hq:q.getD i 0≤c)(hne: ¬(a=i∧b=c)):Occ q v (g6 g i c (cel g a b)) a b:=by
 obtain⟨r,x,h1,h2,h3,h4⟩:=h
 by_cases e:r=a∧x=b
 ·obtain⟨rfl,rfl⟩:=e
  exact⟨i,c,fun e=>hne ⟨e.1.symm,e.2.symm⟩,by rw[bG];exact hc,hq,by rw[jj _ hi hc];exact h4⟩
 ·exact⟨r,x,e,by rw[bG];exact h2,h3,by rw[gU _ h1];exact h4⟩
end Go.Am.Pu
end
section
/- Promotion of a standard tableau is standard, of the same shape, and can be undone. Plain words. -/
namespace Go.Am.Pu
theorem uJ{t:Tab}(h0:t.1= [])(hp:b8 (outer t)=true)(hn: ∀r x,r<t.2.length→x<(t.2.getD r []).length→1≤cel t.2 r x∧cel t.2 r x≤9)
  (hr: ∀r x,r<t.2.length→x+1<(t.2.getD r []).length→cel t.2 r x≤cel t.2 r (x+1)) (hc: ∀r x,r+1<t.2.length→x<(t.2.getD (r+1) []).length→cel t.2 r x<cel t.2 (r+1) x):ba t=true:=by
 simp only[ba,dD,dt,dQ,Bool.and_eq_true,decide_eq_true_eq,h0]
 refine⟨⟨⟨rfl,by simp,rfl,hp,by simp,?_⟩,?_⟩,rfl⟩
 ·rw[eF]
  intro i hi
  simp at hi
 ·rw[eF]
  intro r hr'
  rw[eF]
  intro k hk
  simp only[fY,within,Bool.and_eq_true,Bool.or_eq_true,decide_eq_true_eq]
  refine⟨hn r k hr' hk,?_,?_⟩
  ·by_cases e:k=0
   ·exact .inl e
   ·right
    have:=hr r (k-1) hr' (by omega)
    rw[show k-1+1=k by omega]at this
    exact this
  ·by_cases e:r=0
   ·exact .inl e
   ·right
    have:=hc (r-1) k (by omega) (by rw[show r-1+1=r by omega];exact hk)
    rw[show r-1+1=r by omega]at this
    rw[show(r:Int)-1=((r-1:Nat):Int) by omega,kT (by omega),h0]
    simp only[List.getD_nil]
    rw[show(0:Int)+(k:Int)-0=(k:Int) by omega,cH]
    exact this
theorem lA{t:Tab}(h:ba t=true):(∀r x,r<t.2.length→x<(t.2.getD r []).length→1≤cel t.2 r x∧cel t.2 r x≤9)∧(∀r x,r<t.2.length→x+1<(t.2.getD r []).length→cel t.2 r x≤cel t.2 r (x+1)):=by
 have h':=h
 simp only[ba,Bool.and_eq_true]at h'
 obtain⟨_,_,_,hc⟩:=eW h'.1
 refine⟨fun r x hr hx=> ?_,fun r x hr hx=> ?_⟩
 ·have:=hc r x hr hx
  simp only[fY,within,Bool.and_eq_true,decide_eq_true_eq]at this
  exact this.1
 ·have:=hc r (x+1) hr hx
  simp only[fY,within,Bool.and_eq_true,Bool.or_eq_true,decide_eq_true_eq]at this
  exact this.2.1.resolve_left (by omega)
theorem ng{rs:List (List Int)}{r x:Nat}(hr:r<rs.length)(hx:x<(rs.getD r []).length):cel rs r x∈rs.flatten:=by
 refine List.mem_flatten.2 ⟨rs.getD r [],by rw[au hr];exact List.getElem_mem hr,?_⟩
 unfold cel
 rw[au hx]
 exact List.getElem_mem hx
theorem qw{rs:List (List Int)}{v:Int}(h:v∈rs.flatten): ∃r x,r<rs.length∧x<(rs.getD r []).length∧cel rs r x=v:=by
 obtain⟨l,hl,hv⟩:=List.mem_flatten.1 h
 obtain⟨r,hr,rfl⟩:=List.getElem_of_mem hl
 obtain⟨x,hx,rfl⟩:=List.getElem_of_mem hv
 have e:=au hr ([]:List Int)
 refine⟨r,x,hr,by rw[e];exact hx,?_⟩
 unfold cel
 rw[e,au hx]
theorem oM{t:Tab}(h:ba t=true)(hs:jD t=true):t.2.flatten.Nodup∧(∀x∈t.2.flatten,1≤x∧x≤t.2.flatten.length):=by
 simp only[jD,Bool.and_eq_true]at hs
 have h1:=pD hs.1
 obtain⟨a,b⟩:=(Bx fun x hx=>(h1 x hx).1).1 hs.2
 exact⟨a,fun x hx=>⟨(h1 x hx).1,b x hx⟩⟩
end Go.Am.Pu
end
section
/- Promotion keeps shapes and standardness. Plain words. -/
namespace Go.Am.Pu
section
variable {t : Tab}
theorem ml{xs ys:List Int}{x:Nat}(h:x<xs.length):(xs++ys).getD x 0=xs.getD x 0:=by
 simp only[List.getD_eq_getElem?_getD,List.getElem?_append_left h]
theorem qk{xs ys:List Int}{x:Nat}(h:xs.length≤x):(xs++ys).getD x 0=ys.getD (x-xs.length) 0:=by
 simp only[List.getD_eq_getElem?_getD,List.getElem?_append_right h]
end
end Go.Am.Pu
end
section
/- Promotion undone: it is one to one. Plain words. -/
namespace Go.Am.Pu
def FL(t:Tab)(n:Nat):List (List Int):=
 (if n=t.2.length then cY t++ [[]]else cY t).set n ((if n=t.2.length then cY t++ [[]]else cY t).getD n []++ [0])
section
variable {t : Tab}
end
end Go.Am.Pu
end
section
/- Orbits of promotion come back. Plain words. -/
namespace Go.Am.Pu
structure Good (t : Tab) : Prop where
  pl : ba t = true
  st : jD t = true
  ne : t.2.flatten.length ≠ 0
end Go.Am.Pu
end
section
/- A slide outwards, as the program has it; demotion. Plain words. -/
namespace Go.Am.Pu
theorem D9{p q:List Int}{n:Nat}(h:oP p n=(q,true)):n≤p.length∧n<q.length∧q.length≤p.length+1∧(∀r,q.getD r 0=if r=n then p.getD n 0+1 else p.getD r 0)∧b8 q=true:=by
 have hl:=BP p n
 rw[h]at hl
 unfold oP at h
 by_cases hc:b8 p=true∧(0:Int)≤n∧(n:Int)≤p.length
 ·rw[if_pos hc]at h
  have hn:n≤p.length:=by omega
  generalize hw:(if(n:Int)=p.length then p++ [0]else p)=w at h
  have hb: ∀r,w.getD r 0=p.getD r 0:=fun r=>by
   rw[←hw]
   split
   ·by_cases hr:r<p.length
    ·rw[ml hr]
    ·rw[qk (by omega),bS (xs:=p) (by omega)]
     cases r-p.length<;>rfl
   ·rfl
  have hwl:n<w.length:=by
   rw[←hw]
   split
   ·rw[List.length_append,List.length_singleton];omega
   ·omega
  simp only[Int.toNat_natCast]at h
  by_cases hp:b8 (w.set n (w.getD n 0+1))=true
  ·rw[if_pos hp]at h
   have h1:=congrArg Prod.fst h
   simp only at h1
   subst h1
   refine⟨hn,by rw[List.length_set];exact hwl,hl,fun r=> ?_,hp⟩
   by_cases e:r=n
   ·subst e
    rw[if_pos rfl,au (by rw[List.length_set];exact hwl),List.getElem_set_self,hb]
   ·rw[if_neg e,getD_set_ne (Ne.symm e),hb]
  ·rw[if_neg hp]at h
   have h2:=congrArg Prod.snd h
   simp at h2
 ·rw[if_neg hc]at h
  have h2:=congrArg Prod.snd h
  simp at h2
theorem Fa{l m:List Int}(hl:l.length=m.length)(h: ∀x,x<m.length→l.getD x 0=m.getD x 0):l=m:=
 List.ext_getElem hl fun x h1 h2=>by rw[←au h1 0,←au h2 0];exact h x h2
section
variable {u : Tab}
end
end Go.Am.Pu
end
section
/- The last promotion of an orbit; orbits' sizes. Plain words. -/
namespace Go.Am.Pu
def CA(t:Tab):Prop:=t.1= []∧dz 10 10 t.2
theorem CA.ok{t:Tab}(h:CA t):iO t:=⟨by rw[h.1];simp,by have:=h.2.1;omega,fun r hr=>by have:=h.2.2 r hr;omega⟩
theorem CA.size{t:Tab}(h:CA t):j4 t.2≤100:=by
 have a:=xF t.2 10 h.2.2
 have b:=h.2.1
 omega
section
attribute [local instance] D.real
variable {α β : Type} {x y v : Option α}
theorem bE{x:Option β}{z:β}{f:β→Option α}(h:x=some z)(g:f z=v):D.bnd x f=v:=by rw[h];exact g
theorem tN(g:x=v):D.test (D.no true) y x=v:=g
theorem tY(g:x=v):D.test true x y=v:=g
theorem tF(g:y=v):D.test false x y=v:=g
theorem tM(g:y=v):D.test (D.no false) y x=v:=g
theorem tG{p:Prop} [Decidable p](h:p)(g:x=v):D.test (decide p) x y=v:=by
 show(if decide p=true then x else y)=v
 rw[if_pos (decide_eq_true h)];exact g
theorem tX{p:Prop} [Decidable p](h: ¬p)(g:y=v):D.test (decide p) x y=v:=by
 show(if decide p=true then x else y)=v
 rw[decide_eq_false h];exact g
theorem tB{b:Bool}(g:x=v):D.test (D.no (D.eqB b b)) y x=v:=by
 show(if(!(b==b))=true then y else x)=v
 rw[beq_self_eq_true];exact g
end
end Go.Am.Pu
end
section
/- The rewriting rules of the plain laws, in one. -/
namespace Go.Am.Pu
open Go Go.Am
attribute [local instance] D.real
theorem sss:type_of% @oT∧type_of% @nA∧type_of% @kp∧type_of% @kJ∧type_of% @kH∧type_of% @dI∧type_of% @eX∧type_of% @fc∧type_of% @iL∧type_of% @iv∧type_of% @fQ∧type_of% @iH∧type_of% @iF∧type_of% @kI∧type_of% @cX∧type_of% @fg∧type_of% @jr∧type_of% @nZ∧type_of% @nO∧type_of% @kK∧type_of% @kG∧type_of% @cS∧type_of% @w64∧type_of% @Int.toNat_natCast∧type_of% @decide_eq_true_eq∧type_of% @Int.ofNat_lt∧type_of% @Int.ofNat_le∧type_of% @Int.natCast_nonneg∧type_of% @decide_true∧type_of% @decide_false∧type_of% @Bool.not_true∧type_of% @Bool.not_false∧type_of% @Bool.false_eq_true∧type_of% @Bool.not_eq_true∧type_of% @Bool.true_and∧type_of% @Bool.and_true∧type_of% @Bool.false_and∧type_of% @Bool.and_false:=
 ⟨@oT,@nA,@kp,@kJ,@kH,@dI,@eX,@fc,@iL,@iv,@fQ,@iH,@iF,@kI,@cX,@fg,@jr,@nZ,@nO,@kK,@kG,@cS,@w64,@Int.toNat_natCast,@decide_eq_true_eq,@Int.ofNat_lt,@Int.ofNat_le,@Int.natCast_nonneg,@decide_true,@decide_false,@Bool.not_true,@Bool.not_false,@Bool.false_eq_true,@Bool.not_eq_true,@Bool.true_and,@Bool.and_true,@Bool.false_and,@Bool.and_false⟩
end Go.Am.Pu
end
section
/- Cells taken out of plain tableaux, one behind another. Plain words. -/
namespace Go.Am.Pu
def rO(rs:List (List Int)):Prop:= ∀i,i+1<rs.length→(rs.getD (i+1) []).length≤(rs.getD i []).length∧ ∀q,q<(rs.getD (i+1) []).length→(rs.getD i []).getD q 0<(rs.getD (i+1) []).getD q 0
theorem w5{r:List Int}{y:Int}: ∀{m q:Nat},nE r y m=some q→ ∀c,q<c→c<m→y≤r.getD c 0
 |0,q,h,_,_,_=>by simp[nE]at h
 |m+1,q,h,c,h1,h2=>by
  unfold nE at h
  split at h
  ·next hc=>injection h with h;omega
  ·next hc=>
   by_cases e:c=m
   ·subst e;omega
   ·exact w5 h c h1 (by omega)
theorem tP: ∀(r:Nat) (rs:List (List Int)) (y:Int),(og r rs y).1.length=rs.length∧ ∀i,((og r rs y).1.getD i []).length=(rs.getD i []).length
 |0,_,_=>⟨rfl,fun _=>rfl⟩
 |r+1,rs,y=>by
  unfold og
  split
  ·next q hq=>
   obtain⟨a,b⟩:=tP r (rs.set r ((rs.getD r []).set q y)) ((rs.getD r []).getD q 0)
   refine⟨by rw[a,List.length_set],fun i=> ?_⟩
   rw[b]
   by_cases e:i=r
   ·subst e
    by_cases h:i<rs.length
    ·rw[au (by rw[List.length_set];exact h),List.getElem_set_self,List.length_set]
    ·rw[bS (by rw[List.length_set];omega),bS (xs:=rs) (by omega)]
   ·rw[getD_set_ne (Ne.symm e)]
  ·exact tP r rs y
theorem ym: ∀(r:Nat) (rs:List (List Int)) (y:Int) (q:Nat),r<rs.length→(∀i,i+1<r→(rs.getD (i+1) []).length≤(rs.getD i []).length∧ ∀q,q<(rs.getD (i+1) []).length→(rs.getD i []).getD q 0<(rs.getD (i+1) []).getD q 0)→
  (∀i,r≤i→i+1<rs.length→(rs.getD (i+1) []).length≤(rs.getD i []).length∧ ∀q,q<(rs.getD (i+1) []).length→(rs.getD i []).getD q 0<(rs.getD (i+1) []).getD q 0)→
  (∀i,i+1=r→(rs.getD r []).length≤(rs.getD i []).length∧q<(rs.getD i []).length∧(rs.getD i []).getD q 0<y∧(∀c,c<(rs.getD r []).length→c≠q→(rs.getD i []).getD c 0<(rs.getD r []).getD c 0)∧(∀c,q≤c→c<(rs.getD r []).length→y<(rs.getD r []).getD c 0))→
  rO (og r rs y).1
 |0,rs,y,q,hr,_,hB,_=>fun i hi=>hB i (Nat.zero_le _) hi
 |r+1,rs,y,q,hr,hA,hB,hI=>by
  obtain⟨i1,i2,i3,i4,i5⟩:=hI r rfl
  obtain⟨q0,hq0⟩:=yp i2 i3
  have hmax:=w5 hq0
  obtain⟨k1,k2⟩:=uo hq0
  have hqq:q≤q0:=Nat.le_of_not_lt fun hlt=>by
   have:=hmax q hlt i2
   omega
  unfold og
  rw[hq0]
  have hrow:(rs.set r ((rs.getD r []).set q0 y)).getD r []=(rs.getD r []).set q0 y:=by
   rw[au (by rw[List.length_set];omega),List.getElem_set_self]
  have hne: ∀i,i≠r→(rs.set r ((rs.getD r []).set q0 y)).getD i []=rs.getD i []:=fun i h=>getD_set_ne (Ne.symm h) _ _
  have hset: ∀c,c≠q0→((rs.getD r []).set q0 y).getD c 0=(rs.getD r []).getD c 0:=fun c h=>getD_set_ne (Ne.symm h) _ _
  have hself:((rs.getD r []).set q0 y).getD q0 0=y:=by rw[au (by rw[List.length_set];exact k1),List.getElem_set_self]
  refine ym r _ _ q0 (by rw[List.length_set];omega) (fun i hi=> ?_) (fun i hi hl=> ?_) (fun i hi=> ?_)
  ·rw[hne _ (by omega),hne _ (by omega)]
   exact hA i (by omega)
  ·rw[List.length_set]at hl
   by_cases e:i=r
   ·subst e
    rw[hne (i+1) (by omega),hrow,List.length_set]
    refine⟨i1,fun c hc=> ?_⟩
    by_cases e2:c=q0
    ·subst e2;rw[hself];exact i5 c hqq hc
    ·rw[hset c e2]
     by_cases e3:c=q
     ·subst e3
      have:=i5 c (Nat.le_refl _) hc
      omega
     ·exact i4 c hc e3
   ·rw[hne (i+1) (by omega),hne i e]
    exact hB i (by omega) hl
  ·subst hi
   obtain⟨a1,a2⟩:=hA i (by omega)
   rw[hrow,hne i (by omega),List.length_set]
   refine⟨a1,by omega,a2 q0 k1,fun c hc e=> ?_,fun c h1 h2=> ?_⟩
   ·rw[hset c e];exact a2 c hc
   ·by_cases e:c=q0
    ·subst e;rw[hself];exact k2
    ·rw[hset c e]
     have:=hmax c (by omega) h2
     omega
def di(rs:List (List Int))(r:Nat):List (List Int):=
 if(rs.getD r []).length=1 then(rs.set r ((rs.getD r []).take ((rs.getD r []).length-1))).take r else rs.set r ((rs.getD r []).take ((rs.getD r []).length-1))
def fb(a b:List (List Int)):Prop:=a.length=b.length∧ ∀i,(a.getD i []).length=(b.getD i []).length
theorem eD{α:Type}{l:List α}{n i:Nat}(h:i<n)(d:α):(l.take n).getD i d=l.getD i d:=by
 simp only[List.getD_eq_getElem?_getD,List.getElem?_take,if_pos h]
theorem ya{a b:List (List Int)}(h:fb a b)(n:Nat):fb (a.take n) (b.take n):=by
 refine⟨by rw[List.length_take,List.length_take,h.1],fun i=> ?_⟩
 by_cases hi:i<n
 ·rw[eD hi,eD hi];exact h.2 i
 ·rw[bS (xs:=a.take n) (by rw[List.length_take];omega),bS (xs:=b.take n) (by rw[List.length_take];omega)]
theorem yV(rs:List (List Int))(r:Nat):fb (mX rs r).1 (di rs r):=by
 have a:=tP r (rs.set r ((rs.getD r []).take ((rs.getD r []).length-1))) ((rs.getD r []).getD ((rs.getD r []).length-1) 0)
 unfold mX di
 simp only
 split
 ·exact ya a r
 ·exact a
theorem Bd{a b:List (List Int)}(h:fb a b)(r:Nat):fb (di a r) (di b r):=by
 have hs:fb (a.set r ((a.getD r []).take ((a.getD r []).length-1))) (b.set r ((b.getD r []).take ((b.getD r []).length-1))):=by
  refine⟨by rw[List.length_set,List.length_set,h.1],fun i=> ?_⟩
  by_cases e:i=r
  ·subst e
   by_cases hi:i<a.length
   ·rw[au (xs:=a.set _ _) (by rw[List.length_set];exact hi),List.getElem_set_self,au (xs:=b.set _ _) (by rw[List.length_set,←h.1];exact hi),List.getElem_set_self,List.length_take,List.length_take,h.2 i]
   ·rw[bS (xs:=a.set _ _) (by rw[List.length_set];omega),bS (xs:=b.set _ _) (by rw[List.length_set,←h.1];omega)]
  ·rw[getD_set_ne (Ne.symm e),getD_set_ne (Ne.symm e)];exact h.2 i
 unfold di
 rw[h.2 r]
 split
 ·rw[←h.2 r];rw[h.2 r]at*;exact ya hs r
 ·rw[h.2 r]at hs;exact hs
theorem fb.trans{a b c:List (List Int)}(h:fb a b)(h':fb b c):fb a c:=⟨h.1.trans h'.1,fun i=>(h.2 i).trans (h'.2 i)⟩
theorem E5{rs:List (List Int)}(h:rO rs)(n:Nat):rO (rs.take n):=by
 intro i hi
 rw[List.length_take]at hi
 rw[eD (by omega),eD (by omega)]
 exact h i (by omega)
theorem zz{rs:List (List Int)}{r:Nat}(h:rO rs)(hr:r<rs.length)(hl:1≤(rs.getD r []).length)(hc:(rs.getD (r+1) []).length<(rs.getD r []).length):rO (mX rs r).1:=by
 have hrow:(rs.set r ((rs.getD r []).take ((rs.getD r []).length-1))).getD r []=(rs.getD r []).take ((rs.getD r []).length-1):=by
  rw[au (by rw[List.length_set];exact hr),List.getElem_set_self]
 have hne: ∀i,i≠r→(rs.set r ((rs.getD r []).take ((rs.getD r []).length-1))).getD i []=rs.getD i []:=fun i h=>getD_set_ne (Ne.symm h) _ _
 have key:rO (og r (rs.set r ((rs.getD r []).take ((rs.getD r []).length-1))) ((rs.getD r []).getD ((rs.getD r []).length-1) 0)).1:=by
  refine ym r _ _ ((rs.getD r []).length-1) (by rw[List.length_set];exact hr) (fun i hi=> ?_) (fun i hi hil=> ?_) (fun i hi=> ?_)
  ·rw[hne _ (by omega),hne _ (by omega)];exact h i (by omega)
  ·rw[List.length_set]at hil
   by_cases e:i=r
   ·subst e
    rw[hne (i+1) (by omega),hrow,List.length_take]
    refine⟨by omega,fun c hc'=> ?_⟩
    rw[eD (by omega)]
    exact(h i hil).2 c hc'
   ·rw[hne (i+1) (by omega),hne i e];exact h i hil
  ·subst hi
   obtain⟨a1,a2⟩:=h i hr
   rw[hrow,hne i (by omega),List.length_take]
   refine⟨by omega,by omega,a2 _ (by omega),fun c h1 h2=> ?_,fun c h1 h2=>by omega⟩
   rw[eD (by omega)]
   exact a2 c (by omega)
 unfold mX
 simp only
 split
 ·exact E5 key r
 ·exact key
end Go.Am.Pu
end
section
/- The greatest number of a standard tableau, and the tableau without it; a pair of tableaux unrolled. Plain words. -/
namespace Go.Am.Pu
section
variable {t : Tab}
theorem wj(h:ba t=true)(hs:jD t=true){a b x y:Nat}(ha:a<t.2.length)(hx:x<(t.2.getD a []).length)(hb:b<t.2.length)(hy:y<(t.2.getD b []).length)(e:cel t.2 a x=cel t.2 b y):a=b∧x=y:=by
 have nd:=(oM h hs).1
 rw[List.Nodup,List.pairwise_flatten]at nd
 have mem: ∀{r z:Nat},r<t.2.length→(hz:z<(t.2.getD r []).length)→cel t.2 r z∈t.2.getD r []:=fun{r z} _ hz=>by
  unfold cel
  rw[au hz]
  exact List.getElem_mem hz
 have ab: ∀{a b x y:Nat},a<b→a<t.2.length→x<(t.2.getD a []).length→b<t.2.length→y<(t.2.getD b []).length→cel t.2 a x≠cel t.2 b y:=fun{a b x y} hab ha hx hb hy=>by
  have:=List.pairwise_iff_getElem.1 nd.2 a b ha hb hab
  exact this _ (by rw[←au ha []];exact mem ha hx) _ (by rw[←au hb []];exact mem hb hy)
 have e1:a=b:=by
  rcases Nat.lt_trichotomy a b with hl|hl|hl
  ·exact absurd e (ab hl ha hx hb hy)
  ·exact hl
  ·exact absurd e.symm (ab hl hb hy ha hx)
 subst e1
 refine⟨rfl,?_⟩
 have n2:=nd.1 _ (by rw[au ha];exact List.getElem_mem ha:t.2.getD a []∈t.2)
 unfold cel at e
 rw[au hx,au hy]at e
 rcases Nat.lt_trichotomy x y with hl|hl|hl
 ·exact absurd e (List.pairwise_iff_getElem.1 n2 x y hx hy hl)
 ·exact hl
 ·exact absurd e.symm (List.pairwise_iff_getElem.1 n2 y x hy hx hl)
theorem kP(h:ba t=true)(hs:jD t=true){a x:Nat}{v:Int}(ha:a<t.2.length)(hx:x<(t.2.getD a []).length)(e:cel t.2 a x=v):rowOf t v=a:=by
 have hf:t.2.findIdx (fun r=>has r v)=a:=by
  rw[List.findIdx_eq ha]
  refine⟨?_,fun j hj=> ?_⟩
  ·rw[←au ha [],rP,←e]
   unfold cel
   rw[au hx]
   exact List.getElem_mem hx
  ·rw[Bool.eq_false_iff]
   intro hc
   rw[rP]at hc
   obtain⟨y,hy,e2⟩:=List.getElem_of_mem hc
   have hjl:j<t.2.length:=by omega
   have hy':y<(t.2.getD j []).length:=by rw[au hjl];exact hy
   have e3:cel t.2 j y=v:=by
    unfold cel
    rw[au hy']
    simp only[au hjl]
    exact e2
   have:=wj h hs hjl hy' ha hx (by rw[e,e3])
   omega
 unfold rowOf zw
 rw[hf,if_pos ha]
theorem Ew(h:ba t=true)(hs:jD t=true)(hn:t.2.flatten.length≠0): ∃a:Nat,a<t.2.length∧1≤(t.2.getD a []).length∧cel t.2 a ((t.2.getD a []).length-1)=t.2.flatten.length∧(t.2.getD (a+1) []).length<(t.2.getD a []).length∧rowOf t t.2.flatten.length=a:=by
 have ho:mW t.2.flatten=true:=by
  have:=hs
  simp only[jD,Bool.and_eq_true]at this
  exact this.2
 obtain⟨a,x,ha,hx,e⟩:=qw (mI.1 ho t.2.flatten.length (jI.2 (by omega)))
 have hb:=(oM h hs).2
 obtain⟨c1,c2⟩:=lA h
 have hx1:x+1=(t.2.getD a []).length:=by
  refine Nat.le_antisymm hx (Nat.le_of_not_lt fun hlt=> ?_)
  have k1:=c2 a x ha hlt
  have k2:=(hb _ (ng ha hlt)).2
  have:=wj h hs ha hx ha hlt (by omega)
  omega
 have hbel:(t.2.getD (a+1) []).length≤x:=by
  refine Nat.le_of_not_lt fun hlt=> ?_
  have ha1:a+1<t.2.length:=Nat.lt_of_not_le fun hle=>by rw[bS hle]at hlt;simp at hlt
  have k1:=(oI h a ha1).2 x hlt
  have k2:=(hb _ (ng ha1 hlt)).2
  unfold cel at e k2
  omega
 refine⟨a,ha,by omega,by rw[show(t.2.getD a []).length-1=x by omega];exact e,by omega,kP h hs ha hx e⟩
theorem rA{rs:List (List Int)}{a:Nat}(ha:a<rs.length)(hc:(rs.getD (a+1) []).length<(rs.getD a []).length)(hp: ∀r,r<rs.length→1≤(rs.getD r []).length)(r:Nat):(di rs a).getD r []=if r=a then(rs.getD a []).take ((rs.getD a []).length-1)else rs.getD r []:=by
 have hset:(rs.set a ((rs.getD a []).take ((rs.getD a []).length-1))).getD r []=if r=a then(rs.getD a []).take ((rs.getD a []).length-1)else rs.getD r []:=by
  by_cases e:r=a
  ·subst e;rw[if_pos rfl,au (by rw[List.length_set];exact ha),List.getElem_set_self]
  ·rw[if_neg e,getD_set_ne (Ne.symm e)]
 unfold di
 split
 ·next h1=>
  by_cases hr:r<a
  ·rw[eD hr,hset]
  ·rw[bS (by rw[List.length_take];omega)]
   by_cases e:r=a
   ·subst e;rw[if_pos rfl,h1];rfl
   ·rw[if_neg e]
    have hlast:rs.length≤a+1:=Nat.le_of_not_lt fun hlt=>by
     have:=hp (a+1) hlt
     omega
    rw[bS (by omega)]
 ·exact hset
theorem wA{rs:List (List Int)}{a:Nat}(ha:a<rs.length):(di rs a).length=if(rs.getD a []).length=1 then a else rs.length:=by
 unfold di
 split
 ·rw[List.length_take,List.length_set];omega
 ·rw[List.length_set]
theorem Fk(h:ba t=true)(hs:jD t=true){a:Nat}(hn:t.2.flatten.length≠0)(ha:a<t.2.length)(h1:1≤(t.2.getD a []).length)(htop:cel t.2 a ((t.2.getD a []).length-1)=t.2.flatten.length)(hc:(t.2.getD (a+1) []).length<(t.2.getD a []).length):
  ba (([],di t.2 a):Tab)=true∧jD (([],di t.2 a):Tab)=true∧(di t.2 a).flatten.length+1=t.2.flatten.length∧ ∀v,1≤v→v<(t.2.flatten.length:Int)→rowOf ([],di t.2 a) v=rowOf t v:=by
 have hpos:=fun r (hr:r<t.2.length)=>qH h hr
 have hrow:=rA ha hc hpos
 have hlen:=wA ha
 obtain⟨c1,c2⟩:=lA h
 have c3:=oI h
 have hcorner:(outer t).getD (a+1) 0<(outer t).getD a 0:=by
  rw[ic h ha]
  by_cases e:a+1<t.2.length
  ·rw[ic h e];omega
  ·rw[bS (by rw[du];omega)];omega
 have hal:a<(outer t).length:=by rw[du];exact ha
 have hout:outer (([],di t.2 a):Tab)=aR (outer t) a:=by
  have hdl:(aR (outer t) a).length=(di t.2 a).length:=by
   rw[hlen]
   unfold aR
   rw[ic h ha]
   by_cases e:(t.2.getD a []).length=1
   ·rw[if_pos (by omega),if_pos e,List.length_take,du];omega
   ·rw[if_neg (by omega),if_neg e,List.length_set,du]
  refine List.ext_getElem (by rw[du,hdl]) fun r k1 k2=> ?_
  rw[←au k1 0,←au k2 0,mM (kS h) hal hcorner]
  have k3:r<(di t.2 a).length:=by rw[du]at k1;exact k1
  have:=gK [] (di t.2 a) 0 r k3
  unfold outer at this⊢
  rw[this,hrow]
  have hrl:r<t.2.length:=by
   rw[hlen]at k3
   split at k3<;>omega
  have po:=ic h hrl
  have pa:=ic h ha
  unfold outer at po pa
  by_cases e:r=a
  ·subst e
   rw[if_pos rfl,if_pos rfl,List.length_take,pa]
   simp only[List.getD_nil]
   omega
  ·rw[if_neg e,if_neg e,po]
   simp only[List.getD_nil]
   omega
 have hcel: ∀{r x:Nat},x<((di t.2 a).getD r []).length→x<(t.2.getD r []).length∧cel (di t.2 a) r x=cel t.2 r x:=fun{r x} hx=>by
  unfold cel
  rw[hrow]at hx⊢
  by_cases e:r=a
  ·subst e
   rw[if_pos rfl,List.length_take]at hx
   rw[if_pos rfl,eD (by omega)]
   exact⟨by omega,rfl⟩
  ·rw[if_neg e]at hx⊢
   exact⟨hx,rfl⟩
 have hrl: ∀{r:Nat},r<(di t.2 a).length→r<t.2.length:=fun{r} hr=>by
  rw[hlen]at hr
  split at hr<;>omega
 have hin: ∀{r x:Nat},x<(t.2.getD r []).length→ ¬(r=a∧x+1=(t.2.getD a []).length)→x<((di t.2 a).getD r []).length:=fun{r x} hx hne=>by
  rw[hrow]
  by_cases e:r=a
  ·subst e
   rw[if_pos rfl,List.length_take]
   have: ¬x+1=(t.2.getD r []).length:=fun e=>hne ⟨rfl,e⟩
   omega
  ·rw[if_neg e];exact hx
 have hpl:ba (([],di t.2 a):Tab)=true:=by
  refine uJ rfl (by rw[hout];exact uc (kS h) hal hcorner) (fun r x hr hx=> ?_) (fun r x hr hx=> ?_) (fun r x hr hx=> ?_)
  ·obtain⟨k1,k2⟩:=hcel hx
   rw[k2];exact c1 r x (hrl hr) k1
  ·obtain⟨k1,k2⟩:=hcel hx
   obtain⟨_,k4⟩:=hcel (show x<((di t.2 a).getD r []).length from Nat.lt_of_succ_lt hx)
   rw[k2,k4];exact c2 r x (hrl hr) k1
  ·obtain⟨k1,k2⟩:=hcel hx
   have hr1:=hrl hr
   obtain⟨d1,d2⟩:=c3 r hr1
   have hxr:x<((di t.2 a).getD r []).length:=by
    refine hin (by omega) fun e=> ?_
    rw[e.1]at k1
    omega
   obtain⟨_,k4⟩:=hcel hxr
   rw[k2,k4]
   exact d2 x k1
 have hfl:(di t.2 a).flatten.length+1=t.2.flatten.length:=by
  have e1:=yI hpl
  rw[hout,xh (kS h) hal hcorner,yI h]at e1
  simp only at e1
  omega
 have ho:mW t.2.flatten=true:=by
  have:=hs
  simp only[jD,Bool.and_eq_true]at this
  exact this.2
 have hcells: ∀v,1≤v→v<(t.2.flatten.length:Int)→ ∃r x,r<(di t.2 a).length∧x<((di t.2 a).getD r []).length∧cel (di t.2 a) r x=v∧r<t.2.length∧x<(t.2.getD r []).length∧cel t.2 r x=v:=by
  intro v v1 v2
  obtain⟨r,x,hr,hx,e⟩:=qw (mI.1 ho v (jI.2 (by omega)))
  have hx':x<((di t.2 a).getD r []).length:=by
   refine hin hx fun e2=> ?_
   rw[e2.1,show x=(t.2.getD a []).length-1 by omega,htop]at e
   omega
  exact⟨r,x,Nat.lt_of_not_le fun hle=>by rw[bS hle]at hx';simp at hx',hx',by rw[(hcel hx').2];exact e,hr,hx,e⟩
 have hst:jD (([],di t.2 a):Tab)=true:=by
  have hp':=hpl
  simp only[ba,Bool.and_eq_true]at hp'
  simp only[jD,Bool.and_eq_true]
  refine⟨hp'.1,mI.2 fun v hv=> ?_⟩
  rw[jI]at hv
  obtain⟨r,x,q1,q2,q3,_⟩:=hcells v hv.1 (by omega)
  rw[←q3]
  exact ng q1 q2
 refine⟨hpl,hst,hfl,fun v v1 v2=> ?_⟩
 obtain⟨r,x,q1,q2,q3,q4,q5,q6⟩:=hcells v v1 v2
 rw[kP h hs q4 q5 q6,kP hpl hst q1 q2 q3]
end
structure Unr (q : Tab) (k : Nat) (P Q : List (List Int)) : Prop where
  pl : ba (([], Q) : Tab) = true
  st : jD (([], Q) : Tab) = true
  fl : Q.flatten.length = k
  col : rO P
  same : fb P Q
  p9 : dz 9 9 P
  row : ∀ v, 1 ≤ v → v ≤ (k : Int) → rowOf ([], Q) v = rowOf q v
theorem Unr.step{q:Tab}{k:Nat}{P Q:List (List Int)}(h:Unr q (k+1) P Q): ∃a:Nat,rowOf q ((k+1:Nat):Int)=a∧a<Q.length∧1≤(Q.getD a []).length∧cel Q a ((Q.getD a []).length-1)=(k+1:Nat)∧(Q.getD (a+1) []).length<(Q.getD a []).length∧Unr q k (mX P a).1 (di Q a):=by
 have hfl:(([],Q):Tab).2.flatten.length=k+1:=h.fl
 obtain⟨a,a1,a2,a3,a4,a5⟩:=Ew h.pl h.st (by omega)
 obtain⟨b1,b2,b3,b4⟩:=Fk h.pl h.st (by omega) a1 a2 a3 a4
 simp only at a1 a2 a3 a4 b3
 have hP1:a<P.length:=by rw[h.same.1];exact a1
 refine⟨a,?_,a1,a2,by rw[a3,h.fl],a4,⟨b1,b2,by have:=h.fl;omega,zz h.col hP1 (by rw[h.same.2];exact a2) (by rw[h.same.2,h.same.2];exact a4),(yV P a).trans (Bd h.same a),yO h.p9 a,fun v v1 v2=> ?_⟩⟩
 ·rw[←h.row _ (by omega) (Int.le_refl _),←a5,hfl]
 ·rw[b4 v v1 (by rw[hfl];omega)]
  exact h.row v v1 (by omega)
end Go.Am.Pu
namespace Go.Am.Pu
end Go.Am.Pu
end
section
/- Insertion keeps tableaux; where the new cells lie; a tableau from its word. Plain words. -/
namespace Go.Am.Pu
def nu(r:List Int):Prop:= ∀i,i+1<r.length→r.getD i 0≤r.getD (i+1) 0
theorem nu.le{r:List Int}(h:nu r): ∀(d i:Nat),i+d<r.length→r.getD i 0≤r.getD (i+d) 0
 |0,i,_=>Int.le_refl _
 |d+1,i,hi=>by
  have a:=nu.le h d i (by omega)
  have b:=h (i+d) (by omega)
  rw[show i+(d+1)=i+d+1 by omega]
  omega
theorem nu.mono{r:List Int}(h:nu r){i j:Nat}(hij:i≤j)(hj:j<r.length):r.getD i 0≤r.getD j 0:=by
 have:=h.le (j-i) i (by omega)
 rw[show i+(j-i)=j by omega]at this
 exact this
def fst(r:List Int)(x:Int):Nat:=r.findIdx fun n=>decide (x<n)
theorem xJ{r:List Int}{x:Int}:fst r x≤r.length:=List.findIdx_le_length
theorem zp{r:List Int}{x:Int}(h:fst r x<r.length):x<r.getD (fst r x) 0:=by
 have:=oK (p:=fun n=>decide (x<n)) h
 exact of_decide_eq_true this
theorem vB{r:List Int}{x:Int}{i:Nat}(h:i<fst r x):r.getD i 0≤x:=by
 have h1:i<r.length:=Nat.lt_of_lt_of_le h xJ
 have h2:=List.not_of_lt_findIdx h
 rw[au h1]
 exact Int.not_lt.1 (of_decide_eq_false h2)
theorem fst_eq{r:List Int}{x:Int}{i:Nat}(h1:i<r.length)(h2:x<r.getD i 0)(h3: ∀j,j<i→r.getD j 0≤x):fst r x=i:=by
 rcases Nat.lt_trichotomy (fst r x) i with h|h|h
 ·have a:=zp (Nat.lt_trans h h1)
  have b:=h3 _ h
  omega
 ·exact h
 ·have:=vB h
  omega
theorem AI{r:List Int}{x:Int}(h: ∀j,j<r.length→r.getD j 0≤x):fst r x=r.length:=by
 refine Nat.le_antisymm xJ (Nat.le_of_not_lt fun hlt=> ?_)
 have a:=zp hlt
 have b:=h _ hlt
 omega
theorem gD(r:List Int)(rs:List (List Int))(x:Int):bq (r::rs) x=if fst r x<r.length then(r.set (fst r x) x::(bq rs (r.getD (fst r x) 0)).1,(bq rs (r.getD (fst r x) 0)).2+1)else((r++ [x])::rs,0):=rfl
def G7(r:List Int):List (List Int)→Prop
 | []=>True
 |s::_=>s.length≤r.length∧ ∀q,q<s.length→r.getD q 0<s.getD q 0
def SSR:List (List Int)→Prop
 | []=>True
 |r::rs=>0<r.length∧nu r∧G7 r rs∧SSR rs
theorem fF{r:List Int}{i:Nat}(x:Int)(h:i<r.length)(q:Nat):(r.set i x).getD q 0=if q=i then x else r.getD q 0:=by
 by_cases e:q=i
 ·subst e;rw[if_pos rfl,au (by rw[List.length_set];exact h),List.getElem_set_self]
 ·rw[if_neg e,getD_set_ne (Ne.symm e)]
theorem fD{r:List Int}(x:Int)(q:Nat):(r++ [x]).getD q 0=if q=r.length then x else r.getD q 0:=by
 by_cases h:q<r.length
 ·rw[ml h,if_neg (by omega)]
 ·rw[qk (by omega)]
  by_cases e:q=r.length
  ·rw[if_pos e,e,Nat.sub_self];rfl
  ·rw[if_neg e,bS (by simp;omega),bS (by omega)]
theorem FM{r:List Int}{x:Int}(h:nu r)(hf:fst r x<r.length):nu (r.set (fst r x) x):=by
 intro i hi
 rw[List.length_set]at hi
 rw[fF x hf,fF x hf]
 have h0:=h i hi
 by_cases e1:i=fst r x
 ·rw[if_pos e1,if_neg (by omega)]
  have:=zp hf
  rw[←e1]at this
  omega
 ·rw[if_neg e1]
  by_cases e2:i+1=fst r x
  ·rw[if_pos e2];exact vB (by omega)
  ·rw[if_neg e2];exact h0
theorem Fu{r:List Int}{x:Int}(h:nu r)(hf: ¬fst r x<r.length):nu (r++ [x]):=by
 intro i hi
 rw[List.length_append,List.length_singleton]at hi
 rw[fD,fD,if_neg (by omega)]
 by_cases e:i+1=r.length
 ·rw[if_pos e]
  have:= @xJ r x
  exact vB (by omega)
 ·rw[if_neg e];exact h i (by omega)
theorem Fg{r:List Int}{x:Int}{rs:List (List Int)}(h:nu r)(hf:fst r x<r.length)(ho:G7 r rs):G7 (r.set (fst r x) x) (bq rs (r.getD (fst r x) 0)).1:=by
 have hy:=zp hf
 have hle: ∀q,q<r.length→(r.set (fst r x) x).getD q 0≤r.getD q 0:=fun q hq=>by
  rw[fF x hf]
  split
  ·next e=>rw[e];omega
  ·exact Int.le_refl _
 have hlow: ∀p,p≤fst r x→(r.set (fst r x) x).getD p 0<r.getD (fst r x) 0:=fun p hp=>by
  rw[fF x hf]
  split
  ·exact hy
  ·have:=vB (r:=r) (x:=x) (i:=p) (by omega)
   omega
 cases rs with
 |nil=>
  show([r.getD (fst r x) 0]:List Int).length≤_∧_
  refine⟨by rw[List.length_set];simp;omega,fun q hq=> ?_⟩
  have e:q=0:=by simp at hq;exact hq
  subst e
  exact hlow 0 (by omega)
 |cons s rs=>
  obtain⟨o1,o2⟩:=ho
  have hp:fst s (r.getD (fst r x) 0)≤fst r x:=by
   refine Nat.le_of_not_lt fun hlt=> ?_
   have hs:fst r x<s.length:=Nat.lt_of_lt_of_le hlt xJ
   have a:=vB hlt
   have b:=o2 _ hs
   omega
  rw[gD]
  by_cases c:fst s (r.getD (fst r x) 0)<s.length
  ·rw[if_pos c]
   refine⟨by rw[List.length_set,List.length_set];exact o1,fun q hq=> ?_⟩
   rw[List.length_set]at hq
   rw[fF (r:=s) _ c]
   split
   ·next e=>rw[e];exact hlow _ hp
   ·have a:=hle q (by omega)
    have b:=o2 q hq
    omega
  ·rw[if_neg c]
   have hsl:fst s (r.getD (fst r x) 0)=s.length:=Nat.le_antisymm xJ (Nat.le_of_not_lt c)
   refine⟨by rw[List.length_set,List.length_append,List.length_singleton];omega,fun q hq=> ?_⟩
   rw[List.length_append,List.length_singleton]at hq
   rw[fD]
   split
   ·next e=>rw[e];exact hlow _ (by omega)
   ·have a:=hle q (by omega)
    have b:=o2 q (by omega)
    omega
theorem CR: ∀(rs:List (List Int)) (x:Int),SSR rs→SSR (bq rs x).1
 | [],x,_=>⟨by simp,fun i hi=>by simp at hi,trivial,trivial⟩
 |r::rs,x,h=>by
  obtain⟨h1,h2,h3,h4⟩:=h
  rw[gD]
  split
  ·next c=>exact⟨by rw[List.length_set];exact h1,FM h2 c,Fg h2 c h3,CR rs _ h4⟩
  ·next c=>
   refine⟨by simp,Fu h2 c,?_,h4⟩
   cases rs with
   |nil=>trivial
   |cons s rs=>
    obtain⟨o1,o2⟩:=h3
    refine⟨by rw[List.length_append];omega,fun q hq=> ?_⟩
    rw[fD,if_neg (by omega)]
    exact o2 q hq
end Go.Am.Pu
end
section
/- Plain tableaux, row by row; a tableau from its word; words inserted. Plain words. -/
namespace Go.Am.Pu
theorem rY: ∀{rs:List (List Int)},SSR rs→ ∀r,r<rs.length→0<(rs.getD r []).length∧nu (rs.getD r [])
 |r::rs,h,0,_=>⟨h.1,h.2.1⟩
 |r::rs,h,q+1,hq=>rY h.2.2.2 q (by simpa using hq)
theorem sn: ∀{rs:List (List Int)},SSR rs→rO rs
 | [],_,i,hi=>by simp at hi
 | [r],_,i,hi=>by simp at hi
 |r::s::rs,h,0,_=>h.2.2.1
 |r::s::rs,h,i+1,hi=>sn h.2.2.2 i (by simpa using hi)
theorem qv: ∀{rs:List (List Int)},(∀r,r<rs.length→0<(rs.getD r []).length∧nu (rs.getD r []))→rO rs→SSR rs
 | [],_,_=>trivial
 |r::rs,h1,h2=>by
  refine⟨(h1 0 (by simp)).1,(h1 0 (by simp)).2,?_,qv (fun q hq=>h1 (q+1) (by simpa using hq)) (fun i hi=>h2 (i+1) (by simpa using hi))⟩
  cases rs with
  |nil=>trivial
  |cons s rs=>exact h2 0 (by simp)
theorem j7{t:Tab}(h:ba t=true):SSR t.2:=by
 refine qv (fun r hr=>⟨qH h hr,fun i hi=> ?_⟩) (oI h)
 exact(lA h).2 r i hr hi
theorem qF(rs:List (List Int)){i:Nat}(h:i<rs.length):(outer (([],rs):Tab)).getD i 0=(rs.getD i []).length:=by
 have:=gK [] rs 0 i h
 unfold outer
 rw[this]
 simp
theorem sO{rs:List (List Int)}(h:SSR rs)(hn: ∀x∈rs.flatten,1≤x∧x≤9)(h9:rs.flatten.length≤9):ba (([],rs):Tab)=true:=by
 have hr:=fun r hr=>rY h r hr
 have hc:=sn h
 have hrl: ∀r,r<rs.length→(rs.getD r []).length≤9:=fun r h1=>by
  have:=pS (rs:=rs) (r:=rs.getD r []) (by rw[au h1];exact List.getElem_mem h1)
  omega
 refine uJ rfl ?_ (fun r x h1 h2=>hn _ (ng h1 h2)) (fun r x h1 h2=>(hr r h1).2 x h2) (fun r x h1 h2=>(hc r h1).2 x h2)
 have hs:fX (outer (([],rs):Tab))=rs.flatten.length:=qo [] rs 0 fun q _=>by simp
 refine oS _ 9 0 (fun x hx=> ?_) (fun h0=> ?_) (fun i hi=> ?_) (by omega)
 ·obtain⟨i,hi,rfl⟩:=List.getElem_of_mem hx
  have hi':i<rs.length:=by rw[du]at hi;exact hi
  rw[←au hi 0,qF rs hi']
  have:=(hr i hi').1
  omega
 ·have h0':0<rs.length:=by rw[du]at h0;exact h0
  rw[qF rs h0']
  have:=hrl 0 h0'
  omega
 ·have hi':i+1<rs.length:=by rw[du]at hi;exact hi
  rw[qF rs hi',qF rs (by omega)]
  have:=(hc i hi').1
  omega
theorem CS: ∀(rs:List (List Int)) (x z:Int),z∈(bq rs x).1.flatten→z=x∨z∈rs.flatten
 | [],x,z,h=>by simp[bq]at h;exact .inl h
 |r::rs,x,z,h=>by
  rw[gD]at h
  split at h
  ·next c=>
   simp only[List.flatten_cons,List.mem_append]at h⊢
   rcases h with h|h
   ·rcases List.mem_or_eq_of_mem_set h with h|h
    ·exact .inr (.inl h)
    ·exact .inl h
   ·rcases CS rs _ z h with h|h
    ·right;left
     rw[h,au c]
     exact List.getElem_mem c
    ·exact .inr (.inr h)
  ·simp only[List.flatten_cons,List.mem_append,List.mem_singleton]at h⊢
   rcases h with(h|h)|h
   ·exact .inr (.inl h)
   ·exact .inl h
   ·exact .inr (.inr h)
theorem Aj: ∀(rs:List (List Int)) (x:Int),(bq rs x).1.flatten.length=rs.flatten.length+1
 | [],x=>by simp[bq]
 |r::rs,x=>by
  rw[gD]
  split
  ·have:=Aj rs (r.getD (fst r x) 0)
   simp only[List.flatten_cons,List.length_append,List.length_set]
   omega
  ·simp only[List.flatten_cons,List.length_append,List.length_singleton]
   omega
theorem vh: ∀(rs:List (List Int)) (x:Int),(bq rs x).2≤rs.length∧((bq rs x).1.length=if(bq rs x).2=rs.length then rs.length+1 else rs.length)∧ ∀i,((bq rs x).1.getD i []).length=if i=(bq rs x).2 then(rs.getD i []).length+1 else(rs.getD i []).length
 | [],x=>by
  refine⟨Nat.le_refl _,rfl,fun i=> ?_⟩
  cases i with
  |zero=>rfl
  |succ i=>simp[bq]
 |r::rs,x=>by
  rw[gD]
  split
  ·next c=>
   obtain⟨a,b,d⟩:=vh rs (r.getD (fst r x) 0)
   refine⟨by simp only[List.length_cons];omega,?_,fun i=> ?_⟩
   ·simp only[List.length_cons,b,Nat.add_right_cancel_iff]
    split<;>rfl
   ·cases i with
    |zero=>simp
    |succ i=>
     have:=d i
     simp only[Nat.add_right_cancel_iff]
     exact this
  ·refine⟨Nat.zero_le _,by simp,fun i=> ?_⟩
   cases i with
   |zero=>simp
   |succ i=>simp
def jm:List Int→List (List Int)→List (List Int)
 | [],P=>P
 |x::w,P=>jm w (bq P x).1
theorem my: ∀(v w:List Int) (P:List (List Int)),jm (v++w) P=jm w (jm v P)
 | [],_,_=>rfl
 |x::v,w,P=>my v w _
def wc(i:Nat):List Int→List (List Int)→List (List Int)
 |r,[]=>if i=0 then []else [r.take i]
 |r,s::rs=>(r.take i++s.drop i)::wc i s rs
theorem zX: ∀(r:List Int) (rs:List (List Int)),wc 0 r rs=rs
 |r,[]=>rfl
 |r,s::rs=>by simp[wc,zX s rs]
theorem sF{i:Nat}(hi:0<i): ∀(r:List Int) (rs:List (List Int)),SSR (r::rs)→r.length≤i→wc i r rs=r::rs
 |r,[],_,h=>by unfold wc;rw[if_neg (by omega),List.take_of_length_le h]
 |r,s::rs,h,hl=>by
  have:=h.2.2.1.1
  unfold wc
  rw[sF hi s rs h.2.2.2 (by omega),List.take_of_length_le hl,List.drop_of_length_le (by omega),List.append_nil]
theorem zO: ∀(r:List Int) (rs:List (List Int)) (i:Nat),SSR (r::rs)→i<r.length→(bq (wc i r rs) (r.getD i 0)).1=wc (i+1) r rs
 |r,[],i,h,hi=>by
  show(bq (if i=0 then []else [r.take i]) (r.getD i 0)).1=if i+1=0 then []else [r.take (i+1)]
  rw[if_neg (show¬i+1=0 by omega),take_succ hi 0]
  by_cases e:i=0
  ·subst e;rw[if_pos rfl];rfl
  ·rw[if_neg e,gD,if_neg]
   rw[AI (fun j hj=> ?_)]
   ·exact Nat.lt_irrefl _
   ·rw[List.length_take]at hj
    rw[eD (by omega)]
    exact h.2.1.mono (by omega) hi
 |r,s::rs,i,h,hi=>by
  obtain⟨h1,h2,⟨o1,o2⟩,h4⟩:=h
  have hlow: ∀j,j<i→(r.take i++s.drop i).getD j 0≤r.getD i 0:=fun j hj=>by
   rw[ml (by rw[List.length_take];omega),eD hj]
   exact h2.mono (by omega) hi
  have hget: ∀j,i≤j→(r.take i++s.drop i).getD j 0=s.getD j 0:=fun j hj=>by
   rw[qk (by rw[List.length_take];omega),List.length_take,iD,show i+(j-min i r.length)=j by omega]
  have hlen:(r.take i++s.drop i).length=i+(s.length-i):=by
   rw[List.length_append,List.length_take,List.length_drop];omega
  unfold wc
  rw[gD]
  by_cases c:i<s.length
  ·have hf:fst (r.take i++s.drop i) (r.getD i 0)=i:=fst_eq (by omega) (by rw[hget i (Nat.le_refl _)];exact o2 i c) hlow
   rw[hf,if_pos (by omega),hget i (Nat.le_refl _)]
   simp only
   rw[zO s rs i h4 c]
   congr 1
   refine Fa (by rw[List.length_set,hlen,List.length_append,List.length_take,List.length_drop];omega) fun q hq=> ?_
   rw[fF (r:=r.take i++s.drop i) _ (by omega)]
   by_cases e:q=i
   ·subst e
    rw[if_pos rfl,ml (by rw[List.length_take];omega),eD (by omega)]
   ·rw[if_neg e]
    by_cases e2:q<i
    ·rw[ml (by rw[List.length_take];omega),eD e2,ml (by rw[List.length_take];omega),eD (by omega)]
    ·rw[hget q (by omega),qk (by rw[List.length_take];omega),List.length_take,iD,show i+1+(q-min (i+1) r.length)=q by omega]
  ·have hd:s.drop i= []:=List.drop_of_length_le (by omega)
   have hd1:s.drop (i+1)= []:=List.drop_of_length_le (by omega)
   have hn:fst (r.take i++s.drop i) (r.getD i 0)=(r.take i++s.drop i).length:=AI fun j hj=>hlow j (by omega)
   rw[if_neg (by omega)]
   simp only
   have hs1:=h4.1
   rw[hd,hd1,List.append_nil,List.append_nil,take_succ hi 0,sF (by omega) s rs h4 (by omega),sF (by omega) s rs h4 (by omega)]
theorem zP{r:List Int}{rs:List (List Int)}(h:SSR (r::rs)): ∀(m i:Nat),i+m=r.length→jm (r.drop i) (wc i r rs)=r::rs
 |0,i,hm=>by
  rw[List.drop_of_length_le (by omega)]
  exact sF (by have:=h.1;omega) r rs h (by omega)
 |m+1,i,hm=>by
  have hi:i<r.length:=by omega
  rw[drop_cons hi 0]
  show jm (r.drop (i+1)) (bq (wc i r rs) (r.getD i 0)).1=_
  rw[zO r rs i h hi]
  exact zP h m (i+1) (by omega)
theorem qt: ∀(rs:List (List Int)),SSR rs→jm rs.reverse.flatten []=rs
 | [],_=>rfl
 |r::rs,h=>by
  have ih:=qt rs h.2.2.2
  rw[List.reverse_cons,List.flatten_append,my,ih]
  have:=zP h r.length 0 (by omega)
  rw[List.drop_zero,zX]at this
  simpa using this
end Go.Am.Pu
end
section
/- The recording tableau is standard, and its descents are the word's. Plain words. -/
namespace Go.Am.Pu
def g7(Q:List (List Int))(a:Nat)(v:Int):List (List Int):=if a=Q.length then Q++ [[v]]else Q.set a (Q.getD a []++ [v])
theorem ql{Q:List (List Int)}{a:Nat}(v:Int)(ha:a≤Q.length)(i:Nat):(g7 Q a v).getD i []=if i=a then Q.getD a []++ [v]else Q.getD i []:=by
 unfold g7
 by_cases e:a=Q.length
 ·rw[if_pos e]
  by_cases h:i<Q.length
  ·rw[if_neg (by omega)]
   simp only[List.getD_eq_getElem?_getD,List.getElem?_append_left h]
  ·by_cases e2:i=a
   ·rw[if_pos e2,e2,e,bS (xs:=Q) (Nat.le_refl _)]
    simp
   ·rw[if_neg e2,bS (xs:=Q) (by omega),bS (by rw[List.length_append,List.length_singleton];omega)]
 ·rw[if_neg e]
  by_cases e2:i=a
  ·subst e2;rw[if_pos rfl,au (by rw[List.length_set];omega),List.getElem_set_self]
  ·rw[if_neg e2,getD_set_ne (Ne.symm e2)]
theorem mh{Q:List (List Int)}{a:Nat}(v:Int):(g7 Q a v).length=if a=Q.length then Q.length+1 else Q.length:=by
 unfold g7
 split
 ·rw[List.length_append,List.length_singleton]
 ·rw[List.length_set]
theorem BN{Q:List (List Int)}{a:Nat}(v:Int)(ha:a≤Q.length):(g7 Q a v).flatten.length=Q.flatten.length+1:=by
 unfold g7
 split
 ·simp
 ·next e=>
  have: ∀(Q:List (List Int)) (a:Nat),a<Q.length→(Q.set a (Q.getD a []++ [v])).flatten.length=Q.flatten.length+1:=by
   intro Q
   induction Q with
   |nil=>intro a h;simp at h
   |cons r rs ih=>
    intro a h
    cases a with
    |zero=>simp;omega
    |succ a=>
     have:=ih a (by simpa using h)
     simp only[List.set_cons_succ,List.getD_cons_succ,List.flatten_cons,List.length_append,this]
     omega
  exact this Q a (by omega)
theorem FZ{Q P:List (List Int)}{a k:Nat}(hp:ba (([],Q):Tab)=true)(hs:jD (([],Q):Tab)=true)(hk:Q.flatten.length=k)(h9:k+1≤9)(hP:SSR P)(ha:a≤Q.length)(hPl:P.length=if a=Q.length then Q.length+1 else Q.length)
  (hl: ∀i,(P.getD i []).length=if i=a then(Q.getD i []).length+1 else(Q.getD i []).length):
  ba (([],g7 Q a ((k+1:Nat):Int)):Tab)=true∧jD (([],g7 Q a ((k+1:Nat):Int)):Tab)=true∧(g7 Q a ((k+1:Nat):Int)).flatten.length=k+1∧fb P (g7 Q a ((k+1:Nat):Int))∧
   rowOf ([],g7 Q a ((k+1:Nat):Int)) ((k+1:Nat):Int)=a∧ ∀v,1≤v→v≤(k:Int)→rowOf ([],g7 Q a ((k+1:Nat):Int)) v=rowOf ([],Q) v:=by
 have hget:=ql ((k+1:Nat):Int) ha
 have hlen:= @mh Q a ((k+1:Nat):Int)
 have hfl:=BN ((k+1:Nat):Int) ha
 generalize hN:g7 Q a ((k+1:Nat):Int)=N at*
 have hNl: ∀i,(N.getD i []).length=if i=a then(Q.getD i []).length+1 else(Q.getD i []).length:=fun i=>by
  rw[hget]
  split
  ·next e=>rw[e,List.length_append,List.length_singleton]
  ·rfl
 have hsame:fb P N:=⟨by rw[hPl,hlen],fun i=>by rw[hl,hNl]⟩
 have hcel: ∀r x,cel N r x=if r=a∧x=(Q.getD a []).length then((k+1:Nat):Int)else cel Q r x:=fun r x=>by
  unfold cel
  rw[hget]
  by_cases e:r=a
  ·subst e
   rw[if_pos rfl,fD]
   by_cases e2:x=(Q.getD r []).length
   ·rw[if_pos e2,if_pos ⟨rfl,e2⟩]
   ·rw[if_neg e2,if_neg (fun h=>e2 h.2)]
  ·rw[if_neg e,if_neg (fun h=>e h.1)]
 have hb:=(oM hp hs).2
 simp only at hb
 rw[hk]at hb
 have hQ: ∀{r x:Nat},x<(Q.getD r []).length→1≤cel Q r x∧cel Q r x≤(k:Int):=fun{r x} hx=>by
  have hr:r<Q.length:=Nat.lt_of_not_le fun hle=>by rw[bS hle]at hx;simp at hx
  exact hb _ (ng hr hx)
 obtain⟨q1,q2⟩:=lA hp
 have q3:=oI hp
 simp only at q2 q3
 have pc:=sn hP
 have pr:=fun r hr=>rY hP r hr
 have hqlen: ∀i,(Q.getD (i+1) []).length≤(Q.getD i []).length:=fun i=>by
  by_cases h:i+1<Q.length
  ·exact(q3 i h).1
  ·rw[bS (by omega)];exact Nat.zero_le _
 have hssr:SSR N:=by
  refine qv (fun r hr=>⟨?_,fun x hx=> ?_⟩) (fun i hi=> ?_)
  ·rw[←hsame.2];exact(pr r (by rw[hsame.1];exact hr)).1
  ·have e1:=hcel r x
   have e2:=hcel r (x+1)
   unfold cel at e1 e2
   rw[e1,e2]
   rw[hNl]at hx
   have hxQ:x<(Q.getD r []).length:=by
    split at hx<;>omega
   rw[if_neg (fun h=>by rw[h.1]at hxQ;omega)]
   have hv:=hQ hxQ
   unfold cel at hv
   by_cases e:r=a∧x+1=(Q.getD a []).length
   ·rw[if_pos e];omega
   ·rw[if_neg e]
    have hx1:x+1<(Q.getD r []).length:=by
     split at hx
     ·next e3=>
      have: ¬x+1=(Q.getD a []).length:=fun h=>e ⟨e3,h⟩
      rw[←e3]at this
      omega
     ·exact hx
    have hr:r<Q.length:=Nat.lt_of_not_le fun hle=>by rw[bS hle]at hx1;simp at hx1
    exact q2 r x hr hx1
  ·obtain⟨c1,c2⟩:=pc i (by rw[hsame.1];exact hi)
   rw[hsame.2,hsame.2]at c1
   refine⟨c1,fun x hx=> ?_⟩
   have e1:=hcel i x
   have e2:=hcel (i+1) x
   unfold cel at e1 e2
   rw[e1,e2]
   rw[hNl]at hx
   have hxi:x<(N.getD i []).length:=by
    have:=hNl (i+1)
    omega
   rw[hNl]at hxi
   by_cases e:i+1=a∧x=(Q.getD a []).length
   ·rw[if_pos e,if_neg (fun h=>by omega)]
    have hxQ:x<(Q.getD i []).length:=by rw[if_neg (by omega)]at hxi;exact hxi
    have hv:=hQ hxQ
    unfold cel at hv
    omega
   ·rw[if_neg e]
    have hx1:x<(Q.getD (i+1) []).length:=by
     split at hx
     ·next e3=>
      have: ¬x=(Q.getD a []).length:=fun h=>e ⟨e3,h⟩
      rw[←e3]at this
      omega
     ·exact hx
    have hxQ:x<(Q.getD i []).length:=Nat.lt_of_lt_of_le hx1 (hqlen i)
    rw[if_neg (fun h=>by rw[h.1]at hxQ;omega)]
    have hr:i+1<Q.length:=Nat.lt_of_not_le fun hle=>by rw[bS hle]at hx1;simp at hx1
    exact(q3 i hr).2 x hx1
 have hflk:N.flatten.length=k+1:=by omega
 have hmem: ∀z∈N.flatten,1≤z∧z≤9:=fun z hz=>by
  obtain⟨r,x,hr,hx,e⟩:=qw hz
  rw[←e,hcel]
  split
  ·omega
  ·next hc=>
   rw[hNl]at hx
   have hxQ:x<(Q.getD r []).length:=by
    split at hx
    ·next e3=>
     have: ¬x=(Q.getD a []).length:=fun h=>hc ⟨e3,h⟩
     rw[←e3]at this
     omega
    ·exact hx
   have:=hQ hxQ
   omega
 have hpl:=sO hssr hmem (by omega)
 have haN:a<N.length:=by
  rw[hlen]
  split<;>omega
 have hxN:(Q.getD a []).length<(N.getD a []).length:=by rw[hNl,if_pos rfl];omega
 have hnew:cel N a (Q.getD a []).length=((k+1:Nat):Int):=by rw[hcel,if_pos ⟨rfl,rfl⟩]
 have hold: ∀{r x:Nat},x<(Q.getD r []).length→r<N.length∧x<(N.getD r []).length∧cel N r x=cel Q r x:=fun{r x} hx=>by
  have hx':x<(N.getD r []).length:=by
   rw[hNl]
   split<;>omega
  refine⟨Nat.lt_of_not_le fun hle=>by rw[bS hle]at hx';simp at hx',hx',?_⟩
  rw[hcel,if_neg (fun h=>by rw[h.1]at hx;omega)]
 have ho:mW Q.flatten=true:=by
  have:=hs
  simp only[jD,Bool.and_eq_true]at this
  exact this.2
 have hst:jD (([],N):Tab)=true:=by
  have hp':=hpl
  simp only[ba,Bool.and_eq_true]at hp'
  simp only[jD,Bool.and_eq_true]
  refine⟨hp'.1,mI.2 fun v hv=> ?_⟩
  rw[hflk,jI]at hv
  by_cases e:v=((k+1:Nat):Int)
  ·rw[e,←hnew];exact ng haN hxN
  ·obtain⟨r,x,hr,hx,e2⟩:=qw (mI.1 ho v (jI.2 (by omega)))
   obtain⟨d1,d2,d3⟩:=hold hx
   rw[←e2,←d3]
   exact ng d1 d2
 refine⟨hpl,hst,hflk,hsame,kP hpl hst haN hxN hnew,fun v v1 v2=> ?_⟩
 obtain⟨r,x,hr,hx,e2⟩:=qw (mI.1 ho v (jI.2 (by omega)))
 obtain⟨d1,d2,d3⟩:=hold hx
 rw[kP hpl hst d1 d2 (by rw[d3];exact e2),kP hp hs hr hx e2]
def nv:List Int→List (List Int)→List (List Int)→Nat→List (List Int)
 | [],_,Q,_=>Q
 |x::w,P,Q,k=>nv w (bq P x).1 (g7 Q (bq P x).2 ((k+1:Nat):Int)) (k+1)
def CF:List Int→List (List Int)→List Nat
 | [],_=> []
 |x::w,P=>(bq P x).2::CF w (bq P x).1
structure Ins (P Q : List (List Int)) (k : Nat) : Prop where
  ssr : SSR P
  num : ∀ x ∈ P.flatten, 1 ≤ x ∧ x ≤ 9
  fl : P.flatten.length = k
  pl : ba (([], Q) : Tab) = true
  st : jD (([], Q) : Tab) = true
  qf : Q.flatten.length = k
  same : fb P Q
theorem Ins.step{P Q:List (List Int)}{k:Nat}{x:Int}(h:Ins P Q k)(hx:1≤x∧x≤9)(h9:k+1≤9):
  Ins (bq P x).1 (g7 Q (bq P x).2 ((k+1:Nat):Int)) (k+1)∧rowOf ([],g7 Q (bq P x).2 ((k+1:Nat):Int)) ((k+1:Nat):Int)=((bq P x).2:Nat)∧ ∀v,1≤v→v≤(k:Int)→rowOf ([],g7 Q (bq P x).2 ((k+1:Nat):Int)) v=rowOf ([],Q) v:=by
 obtain⟨a,b,c⟩:=vh P x
 have hs:=CR P x h.ssr
 obtain⟨d1,d2,d3,d4,d5,d6⟩:=FZ (a:=(bq P x).2) h.pl h.st h.qf h9 hs (by rw[←h.same.1];exact a) (by rw[←h.same.1];exact b) (fun i=>by rw[←h.same.2];exact c i)
 refine⟨⟨hs,fun z hz=> ?_,by rw[Aj,h.fl],d1,d2,d3,d4⟩,d5,d6⟩
 rcases CS P x z hz with e|e
 ·rw[e];exact hx
 ·exact h.num z e
theorem Ins.nil:Ins [] [] 0:=⟨trivial,fun x hx=>by simp at hx,rfl,rfl,rfl,rfl,⟨rfl,fun _=>rfl⟩⟩
theorem Ins.word: ∀(w:List Int) {P Q:List (List Int)} {k:Nat},Ins P Q k→(∀x∈w,1≤x∧x≤9)→k+w.length≤9→
  Ins (jm w P) (nv w P Q k) (k+w.length)∧(∀v,1≤v→v≤(k:Int)→rowOf ([],nv w P Q k) v=rowOf ([],Q) v)∧ ∀i,i<w.length→rowOf ([],nv w P Q k) ((k+i+1:Nat):Int)=((CF w P).getD i 0:Nat)
 | [],P,Q,k,h,_,_=>⟨h,fun _ _ _=>rfl,fun i hi=>by simp at hi⟩
 |x::w,P,Q,k,h,hx,hl=>by
  simp only[List.length_cons]at hl
  obtain⟨a,b,c⟩:=h.step (hx x (List.mem_cons_self ..)) (by omega)
  obtain⟨d,e,f⟩:=Ins.word w a (fun z hz=>hx z (List.mem_cons_of_mem _ hz)) (by omega)
  refine⟨by rw[List.length_cons,show k+(w.length+1)=k+1+w.length by omega];exact d,fun v v1 v2=> ?_,fun i hi=> ?_⟩
  ·show rowOf ([],nv w _ _ (k+1)) v=_
   rw[e v v1 (by omega)]
   exact c v v1 v2
  ·show rowOf ([],nv w _ _ (k+1)) _=_
   cases i with
   |zero=>
    have:=e ((k+1:Nat):Int) (by omega) (Int.le_refl _)
    rw[Nat.add_zero,this,b]
    rfl
   |succ i=>
    have:=f i (by simpa using hi)
    rw[show k+1+i+1=k+(i+1)+1 by omega]at this
    exact this
end Go.Am.Pu
end
section
/- Words, and what inserting makes of them. Plain words. -/
namespace Go.Am.Pu
def isWord(w:List Int):Bool:=decide (w.length≤9)&&w.all fun n=>within n 1 9
theorem gI{w:List Int}(h:isWord w=true):w.length≤9∧ ∀x∈w,1≤x∧x≤9:=by
 simp only[isWord,Bool.and_eq_true,decide_eq_true_eq,List.all_eq_true,within]at h
 exact⟨h.1,fun x hx=>h.2 x hx⟩
def dE(w:List Int):Tab×Bool:=if isWord w=true then(([],jm w []),true)else(([],[]),false)
def mo(w:List Int):Tab×Bool:=if isWord w=true then(([],nv w [] [] 0),true)else(([],[]),false)
theorem wS{w:List Int}(h:isWord w=true):Ins (jm w []) (nv w [] [] 0) w.length∧ ∀i,i<w.length→rowOf ([],nv w [] [] 0) ((i+1:Nat):Int)=((CF w []).getD i 0:Nat):=by
 obtain⟨h1,h2⟩:=gI h
 obtain⟨a,_,c⟩:=Ins.word w Ins.nil h2 (by omega)
 rw[Nat.zero_add]at a
 refine⟨a,fun i hi=> ?_⟩
 have:=c i hi
 rw[Nat.zero_add]at this
 exact this
theorem uf{P Q:List (List Int)}{k:Nat}(h:Ins P Q k)(h9:k≤9):ba (([],P):Tab)=true:=sO h.ssr h.num (by rw[h.fl];exact h9)
theorem n4{w:List Int}(h:isWord w=true):ba (dE w).1=true:=by
 unfold dE
 rw[if_pos h]
 exact uf (wS h).1 (gI h).1
theorem wF{w:List Int}(h:isWord w=true):ba (mo w).1=true∧jD (mo w).1=true∧(mo w).1.2.flatten.length=w.length:=by
 unfold mo
 rw[if_pos h]
 have a:=(wS h).1
 exact⟨a.pl,a.st,a.qf⟩
theorem CO{t:Tab}(h:ba t=true):iO t:=by
 have hr:=iM h
 exact⟨by rw[iR h];simp,by have:=hr.1;omega,fun r hm=>by have:=hr.2 r hm;omega⟩
theorem nw{w:List Int}:iO (dE w).1:=by
 cases h:isWord w with
 |true=>exact CO (n4 h)
 |false=>unfold dE;rw[h];exact iO.nil
end Go.Am.Pu
end
section
/- Standardizing a tableau: the cells numbered by number and column. Plain words. -/
namespace Go.Am.Pu
def jy(Q:List (List Int))(v:Int)(c r:Nat)(s:Nat×List (List Int)):Nat×List (List Int):=
 if c<(Q.getD r []).length∧cel Q r c=v then(s.1+1,g6 s.2 r c ((s.1+1:Nat):Int))else s
structure Num (Q : List (List Int)) (D : Nat → Nat → Prop) (s : Nat × List (List Int)) (F : List Int) : Prop where
  same : fb s.2 Q
  len : F.length = s.1
  val : ∀ r x, r < Q.length → x < (Q.getD r []).length → D r x → ∃ k, k < s.1 ∧ cel s.2 r x = ((k + 1 : Nat) : Int) ∧ F.getD k 0 = cel Q r x
  inj : ∀ r x r' x', r < Q.length → x < (Q.getD r []).length → D r x → r' < Q.length → x' < (Q.getD r' []).length → D r' x' → cel s.2 r x = cel s.2 r' x' → r = r' ∧ x = x'
  all : ∀ k, k < s.1 → ∃ r x, r < Q.length ∧ x < (Q.getD r []).length ∧ D r x ∧ cel s.2 r x = ((k + 1 : Nat) : Int)
  lex : ∀ r x r' x', r < Q.length → x < (Q.getD r []).length → D r x → r' < Q.length → x' < (Q.getD r' []).length → D r' x' → cel s.2 r x < cel s.2 r' x' → cel Q r x < cel Q r' x' ∨ (cel Q r x = cel Q r' x' ∧ x ≤ x')
theorem Num.congr{Q:List (List Int)}{D D':Nat→Nat→Prop}{s:Nat×List (List Int)}{F:List Int}(h:Num Q D s F)(e: ∀r x,r<Q.length→x<(Q.getD r []).length→(D r x↔D' r x)):Num Q D' s F:=
 ⟨h.same,h.len,fun r x a b d=>h.val r x a b ((e r x a b).2 d),fun r x r' x' a b d a' b' d'=>h.inj r x r' x' a b ((e r x a b).2 d) a' b' ((e r' x' a' b').2 d'),
  fun k hk=>by obtain⟨r,x,a,b,d,q⟩:=h.all k hk;exact⟨r,x,a,b,(e r x a b).1 d,q⟩,fun r x r' x' a b d a' b' d'=>h.lex r x r' x' a b ((e r x a b).2 d) a' b' ((e r' x' a' b').2 d')⟩
def Dn(Q:List (List Int))(v:Int)(c r:Nat)(a i:Nat):Prop:=cel Q a i<v∨(cel Q a i=v∧(i<c∨(i=c∧a<r)))
theorem Num.step{Q:List (List Int)}{v:Int}{c r:Nat}{s:Nat×List (List Int)}{F:List Int}(h:Num Q (Dn Q v c r) s F)(hr:r<Q.length): ∃F',Num Q (Dn Q v c (r+1)) (jy Q v c r s) F':=by
 unfold jy
 split
 ·next hc=>
  obtain⟨hc,hv⟩:=hc
  have hnd: ¬Dn Q v c r r c:=by unfold Dn;omega
  have hsr:r<s.2.length:=by rw[h.same.1];exact hr
  have hsc:c<(s.2.getD r []).length:=by rw[h.same.2];exact hc
  have new: ∀a i,Dn Q v c (r+1) a i→(a=r∧i=c)∨(¬(a=r∧i=c)∧Dn Q v c r a i):=fun a i d=>by
   by_cases e:a=r∧i=c
   ·exact .inl e
   ·refine .inr ⟨e,?_⟩
    unfold Dn at d⊢
    omega
  have at1:=jj (g:=s.2) (r:=r) (c:=c) ((s.1+1:Nat):Int) hsr hsc
  have ne1: ∀a i,¬(a=r∧i=c)→cel (g6 s.2 r c ((s.1+1:Nat):Int)) a i=cel s.2 a i:=fun a i e=>gU _ e
  refine⟨F++ [v],⟨⟨by rw[dN];exact h.same.1,fun i=>by rw[bG];exact h.same.2 i⟩,by rw[List.length_append,List.length_singleton,h.len],?_,?_,?_,?_⟩⟩
  ·intro a i ha hi d
   rcases new a i d with⟨rfl,rfl⟩|⟨e,d'⟩
   ·refine⟨s.1,by simp only;omega,at1,?_⟩
    rw[hv,←h.len,List.getD_eq_getElem?_getD]
    simp
   ·obtain⟨k,k1,k2,k3⟩:=h.val a i ha hi d'
    refine⟨k,by simp only;omega,by rw[ne1 a i e];exact k2,?_⟩
    rw[←k3,List.getD_eq_getElem?_getD,List.getD_eq_getElem?_getD,List.getElem?_append_left (by rw[h.len];exact k1)]
  ·intro a i b j ha hi d hb hj d' e
   rcases new a i d with⟨rfl,rfl⟩|⟨ea,da⟩
   ·rcases new b j d' with⟨rfl,rfl⟩|⟨eb,db⟩
    ·exact⟨rfl,rfl⟩
    ·obtain⟨k,k1,k2,_⟩:=h.val b j hb hj db
     simp only at e
     rw[at1,ne1 b j eb,k2]at e
     omega
   ·rcases new b j d' with⟨rfl,rfl⟩|⟨eb,db⟩
    ·obtain⟨k,k1,k2,_⟩:=h.val a i ha hi da
     simp only at e
     rw[at1,ne1 a i ea,k2]at e
     omega
    ·simp only at e
     rw[ne1 a i ea,ne1 b j eb]at e
     exact h.inj a i b j ha hi da hb hj db e
  ·intro k hk
   simp only at hk
   by_cases ek:k=s.1
   ·subst ek
    exact⟨r,c,hr,hc,by unfold Dn;omega,at1⟩
   ·obtain⟨a,i,ha,hi,d,e⟩:=h.all k (by omega)
    have hne: ¬(a=r∧i=c):=fun q=>by rw[q.1,q.2]at d;exact hnd d
    exact⟨a,i,ha,hi,by unfold Dn at d⊢;omega,by simp only;rw[ne1 a i hne];exact e⟩
  ·intro a i b j ha hi d hb hj d' e
   simp only at e
   rcases new a i d with⟨rfl,rfl⟩|⟨ea,da⟩
   ·rcases new b j d' with⟨rfl,rfl⟩|⟨eb,db⟩
    ·omega
    ·obtain⟨k,k1,k2,_⟩:=h.val b j hb hj db
     rw[at1,ne1 b j eb,k2]at e
     omega
   ·rcases new b j d' with⟨rfl,rfl⟩|⟨eb,db⟩
    ·unfold Dn at da
     omega
    ·rw[ne1 a i ea,ne1 b j eb]at e
     exact h.lex a i b j ha hi da hb hj db e
 ·next hc=>
  refine⟨F,h.congr fun a i ha hi=> ?_⟩
  unfold Dn
  constructor
  ·intro d;omega
  ·intro d
   by_cases e:a=r∧i=c
   ·obtain⟨rfl,rfl⟩:=e
    have:cel Q a i≠v:=fun q=>hc ⟨hi,q⟩
    omega
   ·omega
structure yd (Q X : List (List Int)) (f : Int → Int) : Prop where
  same : fb X Q
  val : ∀ r x, r < X.length → x < (X.getD r []).length → cel Q r x = f (cel X r x)
  lex : ∀ r x r' x', r < X.length → x < (X.getD r []).length → r' < X.length → x' < (X.getD r' []).length → cel X r x < cel X r' x' → cel Q r x < cel Q r' x' ∨ (cel Q r x = cel Q r' x' ∧ x < x')
end Go.Am.Pu
end
section
/- A pair of tableaux unrolled, the second one semistandard; sorting; the matrix of a pair. Plain words. -/
namespace Go.Am.Pu
def BF(R:Int→Prop)(rs:List (List Int)):Prop:= ∀r∈rs,∀v∈r,R v
theorem BF.at{R:Int→Prop}{rs:List (List Int)}(h:BF R rs){r x:Nat}(hr:r<rs.length)(hx:x<(rs.getD r []).length):R ((rs.getD r []).getD x 0):=by
 rw[au hx]
 exact h (rs.getD r []) (by rw[au hr];exact List.getElem_mem hr) _ (List.getElem_mem hx)
theorem BF.set{R:Int→Prop}{rs:List (List Int)}(h:BF R rs)(i:Nat){r:List Int}(hr: ∀v∈r,R v):BF R (rs.set i r):=fun y hy=>by
 rcases List.mem_or_eq_of_mem_set hy with h'|rfl
 ·exact h y h'
 ·exact hr
theorem BF.row{R:Int→Prop}{rs:List (List Int)}(h:BF R rs)(i:Nat): ∀v∈rs.getD i [],R v:=by
 by_cases hi:i<rs.length
 ·exact h _ (by rw[au hi];exact List.getElem_mem hi)
 ·rw[bS (by omega)];simp
theorem Unr.top{q:Tab}{m:Nat}{P X:List (List Int)}(h:Unr q (m+1) P X){a:Nat}(ha:a<X.length)(htop:cel X a ((X.getD a []).length-1)=((m+1:Nat):Int)):
  (∀r,r<X.length→1≤(X.getD r []).length)∧(∀r,r<X.length→r≠a→cel X r ((X.getD r []).length-1)<((m+1:Nat):Int)):=by
 have hp:=fun r hr=>qH h.pl (r:=r) hr
 refine⟨hp,fun r hr hne=> ?_⟩
 have h1:=hp r hr
 have h2:=hp a ha
 simp only at h1 h2
 have hb:=((oM h.pl h.st).2 _ (ng (rs:=X) hr (show(X.getD r []).length-1<(X.getD r []).length by omega))).2
 have hf:=h.fl
 simp only at hb
 rw[hf]at hb
 have hx:cel X r ((X.getD r []).length-1)≠((m+1:Nat):Int):=fun e=>hne (wj h.pl h.st (a:=r) (b:=a) (x:=(X.getD r []).length-1) (y:=(X.getD a []).length-1) hr (show _<(X.getD r []).length by omega) ha (show _<(X.getD a []).length by omega) (by rw[htop];exact e)).1
 omega
theorem DA{n m:Nat}{A B:List (List Int)}(h:dz n m A)(s:fb A B):dz n m B:=by
 refine⟨by rw[←s.1];exact h.1,fun x hx=> ?_⟩
 obtain⟨i,hi,rfl⟩:=List.getElem_of_mem hx
 have:=h.at i
 rw[s.2 i,au hi]at this
 exact this
theorem yd.cut{Q X:List (List Int)}{f:Int→Int}(s:yd Q X f){a:Nat}(ha:a<X.length)(hc:(X.getD (a+1) []).length<(X.getD a []).length)(hp: ∀r,r<X.length→1≤(X.getD r []).length):yd (di Q a) (di X a) f:=by
 have hq: ∀r,r<Q.length→1≤(Q.getD r []).length:=fun r hr=>by rw[←s.same.2];exact hp r (by rw[s.same.1];exact hr)
 have rX:=rA ha hc hp
 have rQ:=rA (rs:=Q) (a:=a) (by rw[←s.same.1];exact ha) (by rw[←s.same.2,←s.same.2];exact hc) hq
 have old: ∀{r x},r<(di X a).length→x<((di X a).getD r []).length→r<X.length∧x<(X.getD r []).length∧cel (di X a) r x=cel X r x∧cel (di Q a) r x=cel Q r x:=fun{r x} hr hx=>by
  have hl:=wA (rs:=X) ha
  have hr':r<X.length:=by rw[hl]at hr;split at hr<;>omega
  have e1:=rX r
  have e2:=rQ r
  unfold cel
  by_cases e:r=a
  ·rw[if_pos e]at e1 e2
   rw[e1]at hx
   rw[List.length_take]at hx
   subst e
   refine⟨hr',by omega,by rw[e1,eD (by omega)],?_⟩
   rw[e2,eD (by have:=s.same.2 r;omega)]
  ·rw[if_neg e]at e1 e2
   rw[e1]at hx
   exact⟨hr',hx,by rw[e1],by rw[e2]⟩
 refine⟨Bd s.same a,fun r x hr hx=> ?_,fun r x r' x' hr hx hr' hx' hlt=> ?_⟩
 ·obtain⟨o1,o2,o3,o4⟩:=old hr hx
  rw[o3,o4]
  exact s.val r x o1 o2
 ·obtain⟨o1,o2,o3,o4⟩:=old hr hx
  obtain⟨p1,p2,p3,p4⟩:=old hr' hx'
  rw[o3,p3]at hlt
  rw[o4,p4]
  exact s.lex r x r' x' o1 o2 p1 p2 hlt
theorem yd.step{q:Tab}{m:Nat}{P X Q:List (List Int)}{f:Int→Int}(s:yd Q X f)(h:Unr q (m+1) P X):
  ∃a:Nat,rowOf q ((m+1:Nat):Int)=a∧a<Q.length∧1≤(Q.getD a []).length∧(Q.getD a []).getD ((Q.getD a []).length-1) 0=f ((m+1:Nat):Int)∧(∀r,r<Q.length→1≤(Q.getD r []).length)∧
   (∀r,r<Q.length→r≠a→(Q.getD r []).getD ((Q.getD r []).length-1) 0<f ((m+1:Nat):Int)∨((Q.getD r []).getD ((Q.getD r []).length-1) 0=f ((m+1:Nat):Int)∧(Q.getD r []).length<(Q.getD a []).length))∧
   dz 9 9 Q∧a<P.length∧1≤(P.getD a []).length∧Unr q m (mX P a).1 (di X a)∧yd (di Q a) (di X a) f:=by
 obtain⟨a,a1,a2,a3,a4,a5,a6⟩:=h.step
 obtain⟨t1,t2⟩:=h.top a2 a4
 have v0:=s.val a ((X.getD a []).length-1) a2 (by omega)
 rw[a4]at v0
 unfold cel at v0
 rw[s.same.2]at v0
 refine⟨a,a1,by rw[←s.same.1];exact a2,by rw[←s.same.2];exact a3,v0,fun r hr=>by rw[←s.same.2];exact t1 r (by rw[s.same.1];exact hr),fun r hr hne=> ?_,DA (iM h.pl) s.same,
  by rw[h.same.1];exact a2,by rw[h.same.2];exact a3,a6,s.cut a2 a5 t1⟩
 have hr':r<X.length:=by rw[s.same.1];exact hr
 have u1:=t1 r hr'
 have hl:=s.lex r ((X.getD r []).length-1) a ((X.getD a []).length-1) hr' (by omega) a2 (by omega) (by rw[a4];exact t2 r hr' hne)
 have v:=s.val a ((X.getD a []).length-1) a2 (by omega)
 rw[v,a4]at hl
 unfold cel at hl
 rw[s.same.2 r,s.same.2 a]at hl
 have e1:=s.same.2 r
 rcases hl with hl|hl
 ·exact .inl hl
 ·exact .inr ⟨hl.1,by omega⟩
structure IS (r c : Nat) (b : Int) (M : List (List Int)) : Prop where
  len : M.length = r
  row : ∀ i, i < r → (M.getD i []).length = c
  sm : ∀ x ∈ M, ∀ v ∈ x, 0 ≤ v ∧ v ≤ b
theorem EP{a b:List Int}{i:Nat}(ha:i<a.length)(hb:i<b.length):(a.zip b).drop i=(a.getD i 0,b.getD i 0)::(a.zip b).drop (i+1):=by
 have hl:i<(a.zip b).length:=by rw[List.length_zip];omega
 rw[drop_cons hl (0,0),au hl,List.getElem_zip,au ha,au hb]
end Go.Am.Pu
end
section
/- Standardizing any tableau: its cells in the order of number and column. Plain words. -/
namespace Go.Am.Pu
def EA(t:Tab)(r:Nat):List (Int×Int×Int):=(List.range (t.2.getD r []).length).map fun x=>(cel t.2 r x,t.1.getD r 0+x,(r:Int))
def cellsOf(t:Tab):List (Int×Int×Int):=((List.range t.2.length).map (EA t)).flatten
def KLt(a b:Int×Int×Int):Prop:=a.1<b.1∨(a.1=b.1∧a.2.1<b.2.1)
end Go.Am.Pu
end
section
/- Sorting cells by insertion, as the library does. Plain words. -/
namespace Go.Am.Pu
instance(a b:Int×Int×Int):Decidable (KLt a b):=by unfold KLt;infer_instance
end Go.Am.Pu
end
section
/- All standard tableaux of given rows, found by taking out the greatest number. Plain words. -/
namespace Go.Am.Pu
def iw(ls:List Nat)(a:Nat):List Nat:=if ls.getD a 0=1 then ls.take a else ls.set a (ls.getD a 0-1)
theorem EV{α:Type}{d:α}{A B:List α}(hl:A.length=B.length)(h: ∀i,i<A.length→A.getD i d=B.getD i d):A=B:=by
 refine List.ext_getElem hl fun i h1 h2=> ?_
 have:=h i h1
 rw[au h1,au h2]at this
 exact this
end Go.Am.Pu
end
section
/- Promotion of a rectangle comes back after as many steps as there are cells (reckoned over all of them). Plain words. -/
namespace Go.Am.Pu
end Go.Am.Pu
end
section
/- The length of an orbit divides every number of steps that come back. Plain words. -/
namespace Go.Am.Pu
end Go.Am.Pu
end
section
/- Knuth's relations: insertion does not tell related words apart, and a row and a number are related to what an insertion makes of them. Plain words. -/
namespace Go.Am.Pu
abbrev Up(r:List Int):Prop:=r.Pairwise (· ≤ ·)
def eR:List Int→Int→List Int×List Int
 | [],x=>([x],[])
 |a::r,x=>if x<a then(x::r,[a])else(a::(eR r x).1,(eR r x).2)
theorem e9{a x:Int}{r:List Int}(h:x<a):eR (a::r) x=(x::r,[a]):=by unfold eR;rw[if_pos h]
theorem eH{a x:Int}{r:List Int}(h:a≤x):eR (a::r) x=(a::(eR r x).1,(eR r x).2):=by
 conv=>lhs;unfold eR
 rw[if_neg (by omega)]
theorem si: ∀(r:List Int) (x z:Int),z∈(eR r x).1→z=x∨z∈r
 | [],x,z,h=>by simp only[eR,List.mem_singleton]at h;exact .inl h
 |a::r,x,z,h=>by
  by_cases c:x<a
  ·rw[e9 c]at h
   rcases List.mem_cons.1 h with h|h
   ·exact .inl h
   ·exact .inr (List.mem_cons_of_mem _ h)
  ·rw[eH (by omega)]at h
   rcases List.mem_cons.1 h with h|h
   ·exact .inr (by rw[h];exact List.mem_cons_self ..)
   ·rcases si r x z h with h|h
    ·exact .inl h
    ·exact .inr (List.mem_cons_of_mem _ h)
theorem vp: ∀{r:List Int} (x:Int),Up r→Up (eR r x).1
 | [],x,_=>List.pairwise_singleton ..
 |a::r,x,h=>by
  have h':=List.pairwise_cons.1 h
  by_cases c:x<a
  ·rw[e9 c]
   exact List.pairwise_cons.2 ⟨fun z hz=>by have:=h'.1 z hz;omega,h'.2⟩
  ·rw[eH (by omega)]
   refine List.pairwise_cons.2 ⟨fun z hz=> ?_,vp x h'.2⟩
   rcases si r x z hz with e|e
   ·omega
   ·exact h'.1 z e
theorem kD: ∀(r:List Int) (x:Int),(eR r x).2= []∨ ∃b,(eR r x).2= [b]∧x<b∧b∈r
 | [],x=> .inl rfl
 |a::r,x=>by
  by_cases c:x<a
  ·rw[e9 c];exact .inr ⟨a,rfl,c,List.mem_cons_self ..⟩
  ·rw[eH (by omega)]
   rcases kD r x with h|⟨b,h1,h2,h3⟩
   ·exact .inl h
   ·exact .inr ⟨b,h1,h2,List.mem_cons_of_mem _ h3⟩
theorem C1: ∀{r:List Int} {y z:Int},Up r→y≤z→((eR r y).2= []→(eR (eR r y).1 z).2= [])∧ ∀p q,(eR r y).2= [p]→(eR (eR r y).1 z).2= [q]→p≤q
 | [],y,z,_,hz=>by
  refine⟨fun _=> ?_,fun p q h=>by simp[eR]at h⟩
  show(eR [y] z).2= []
  rw[eH hz];rfl
 |a::r,y,z,h,hz=>by
  have h':=List.pairwise_cons.1 h
  by_cases c:y<a
  ·rw[e9 c]
   refine⟨fun e=>by simp at e,fun p q e1 e2=> ?_⟩
   rw[eH hz]at e2
   rcases kD r z with o|⟨b,o1,_,o3⟩
   ·simp only at e2;rw[o]at e2;simp at e2
   ·simp only at e2
    rw[o1]at e2
    simp only[List.cons.injEq,and_true]at e1 e2
    have:=h'.1 b o3
    omega
  ·rw[eH (show a≤y by omega)]
   show((eR r y).2= []→(eR (a::(eR r y).1) z).2= [])∧ ∀p q,(eR r y).2= [p]→(eR (a::(eR r y).1) z).2= [q]→p≤q
   rw[eH (show a≤z by omega)]
   exact C1 h'.2 hz
theorem CH: ∀{r:List Int} {y z:Int},Up r→y<z→z∈r→ ∃c,(eR r y).2= [c]∧y<c∧c≤z
 | [],_,_,_,_,hm=>by simp at hm
 |a::r,y,z,h,hz,hm=>by
  have h':=List.pairwise_cons.1 h
  by_cases c:y<a
  ·rw[e9 c]
   refine⟨a,rfl,c,?_⟩
   rcases List.mem_cons.1 hm with e|e
   ·omega
   ·exact h'.1 z e
  ·rw[eH (by omega)]
   rcases List.mem_cons.1 hm with e|e
   ·omega
   ·exact CH h'.2 hz e
theorem tS: ∀(r:List Int) (x:Int),x∈(eR r x).1
 | [],x=>List.mem_singleton.2 rfl
 |a::r,x=>by
  by_cases c:x<a
  ·rw[e9 c];exact List.mem_cons_self ..
  ·rw[eH (by omega)];exact List.mem_cons_of_mem _ (tS r x)
def Tri(u v:List Int):Prop:= ∃x y z:Int,(x<y∧y≤z∧u= [y,z,x]∧v= [y,x,z])∨(x≤y∧y<z∧u= [x,z,y]∧v= [z,x,y])
theorem Tri.a{x y z:Int}(h1:x<y)(h2:y≤z):Tri [y,z,x] [y,x,z]:=⟨x,y,z,.inl ⟨h1,h2,rfl,rfl⟩⟩
theorem Tri.b{x y z:Int}(h1:x≤y)(h2:y<z):Tri [x,z,y] [z,x,y]:=⟨x,y,z,.inr ⟨h1,h2,rfl,rfl⟩⟩
def jq:List Int→List Int→List Int×List Int
 |r,[]=>(r,[])
 |r,x::w=>((jq (eR r x).1 w).1,(eR r x).2++(jq (eR r x).1 w).2)
def CP(p q:List Int×List Int):Prop:=p.1=q.1∧(p.2=q.2∨Tri p.2 q.2)
theorem oZ{a:Int}: ∀{w r:List Int},(∀x∈w,a≤x)→jq (a::r) w=(a::(jq r w).1,(jq r w).2)
 | [],_,_=>rfl
 |x::w,r,h=>by
  show((jq (eR (a::r) x).1 w).1,(eR (a::r) x).2++(jq (eR (a::r) x).1 w).2)=_
  rw[eH (h x (List.mem_cons_self ..))]
  simp only
  rw[oZ fun y hy=>h y (List.mem_cons_of_mem _ hy)]
  rfl
theorem nk(r:List Int)(x y z:Int):jq r [x,y,z]=((eR (eR (eR r x).1 y).1 z).1,(eR r x).2++((eR (eR r x).1 y).2++(eR (eR (eR r x).1 y).1 z).2)):=by
 simp[jq]
theorem Gl: ∀{r:List Int} {x y z:Int},Up r→x<y→y≤z→CP (jq r [y,z,x]) (jq r [y,x,z])
 | [],x,y,z,_,h1,h2=>by
  refine⟨?_,.inl ?_⟩
  ·simp[jq,eR,h1,show¬z<y by omega,show¬z<x by omega]
  ·simp[jq,eR,h1,show¬z<y by omega,show¬z<x by omega]
 |a::r,x,y,z,h,h1,h2=>by
  have h':=List.pairwise_cons.1 h
  by_cases c:y<a
  ·rw[nk,nk,e9 c]
   simp only
   rw[eH (r:=r) h2,e9 (r:=r) h1]
   simp only
   rw[e9 h1,eH (show x≤z by omega)]
   refine⟨rfl,?_⟩
   rcases kD r z with o|⟨b,o1,o2,o3⟩
   ·simp only;rw[o];exact .inl rfl
   ·simp only;rw[o1]
    exact .inr (Tri.a c (h'.1 b o3))
  ·by_cases c2:x<a
   ·rw[nk,nk,eH (show a≤y by omega)]
    simp only
    rw[eH (show a≤z by omega),e9 c2]
    simp only
    rw[e9 c2,eH (show x≤z by omega)]
    refine⟨rfl,?_⟩
    simp only
    obtain⟨e1,e2⟩:=C1 h'.2 h2
    rcases kD r y with o|⟨b,o1,o2,o3⟩
    ·rw[o,e1 o];exact .inl rfl
    ·rcases kD (eR r y).1 z with p|⟨d,p1,p2,p3⟩
     ·rw[p,o1];exact .inl rfl
     ·rw[o1,p1]
      exact .inr (Tri.a (by omega) (e2 _ _ o1 p1))
   ·have ih:=Gl h'.2 h1 h2
    rw[oZ (by simp;omega),oZ (by simp;omega)]
    exact⟨congrArg (a:: ·) ih.1,ih.2⟩
theorem Gj: ∀{r:List Int} {x y z:Int},Up r→x≤y→y<z→CP (jq r [x,z,y]) (jq r [z,x,y])
 | [],x,y,z,_,h1,h2=>by
  refine⟨?_,.inl ?_⟩
  ·simp[jq,eR,h2,show x<z by omega,show¬z<x by omega,show¬y<x by omega]
  ·simp[jq,eR,h2,show x<z by omega,show¬z<x by omega,show¬y<x by omega]
 |a::r,x,y,z,h,h1,h2=>by
  have h':=List.pairwise_cons.1 h
  by_cases c:z<a
  ·rw[nk,nk,e9 (show x<a by omega),e9 c]
   simp only
   rw[eH (r:=r) (show x≤z by omega),e9 (r:=r) (show x<z by omega)]
   simp only
   rw[eH h1,eH h1]
   cases r with
   |nil=>simp[eR,h2,CP]
   |cons b r=>
    have hb:=h'.1 b (List.mem_cons_self ..)
    rw[e9 (show z<b by omega),e9 (show y<b by omega)]
    simp only
    rw[e9 h2]
    exact⟨rfl,.inr (Tri.a c hb)⟩
  ·by_cases c2:x<a
   ·rw[nk,nk,e9 c2,eH (show a≤z by omega)]
    simp only
    rw[e9 c2,eH (show x≤z by omega)]
    simp only
    rw[eH h1]
    refine⟨rfl,?_⟩
    simp only
    rcases kD r z with o|⟨b,o1,o2,o3⟩
    ·rw[o];exact .inl rfl
    ·rw[o1]
     obtain⟨d,d1,d2,d3⟩:=CH (vp z h'.2) h2 (tS r z)
     rw[d1]
     refine .inr (Tri.b ?_ (by omega))
     rcases kD (eR r z).1 y with p|⟨q,p1,p2,p3⟩
     ·rw[p]at d1;simp at d1
     ·rw[p1]at d1
      have:q=d:=by simpa using d1
      subst this
      rcases si r z q p3 with e|e
      ·omega
      ·exact h'.1 q e
   ·have ih:=Gj h'.2 h1 h2
    rw[oZ (by simp;omega),oZ (by simp;omega)]
    exact⟨congrArg (a:: ·) ih.1,ih.2⟩
theorem FC{r u v:List Int}(h:Up r)(t:Tri u v):CP (jq r u) (jq r v):=by
 obtain⟨x,y,z,⟨h1,h2,rfl,rfl⟩|⟨h1,h2,rfl,rfl⟩⟩:=t
 ·exact Gl h h1 h2
 ·exact Gj h h1 h2
theorem Fh(a x:Int)(r:List Int):fst (a::r) x=if x<a then 0 else fst r x+1:=by
 unfold fst
 rw[List.findIdx_cons]
 by_cases c:x<a
 ·rw[if_pos c,decide_eq_true c];rfl
 ·rw[if_neg c,decide_eq_false c];rfl
theorem A5: ∀(r:List Int) (x:Int),eR r x=if fst r x<r.length then(r.set (fst r x) x,[r.getD (fst r x) 0])else(r++ [x],[])
 | [],x=>rfl
 |a::r,x=>by
  rw[Fh]
  by_cases c:x<a
  ·rw[e9 c,if_pos c,if_pos (by simp)];rfl
  ·rw[eH (by omega),if_neg c,A5 r x]
   by_cases d:fst r x<r.length
   ·rw[if_pos d,if_pos (by simpa using d)];rfl
   ·rw[if_neg d,if_neg (by simpa using d)];rfl
theorem AJ(r:List Int)(rs:List (List Int))(x:Int):(bq (r::rs) x).1=(eR r x).1::jm (eR r x).2 rs:=by
 rw[gD,A5]
 by_cases c:fst r x<r.length
 ·rw[if_pos c,if_pos c];rfl
 ·rw[if_neg c,if_neg c];rfl
theorem tK: ∀(w r:List Int) (rs:List (List Int)),jm w (r::rs)=(jq r w).1::jm (jq r w).2 rs
 | [],_,_=>rfl
 |x::w,r,rs=>by
  show jm w (bq (r::rs) x).1=_
  rw[AJ,tK w]
  simp only[jq]
  rw[my]
theorem Ga{u v:List Int}(t:Tri u v):jm u []=jm v []:=by
 obtain⟨x,y,z,⟨h1,h2,rfl,rfl⟩|⟨h1,h2,rfl,rfl⟩⟩:=t
 ·simp[jm,bq,List.findIdx_cons,h1,show¬z<y by omega,show¬z<x by omega]
 ·simp[jm,bq,List.findIdx_cons,h2,show x<z by omega,show¬z<x by omega,show¬y<x by omega]
theorem CZ: ∀{P:List (List Int)} {u v:List Int},(∀r∈P,Up r)→Tri u v→jm u P=jm v P
 | [],_,_,_,t=>Ga t
 |r::rs,u,v,h,t=>by
  rw[tK,tK]
  obtain⟨a,b|b⟩:=FC (h r (List.mem_cons_self ..)) t
  ·rw[a,b]
  ·rw[a,CZ (fun q hq=>h q (List.mem_cons_of_mem _ hq)) b]
inductive Kn : List Int → List Int → Prop
  | refl (w) : Kn w w
  | symm {v w} : Kn v w → Kn w v
  | trans {u v w} : Kn u v → Kn v w → Kn u w
  | tri {u v} (a b) : Tri u v → Kn (a ++ u ++ b) (a ++ v ++ b)
theorem Kn.ctx{u v:List Int}(c d:List Int)(h:Kn u v):Kn (c++u++d) (c++v++d):=by
 induction h with
 |refl w=>exact .refl _
 |symm _ ih=>exact .symm ih
 |trans _ _ h1 h2=>exact .trans h1 h2
 |tri a b t=>
  have:=Kn.tri (c++a) (b++d) t
  simp only[List.append_assoc]at this⊢
  exact this
theorem Kn.left{u v:List Int}(c:List Int)(h:Kn u v):Kn (c++u) (c++v):=by
 have:=h.ctx c []
 simpa using this
theorem Kn.right{u v:List Int}(d:List Int)(h:Kn u v):Kn (u++d) (v++d):=by
 have:=h.ctx [] d
 simpa using this
theorem Kn.cons{u v:List Int}(c:Int)(h:Kn u v):Kn (c::u) (c::v):=h.left [c]
theorem Kn.of{u v:List Int}(t:Tri u v):Kn u v:=by
 have:=Kn.tri [] [] t
 simpa using this
theorem Kn.app{u v u' v':List Int}(h:Kn u u')(g:Kn v v'):Kn (u++v) (u'++v'):=(h.right v).trans (g.left u')
theorem CX: ∀{P:List (List Int)} (x:Int),(∀r∈P,Up r)→ ∀r∈(bq P x).1,Up r
 | [],x,_=>fun r hr=>by
  have:r= [x]:=by simpa[bq]using hr
  rw[this];exact List.pairwise_singleton ..
 |q::P,x,h=>by
  rw[AJ]
  intro r hr
  have hP: ∀r∈P,Up r:=fun r hr=>h r (List.mem_cons_of_mem _ hr)
  rcases List.mem_cons.1 hr with e|e
  ·rw[e];exact vp x (h q (List.mem_cons_self ..))
  ·rcases kD q x with o|⟨b,o,_,_⟩
   ·rw[o]at e;exact hP r e
   ·rw[o]at e;exact CX b hP r e
theorem CD: ∀{w:List Int} {P:List (List Int)},(∀r∈P,Up r)→ ∀r∈jm w P,Up r
 | [],_,h=>h
 |x::w,P,h=>show∀r∈jm w (bq P x).1,Up r from CD (CX x h)
theorem Kn.ins{u v:List Int}(h:Kn u v): ∀{P:List (List Int)},(∀r∈P,Up r)→jm u P=jm v P:=by
 induction h with
 |refl w=>intro P _;rfl
 |symm _ ih=>intro P hP;exact(ih hP).symm
 |trans _ _ h1 h2=>intro P hP;rw[h1 hP,h2 hP]
 |tri a b t=>
  intro P hP
  rw[my,my,my,my,CZ (CD hP) t]
end Go.Am.Pu
end
section
/- Rows and slides keep words related. Plain words. -/
namespace Go.Am.Pu
theorem mY{a:Int}{r:List Int}(h:Up (a::r)):Up r:=(List.pairwise_cons.1 h).2
theorem sV{a:Int}{r:List Int}(h:Up (a::r)): ∀z∈r,a≤z:=(List.pairwise_cons.1 h).1
theorem xz: ∀{r:List Int} {x y:Int},Up (y::r)→x<y→Kn (y::(r++ [x])) (y::x::r)
 | [],x,y,_,_=> .refl _
 |c::r,x,y,h,hx=>by
  have hc:=sV h c (List.mem_cons_self ..)
  have ih:=(xz (mY h) (show x<c by omega)).cons y
  refine Kn.trans ih ?_
  exact(Kn.of (Tri.a hx hc)).right r
theorem E4: ∀{r:List Int} (x:Int),Up r→Kn (r++ [x]) ((eR r x).2++(eR r x).1)
 | [],x,_=> .refl _
 |a::r,x,h=>by
  by_cases c:x<a
  ·rw[e9 c];exact xz h c
  ·rw[eH (by omega)]
   have ih:=(E4 x (mY h)).cons a
   refine Kn.trans ih ?_
   rcases kD r x with o|⟨b,o,o2,_⟩
   ·simp only;rw[o];exact .refl _
   ·simp only;rw[o]
    have hs:=tS r x
    have hu:=vp x (mY h)
    have hm:=si r x
    cases hr:(eR r x).1 with
    |nil=>rw[hr]at hs;simp at hs
    |cons d q=>
     rw[hr]at hs hu hm
     have hd:d≤x:=by
      rcases List.mem_cons.1 hs with e|e
      ·omega
      ·exact sV hu x e
     have ha:a≤d:=by
      rcases hm d (List.mem_cons_self ..)with e|e
      ·omega
      ·exact sV h d e
     exact(Kn.of (Tri.b ha (show d<b by omega))).right q
theorem C4: ∀{s:List Int} {x y:Int} (r:List Int),(∀c∈s,c≤x)→x<y→eR (s++y::r) x=(s++x::r,[y])
 | [],x,y,r,_,hx=>e9 hx
 |a::s,x,y,r,h,hx=>by
  have ha:=h a (List.mem_cons_self ..)
  show eR (a::(s++y::r)) x=_
  rw[eH ha,C4 r (fun c hc=>h c (List.mem_cons_of_mem _ hc)) hx]
  rfl
def Bel:List Int→List Int→Prop
 |_,[]=>True
 | [],_::_=>False
 |x::a,y::b=>x<y∧Bel a b
theorem tW: ∀{a b:List Int},b.length≤a.length→(∀j,j<b.length→a.getD j 0<b.getD j 0)→Bel a b
 |a,[],_,_=>by cases a<;>trivial
 | [],y::b,h,_=>by simp at h
 |x::a,y::b,h,g=>by
  refine⟨g 0 (by simp),tW (by simpa using h) fun j hj=> ?_⟩
  have:=g (j+1) (by simpa using hj)
  simpa using this
theorem Cw: ∀{b s a:List Int},Up (s++b)→Up (s++a)→Bel a b→Kn (s++b++a) (b++s++a)
 | [],s,a,_,_,_=>by simpa using Kn.refl _
 |y::b,s,[],_,_,h=>h.elim
 |y::b,s,x::a,hb,ha,⟨h1,h2⟩=>by
  have hsx: ∀c∈s,c≤x:=fun c hc=>(List.pairwise_append.1 ha).2.2 c hc x (List.mem_cons_self ..)
  have hb':=(List.pairwise_append.1 hb)
  have k1:=E4 x hb
  rw[C4 b hsx h1]at k1
  have k2:=k1.right a
  have hyb:=sV hb'.2.1
  have u1:Up ((s++ [x])++b):=by
   rw[List.append_assoc]
   refine List.pairwise_append.2 ⟨hb'.1,List.pairwise_cons.2 ⟨fun z hz=>by have:=hyb z hz;omega,mY hb'.2.1⟩,fun c hc z hz=> ?_⟩
   rcases List.mem_cons.1 hz with e|e
   ·rw[e];exact hsx c hc
   ·have:=hsx c hc;have:=hyb z e;omega
  have u2:Up ((s++ [x])++a):=by rw[List.append_assoc];exact ha
  have ih:=(Cw u1 u2 h2).cons y
  simp only[List.append_assoc,List.cons_append,List.nil_append,List.singleton_append]at k2 ih⊢
  exact k2.trans ih
theorem Gn: ∀{A B A' B':List Int} {b:Int},A.length=B.length→Bel A B→Up (B++b::B')→Up (A++b::A')→Bel A' B'→
  Kn ((B++b::B')++(A++A')) ((B++B')++(A++b::A'))
 | [],[],A',B',b,_,_,hb,ha,h=>by
  have:=Cw (s:= [b]) (b:=B') (a:=A') hb ha h
  simpa using this
 | [],_::_,_,_,_,h,_,_,_,_=>by simp at h
 |_::_,[],_,_,_,h,_,_,_,_=>by simp at h
 |a::A,y::B,A',B',b,hl,⟨h1,h2⟩,hb,ha,h=>by
  have ih:=Gn (A:=A) (B:=B) (by simpa using hl) h2 (mY hb) (mY ha) h
  have k1:=(xz hb h1).right (A++A')
  have k2:=ih.left [y,a]
  have hb2:Up (y::(B++B')):=by
   have hb':=List.pairwise_append.1 (show Up ((y::B)++b::B')from hb)
   exact List.pairwise_append.2 ⟨hb'.1,mY hb'.2.1,fun c hc z hz=>hb'.2.2 c hc z (List.mem_cons_of_mem _ hz)⟩
  have k3:=(xz hb2 h1).right (A++b::A')
  simp only[List.append_eq,List.append_assoc,List.cons_append,List.nil_append]at k1 k2 k3⊢
  exact(k1.trans k2).trans k3.symm
theorem Gk{r:List Int}(h:nu r):Up r:=by
 refine List.pairwise_iff_getElem.2 fun i j hi hj hij=> ?_
 have:=h.mono (Nat.le_of_lt hij) hj
 rw[au hi,au hj]at this
 exact this
theorem CL: ∀{rs:List (List Int)},SSR rs→ ∀r∈rs,Up r
 | [],_,r,h=>by simp at h
 |q::rs,h,r,hr=>by
  rcases List.mem_cons.1 hr with e|e
  ·rw[e];exact Gk h.2.1
  ·exact CL h.2.2.2 r e
def kL(f:Nat→List Int):Nat→List Int
 |0=> []
 |n+1=>f n++kL f n
theorem lK{f f':Nat→List Int}: ∀{n:Nat},(∀r,r<n→f r=f' r)→kL f n=kL f' n
 |0,_=>rfl
 |n+1,h=>by
  show f n++kL f n=f' n++kL f' n
  rw[h n (by omega),lK fun r hr=>h r (by omega)]
theorem yM{f f':Nat→List Int}{i:Nat}(k:Kn (f (i+1)++f i) (f' (i+1)++f' i)): ∀{n:Nat},i+1<n→(∀r,r<n→r≠i→r≠i+1→f r=f' r)→Kn (kL f n) (kL f' n)
 |0,h,_=>by omega
 |n+1,hn,h=>by
  show Kn (f n++kL f n) (f' n++kL f' n)
  by_cases e:n=i+1
  ·subst e
   show Kn (f (i+1)++(f i++kL f i)) (f' (i+1)++(f' i++kL f' i))
   rw[lK (f:=f) (f':=f') (n:=i) fun r hr=>h r (by omega) (by omega) (by omega),←List.append_assoc,←List.append_assoc]
   exact k.right _
  ·rw[h n (by omega) (by omega) (by omega)]
   exact(yM k (by omega) fun r hr=>h r (by omega)).left _
theorem wZ: ∀(rs:List (List Int)),rs.reverse.flatten=kL (fun r=>rs.getD r []) rs.length:=by
 intro rs
 have: ∀(n:Nat),n≤rs.length→(rs.take n).reverse.flatten=kL (fun r=>rs.getD r []) n:=by
  intro n
  induction n with
  |zero=>intro _;rfl
  |succ n ih=>
   intro hn
   rw[take_succ (by omega) [],List.reverse_append,List.flatten_append,ih (by omega)]
   simp[kL]
 have h:=this rs.length (Nat.le_refl _)
 rwa [List.take_of_length_le (Nat.le_refl _)]at h
def xN(q:List Int)(g:List (List Int))(i c r:Nat):List Int:=
 if r=i then((g.getD r []).take c).drop (q.getD r 0).toNat++(g.getD r []).drop (c+1)else(g.getD r []).drop (q.getD r 0).toNat
def oU(q:List Int)(g:List (List Int))(i c:Nat):List Int:=kL (xN q g i c) g.length
theorem o5(g:List (List Int))(r c:Nat)(v:Int)(q:Nat):(g6 g r c v).getD q []=if q=r then(g.getD r []).set c v else g.getD q []:=by
 unfold g6
 by_cases e:q=r
 ·subst e
  rw[if_pos rfl]
  by_cases h:q<g.length
  ·rw[au (by rw[List.length_set];exact h),List.getElem_set_self]
  ·rw[bS (xs:=g.set q _) (by rw[List.length_set];omega),bS (xs:=g) (by omega)];rfl
 ·rw[if_neg e,getD_set_ne (Ne.symm e)]
theorem Bv{r:List Int}{q c:Nat}(h1:q≤c)(h2:c<r.length):r.drop q=(r.take c).drop q++r.getD c 0::r.drop (c+1):=by
 conv=>lhs;rw[←List.take_append_drop c r]
 rw[List.drop_append,List.length_take,drop_cons h2 0,show q-min c r.length=0 by omega]
 rfl
theorem we{r:List Int}{q c:Nat}(v:Int)(h1:q≤c)(h2:c<r.length):(r.set c v).drop q=(r.take c).drop q++v::r.drop (c+1):=by
 rw[Bv h1 (by rw[List.length_set];exact h2),fF v h2,if_pos rfl,List.take_set_of_le (Nat.le_refl _),List.drop_set_of_lt (by omega)]
theorem wD{r:List Int}{q:Nat}(h: ∀x,q≤x→x+1<r.length→r.getD x 0≤r.getD (x+1) 0):Up (r.drop q):=by
 refine Gk fun i hi=> ?_
 rw[List.length_drop]at hi
 rw[iD,iD]
 exact h (q+i) (by omega) (by omega)
theorem AL{q:List Int}{g:List (List Int)}{i c:Nat}(h:Sl q g i c)(hr:cel g i (c+1)≠0):oU q (g6 g i c (cel g i (c+1))) i (c+1)=oU q g i c:=by
 obtain⟨b1,b2⟩:=ny hr
 have hq:=h.hq
 have hq0:=h.q0 i
 unfold oU
 rw[dN]
 refine lK fun r _=> ?_
 unfold xN
 rw[o5]
 by_cases e:r=i
 ·subst e
  rw[if_pos rfl,if_pos rfl,if_pos rfl]
  have e1:((g.getD r []).set c (cel g r (c+1))).take (c+1)=(g.getD r []).take c++ [cel g r (c+1)]:=by
   rw[take_succ (by rw[List.length_set];omega) 0,fF _ (by omega),if_pos rfl,List.take_set_of_le (Nat.le_refl _)]
  rw[e1,List.drop_set_of_lt (by omega),List.drop_append,List.length_take,show(q.getD r 0).toNat-min c (g.getD r []).length=0 by omega,List.append_assoc]
  congr 1
  exact(drop_cons b2 0).symm
 ·rw[if_neg e,if_neg e,if_neg e]
theorem Cl{q:List Int}{g:List (List Int)}{i c:Nat}(h:Sl q g i c)(hb:cel g (i+1) c≠0)(hd:Sl q (g6 g i c (cel g (i+1) c)) (i+1) c):
  Kn (oU q g i c) (oU q (g6 g i c (cel g (i+1) c)) (i+1) c):=by
 obtain⟨b1,b2⟩:=ny hb
 have hq:=h.hq
 have hq0:=h.q0 i
 have hq1:=h.q0 (i+1)
 have hqm:=h.qm i
 have hc:=h.hc
 have hl:=h.lm i
 unfold oU
 rw[dN]
 refine yM ?_ b1 fun r _ h1 h2=> ?_
 ·unfold xN
  rw[if_pos rfl,if_neg (show¬i+1=i by omega),if_pos rfl,if_neg (show¬i=i+1 by omega),o5,o5,if_pos rfl,if_neg (show¬i+1=i by omega),we _ (by omega) hc,Bv (by omega) b2]
  have hC: ∀m:List Int,c≤m.length→(m.take c).drop (q.getD (i+1) 0).toNat=((m.take c).take (q.getD i 0).toNat).drop (q.getD (i+1) 0).toNat++(m.take c).drop (q.getD i 0).toNat:=fun m hm=>by
   conv=>lhs;rw[←List.take_append_drop (q.getD i 0).toNat (m.take c)]
   rw[List.drop_append,List.length_take,List.length_take,show(q.getD (i+1) 0).toNat-min (q.getD i 0).toNat (min c m.length)=0 by omega]
   rfl
  rw[hC _ (by omega)]
  have key:=Gn (A:=((g.getD i []).take c).drop (q.getD i 0).toNat) (B:=((g.getD (i+1) []).take c).drop (q.getD i 0).toNat) (A':=(g.getD i []).drop (c+1)) (B':=(g.getD (i+1) []).drop (c+1)) (b:=cel g (i+1) c)
   (by simp only[List.length_drop,List.length_take];omega)
   (tW (by simp only[List.length_drop,List.length_take];omega) fun j hj=>by
    simp only[List.length_drop,List.length_take]at hj
    rw[iD,iD,eD (by omega),eD (by omega)]
    exact h.col i ((q.getD i 0).toNat+j) (by omega) (by omega) (by omega) (by omega))
   (by
    have:=wD (r:=g.getD (i+1) []) (q:=(q.getD i 0).toNat) fun x h1 h2=>h.row (i+1) x (by omega) h2 (by omega) (by omega)
    rwa [Bv (by omega) b2]at this)
   (by
    have:=wD (r:=(g6 g i c (cel g (i+1) c)).getD i []) (q:=(q.getD i 0).toNat) fun x h1 h2=>hd.row i x (by omega) h2 (by omega) (by omega)
    rwa [o5,if_pos rfl,we _ (by omega) hc]at this)
   (tW (by simp only[List.length_drop];omega) fun j hj=>by
    simp only[List.length_drop]at hj
    rw[iD,iD]
    exact h.col i (c+1+j) (by omega) (by omega) (by omega) (by omega))
  have:=key.left (((g.getD (i+1) []).take c).take (q.getD i 0).toNat|>.drop (q.getD (i+1) 0).toNat)
  simp only[List.append_assoc]at this⊢
  exact this
 ·unfold xN
  rw[if_neg h1,if_neg h2,o5,if_neg h1]
theorem w7{q:List Int}: ∀(m:Nat) (g:List (List Int)) (i c:Nat),Sl q g i c→Kn (oU q g i c) (oU q (dh m g i c).1 (dh m g i c).2.1 (dh m g i c).2.2)
 |0,g,i,c,h=> .refl _
 |m+1,g,i,c,h=>by
  unfold dh
  by_cases c1:cel g i (c+1)=0∧cel g (i+1) c=0
  ·rw[if_pos c1];exact .refl _
  ·rw[if_neg c1]
   by_cases c2:cel g i (c+1)=0∨(0<cel g (i+1) c∧cel g (i+1) c≤cel g i (c+1))
   ·rw[if_pos c2]
    have hb:cel g (i+1) c≠0:=by
     intro e
     rcases c2 with c2|c2
     ·exact c1 ⟨c2,e⟩
     ·omega
    have hd:=h.down hb c2
    exact(Cl h hb hd).trans (w7 m _ _ _ hd)
   ·rw[if_neg c2]
    have hr:cel g i (c+1)≠0:=fun e=>c2 (.inl e)
    have hd:=h.right hr (fun e=>c2 (.inr e))
    have:=w7 m _ _ _ hd
    rw[AL h hr]at this
    exact this
end Go.Am.Pu
end
section
/- The rectification is the tableau of the word. Plain words. -/
namespace Go.Am.Pu
theorem xr{f:Nat→List Int}{m:Nat}: ∀{n:Nat},m≤n→(∀r,m≤r→r<n→f r= [])→kL f n=kL f m
 |0,h,_=>by rw[show m=0 by omega]
 |n+1,h,g=>by
  by_cases e:m=n+1
  ·rw[e]
  ·show f n++kL f n=_
   rw[g n (by omega) (by omega),xr (n:=n) (by omega) fun r h1 h2=>g r h1 (by omega)]
   rfl
theorem yB{t:Tab}{r:Nat}(h:r<t.2.length):((cY t).getD r []).drop (t.1.getD r 0).toNat=t.2.getD r []:=by
 rw[sr h,List.drop_append,List.length_replicate,Nat.sub_self,List.drop_zero,List.drop_of_length_le (by simp)]
 rfl
def m8(t:Tab):List Int:=t.2.reverse.flatten
theorem Eo{t:Tab}(h:dD t=true){n:Nat}(hn:n<t.1.length)(hc:t.1.getD (n+1) 0<t.1.getD n 0):Kn (m8 t) (m8 (kj t n).1):=by
 obtain⟨hp,ho,hl,_⟩:=eW h
 have hst:=xp h hn hc
 have hgo:=w7 18 _ _ _ hst
 obtain⟨E,_,_⟩:=Gu h hn hc
 have hdg:=fun r=>mM hp hn hc r
 have hpos:1≤t.1.getD n 0:=by
  have:=(bQ hp).1 _ (List.getElem_mem hn)
  rw[au hn];exact this.1
 have e1:m8 t=oU (aR t.1 n) (cY t) n (t.1.getD n 0-1).toNat:=by
  unfold m8 oU
  rw[wZ,jF]
  refine lK fun r hr=> ?_
  unfold xN
  rw[hdg]
  by_cases e:r=n
  ·subst e
   rw[if_pos rfl,if_pos rfl,show(t.1.getD r 0-1).toNat+1=(t.1.getD r 0).toNat by omega,yB hr,List.drop_of_length_le (by rw[List.length_take];omega)]
   rfl
  ·rw[if_neg e,if_neg e,yB hr]
 have e2:m8 (kj t n).1=oU (aR t.1 n) (cP t n).1 (cP t n).2.1 (cP t n).2.2:=by
  unfold m8 kj
  simp only
  rw[wZ,eN]
  unfold oU
  rw[E.len]
  have hol:=du t
  have hdl:=nj (outer t) (cP t n).2.1
  have hrow: ∀r,xN (aR t.1 n) (cP t n).1 (cP t n).2.1 (cP t n).2.2 r=((lW (cP t n).1 (cP t n).2.1 (cP t n).2.2).getD r []).drop ((aR t.1 n).getD r 0).toNat:=fun r=>by
   unfold xN
   rw[vu E.sl.hi]
   by_cases e:r=(cP t n).2.1
   ·rw[if_pos e,if_pos e,e,List.drop_of_length_le (i:=(cP t n).2.2+1),List.append_nil]
    have a:=E.row (cP t n).2.1
    have b:=lO hp (cP t n).2.1
    have c:=E.end_
    omega
   ·rw[if_neg e,if_neg e]
  rw[xr (m:=(aR (outer t) (cP t n).2.1).length) (n:=t.2.length) (by omega) fun r h1 h2=>by
   rw[hrow]
   have:=E.cutl r
   rw[bS (xs:=aR (outer t) (cP t n).2.1) h1]at this
   exact List.drop_of_length_le (by omega)]
  refine lK fun r hr=> ?_
  rw[iE hr,hrow]
 rw[e1,e2]
 exact hgo
theorem CU: ∀(m:Nat) (t:Tab),dD t=true→Kn (m8 t) (m8 (mP m t))
 |0,t,_=> .refl _
 |m+1,t,h=>by
  unfold mP
  split
  ·exact .refl _
  ·have hn:t.1.length-1<t.1.length:=by omega
   have hc:=m7 (eW h).1 (by omega)
   exact(Eo h hn hc).trans (CU m _ (qg h hn hc))
theorem wJ: ∀(m:Nat) (t:Tab),dD t=true→fX t.1≤m→(mP m t).1= []
 |0,t,h,hs=>by
  show t.1= []
  refine List.eq_nil_of_length_eq_zero (Nat.eq_zero_of_not_pos fun hl=> ?_)
  have hp:=(bQ (eW h).1).1
  cases ht:t.1 with
  |nil=>rw[ht]at hl;simp at hl
  |cons a p=>
   rw[ht]at hs hp
   have h1:=hp a (List.mem_cons_self ..)
   have h2:0≤fX p:=uu _ fun x hx=>by have:=hp x (List.mem_cons_of_mem _ hx);omega
   have h3:fX (a::p)=a+fX p:=rfl
   omega
 |m+1,t,h,hs=>by
  unfold mP
  split
  ·next e=>exact List.eq_nil_of_length_eq_zero e
  ·have hn:t.1.length-1<t.1.length:=by omega
   have hp:=(eW h).1
   have hc:=m7 hp (by omega)
   refine wJ m _ (qg h hn hc) ?_
   show fX (aR t.1 (t.1.length-1))≤m
   rw[xh hp hn hc];omega
theorem BI{t:Tab}(h:dD t=true):ba (j8 t).1=true∧(j8 t).1.1= []:=by
 unfold j8
 rw[if_pos h]
 have h1:=A0 9 t h
 have h2:=wJ 9 t h (bQ (eW h).1).2.1
 refine⟨?_,h2⟩
 unfold ba
 simp only
 rw[h2,h1];rfl
theorem AY{t:Tab}(h:dD t=true):(j8 t).1=([],jm (m8 t) []):=by
 obtain⟨h1,h2⟩:=BI h
 refine Prod.ext h2 ?_
 have hs:=j7 h1
 have hk:Kn (m8 t) (m8 (j8 t).1):=by
  unfold j8
  rw[if_pos h]
  exact CU 9 t h
 simp only
 rw[hk.ins (P:= []) (fun r hr=>by simp at hr)]
 exact(qt _ hs).symm
end Go.Am.Pu
end
section
/- Slides outwards: what holds on the way, what they leave; slides in and out undo each other. Plain words. -/
namespace Go.Am.Pu
theorem FK{p:List Int}(hp:b8 p=true)(r:Nat):0≤p.getD r 0∧p.getD r 0≤9:=by
 have:=dX hp r
 rwa [cH]at this
theorem Ed{p:List Int}(hp:b8 p=true){r:Nat}(hr:r<p.length):1≤p.getD r 0:=by
 rw[au hr];exact((bQ hp).1 _ (List.getElem_mem hr)).1
theorem Sl.up{q:List Int}{g:List (List Int)}{i c:Nat}(h:Sl q g (i+1) c)(hi:Inn q g)(hu:cel g i c≠0)(hl:leftOf g (i+1) c≤cel g i c):Sl q (g6 g (i+1) c (cel g i c)) i c:=by
 obtain⟨b1,b2⟩:=ny hu
 have hq:q.getD i 0≤c:=Int.not_lt.1 fun hlt=>hu (hi i c hlt)
 have hqm:=h.qm i
 have hun:=h.num i c hq b2 (by omega)
 have e0:=jj (cel g i c) h.hi h.hc
 have en: ∀r x,¬(r=i+1∧x=c)→cel (g6 g (i+1) c (cel g i c)) r x=cel g r x:=fun r x hh=>gU _ hh
 have hll:=h.lm i
 refine⟨h.q0,h.qm,fun r=> ?_,?_,?_,hq,fun r x=> ?_,fun r x h1 h2 h3=> ?_,fun r x h1 h2 h3 h4=> ?_,fun r x h1 h2 h3 h4=> ?_,fun x h1 h2 h3=> ?_,fun r h1 h2 h3=> ?_⟩
 ·rw[bG,bG];exact h.lm r
 ·rw[dN];exact b1
 ·rw[bG];exact b2
 ·by_cases e:r=i+1∧x=c
  ·rw[e.1,e.2,e0];exact h.pos _ _
  ·rw[en r x e];exact h.pos _ _
 ·rw[bG]at h2
  by_cases e:r=i+1∧x=c
  ·rw[e.1,e.2,e0];exact hun
  ·rw[en r x e];exact h.num r x h1 h2 e
 ·rw[bG]at h2
  by_cases e:r=i+1∧x=c
  ·obtain⟨rfl,rfl⟩:=e
   rw[e0,en _ _ (by omega)]
   have h5:=h.row i x hq (by omega) (by omega) (by omega)
   have h6:=h.col i (x+1) (by omega) h2 (by omega) (by omega)
   omega
  ·rw[en r x e]
   by_cases e':r=i+1∧x+1=c
   ·obtain⟨rfl,rfl⟩:=e'
    rw[e0]
    unfold leftOf at hl
    rw[if_neg (by omega),show x+1-1=x by omega]at hl
    exact hl
   ·rw[en r (x+1) e'];exact h.row r x h1 h2 e e'
 ·rw[bG]at h2
  by_cases e:r=i+1∧x=c
  ·obtain⟨rfl,rfl⟩:=e
   rw[e0,en _ _ (by omega)]
   exact h.colH i rfl hq h2
  ·rw[en r x e]
   by_cases e':r+1=i+1∧x=c
   ·exact(h3 ⟨by omega,e'.2⟩).elim
   ·rw[en (r+1) x e']
    exact h.col r x h1 h2 e e'
 ·rw[bG]at h3
  rw[en _ _ (by omega),en _ _ (by omega)]
  subst h1
  have h5:=h.row i x h2 (by omega) (by omega) (by omega)
  have h6:=h.row i (x+1) (by omega) h3 (by omega) (by omega)
  omega
 ·rw[bG]at h3
  subst h1
  rw[en _ _ (by omega),e0]
  exact h.col r c h2 b2 (by omega) (by omega)
theorem Sl.left{q:List Int}{g:List (List Int)}{i c:Nat}(h:Sl q g i (c+1))(hi:Inn q g)(hv:cel g i c≠0)(hu:vy g i (c+1)<cel g i c):Sl q (g6 g i (c+1) (cel g i c)) i c:=by
 obtain⟨b1,b2⟩:=ny hv
 have hq:q.getD i 0≤c:=Int.not_lt.1 fun hlt=>hv (hi i c hlt)
 have hqm:=h.qm i
 have hvn:=h.num i c hq b2 (by omega)
 have e0:=jj (cel g i c) h.hi h.hc
 have en: ∀r x,¬(r=i∧x=c+1)→cel (g6 g i (c+1) (cel g i c)) r x=cel g r x:=fun r x hh=>gU _ hh
 have hll:=h.lm i
 refine⟨h.q0,h.qm,fun r=> ?_,?_,?_,hq,fun r x=> ?_,fun r x h1 h2 h3=> ?_,fun r x h1 h2 h3 h4=> ?_,fun r x h1 h2 h3 h4=> ?_,fun x h1 h2 h3=> ?_,fun r h1 h2 h3=> ?_⟩
 ·rw[bG,bG];exact h.lm r
 ·rw[dN];exact b1
 ·rw[bG];exact b2
 ·by_cases e:r=i∧x=c+1
  ·rw[e.1,e.2,e0];exact h.pos _ _
  ·rw[en r x e];exact h.pos _ _
 ·rw[bG]at h2
  by_cases e:r=i∧x=c+1
  ·rw[e.1,e.2,e0];exact hvn
  ·rw[en r x e];exact h.num r x h1 h2 e
 ·rw[bG]at h2
  by_cases e:r=i∧x=c+1
  ·obtain⟨rfl,rfl⟩:=e
   rw[e0,en _ _ (by omega)]
   exact h.xN c rfl hq h2
  ·rw[en r x e]
   by_cases e':r=i∧x+1=c+1
   ·exact(h3 ⟨e'.1,by omega⟩).elim
   ·rw[en r (x+1) e'];exact h.row r x h1 h2 e e'
 ·rw[bG]at h2
  by_cases e:r=i∧x=c+1
  ·obtain⟨rfl,rfl⟩:=e
   rw[e0,en _ _ (by omega)]
   have h5:=h.col r c hq (by omega) (by omega) (by omega)
   have h6:=h.row (r+1) c (by omega) h2 (by omega) (by omega)
   omega
  ·rw[en r x e]
   by_cases e':r+1=i∧x=c+1
   ·obtain⟨rfl,rfl⟩:=e'
    rw[e0]
    unfold vy at hu
    rw[if_neg (by omega),show r+1-1=r by omega]at hu
    exact hu
   ·rw[en (r+1) x e']
    exact h.col r x h1 h2 e e'
 ·rw[bG]at h3
  subst h1
  rw[en _ _ (by omega),e0]
  exact h.row i x h2 b2 (by omega) (by omega)
 ·rw[bG]at h3
  rw[en _ _ (by omega),en _ _ (by omega)]
  subst h1
  have h5:=h.col r c h2 b2 (by omega) (by omega)
  have h6:=h.col (r+1) c hq h3 (by omega) (by omega)
  omega
end Go.Am.Pu
end
section
/- What a slide outwards leaves is a tableau; slides in and out undo each other. Plain words. -/
namespace Go.Am.Pu
theorem DI{q o:List Int}{g:List (List Int)}(hq:b8 q=true)(ho:b8 o=true)(hin: ∀r,q.getD r 0≤o.getD r 0)(hl: ∀r,r<o.length→((g.getD r []).length:Int)=o.getD r 0)
  (num: ∀r x:Nat,r<o.length→q.getD r 0≤x→(x:Int)<o.getD r 0→1≤cel g r x∧cel g r x≤9)
  (row: ∀r x:Nat,r<o.length→q.getD r 0≤x→(x:Int)+1<o.getD r 0→cel g r x≤cel g r (x+1))
  (col: ∀r x:Nat,r+1<o.length→q.getD r 0≤x→(x:Int)<o.getD (r+1) 0→cel g r x<cel g (r+1) x):
  dD (q,cN q g o.length)=true∧outer (q,cN q g o.length)=o:=by
 have q0:=fun r=>(FK hq r).1
 generalize hR:cN q g o.length=R
 have hRl:R.length=o.length:=by rw[←hR,eN]
 have cell: ∀{r k:Nat},r<R.length→k<(R.getD r []).length→((q.getD r 0).toNat+k:Int)<o.getD r 0∧(R.getD r []).getD k 0=cel g r ((q.getD r 0).toNat+k):=by
  intro r k hr hk
  subst hR
  rw[iE (by omega)]at hk⊢
  rw[List.length_drop]at hk
  have:=hl r (by omega)
  refine⟨by omega,?_⟩
  rw[iD];rfl
 have AA: ∀{r:Nat},r<R.length→o.getD r 0=q.getD r 0+((R.getD r []).length:Int):=by
  intro r hr
  subst hR
  rw[iE (by omega),List.length_drop]
  have:=hl r (by omega)
  have:=hin r
  have:=q0 r
  omega
 have hout:outer (q,R)=o:=by
  refine List.ext_getElem (by rw[du];exact hRl) fun r h1 h2=> ?_
  rw[←au h1 0,←au h2 0]
  have h3:r<R.length:=by omega
  have:=gK q R 0 r h3
  rw[Nat.zero_add]at this
  unfold outer
  rw[this]
  exact(AA h3).symm
 refine⟨?_,hout⟩
 have hlen:q.length≤R.length:=by
  refine Nat.le_of_not_lt fun hlt=> ?_
  have a:=Ed hq hlt
  have b:=hin R.length
  rw[bS (xs:=o) (by omega)]at b
  omega
 have om:=im ho
 have qm:=im hq
 simp only[dD,dt,dQ,Bool.and_eq_true,decide_eq_true_eq]
 rw[hout]
 refine⟨⟨hq,hlen,hq,ho,by omega,?_⟩,?_⟩
 ·rw[eF]
  intro r _
  exact decide_eq_true (hin r)
 ·rw[eF]
  intro r hr
  rw[eF]
  intro k hk
  have hqr:=q0 r
  obtain⟨c1,c4⟩:=cell hr hk
  have hnum:=num r ((q.getD r 0).toNat+k) (by omega) (by omega) (by omega)
  simp only[fY,within,Bool.and_eq_true,Bool.or_eq_true,decide_eq_true_eq]
  rw[c4]
  refine⟨hnum,?_,?_⟩
  ·cases k with
   |zero=>exact .inl rfl
   |succ k=>
    obtain⟨d1,d4⟩:=cell hr (show k<(R.getD r []).length by omega)
    right
    rw[show k+1-1=k from rfl,d4]
    exact row r ((q.getD r 0).toNat+k) (by omega) (by omega) (by omega)
  ·cases r with
   |zero=>exact .inl rfl
   |succ r=>
    right
    have hr':r<R.length:=by omega
    have em:((r+1:Nat):Int)-1=(r:Int):=by omega
    rw[em,kT hr']
    have hqr:=q0 r
    have hqm:=qm r
    have hrl:=AA hr'
    have hom:=om r
    simp only
    by_cases e:q.getD (r+1) 0+(k:Int)<q.getD r 0
    ·rw[qB (by omega)];omega
    ·obtain⟨y,hy⟩: ∃y:Nat,q.getD (r+1) 0+(k:Int)-q.getD r 0=y:=⟨(q.getD (r+1) 0+(k:Int)-q.getD r 0).toNat,by omega⟩
     rw[hy,cH]
     obtain⟨d1,d4⟩:=cell hr' (show y<(R.getD r []).length by omega)
     have ey:(q.getD r 0).toNat+y=(q.getD (r+1) 0).toNat+k:=by omega
     rw[d4,ey]
     exact col r _ (by omega) (by omega) (by omega)
section
variable {t : Tab} {n : Nat} {p : List Int}
def tR(t:Tab)(n:Nat)(p:List Int):List (List Int)×(Nat×Nat):=oB 18 (FL t n) n (p.getD n 0-1).toNat
structure FR (t : Tab) (n : Nat) (p : List Int) (g : List (List Int)) (i c : Nat) (q : List Int) : Prop where
  sl : Sl t.1 g i c
  inn : Inn t.1 g
  len : g.length = p.length
  row : ∀ r, ((g.getD r []).length : Int) = p.getD r 0
  l0 : leftOf g i c = 0
  u0 : vy g i c = 0
  add : oP t.1 i = (q, true)
  qi : q.getD i 0 = c + 1
  qr : ∀ r, q.getD r 0 = if r = i then (c : Int) + 1 else t.1.getD r 0
  qp : b8 q = true
  ins : ∀ r, q.getD r 0 ≤ p.getD r 0
def uU(t:Tab)(n:Nat):Tab×Nat:=
 let p:=(oP (outer t) n).1
 let s:=tR t n p
 let q:=(oP t.1 s.2.1).1
 ((q,cN q s.1 p.length),s.2.1)
theorem FR.tab{g:List (List Int)}{i c:Nat}{q:List Int}(E:FR t n p g i c q)(hp:oP (outer t) n=(p,true)):dD (q,cN q g p.length)=true∧outer (q,cN q g p.length)=p:=by
 obtain⟨b1,b2,b3,b4,b5⟩:=D9 hp
 have hq:=E.sl.hq
 have old: ∀r x:Nat,q.getD r 0≤x→t.1.getD r 0≤x∧ ¬(r=i∧x=c):=fun r x hx=>by
  rw[E.qr]at hx
  by_cases e:r=i
  ·rw[if_pos e]at hx
   rw[e]
   exact⟨by omega,by omega⟩
  ·rw[if_neg e]at hx;exact⟨hx,fun e'=>e e'.1⟩
 refine DI E.qp b5 E.ins (fun r _=>E.row r) (fun r x _ h1 h2=> ?_) (fun r x _ h1 h2=> ?_) (fun r x _ h1 h2=> ?_)
 ·have:=E.row r
  exact E.sl.num r x (old r x h1).1 (by omega) (old r x h1).2
 ·have:=E.row r
  exact E.sl.row r x (old r x h1).1 (by omega) (old r x h1).2 (by have:=(old r (x+1) (by omega)).2;exact this)
 ·have:=E.row (r+1)
  have hm:=im E.qp r
  exact E.sl.col r x (old r x h1).1 (by omega) (old r x h1).2 (by have:=(old (r+1) x (by omega)).2;exact this)
theorem FR.eq{q:List Int}(E:FR t n p (tR t n p).1 (tR t n p).2.1 (tR t n p).2.2 q)(hp:oP (outer t) n=(p,true)):uU t n=((q,cN q (tR t n p).1 p.length),(tR t n p).2.1):=by
 unfold uU
 rw[hp]
 simp only[E.add]
end
section
variable {t : Tab} {n : Nat}
end
end Go.Am.Pu
end
section
/- Words of tableaux; the rows of a slide outwards. Plain words. -/
namespace Go.Am.Pu
def jo(a n m:Nat)(t:Tab):Prop:=t.1.length≤a∧dz n m t.2
theorem jo.tab{a n m:Nat}{t:Tab}(h:jo a n m t)(ha:a≤1048576)(hn:n≤1048576)(hm:m≤1048576):t.1.length≤1048576∧t.2.length≤1048576∧ ∀x∈t.2,x.length≤1048576:=
 ⟨Nat.le_trans h.1 ha,Nat.le_trans h.2.1 hn,fun x hx=>Nat.le_trans (h.2.2 x hx) hm⟩
end Go.Am.Pu
end
section
/- Partitions that are drawn; chains of partitions. Plain words. -/
namespace Go.Am.Pu
def EW(n:Nat)(m:Int)(x:List Int):Prop:=pw n x∧(∀s:Int,0≤s→s+n≤9→fO x m s=true)∧fX x=n
theorem A8: ∀(x:List Int) {m m' s:Int},m≤m'→fO x m s=true→fO x m' s=true
 | [],_,_,_,_,_=>rfl
 |y::x,m,m',s,h,h1=>by
  simp only[fO,Bool.and_eq_true,decide_eq_true_eq]at h1⊢
  exact⟨h1.1,by omega,h1.2.2⟩
end Go.Am.Pu
end
section
/- Plain laws: tableaux side by side; a number's copies. -/
namespace Go.Am.Pu
open Go Go.Am
attribute [local instance] D.real
theorem E3{n:Int}(h0:0≤n)(h1:n<18446744073709551616):IntKind.u64.wrap n=n:=by
 show n % 18446744073709551616=n
 exact Int.emod_eq_of_lt h0 h1
theorem El{n:Nat}(h:n<4294967296):D.shrI .u64 (n:Int) 32=0:=by
 show(n:Int).fdiv (2^32)=0
 rw[Int.fdiv_eq_ediv_of_nonneg _ (by decide)]
 exact Int.ediv_eq_zero_of_lt (by omega) (by omega)
theorem E0{n:Nat}(h:n<4294967296):D.andI .u64 (n:Int) 4294967295=n:=by
 show IntKind.u64.wrap (((BitVec.ofInt 64 (n:Int)&&&BitVec.ofInt 64 4294967295).toNat:Nat):Int)=_
 have e:(BitVec.ofInt 64 (n:Int)&&&BitVec.ofInt 64 4294967295).toNat=n:=by
  rw[BitVec.toNat_and]
  have e1:(BitVec.ofInt 64 (n:Int)).toNat=n:=by
   rw[BitVec.toNat_ofInt]
   omega
  have e2:(BitVec.ofInt 64 4294967295).toNat=2^32-1:=by decide
  rw[e1,e2,Nat.and_two_pow_sub_one_eq_mod]
  exact Nat.mod_eq_of_lt h
 rw[e]
 exact E3 (by omega) (by omega)
def gF(a b:Tab):Tab:=(if a.2.length=0 then []else List.replicate b.2.length ((a.2.getD 0 []).length:Int),b.2++a.2)
def eA(a b:Tab):Tab×Bool:=if ba a=true∧ba b=true∧dD (gF a b)=true then(gF a b,true)else(([],[]),false)
theorem fJ{t:Tab}(h:ba t=true):t.1= []∧t.2.length≤9∧ ∀r∈t.2,r.length≤9:=by
 have h9:=ig h
 refine⟨?_,?_,fun r hr=> ?_⟩
 ·unfold ba at h
  simp only[Bool.and_eq_true,decide_eq_true_eq]at h
  exact List.eq_nil_of_length_eq_zero h.2
 ·have:t.2.length≤t.2.flatten.length:=by
   have key: ∀l:List (List Int),(∀r∈l,1≤r.length)→l.length≤l.flatten.length:=by
    intro l
    induction l with
    |nil=>intro _;simp
    |cons x l ih=>
     intro hh
     have h1:=hh x List.mem_cons_self
     have h2:=ih fun r hr=>hh r (List.mem_cons_of_mem _ hr)
     simp only[List.flatten_cons,List.length_append,List.length_cons]
     omega
   refine key _ fun r hr=> ?_
   obtain⟨i,hi,rfl⟩:=List.getElem_of_mem hr
   have:=qH h hi
   rwa [au hi []]at this
  omega
 ·refine Nat.le_trans ?_ h9
  obtain⟨i,hi,rfl⟩:=List.getElem_of_mem hr
  have e:t.2.flatten=(t.2.take i).flatten++(t.2.drop i).flatten:=by rw[←List.flatten_append,List.take_append_drop]
  rw[e,List.drop_eq_getElem_cons hi]
  simp only[List.flatten_cons,List.length_append]
  omega
theorem rE{a b:Tab}(ha:ba a=true)(hb:ba b=true):iO (gF a b):=by
 obtain⟨_,a2,a3⟩:=fJ ha
 obtain⟨_,b2,b3⟩:=fJ hb
 refine⟨?_,?_,fun r hr=> ?_⟩
 ·unfold gF
  split
  ·simp
  ·simp;omega
 ·show(b.2++a.2).length≤_
  rw[List.length_append];omega
 ·have hr:r∈b.2++a.2:=hr
  rcases List.mem_append.1 hr with hr|hr
  ·have:=b3 r hr;omega
  ·have:=a3 r hr;omega
theorem Dg{a b:Tab}:iO (eA a b).1:=by
 unfold eA
 split
 ·next h=>exact rE h.1 h.2.1
 ·exact⟨by simp,by simp,fun r hr=>by simp at hr⟩
end Go.Am.Pu
end
section
/- Plain laws: boxes that lead on to an outer partition; chains. -/
namespace Go.Am.Pu
open Go Go.Am
attribute [local instance] D.real
end Go.Am.Pu
end
section
/- Plain laws: the local rule of insertion; exchanging places and numbers exchanges the two tableaux. -/
namespace Go.Am.Pu
end Go.Am.Pu
end
section
/- Plain laws: places and numbers exchanged: the tableau of the one is the recording of the other. -/
namespace Go.Am.Pu
def wd(L:List (Int×Int)):List Int:=L.map Prod.snd
def at1(s r:Nat):Nat:=if s=r then 1 else 0
structure Tr (L M : List (Int × Int)) : Prop where
  sl : L.Pairwise fun p q => p.1 < q.1
  sm : M.Pairwise fun p q => p.1 < q.1
  perm : M.Perm (L.map Prod.swap)
theorem Tr.symm{L M:List (Int×Int)}(h:Tr L M):Tr M L:=by
 refine⟨h.sm,h.sl,?_⟩
 have:=(h.perm.map Prod.swap).symm
 rwa [List.map_map,Prod.swap_swap_eq,List.map_id]at this
theorem Tr.len{L M:List (Int×Int)}(h:Tr L M):M.length=L.length:=by simpa using h.perm.length_eq
theorem Tr.mem{L M:List (Int×Int)}(h:Tr L M){p:Int×Int}(hp:p∈L):p.swap∈M:=h.perm.mem_iff.2 (List.mem_map_of_mem hp)
theorem Fx{A B:List (Int×Int)}{x:Int×Int}:(A++B).Sublist (A++x::B):=(List.Sublist.refl A).append (List.sublist_cons_self x B)
theorem Tr.cut{L0 A B:List (Int×Int)}{p:Int×Int}(h:Tr (L0++ [p]) (A++p.swap::B)):Tr L0 (A++B):=by
 refine⟨(List.pairwise_append.1 h.sl).1,h.sm.sublist Fx,?_⟩
 have h1:(A++p.swap::B).Perm (p.swap::(A++B)):=List.perm_middle
 have h2:((L0++ [p]).map Prod.swap).Perm (p.swap::L0.map Prod.swap):=by
  rw[List.map_append]
  exact List.perm_append_comm
 exact(List.perm_cons _).1 (h1.symm.trans (h.perm.trans h2))
theorem ED{L0:List (Int×Int)}{p:Int×Int}(h:(L0++ [p]).Pairwise fun p q=>p.1<q.1): ∀x∈L0,x.1<p.1:=fun x hx=>(List.pairwise_append.1 h).2.2 x hx p (by simp)
theorem Tr.top{L M0:List (Int×Int)}{q:Int×Int}(h:Tr L (M0++ [q])): ∀x∈L,x≠q.swap→x.2<q.1:=fun x hx hne=>by
 have hm:=h.mem hx
 rcases List.mem_append.1 hm with h1|h1
 ·exact ED h.sm _ h1
 ·simp only[List.mem_singleton]at h1
  exact absurd (by rw[←h1,Prod.swap_swap]) hne
def Ch:List (Int×Int)→List (List Int)→List (List Int)→List (List Int)
 | [],_,Q=>Q
 |p::L,P,Q=>Ch L (bq P p.2).1 (g7 Q (bq P p.2).2 p.1)
end Go.Am.Pu
end
section
/- Plain laws: taking a cell out undoes an insertion. -/
namespace Go.Am.Pu
structure Tk (rs : List (List Int)) (a : Nat) (R : List (List Int)) (y : Int) : Prop where
  ins : bq R y = (rs, a)
  ssr : SSR R
  pos : ∃ p, p < (rs.getD 0 []).length ∧ y = (rs.getD 0 []).getD p 0 ∧ (R.getD 0 []).length ≤ (rs.getD 0 []).length ∧ (∀ i, i < (R.getD 0 []).length → (rs.getD 0 []).getD i 0 ≤ (R.getD 0 []).getD i 0) ∧
    ∀ i, p ≤ i → i < (R.getD 0 []).length → y < (R.getD 0 []).getD i 0
end Go.Am.Pu
end
section
/- Plain laws: a removed number inserted again; a pair is what its word makes; the inverse of a permutation. -/
namespace Go.Am.Pu
theorem DZ{t:Tab}(h:ba t=true): ∀z∈t.2.flatten,1≤z∧z≤9:=by
 have h':=h
 simp only[ba,Bool.and_eq_true]at h'
 exact pD h'.1
end Go.Am.Pu
end
section
/- Plain laws: the inverse of a permutation; words that are their own standardization. -/
namespace Go.Am.Pu
section
variable {w : List Int} (h : isWord w = true) (ho : mW w = true)
include h ho
end
def plc(w:List Int)(i:Nat):Nat:=((List.range w.length).filter fun k=>decide (w.getD k 0<w.getD i 0)||(decide (w.getD k 0=w.getD i 0)&&decide (k<i))).length
def Gv(w:List Int):List Int:=if isWord w=true then(List.range w.length).map fun i=>((plc w i+1:Nat):Int)else []
end Go.Am.Pu
end
section
/- Standardization step by step; what the law of the pairs wants, with no program in sight. -/
namespace Go.Am.Pu
set_option linter.unusedSimpArgs false
set_option linter.unusedVariables false
def pc(w:List Int)(i q:Nat):Nat:=((List.range q).filter fun k=>decide (w.getD k 0<w.getD i 0)||(decide (w.getD k 0=w.getD i 0)&&decide (k<i))).length
theorem HT(w:List Int)(i q:Nat):pc w i q≤q:=by
 have:=List.length_filter_le (fun k=>decide (w.getD k 0<w.getD i 0)||(decide (w.getD k 0=w.getD i 0)&&decide (k<i))) (List.range q)
 rw[List.length_range]at this
 exact this
theorem Iz{w:List Int}{i q:Nat}(h:w.getD q 0<w.getD i 0):pc w i (q+1)=pc w i q+1:=by
 simp only[pc,List.range_succ,List.filter_append,h,List.filter_cons,decide_true,Bool.true_or,List.filter_nil,if_true,List.length_append,List.length_singleton]
theorem Hz{w:List Int}{i q:Nat}(h:w.getD q 0=w.getD i 0):pc w i (q+1)=pc w i q+(if decide ((q:Int)<(i:Int))=true then 1 else 0):=by
 have e:decide ((q:Int)<(i:Int))=decide (q<i):=by simp
 rw[e]
 simp only[pc,List.range_succ,List.filter_append,h,List.filter_cons,decide_true,Int.lt_irrefl,decide_false,Bool.false_or,Bool.true_and,List.filter_nil,List.length_append]
 cases decide (q<i)<;>rfl
theorem HF{w:List Int}{i q:Nat}(h: ¬w.getD q 0<w.getD i 0)(h': ¬w.getD q 0=w.getD i 0):pc w i (q+1)=pc w i q:=by
 simp only[pc,List.range_succ,List.filter_append,h,h',List.filter_cons,decide_false,Bool.false_and,Bool.or_false,List.filter_nil,List.append_nil,Bool.false_eq_true,if_false]
theorem Gx(w:List Int)(i:Nat):pc w i w.length=plc w i:=rfl
end Go.Am.Pu
end
section
/- Plain laws: insertion of letters told anew; insertion and recording of pairs in order, with repeats. -/
namespace Go.Am.Pu
set_option linter.unusedVariables false
section
variable {f : Int → Int} (hf : ∀ a b, a ≤ b → f a ≤ f b)
include hf
omit hf in
end
def Lex(p q:Int×Int):Prop:=p.1<q.1∨(p.1=q.1∧p.2≤q.2)
end Go.Am.Pu
end
section
/- Plain laws: the word of a recorded pair is the word; a recording with repeats, told by standard numbers. -/
namespace Go.Am.Pu
set_option linter.unusedVariables false
theorem tv{X Y:List (List Int)}(h:fb X Y)(he: ∀r x,r<X.length→x<(X.getD r []).length→cel X r x=cel Y r x):X=Y:=by
 refine EV (d:= []) h.1 fun r hr=>EV (d:=0) (h.2 r) fun x hx=>he r x hr hx
end Go.Am.Pu
end
section
/- Plain laws: pairs in order and their two tableaux. -/
namespace Go.Am.Pu
set_option linter.unusedVariables false
theorem EN: ∀{a b:List Int},a.length=b.length→wd (a.zip b)=b∧(a.zip b).map Prod.fst=a
 | [],[],_=>⟨rfl,rfl⟩
 | [],b::B,h=>by simp at h
 |a::A,[],h=>by simp at h
 |a::A,b::B,h=>by
  obtain⟨i1,i2⟩:=EN (a:=A) (b:=B) (by simpa using h)
  exact⟨congrArg (b:: ·) i1,congrArg (a:: ·) i2⟩
def POK(L:List (Int×Int)):Prop:=L.length≤9∧ ∀p∈L,(1≤p.1∧p.1≤9)∧1≤p.2∧p.2≤9
theorem POK.word{L:List (Int×Int)}(h:POK L):isWord (wd L)=true:=by
 unfold isWord within
 simp only[Bool.and_eq_true,decide_eq_true_eq,List.all_eq_true,wd,List.length_map]
 refine⟨h.1,fun x hx=> ?_⟩
 obtain⟨p,hp,rfl⟩:=List.mem_map.1 hx
 exact(h.2 p hp).2
section
variable {L : List (Int × Int)} (h : POK L) (hl : L.Pairwise Lex)
include h
theorem GQ:ba (([],nv (wd L) [] [] 0):Tab)=true∧jD (([],nv (wd L) [] [] 0):Tab)=true∧(nv (wd L) [] [] 0).flatten.length=L.length:=by
 have hw:=h.word
 have:=wF hw
 unfold mo at this
 rw[if_pos hw]at this
 simpa[wd]using this
theorem iI{r x i:Nat}(hi:i<L.length)(hr:r<(nv (wd L) [] [] 0).length)(hx:x<((nv (wd L) [] [] 0).getD r []).length)(e:cel (nv (wd L) [] [] 0) r x=((i+1:Nat):Int)):(CF (wd L) []).getD i 0=r:=by
 obtain⟨p1,p2,p3⟩:=GQ h
 have a:=(wS h.word).2 i (by simpa[wd]using hi)
 have b:=kP p1 p2 hr hx e
 omega
include hl
end
end Go.Am.Pu
end
section
/- Plain laws: matrices and their pairs. -/
namespace Go.Am.Pu
set_option linter.unusedVariables false
set_option linter.unusedSimpArgs false
def Ij(c:Nat)(r:List Int):Bool:=decide (r.length=c)&&(decide (r.length≤9)&&r.all fun n=>within n 0 9)
def vF(m:List (List Int)):Bool:=decide (m.length≤9)&&(m.all (Ij (m.getD 0 []).length)&&decide (fX m.flatten≤9))
structure G3 (r c : Nat) (m : List (List Int)) : Prop where
  len : m.length = r
  r9 : r ≤ 9
  row : ∀ x ∈ m, x.length = c
  c9 : ∀ x ∈ m, x.length ≤ 9
  num : ∀ x ∈ m, ∀ n ∈ x, 0 ≤ n ∧ n ≤ 9
  sum : fX m.flatten ≤ 9
theorem yN{m:List (List Int)}:vF m=true↔G3 m.length (m.getD 0 []).length m:=by
 unfold vF Ij within
 simp only[Bool.and_eq_true,decide_eq_true_eq,List.all_eq_true]
 constructor
 ·rintro⟨a,b,c⟩
  exact⟨rfl,a,fun x hx=>(b x hx).1,fun x hx=>(b x hx).2.1,fun x hx=>(b x hx).2.2,c⟩
 ·rintro⟨_,a,b,c,d,e⟩
  exact⟨a,fun x hx=>⟨b x hx,c x hx,d x hx⟩,e⟩
theorem G3.is{r c:Nat}{m:List (List Int)}(h:G3 r c m):vF m=true:=by
 rw[yN]
 cases m with
 |nil=>exact⟨rfl,Nat.zero_le _,fun x hx=>(by cases hx),fun x hx=>(by cases hx),fun x hx=>(by cases hx),h.sum⟩
 |cons a m=>
  have:=h.row a (List.mem_cons_self ..)
  exact⟨rfl,by rw[h.len];exact h.r9,fun x hx=>by rw[List.getD_cons_zero,this];exact h.row x hx,h.c9,h.num,h.sum⟩
end Go.Am.Pu
end
section
/- Plain laws: a matrix is told by its two tableaux, and turning it exchanges them. -/
namespace Go.Am.Pu
set_option linter.unusedVariables false
end Go.Am.Pu
end
section
/- Plain laws: what the functions on matrices make step by step. -/
namespace Go.Am.Pu
set_option linter.unusedVariables false
theorem By{Q Q':List (List Int)}(h:fb Q Q'){a:Nat}(ha:a≤Q.length)(z z':Int):fb (g7 Q a z) (g7 Q' a z'):=by
 refine⟨by rw[mh,mh,h.1],fun i=> ?_⟩
 rw[ql z ha,ql z' (by rw[←h.1];exact ha)]
 have h1:=h.2 i
 have h2:=h.2 a
 split
 ·rw[List.length_append,List.length_append,h2];rfl
 ·exact h1
theorem AU: ∀(L:List (Int×Int)) (P Q:List (List Int)) (k:Nat),(∀i,i<L.length→(L.getD i (0,0)).1=((k+i+1:Nat):Int))→Ch L P Q=nv (wd L) P Q k
 | [],_,_,_,_=>rfl
 |p::L,P,Q,k,h=>by
  have h0:=h 0 (Nat.zero_lt_succ _)
  rw[Nat.add_zero]at h0
  simp only[List.getD_cons_zero]at h0
  show Ch L (bq P p.2).1 (g7 Q (bq P p.2).2 p.1)=_
  rw[h0]
  exact AU L _ _ (k+1) fun i hi=>by
   have:=h (i+1) (by simpa using hi)
   rw[show k+1+i+1=k+(i+1)+1 by omega,←this,List.getD_cons_succ]
theorem DG{W:List Int}:Ch ((nJ W.length).zip W) [] []=nv W [] [] 0:=by
 have hl:(nJ W.length).length=W.length:=n5 _
 rw[AU _ _ _ 0 fun i hi=>by
  rw[au hi,List.getElem_zip]
  simp only[nJ,List.getElem_map,List.getElem_range]
  omega]
 rw[(EN hl).1]
theorem within_iff{n a b:Int}:within n a b=true↔a≤n∧n≤b:=by simp[within]
end Go.Am.Pu
end
section
/- Plain laws: insertion by columns keeps the word's class. -/
namespace Go.Am.Pu
set_option linter.unusedVariables false
def cr(c:List Int)(x:Int):Nat:=c.findIdx fun n=>decide (x≤n)
def jQ:List (List Int)→Int→List (List Int)
 | [],x=> [[x]]
 |c::cs,x=>if cr c x<c.length then c.set (cr c x) x::jQ cs (c.getD (cr c x) 0)else(c++ [x])::cs
def uE(C:List (List Int)):List Int:=(C.map List.reverse).flatten
def xC:List Int→Int→List Int×List Int
 | [],x=>([x],[])
 |a::c,x=>if x≤a then(x::c,[a])else(a::(xC c x).1,(xC c x).2)
theorem sq: ∀(c:List Int) (x:Int),xC c x=if cr c x<c.length then(c.set (cr c x) x,[c.getD (cr c x) 0])else(c++ [x],[])
 | [],x=>rfl
 |a::c,x=>by
  unfold xC
  have e:cr (a::c) x=if x≤a then 0 else cr c x+1:=by
   unfold cr
   rw[List.findIdx_cons]
   by_cases h:x≤a
   ·rw[if_pos h,decide_eq_true h];rfl
   ·rw[if_neg h,decide_eq_false h];rfl
  rw[e]
  by_cases h:x≤a
  ·rw[if_pos h,if_pos h,if_pos (by simp)];rfl
  ·rw[if_neg h,if_neg h,sq c x]
   by_cases g:cr c x<c.length
   ·rw[if_pos g,if_pos (by simpa using g)];simp
   ·rw[if_neg g,if_neg (by simpa using g)];rfl
theorem Dk(c:List Int)(cs:List (List Int))(x:Int):jQ (c::cs) x=(xC c x).1::(match (xC c x).2 with
  | []=>cs
  |y::_=>jQ cs y):=by
 show(if cr c x<c.length then _ else _)=_
 rw[sq]
 by_cases g:cr c x<c.length
 ·rw[if_pos g,if_pos g]
 ·rw[if_neg g,if_neg g]
theorem Ct: ∀{u:List Int} {x y:Int},(u++ [y]).Pairwise (· > ·)→x≤y→Kn (x::(u++ [y])) (u++ [x,y])
 | [],x,y,_,_=>Kn.refl _
 | [a],x,y,h,hx=>by
  have:y<a:=by
   have:=List.pairwise_cons.1 (show(a:: [y]).Pairwise (· > ·)from h)
   exact this.1 y (by simp)
  exact Kn.of (Tri.b hx this)
 |a::b::u,x,y,h,hx=>by
  obtain⟨h1,h2⟩:=List.pairwise_cons.1 (show(a::(b::u++ [y])).Pairwise (· > ·)from h)
  have hb:b<a:=h1 b (by simp)
  have hyb:x≤b:=by
   have:=(List.pairwise_cons.1 (show(b::(u++ [y])).Pairwise (· > ·)from h2)).1 y (by simp)
   omega
  have e:Kn (x::a::b::(u++ [y])) (a::x::b::(u++ [y])):=(Kn.of (Tri.b hyb hb)).right (u++ [y])
  exact e.trans ((Ct (u:=b::u) h2 hx).cons a)
theorem Em: ∀{v:List Int} {x y:Int},(x::v).Pairwise (· > ·)→x≤y→Kn (x::y::v) (x::v++ [y])
 | [],x,y,_,_=>Kn.refl _
 |a::v,x,y,h,hx=>by
  obtain⟨h1,h2⟩:=List.pairwise_cons.1 h
  have ha:a<x:=h1 a (by simp)
  have e:Kn (x::y::a::v) (x::a::y::v):=(Kn.of (Tri.a ha hx)).right v
  exact e.trans ((Em (v:=v) (x:=a) (y:=y) h2 (by omega)).cons x)
theorem Gc: ∀{c:List Int} (x:Int),c.Pairwise (· < ·)→Kn (x::c.reverse) ((xC c x).1.reverse++(xC c x).2)
 |c,x,h=>by
  rw[sq]
  by_cases g:cr c x<c.length
  ·rw[if_pos g]
   have hsp:c=c.take (cr c x)++c.getD (cr c x) 0::c.drop (cr c x+1):=by
    rw[←drop_cons g 0,List.take_append_drop]
   have hset:c.set (cr c x) x=c.take (cr c x)++x::c.drop (cr c x+1):=by
    rw[List.set_eq_take_append_cons_drop,if_pos g]
   have hy:x≤c.getD (cr c x) 0:=by
    have:=List.findIdx_getElem (w:=g) (p:=fun n=>decide (x≤n))
    simp only[decide_eq_true_eq]at this
    rw[au g];exact this
   have hlo: ∀z∈c.take (cr c x),z<x:=fun z hz=>by
    obtain⟨i,hi,rfl⟩:=List.getElem_of_mem hz
    rw[List.length_take]at hi
    rw[List.getElem_take]
    have hlt:i<c.findIdx fun n=>decide (x≤n):=by unfold cr at hi;omega
    have hno:=List.not_of_lt_findIdx hlt
    have hno: ¬x≤c[i]:=of_decide_eq_false hno
    omega
   generalize c.getD (cr c x) 0=y at*
   generalize c.take (cr c x)=A at*
   generalize c.drop (cr c x+1)=B at*
   rw[hset]
   simp only[List.reverse_append,List.reverse_cons,List.append_assoc,List.singleton_append,List.cons_append,List.nil_append]
   rw[hsp]at h
   simp only[hsp,List.reverse_append,List.reverse_cons,List.append_assoc,List.singleton_append]
   have hr:(B.reverse++ [y]++A.reverse).Pairwise (· > ·):=by
    have:=List.pairwise_reverse.2 (show(A++y::B).Pairwise (fun a b=>b>a)from h)
    simpa using this
   have h1:(B.reverse++ [y]).Pairwise (· > ·):=(List.pairwise_append.1 hr).1
   have h2:(x::A.reverse).Pairwise (· > ·):=List.pairwise_cons.2 ⟨fun z hz=>hlo z (List.mem_reverse.1 hz),(List.pairwise_append.1 hr).2.1⟩
   have k1:=(Ct h1 hy).right A.reverse
   have k2:=(Em h2 hy).left B.reverse
   simp only[List.append_assoc,List.cons_append,List.singleton_append,List.nil_append]at k1 k2
   exact k1.trans k2
  ·rw[if_neg g]
   simp only[List.reverse_append,List.reverse_singleton,List.singleton_append,List.append_nil]
   exact Kn.refl _
theorem zo: ∀{C:List (List Int)} (x:Int),(∀c∈C,c.Pairwise (· < ·))→Kn (x::uE C) (uE (jQ C x))
 | [],x,_=>Kn.refl _
 |c::cs,x,h=>by
  have hc:=h c (List.mem_cons_self ..)
  have hcs: ∀d∈cs,d.Pairwise (· < ·):=fun d hd=>h d (List.mem_cons_of_mem _ hd)
  have k:=(Gc x hc).right (uE cs)
  rw[Dk]
  show Kn (x::(c.reverse++uE cs)) ((xC c x).1.reverse++uE _)
  refine k.trans ?_
  rw[List.append_assoc]
  refine Kn.left _ ?_
  have h2:(xC c x).2= []∨ ∃y,(xC c x).2= [y]:=by
   rw[sq]
   by_cases g:cr c x<c.length
   ·rw[if_pos g];exact .inr ⟨_,rfl⟩
   ·rw[if_neg g];exact .inl rfl
  rcases h2 with e|⟨y,e⟩
  ·rw[e];exact Kn.refl _
  ·rw[e];exact zo y hcs
theorem Ej: ∀{cs r:List Int} {a:Int},Up (a::r)→(a::cs).Pairwise (· > ·)→Kn (a::(r++cs)) (a::(cs++r))
 | [],r,a,_,_=>by rw[List.append_nil,List.nil_append];exact Kn.refl _
 |x::cs,r,a,h,hc=>by
  obtain⟨h1,h2⟩:=List.pairwise_cons.1 hc
  have hx:x<a:=h1 x (by simp)
  have k1:=(xz h hx).right cs
  simp only[List.cons_append,List.append_assoc,List.nil_append,List.singleton_append]at k1
  have hu:Up (x::r):=List.pairwise_cons.2 ⟨fun z hz=>by have:=sV h z hz;omega,mY h⟩
  exact k1.trans ((Ej hu h2).cons a)
theorem C7: ∀{R:List (List Int)},(∀r∈R,Up r)→(∀r∈R,r≠ [])→(R.map fun r=>r.headD 0).Pairwise (· > ·)→Kn R.flatten ((R.map fun r=>r.headD 0)++(R.map List.tail).flatten)
 | [],_,_,_=>Kn.refl _
 | []::R,_,h,_=>absurd rfl (h [] (List.mem_cons_self ..))
 |(a::r)::R,hu,hn,hd=>by
  have hd':(a::R.map fun r=>r.headD 0).Pairwise (· > ·):=hd
  have ih:=C7 (fun r hr=>hu r (List.mem_cons_of_mem _ hr)) (fun r hr=>hn r (List.mem_cons_of_mem _ hr)) (List.pairwise_cons.1 hd').2
  have k1:=(ih.left (a::r))
  have k2:=(Ej (hu (a::r) (List.mem_cons_self ..)) hd').right (R.map List.tail).flatten
  simp only[List.flatten_cons,List.map_cons,List.headD_cons,List.tail_cons,List.cons_append,List.append_assoc]at k1 k2⊢
  exact k1.trans k2
end Go.Am.Pu
end
section
/- Plain laws: columns and rows of a tableau; insertion by columns keeps it a tableau. -/
namespace Go.Am.Pu
set_option linter.unusedVariables false
def CT(c:List Int):List (List Int)→Prop
 | []=>True
 |d::_=>d.length≤c.length∧ ∀q,q<d.length→c.getD q 0≤d.getD q 0
def CC:List (List Int)→Prop
 | []=>True
 |c::cs=>0<c.length∧c.Pairwise (· < ·)∧CT c cs∧CC cs
theorem zy{c:List Int}(h:c.Pairwise (· < ·)){i j:Nat}(hij:i<j)(hj:j<c.length):c.getD i 0<c.getD j 0:=by
 rw[List.pairwise_iff_getElem]at h
 rw[au (by omega),au hj]
 exact h i j (by omega) hj hij
theorem Ir{c:List Int}(h:c.Pairwise (· < ·)){i j:Nat}(hij:i≤j)(hj:j<c.length):c.getD i 0≤c.getD j 0:=by
 rcases Nat.lt_or_ge i j with q|q
 ·have:=zy h q hj;omega
 ·rw[show i=j by omega];exact Int.le_refl _
theorem vZ{c:List Int}(h: ∀i j,i<j→j<c.length→c.getD i 0<c.getD j 0):c.Pairwise (· < ·):=by
 rw[List.pairwise_iff_getElem]
 intro i j hi hj hij
 have:=h i j hij hj
 rwa [au hi,au hj]at this
theorem zi{c:List Int}{x:Int}(h:cr c x<c.length):x≤c.getD (cr c x) 0:=by
 have:=List.findIdx_getElem (w:=h) (p:=fun n=>decide (x≤n))
 rw[au h];exact of_decide_eq_true this
theorem vt{c:List Int}{x:Int}{i:Nat}(h:i<cr c x):c.getD i 0<x:=by
 have hl:i<c.length:=Nat.lt_of_lt_of_le h List.findIdx_le_length
 have:=List.not_of_lt_findIdx (p:=fun n=>decide (x≤n)) (xs:=c) h
 have:=of_decide_eq_false this
 rw[au hl];omega
theorem rU{c:List Int}{x:Int}:cr c x≤c.length:=List.findIdx_le_length
theorem F5{c:List Int}{x:Int}(h:c.Pairwise (· < ·))(hk:cr c x<c.length):(c.set (cr c x) x).Pairwise (· < ·):=vZ fun i j hij hj=>by
 rw[List.length_set]at hj
 rw[fF x hk,fF x hk]
 have ha:=zi hk
 by_cases ci:i=cr c x
 ·rw[if_pos ci,if_neg (by omega)]
  have:=zy h (i:=cr c x) (j:=j) (by omega) hj
  omega
 ·rw[if_neg ci]
  by_cases cj:j=cr c x
  ·rw[if_pos cj];exact vt (by omega)
  ·rw[if_neg cj];exact zy h hij hj
theorem FG{c:List Int}{x:Int}(h:c.Pairwise (· < ·))(hk: ¬cr c x<c.length):(c++ [x]).Pairwise (· < ·):=vZ fun i j hij hj=>by
 rw[List.length_append,List.length_singleton]at hj
 rw[fD,fD]
 by_cases cj:j=c.length
 ·rw[if_neg (by omega),if_pos cj];exact vt (by have:= @rU c x;omega)
 ·rw[if_neg (by omega),if_neg cj];exact zy h hij (by omega)
theorem Dr{c:List Int}{x:Int}{cs:List (List Int)}(h:c.Pairwise (· < ·))(hk:cr c x<c.length)(ho:CT c cs)(hc:CC cs):CT (c.set (cr c x) x) (jQ cs (c.getD (cr c x) 0)):=by
 have hy:=zi hk
 have hle: ∀q,q<c.length→(c.set (cr c x) x).getD q 0≤c.getD q 0:=fun q hq=>by
  rw[fF x hk]
  split
  ·next e=>rw[e];exact hy
  ·exact Int.le_refl _
 have hset: ∀q,q≤cr c x→(c.set (cr c x) x).getD q 0≤c.getD (cr c x) 0:=fun q hq=>by
  have:=hle q (by omega)
  have:=Ir h hq hk
  omega
 cases cs with
 |nil=>
  refine⟨by show 1≤_;rw[List.length_set];omega,fun q hq=> ?_⟩
  have hq:q<1:=hq
  rw[show q=0 by omega]
  exact hset 0 (Nat.zero_le _)
 |cons d ds=>
  obtain⟨o1,o2⟩:=ho
  have hk':cr d (c.getD (cr c x) 0)≤cr c x:=Nat.le_of_not_lt fun hlt=>by
   have hd:cr c x<d.length:=by have:= @rU d (c.getD (cr c x) 0);omega
   have a:=vt hlt
   have b:=o2 _ hd
   omega
  show CT _ (if cr d (c.getD (cr c x) 0)<d.length then _ else _)
  by_cases g:cr d (c.getD (cr c x) 0)<d.length
  ·rw[if_pos g]
   refine⟨by rw[List.length_set,List.length_set];exact o1,fun q hq=> ?_⟩
   rw[List.length_set]at hq
   rw[fF _ g]
   split
   ·next e=>exact hset q (by omega)
   ·have:=hle q (by omega)
    have:=o2 q hq
    omega
  ·rw[if_neg g]
   have e:cr d (c.getD (cr c x) 0)=d.length:=by have:= @rU d (c.getD (cr c x) 0);omega
   refine⟨by rw[List.length_set,List.length_append,List.length_singleton];omega,fun q hq=> ?_⟩
   rw[List.length_append,List.length_singleton]at hq
   rw[fD]
   split
   ·next e2=>exact hset q (by omega)
   ·have:=hle q (by omega)
    have:=o2 q (by omega)
    omega
theorem xA: ∀(C:List (List Int)) (x:Int),CC C→CC (jQ C x)
 | [],x,_=>⟨by simp,by simp,trivial,trivial⟩
 |c::cs,x,⟨h1,h2,h3,h4⟩=>by
  show CC (if cr c x<c.length then _ else _)
  by_cases g:cr c x<c.length
  ·rw[if_pos g]
   exact⟨by rw[List.length_set];exact h1,F5 h2 g,Dr h2 g h3 h4,xA cs _ h4⟩
  ·rw[if_neg g]
   refine⟨by rw[List.length_append,List.length_singleton];omega,FG h2 g,?_,h4⟩
   cases cs with
   |nil=>trivial
   |cons d ds=>
    obtain⟨o1,o2⟩:=h3
    exact⟨by rw[List.length_append,List.length_singleton];omega,fun q hq=>by rw[fD,if_neg (by omega)];exact o2 q hq⟩
theorem rK: ∀{C:List (List Int)},CC C→(∀c∈C,0<c.length∧c.Pairwise (· < ·))∧ ∀i,i+1<C.length→(C.getD (i+1) []).length≤(C.getD i []).length∧ ∀q,q<(C.getD (i+1) []).length→(C.getD i []).getD q 0≤(C.getD (i+1) []).getD q 0
 | [],_=>⟨fun c hc=>(by cases hc),fun i hi=>(by simp at hi)⟩
 |c::cs,⟨h1,h2,h3,h4⟩=>by
  obtain⟨a,b⟩:=rK h4
  refine⟨fun d hd=> ?_,fun i hi=> ?_⟩
  ·rcases List.mem_cons.1 hd with rfl|hd
   ·exact⟨h1,h2⟩
   ·exact a d hd
  ·cases i with
   |zero=>
    cases cs with
    |nil=>simp at hi
    |cons d ds=>exact h3
   |succ i=>exact b i (by simpa using hi)
theorem AF: ∀{C:List (List Int)},(∀c∈C,0<c.length∧c.Pairwise (· < ·))→(∀i,i+1<C.length→(C.getD (i+1) []).length≤(C.getD i []).length∧ ∀q,q<(C.getD (i+1) []).length→(C.getD i []).getD q 0≤(C.getD (i+1) []).getD q 0)→CC C
 | [],_,_=>trivial
 |c::cs,h,h'=>by
  refine⟨(h c (List.mem_cons_self ..)).1,(h c (List.mem_cons_self ..)).2,?_,AF (fun d hd=>h d (List.mem_cons_of_mem _ hd)) fun i hi=>h' (i+1) (by simpa using hi)⟩
  cases cs with
  |nil=>trivial
  |cons d ds=>exact h' 0 (by simp)
def eQ:List Int→List (List Int)→List (List Int)
 | [],C=>C
 |n::r,[]=> [n]::eQ r []
 |n::r,c::C=>(n::c)::eQ r C
def aQ:List (List Int)→List (List Int)
 | []=> []
 |r::rs=>eQ r (aQ rs)
def Reg(t:List (List Int)):Prop:=(∀r∈t,0<r.length)∧ ∀i,i+1<t.length→(t.getD (i+1) []).length≤(t.getD i []).length
theorem Reg.tail{r:List Int}{rs:List (List Int)}(h:Reg (r::rs)):Reg rs∧(rs.getD 0 []).length≤r.length:=by
 refine⟨⟨fun s hs=>h.1 s (List.mem_cons_of_mem _ hs),fun i hi=>h.2 (i+1) (by simpa using hi)⟩,?_⟩
 cases rs with
 |nil=>exact Nat.zero_le _
 |cons s rs=>exact h.2 0 (by simp)
theorem ug: ∀(r:List Int) (C:List (List Int)),C.length≤r.length→(eQ r C).length=r.length
 | [],C,h=>by simp at h;subst h;rfl
 |n::r,[],_=>by simp[eQ,ug r [] (Nat.zero_le _)]
 |n::r,c::C,h=>by simp[eQ,ug r C (by simpa using h)]
theorem tt: ∀(r:List Int) (C:List (List Int)) (q:Nat),C.length≤r.length→(eQ r C).getD q []=if q<r.length then r.getD q 0::C.getD q []else []
 | [],C,q,h=>by simp at h;subst h;simp[eQ]
 |n::r,[],0,_=>by simp[eQ]
 |n::r,[],q+1,_=>by
  have:=tt r [] q (Nat.zero_le _)
  simp only[eQ,List.getD_cons_succ,this,List.length_cons]
  by_cases h:q<r.length
  ·rw[if_pos h,if_pos (by omega)];simp
  ·rw[if_neg h,if_neg (by omega)]
 |n::r,c::C,0,_=>by simp[eQ]
 |n::r,c::C,q+1,h=>by
  have:=tt r C q (by simpa using h)
  simp only[eQ,List.getD_cons_succ,this,List.length_cons]
  by_cases g:q<r.length
  ·rw[if_pos g,if_pos (by omega)]
  ·rw[if_neg g,if_neg (by omega)]
theorem gl: ∀{t:List (List Int)},Reg t→(aQ t).length=(t.getD 0 []).length
 | [],_=>rfl
 |r::rs,h=>by
  have:=gl h.tail.1
  exact ug r _ (by rw[this];exact h.tail.2)
theorem cm: ∀{t:List (List Int)},Reg t→ ∀q i,(i<((aQ t).getD q []).length↔q<(t.getD i []).length)∧((aQ t).getD q []).getD i 0=(t.getD i []).getD q 0
 | [],_,q,i=>by simp[aQ]
 |r::rs,h,q,i=>by
  have hl:=gl h.tail.1
  have ht:=h.tail.2
  have e:=tt r (aQ rs) q (by rw[hl];exact ht)
  show(i<((eQ r (aQ rs)).getD q []).length↔_)∧((eQ r (aQ rs)).getD q []).getD i 0=_
  rw[e]
  by_cases g:q<r.length
  ·rw[if_pos g]
   cases i with
   |zero=>simp[g]
   |succ i=>
    have:=cm h.tail.1 q i
    simp only[List.length_cons,List.getD_cons_succ]
    exact⟨by rw[←this.1];omega,this.2⟩
  ·rw[if_neg g]
   have hle: ∀i,((r::rs).getD i []).length≤r.length:=by
    intro i
    induction i with
    |zero=>simp
    |succ i ih=>
     by_cases hi:i+1<(r::rs).length
     ·exact Nat.le_trans (h.2 i hi) ih
     ·rw[List.getD_eq_getElem?_getD,List.getElem?_eq_none (by omega)];exact Nat.zero_le _
   have:=hle i
   refine⟨⟨fun h=>by simp at h,fun h=>by omega⟩,?_⟩
   rw[List.getD_eq_getElem?_getD (l:=(r::rs).getD i []),List.getElem?_eq_none (by omega)]
   simp
theorem xf{t:List (List Int)}(h:Reg t):Reg (aQ t):=by
 have hl:=gl h
 refine⟨fun c hc=> ?_,fun q hq=> ?_⟩
 ·obtain⟨q,hq,rfl⟩:=List.getElem_of_mem hc
  rw[←au hq []]
  exact(cm h q 0).1.2 (by omega)
 ·refine Nat.le_of_not_lt fun hlt=> ?_
  have a:=(cm h (q+1) ((aQ t).getD q []).length).1.1 hlt
  have b:=(cm h q ((aQ t).getD q []).length).1.2 (by omega)
  omega
theorem yn{t:List (List Int)}(h:Reg t):aQ (aQ t)=t:=by
 have h2:=xf h
 have hl:(aQ (aQ t)).length=t.length:=by
  rw[gl h2]
  refine Nat.le_antisymm (Nat.le_of_not_lt fun hlt=> ?_) (Nat.le_of_not_lt fun hlt=> ?_)
  ·have:=(cm h 0 t.length).1.1 hlt
   rw[List.getD_eq_getElem?_getD,List.getElem?_eq_none (Nat.le_refl _)]at this
   simp at this
  ·have:=h.1 (t.getD ((aQ t).getD 0 []).length []) (by rw[au hlt];exact List.getElem_mem hlt)
   have:=(cm h 0 ((aQ t).getD 0 []).length).1.2 this
   omega
 have hrow: ∀i,((aQ (aQ t)).getD i []).length=(t.getD i []).length:=fun i=>by
  refine Nat.le_antisymm (Nat.le_of_not_lt fun hlt=> ?_) (Nat.le_of_not_lt fun hlt=> ?_)
  ·have a:=(cm h2 i _).1.1 hlt
   have b:=(cm h _ i).1.1 a
   omega
  ·have a:=(cm h _ i).1.2 hlt
   have b:=(cm h2 i _).1.2 a
   omega
 refine tv ⟨hl,hrow⟩ fun i q _ _=> ?_
 show((aQ (aQ t)).getD i []).getD q 0=(t.getD i []).getD q 0
 rw[(cm h2 i q).2,(cm h q i).2]
theorem mc{t:List (List Int)}(h:SSR t):Reg t:=⟨fun r hr=>by
 obtain⟨i,hi,rfl⟩:=List.getElem_of_mem hr
 rw[←au hi []];exact(rY h i hi).1,fun i hi=>(sn h i hi).1⟩
theorem xm{C:List (List Int)}(h:CC C):Reg C:=⟨fun c hc=>((rK h).1 c hc).1,fun i hi=>((rK h).2 i hi).1⟩
theorem wY{C:List (List Int)}(h:CC C):SSR (aQ C):=by
 have hr:=xm h
 have hreg:=xf hr
 obtain⟨a,b⟩:=rK h
 refine qv (fun i hi=>⟨hreg.1 _ (by rw[au hi];exact List.getElem_mem hi),fun q hq=> ?_⟩) fun i hi=>⟨hreg.2 i hi,fun q hq=> ?_⟩
 ·rw[(cm hr i q).2,(cm hr i (q+1)).2]
  have h1:=(cm hr i (q+1)).1.1 hq
  have hq1:q+1<C.length:=Nat.lt_of_not_le fun hle=>by
   rw[List.getD_eq_getElem?_getD,List.getElem?_eq_none hle]at h1
   simp at h1
  exact(b q hq1).2 i h1
 ·rw[(cm hr i q).2,(cm hr (i+1) q).2]
  have h1:=(cm hr (i+1) q).1.1 hq
  have hq1:q<C.length:=Nat.lt_of_not_le fun hle=>by
   rw[List.getD_eq_getElem?_getD,List.getElem?_eq_none hle]at h1
   simp at h1
  exact zy (a _ (by rw[au hq1];exact List.getElem_mem hq1)).2 (by omega) h1
theorem y5{t:List (List Int)}(h:SSR t):CC (aQ t):=by
 have hr:=mc h
 have hreg:=xf hr
 refine AF (fun c hc=>⟨hreg.1 c hc,?_⟩) fun q hq=>⟨hreg.2 q hq,fun i hi=> ?_⟩
 ·obtain⟨q,hq,rfl⟩:=List.getElem_of_mem hc
  rw[←au hq []]
  have adj: ∀i,i+1<((aQ t).getD q []).length→((aQ t).getD q []).getD i 0<((aQ t).getD q []).getD (i+1) 0:=fun i hi=>by
   rw[(cm hr q i).2,(cm hr q (i+1)).2]
   have h1:=(cm hr q (i+1)).1.1 hi
   have hi1:i+1<t.length:=Nat.lt_of_not_le fun hle=>by
    rw[List.getD_eq_getElem?_getD,List.getElem?_eq_none hle]at h1
    simp at h1
   exact(sn h i hi1).2 q h1
  refine vZ fun i j hij hj=> ?_
  obtain⟨d,rfl⟩: ∃d,j=i+d+1:=⟨j-i-1,by omega⟩
  induction d with
  |zero=>exact adj i hj
  |succ d ih=>exact Int.lt_trans (ih (by omega) (by omega)) (adj (i+d+1) hj)
 ·rw[(cm hr q i).2,(cm hr (q+1) i).2]
  have h1:=(cm hr (q+1) i).1.1 hi
  have hi1:i<t.length:=Nat.lt_of_not_le fun hle=>by
   rw[List.getD_eq_getElem?_getD,List.getElem?_eq_none hle]at h1
   simp at h1
  exact(rY h i hi1).2 q h1
theorem vg: ∀{C:List (List Int)},CC C→Kn (aQ C).reverse.flatten (uE C)
 | [],_=>Kn.refl _
 |c::cs,h=>by
  have hs:=wY h
  have hr:=xm h
  have hl:=gl hr.tail.1
  have hle:(aQ cs).length≤c.length:=by rw[hl];exact hr.tail.2
  have heads: ∀(r:List Int) (C:List (List Int)),C.length≤r.length→(eQ r C).map (fun r=>r.headD 0)=r∧((eQ r C).map List.tail).reverse.flatten=C.reverse.flatten:=by
   intro r
   induction r with
   |nil=>intro C h;simp at h;subst h;exact⟨rfl,rfl⟩
   |cons n r ih=>
    intro C h
    cases C with
    |nil=>
     obtain⟨a,b⟩:=ih [] (Nat.zero_le _)
     simp only[eQ,List.map_cons,a,List.reverse_cons,List.flatten_append,b]
     exact⟨rfl,rfl⟩
    |cons c C=>
     obtain⟨a,b⟩:=ih C (by simpa using h)
     simp only[eQ,List.map_cons,a,List.reverse_cons,List.flatten_append,b]
     exact⟨rfl,rfl⟩
  obtain⟨e1,e2⟩:=heads c (aQ cs) hle
  have k:=C7 (R:=(eQ c (aQ cs)).reverse) (fun r hm=>CL hs r (List.mem_reverse.1 hm)) (fun r hm e=>by
   have:=(mc hs).1 r (List.mem_reverse.1 hm)
   rw[e]at this;simp at this) (by
   rw[List.map_reverse,e1]
   exact List.pairwise_reverse.2 h.2.1)
  rw[List.map_reverse,e1,List.map_reverse,e2]at k
  show Kn (eQ c (aQ cs)).reverse.flatten (c.reverse++uE cs)
  exact k.trans ((vg h.2.2.2).left _)
def zc(t:List (List Int))(x:Int):List (List Int):=aQ (jQ (aQ t) x)
theorem Ci{t:List (List Int)}(h:SSR t)(x:Int):SSR (zc t x):=wY (xA _ x (y5 h))
theorem An{t:List (List Int)}(h:SSR t)(x:Int):Kn (x::t.reverse.flatten) (zc t x).reverse.flatten:=by
 have hc:=y5 h
 have k1:=vg hc
 rw[yn (mc h)]at k1
 have k2:=zo x fun c hm=>((rK hc).1 c hm).2
 exact(k1.cons x).trans (k2.trans (vg (xA _ x hc)).symm)
def mu:List Int→List (List Int)
 | []=> []
 |x::w=>jQ (mu w) x
theorem sd: ∀w:List Int,CC (mu w)
 | []=>trivial
 |x::w=>xA _ x (sd w)
theorem C3: ∀w:List Int,Kn w (uE (mu w))
 | []=>Kn.refl _
 |x::w=>((C3 w).cons x).trans (zo x fun c hm=>((rK (sd w)).1 c hm).2)
theorem EG(w:List Int):aQ (mu w)=jm w []:=by
 have hs:=wY (sd w)
 have k:=(C3 w).trans (vg (sd w)).symm
 rw[k.ins (P:= []) (fun r hr=>by cases hr),qt _ hs]
end Go.Am.Pu
end
section
/- Plain laws: one step of insertion by columns, seen in the rows. -/
namespace Go.Am.Pu
set_option linter.unusedVariables false
theorem iS{α:Type}{l:List α}{i:Nat}(h:l.length≤i)(d:α):l.getD i d=d:=by
 rw[List.getD_eq_getElem?_getD,List.getElem?_eq_none h];rfl
theorem gss{l:List (List Int)}{i:Nat}(h:i<l.length)(v:List Int):(l.set i v).getD i []=v:=by
 rw[au (by rw[List.length_set];exact h),List.getElem_set_self]
theorem EF{D:List (List Int)}(h:Reg D){c r:Nat}(hc:c<D.length)(hr:r<(D.getD c []).length)(x:Int):aQ (D.set c ((D.getD c []).set r x))=(aQ D).set r (((aQ D).getD r []).set c x):=by
 have hlen: ∀i,((D.set c ((D.getD c []).set r x)).getD i []).length=(D.getD i []).length:=fun i=>by
  by_cases e:i=c
  ·subst e;rw[au (by rw[List.length_set];exact hc),List.getElem_set_self,List.length_set]
  ·rw[getD_set_ne (fun h=>e h.symm)]
 have h':Reg (D.set c ((D.getD c []).set r x)):=⟨fun d hd=>by
  obtain⟨i,hi,rfl⟩:=List.getElem_of_mem hd
  rw[←au hi [],hlen]
  rw[List.length_set]at hi
  exact h.1 _ (by rw[au hi];exact List.getElem_mem hi),fun i hi=>by
  rw[hlen,hlen];rw[List.length_set]at hi;exact h.2 i hi⟩
 have hcr:c<((aQ D).getD r []).length:=(cm h r c).1.2 hr
 have hrl:r<(aQ D).length:=Nat.lt_of_not_le fun hle=>by rw[iS hle]at hcr;simp at hcr
 have hrow: ∀i,(((aQ D).set r (((aQ D).getD r []).set c x)).getD i []).length=((aQ D).getD i []).length:=fun i=>by
  by_cases e:i=r
  ·subst e;rw[au (by rw[List.length_set];exact hrl),List.getElem_set_self,List.length_set]
  ·rw[getD_set_ne (fun h=>e h.symm)]
 refine tv ⟨by rw[gl h',List.length_set,gl h,hlen],fun i=> ?_⟩ fun i q hi hq=> ?_
 ·rw[hrow]
  refine Nat.le_antisymm (Nat.le_of_not_lt fun hlt=> ?_) (Nat.le_of_not_lt fun hlt=> ?_)
  ·have a:=(cm h' i _).1.1 hlt
   rw[hlen]at a
   have:=(cm h i _).1.2 a
   omega
  ·have a:=(cm h i _).1.1 hlt
   have:=(cm h' i ((aQ (D.set c ((D.getD c []).set r x))).getD i []).length).1.2 (by rw[hlen];exact a)
   omega
 ·show((aQ (D.set c ((D.getD c []).set r x))).getD i []).getD q 0=(((aQ D).set r (((aQ D).getD r []).set c x)).getD i []).getD q 0
  rw[(cm h' i q).2]
  by_cases e:q=c
  ·subst e
   rw[gss hc,fF x hr]
   by_cases e2:i=r
   ·subst e2
    rw[if_pos rfl,gss hrl,fF x hcr,if_pos rfl]
   ·rw[if_neg e2,getD_set_ne (fun h=>e2 h.symm),(cm h i q).2]
  ·rw[getD_set_ne (fun h=>e h.symm)]
   by_cases e2:i=r
   ·subst e2
    rw[gss hrl,fF x hcr,if_neg e,(cm h i q).2]
   ·rw[getD_set_ne (fun h=>e2 h.symm),(cm h i q).2]
def kF(D:List (List Int))(c:Nat)(x:Int):List (List Int):=if c=D.length then D++ [[x]]else D.set c (D.getD c []++ [x])
theorem Ae{D:List (List Int)}{c:Nat}(x:Int)(hc:c≤D.length)(i:Nat):(kF D c x).getD i []=if i=c then D.getD c []++ [x]else D.getD i []:=ql (Q:=D) (a:=c) x hc i
theorem EY{D:List (List Int)}(h:Reg D){c:Nat}(hc:c≤D.length)(x:Int)(h':Reg (kF D c x)):aQ (kF D c x)=kF (aQ D) (D.getD c []).length x∧(D.getD c []).length≤(aQ D).length∧((aQ D).getD (D.getD c []).length []).length=c:=by
 have hg:=Ae x hc
 have hlen: ∀i,((kF D c x).getD i []).length=if i=c then(D.getD c []).length+1 else(D.getD i []).length:=fun i=>by
  rw[hg];split
  ·rw[List.length_append,List.length_singleton]
  ·rfl
 have ant: ∀d,(D.getD d []).length≤(D.getD 0 []).length:=by
  intro d
  induction d with
  |zero=>exact Nat.le_refl _
  |succ d ih=>
   by_cases hd:d+1<D.length
   ·exact Nat.le_trans (h.2 d hd) ih
   ·rw[iS (by omega)];exact Nat.zero_le _
 have hrl:(D.getD c []).length≤(aQ D).length:=by rw[gl h];exact ant c
 have hrc:((aQ D).getD (D.getD c []).length []).length=c:=by
  refine Nat.le_antisymm (Nat.le_of_not_lt fun hlt=> ?_) (Nat.le_of_not_lt fun hlt=> ?_)
  ·have:=(cm h _ c).1.1 hlt
   omega
  ·
   have a:=(cm h (D.getD c []).length ((aQ D).getD (D.getD c []).length []).length).1
   have hc':((aQ D).getD (D.getD c []).length []).length<D.length:=by omega
   generalize hm:((aQ D).getD (D.getD c []).length []).length=m at*
   have b: ¬(D.getD c []).length<(D.getD m []).length:=fun hh=>by have:=a.2 hh;omega
   have mono: ∀e,m+e≤c→((kF D c x).getD (m+e) []).length≤((kF D c x).getD m []).length:=by
    intro e
    induction e with
    |zero=>intro _;exact Nat.le_refl _
    |succ e ih=>
     intro he
     have hl2:(kF D c x).length=if c=D.length then D.length+1 else D.length:=mh x
     exact Nat.le_trans (h'.2 (m+e) (by rw[hl2];split<;>omega)) (ih (by omega))
   have:=mono (c-m) (by omega)
   rw[show m+(c-m)=c by omega,hlen,hlen,if_pos rfl,if_neg (by omega)]at this
   omega
 refine⟨?_,hrl,hrc⟩
 have hg2:=Ae (D:=aQ D) (c:=(D.getD c []).length) x hrl
 have hl2:(kF (aQ D) (D.getD c []).length x).length=if(D.getD c []).length=(aQ D).length then(aQ D).length+1 else(aQ D).length:=mh x
 have hrow2: ∀i,((kF (aQ D) (D.getD c []).length x).getD i []).length=if i=(D.getD c []).length then c+1 else((aQ D).getD i []).length:=fun i=>by
  rw[hg2];split
  ·rw[List.length_append,List.length_singleton,hrc]
  ·rfl
 have key: ∀i q,q<((aQ (kF D c x)).getD i []).length↔q<((kF (aQ D) (D.getD c []).length x).getD i []).length:=fun i q=>by
  rw[(cm h' i q).1,hlen,hrow2]
  have a:=(cm h i q).1
  by_cases e:q=c
  ·subst e
   rw[if_pos rfl]
   by_cases e2:i=(D.getD q []).length
   ·rw[if_pos e2];omega
   ·rw[if_neg e2,a];omega
  ·rw[if_neg e]
   by_cases e2:i=(D.getD c []).length
   ·rw[if_pos e2,←a,e2,hrc];omega
   ·rw[if_neg e2,a]
 have hl:(aQ (kF D c x)).length=(kF (aQ D) (D.getD c []).length x).length:=by
  rw[gl h',hlen,hl2,gl h]
  by_cases e:0=c
  ·subst e
   rw[if_pos rfl,if_pos rfl]
  ·rw[if_neg e]
   split
   ·next e2=>
    exfalso
    have mono: ∀e,e≤c→((kF D c x).getD e []).length≤((kF D c x).getD 0 []).length:=by
     intro e
     induction e with
     |zero=>intro _;exact Nat.le_refl _
     |succ e ih=>
      intro he
      have hl3:(kF D c x).length=if c=D.length then D.length+1 else D.length:=mh x
      exact Nat.le_trans (h'.2 e (by rw[hl3];split<;>omega)) (ih (by omega))
    have:=mono c (Nat.le_refl _)
    rw[hlen,hlen,if_pos rfl,if_neg e]at this
    omega
   ·rfl
 refine tv ⟨hl,fun i=> ?_⟩ fun i q hi hq=> ?_
 ·refine Nat.le_antisymm (Nat.le_of_not_lt fun hlt=> ?_) (Nat.le_of_not_lt fun hlt=> ?_)
  ·have:=(key i _).1 hlt;omega
  ·have:=(key i _).2 hlt;omega
 ·show((aQ (kF D c x)).getD i []).getD q 0=((kF (aQ D) (D.getD c []).length x).getD i []).getD q 0
  rw[(cm h' i q).2,hg,hg2]
  by_cases e:q=c
  ·rw[if_pos e]
   by_cases e2:i=(D.getD c []).length
   ·rw[if_pos e2,e2,fD,if_pos rfl,fD,if_pos (by rw[hrc];exact e)]
   ·rw[if_neg e2,fD,if_neg e2,(cm h i q).2,e]
  ·rw[if_neg e]
   by_cases e2:i=(D.getD c []).length
   ·rw[if_pos e2,fD,if_neg (by rw[hrc];exact e),(cm h _ q).2,e2]
   ·rw[if_neg e2,(cm h i q).2]
def bM(t:Tab)(x:Int):Tab×Bool:=if ba t=true∧within x 1 9=true∧t.2.flatten.length<9 then(([],zc t.2 x),true)else(([],[]),false)
def iC(w:List Int):Tab×Bool:=if isWord w=true then(([],aQ (mu w)),true)else(([],[]),false)
def dW(a b:Tab):Tab×Bool:=if ba a=true∧ba b=true then dE (a.2.reverse.flatten++b.2.reverse.flatten)else(([],[]),false)
theorem zZ{w:List Int}:iC w=dE w:=by
 unfold iC dE
 rw[EG]
theorem ue: ∀(C:List (List Int)) (x:Int),(jQ C x).flatten.length=C.flatten.length+1∧ ∀z∈(jQ C x).flatten,z=x∨z∈C.flatten
 | [],x=>⟨by simp[jQ],fun z hz=>by simp[jQ]at hz;exact .inl hz⟩
 |c::cs,x=>by
  show(if cr c x<c.length then _ else _:List (List Int)).flatten.length=_∧ ∀z∈(if cr c x<c.length then _ else _:List (List Int)).flatten,_
  by_cases g:cr c x<c.length
  ·rw[if_pos g]
   obtain⟨a,b⟩:=ue cs (c.getD (cr c x) 0)
   refine⟨by simp only[List.flatten_cons,List.length_append,List.length_set,a];omega,fun z hz=> ?_⟩
   simp only[List.flatten_cons,List.mem_append]at hz⊢
   rcases hz with hz|hz
   ·rcases List.mem_or_eq_of_mem_set hz with h|h
    ·exact .inr (.inl h)
    ·exact .inl h
   ·rcases b z hz with h|h
    ·rw[h,au g];exact .inr (.inl (List.getElem_mem g))
    ·exact .inr (.inr h)
  ·rw[if_neg g]
   refine⟨by simp only[List.flatten_cons,List.length_append,List.length_singleton];omega,fun z hz=> ?_⟩
   simp only[List.flatten_cons,List.mem_append,List.mem_singleton]at hz⊢
   rcases hz with(hz|hz)|hz
   ·exact .inr (.inl hz)
   ·exact .inl hz
   ·exact .inr (.inr hz)
theorem Dy{t:List (List Int)}(h:SSR t)(x:Int):zc t x=jm (x::t.reverse.flatten) []:=by
 have k:=An h x
 rw[k.ins (P:= []) (fun r hr=>by cases hr),qt _ (Ci h x)]
theorem lT{t:Tab}{x:Int}(h:(bM t x).2=true):dD (bM t x).1=true:=by
 unfold bM at h⊢
 split at h
 ·next g=>
  obtain⟨g1,g2,g3⟩:=g
  have hx:1≤x∧x≤9:=by simpa[within]using g2
  rw[if_pos ⟨g1,g2,g3⟩]
  have hw:isWord (x::t.2.reverse.flatten)=true:=by
   unfold isWord within
   simp only[Bool.and_eq_true,decide_eq_true_eq,List.all_eq_true,List.length_cons]
   have hl:t.2.reverse.flatten.length=t.2.flatten.length:=by simp[List.length_flatten,List.map_reverse,List.sum_reverse]
   refine⟨by omega,fun y hy=> ?_⟩
   rcases List.mem_cons.1 hy with rfl|hy
   ·exact hx
   ·exact DZ g1 y (by
     obtain⟨r,hr,hy⟩:=List.mem_flatten.1 hy
     exact List.mem_flatten.2 ⟨r,List.mem_reverse.1 hr,hy⟩)
  have:=n4 hw
  unfold dE at this
  rw[if_pos hw,←Dy (j7 g1)]at this
  simp only[ba,Bool.and_eq_true]at this
  exact this.1
 ·cases h
theorem Ah{a b:Tab}(h:(eA a b).2=true):(dW a b).2=true∧j8 (eA a b).1=((dW a b).1,true):=by
 unfold eA at h⊢
 split at h
 ·next g=>
  obtain⟨g1,g2,g3⟩:=g
  rw[if_pos ⟨g1,g2,g3⟩]
  have hr:=AY g3
  have hwd:m8 (gF a b)=a.2.reverse.flatten++b.2.reverse.flatten:=by
   unfold m8 gF
   rw[List.reverse_append,List.flatten_append]
  have hw:isWord (a.2.reverse.flatten++b.2.reverse.flatten)=true:=by
   rw[←hwd]
   unfold isWord within m8
   simp only[Bool.and_eq_true,decide_eq_true_eq,List.all_eq_true]
   have hl:(gF a b).2.reverse.flatten.length=(gF a b).2.flatten.length:=by simp[List.length_flatten,List.map_reverse,List.sum_reverse]
   refine⟨by rw[hl];exact EO g3,fun y hy=> ?_⟩
   exact pD g3 y (by
    obtain⟨r,hr,hy⟩:=List.mem_flatten.1 hy
    exact List.mem_flatten.2 ⟨r,List.mem_reverse.1 hr,hy⟩)
  rw[hwd]at hr
  unfold dW dE
  rw[if_pos ⟨g1,g2⟩,if_pos hw]
  refine⟨rfl,?_⟩
  have h2:(j8 (gF a b)).2=true:=by unfold j8;rw[if_pos g3]
  exact Prod.ext hr h2
 ·cases h
structure pB (C : List (List Int)) (z : Int) (D : List (List Int)) (c : Nat) (x : Int) : Prop where
  same : fb D C
  rest : D.drop c = C.drop c
  inv : D.take c ++ jQ (D.drop c) x = jQ C z
  le : c ≤ D.length
theorem pB.start(C:List (List Int))(x:Int):pB C x C 0 x:=⟨⟨rfl,fun _=>rfl⟩,rfl,rfl,Nat.zero_le _⟩
section
variable {C D : List (List Int)} {z x : Int} {c : Nat} (h : CC C) (s : pB C z D c x)
include s
theorem pB.col:D.getD c []=C.getD c []:=by
 have:=congrArg (fun l:List (List Int)=>l.getD 0 []) s.rest
 simp only[List.getD_eq_getElem?_getD,List.getElem?_drop,Nat.add_zero]at this⊢
 exact this
include h
theorem pB.reg:Reg D:=by
 have hr:=xm h
 refine⟨fun d hd=> ?_,fun i hi=> ?_⟩
 ·obtain⟨i,hi,rfl⟩:=List.getElem_of_mem hd
  rw[←au hi [],s.same.2 i]
  have:i<C.length:=by rw[←s.same.1];exact hi
  exact hr.1 _ (by rw[au this];exact List.getElem_mem this)
 ·rw[s.same.2,s.same.2];exact hr.2 i (by rw[←s.same.1];exact hi)
theorem pB.up:(D.getD c []).Pairwise (· < ·):=by
 rw[s.col]
 by_cases hc:c<C.length
 ·rw[au hc];exact((rK h).1 _ (List.getElem_mem hc)).2
 ·rw[iS (by omega)];exact List.Pairwise.nil
theorem pB.step(hr:cr (D.getD c []) x<(D.getD c []).length):c<D.length∧pB C z (D.set c ((D.getD c []).set (cr (D.getD c []) x) x)) (c+1) ((D.getD c []).getD (cr (D.getD c []) x) 0):=by
 have hc:c<D.length:=Nat.lt_of_not_le fun hle=>by rw[iS hle]at hr;simp at hr
 refine⟨hc,⟨⟨by rw[List.length_set];exact s.same.1,fun i=> ?_⟩,?_,?_,by rw[List.length_set];exact hc⟩⟩
 ·rw[←s.same.2 i]
  by_cases e:i=c
  ·subst e;rw[gss hc,List.length_set]
  ·rw[getD_set_ne (fun h=>e h.symm)]
 ·have:=congrArg List.tail s.rest
  rw[List.tail_drop,List.tail_drop]at this
  rw[List.drop_set_of_lt (Nat.lt_succ_self _)]
  exact this
 ·rw[←s.inv,drop_cons hc [],List.drop_set_of_lt (Nat.lt_succ_self _),List.take_succ_eq_append_getElem (by rw[List.length_set];exact hc),List.take_set_of_le (Nat.le_refl _),List.getElem_set_self]
  show _=D.take c++(if cr (D.getD c []) x<(D.getD c []).length then _ else _)
  rw[if_pos hr]
  simp only[List.append_assoc,List.singleton_append]
theorem pB.fin(hr: ¬cr (D.getD c []) x<(D.getD c []).length):aQ (jQ C z)=kF (aQ D) (D.getD c []).length x∧(D.getD c []).length≤(aQ D).length∧((aQ D).getD (D.getD c []).length []).length=c:=by
 have e:kF D c x=jQ C z:=by
  rw[←s.inv]
  unfold kF
  by_cases hc:c=D.length
  ·rw[if_pos hc,hc,List.take_length,List.drop_length];rfl
  ·have hlt:c<D.length:=by have:=s.le;omega
   rw[if_neg hc,drop_cons hlt []]
   show _=D.take c++(if cr (D.getD c []) x<(D.getD c []).length then _ else _)
   rw[if_neg hr,List.set_eq_take_append_cons_drop,if_pos hlt]
 have:=EY (s.reg h) s.le x (by rw[e];exact xm (xA C z h))
 rw[e]at this
 exact this
end
end Go.Am.Pu
end
section
/- Plain laws: columns gathered row by row. -/
namespace Go.Am.Pu
set_option linter.unusedVariables false
def gH:List Int→List (List Int)→List (List Int)
 | [],C=>C
 |n::r,[]=> [n]::gH r []
 |n::r,c::C=>(c++ [n])::gH r C
theorem tz: ∀r:List Int,gH r []=eQ r []
 | []=>rfl
 |n::r=>by simp only[gH,eQ,tz r]
theorem pq: ∀(s r:List Int) (C:List (List Int)),gH r (eQ s C)=eQ s (gH r C)
 | [],r,C=>by simp[eQ]
 |n::s,[],C=>by simp[gH]
 |n::s,m::r,[]=>by
  simp only[eQ,gH,pq s r [],tz]
  rfl
 |n::s,m::r,c::C=>by simp only[eQ,gH,pq s r C,List.cons_append]
theorem uv(r:List Int): ∀rows:List (List Int),aQ (rows++ [r])=gH r (aQ rows)
 | []=>(tz r).symm
 |s::rows=>by
  show eQ s (aQ (rows++ [r]))=gH r (eQ s (aQ rows))
  rw[uv r rows,pq]
theorem qD: ∀(r:List Int) (C:List (List Int)),(gH r C).length=max r.length C.length
 | [],C=>by simp[gH]
 |n::r,[]=>by simp[gH,qD r []]
 |n::r,c::C=>by simp only[gH,List.length_cons,qD r C];omega
theorem rI: ∀(l:List Int) (n:Int) (C:List (List Int)),gH (l++ [n]) C=kF (gH l C) l.length n
 | [],n,[]=>rfl
 | [],n,c::C=>by simp[gH,kF]
 |m::l,n,[]=>by
  have ih:=rI l n []
  have hl:=qD l []
  simp only[List.cons_append,gH,ih]
  unfold kF
  simp only[List.length_cons]
  by_cases e:l.length=(gH l []).length
  ·rw[if_pos e,if_pos (by omega)];rfl
  ·rw[if_neg e,if_neg (by omega)];simp
 |m::l,n,c::C=>by
  have ih:=rI l n C
  simp only[List.cons_append,gH,ih]
  unfold kF
  simp only[List.length_cons]
  by_cases e:l.length=(gH l C).length
  ·rw[if_pos e,if_pos (by omega)];rfl
  ·rw[if_neg e,if_neg (by omega)];simp
theorem wg: ∀(C:List (List Int)) (x:Int),(jQ C x).length≤C.length+1
 | [],x=>by simp[jQ]
 |c::cs,x=>by
  show(if cr c x<c.length then _ else _:List (List Int)).length≤_
  split
  ·have:=wg cs (c.getD (cr c x) 0)
   simp only[List.length_cons];omega
  ·simp only[List.length_cons];omega
theorem rp: ∀(r:List Int) (C:List (List Int)),(eQ r C).flatten.length=r.length+C.flatten.length
 | [],C=>by simp[eQ]
 |n::r,[]=>by simp[eQ,rp r []]
 |n::r,c::C=>by simp only[eQ,List.flatten_cons,List.length_append,List.length_cons,rp r C];omega
theorem lF: ∀t:List (List Int),(aQ t).flatten.length=t.flatten.length
 | []=>rfl
 |r::t=>by show(eQ r (aQ t)).flatten.length=_;rw[rp,lF t,List.flatten_cons,List.length_append]
theorem rB: ∀(r:List Int) (C:List (List Int)),(gH r C).flatten.length=r.length+C.flatten.length
 | [],C=>by simp[gH]
 |n::r,[]=>by simp[gH,rB r []]
 |n::r,c::C=>by simp only[gH,List.flatten_cons,List.length_append,List.length_cons,List.length_nil,rB r C];omega
theorem lz{C:List (List Int)}(q:Nat):(C.getD q []).length≤C.flatten.length:=by
 by_cases h:q<C.length
 ·rw[au h];exact pS (List.getElem_mem h)
 ·rw[iS (by omega)];exact Nat.zero_le _
section
variable {C : List (List Int)} {x : Int} {c : Nat}
theorem yc(hc:c<C.length)(hr:cr (C.getD c []) x<(C.getD c []).length):(C.set c ((C.getD c []).set (cr (C.getD c []) x) x)).take (c+1)++jQ ((C.set c ((C.getD c []).set (cr (C.getD c []) x) x)).drop (c+1)) ((C.getD c []).getD (cr (C.getD c []) x) 0)=C.take c++jQ (C.drop c) x:=by
 rw[drop_cons hc [],List.drop_set_of_lt (Nat.lt_succ_self _),List.take_succ_eq_append_getElem (by rw[List.length_set];exact hc),List.take_set_of_le (Nat.le_refl _),List.getElem_set_self]
 show _=C.take c++(if cr (C.getD c []) x<(C.getD c []).length then _ else _)
 rw[if_pos hr]
 simp only[List.append_assoc,List.singleton_append]
theorem yo(hc:c<C.length)(hr: ¬cr (C.getD c []) x<(C.getD c []).length):C.set c (C.getD c []++ [x])=C.take c++jQ (C.drop c) x:=by
 rw[drop_cons hc []]
 show _=C.take c++(if cr (C.getD c []) x<(C.getD c []).length then _ else _)
 rw[if_neg hr,List.set_eq_take_append_cons_drop,if_pos hc]
end
def Sm(n:Nat)(C:List (List Int)):Prop:=C.length≤n∧C.flatten.length≤n
theorem pG: ∀{C:List (List Int)} {c:Nat} {d:List Int},c<C.length→(C.set c d).flatten.length+(C.getD c []).length=C.flatten.length+d.length
 | [],c,d,h=>by simp at h
 |e::C,0,d,_=>by simp;omega
 |e::C,c+1,d,h=>by
  have:=pG (C:=C) (c:=c) (d:=d) (by simpa using h)
  simp only[List.set_cons_succ,List.flatten_cons,List.length_append,List.getD_cons_succ]
  omega
theorem xL{D:List (List Int)}(h:Reg D)(r c:Nat):entry ([],aQ D) r c=(D.getD c []).getD r 0:=by
 have e:=(cm h r c).2
 by_cases hr:r<(aQ D).length
 ·rw[kT hr]
  simp only[List.getD_nil,Int.sub_zero]
  rw[cH,e]
 ·unfold entry
  rw[iS (show(aQ D).length≤r by omega)]at e
  rw[if_neg (by omega),if_pos (show((aQ D).length:Int)≤r by omega),←e];rfl
theorem mE{t:Tab}{x:Int}:iO (bM t x).1:=by
 cases h:(bM t x).2 with
 |true=>
  have h1:=lT h
  have h2:(bM t x).1.1= []:=by unfold bM;split<;>rfl
  refine CO ?_
  unfold ba
  rw[h1,h2];rfl
 |false=>
  have:(bM t x).1=([],[]):=by
   unfold bM at h⊢
   split at h
   ·cases h
   ·next g=>rw[if_neg g]
  rw[this];exact iO.nil
theorem sY{a b:Tab}:iO (dW a b).1:=by
 unfold dW
 split
 ·exact nw
 ·exact iO.nil
theorem rf(w:List Int):Sm w.length (mu w):=by
 induction w with
 |nil=>exact⟨Nat.le_refl _,Nat.le_refl _⟩
 |cons x w ih=>
  have a:=wg (mu w) x
  have b:=(ue (mu w) x).1
  exact⟨by show(jQ (mu w) x).length≤_;have:=ih.1;rw[List.length_cons];omega,by show(jQ (mu w) x).flatten.length≤_;have:=ih.2;rw[List.length_cons];omega⟩
end Go.Am.Pu
end
