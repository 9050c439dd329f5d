/- Plain laws of lists, partitions, shapes and tableaux; no program in sight. -/
import Derived.Test.YtlfpegcoaebmkaaAmP
set_option linter.unusedSimpArgs false
set_option linter.unusedVariables false
set_option linter.unnecessarySimpa false
set_option linter.unusedSectionVars false
section
/- Rules for loops over data: a loop that looks at all, a loop that folds. -/
namespace Go.Am.Pu
open Go.Am
theorem w64{n:Int}(h1: -9223372036854775808≤n)(h2:n≤9223372036854775807):IntKind.i64.wrap n=n:=Go.Am.w64 h1 h2
theorem lO{R:Type}(L:Nat→Nat→Option R)(n:Nat)(p:Nat→Bool)(bad ED:Option R)
  (hs: ∀j i,i<n→L (j+1) i=if p i=true then L j (i+1)else bad) (he: ∀j,L (j+1) n=ED):
  ∀(m j i:Nat),i+m=n→m<j→L j i=if(List.range' i m).all p=true then ED else bad
 |m,0,i,_,h=>by omega
 |0,j+1,i,h,_=>by
  have:i=n:=by omega
  subst this
  rw[he];rfl
 |m+1,j+1,i,h,hj=>by
  rw[hs j i (by omega),lO L n p bad ED hs he m j (i+1) (by omega) (by omega),List.range'_succ,List.all_cons]
  cases p i
  ·rw[if_neg (by simp),Bool.false_and,if_neg (by simp)]
  ·rw[if_pos rfl,Bool.true_and]
theorem dm{p:Nat→Bool}{n:Nat}:(List.range' 0 n).all p=true↔ ∀i,i<n→p i=true:=by
 simp[List.all_eq_true,List.mem_range'_1]
theorem al{α:Type}{xs:List α}{i:Nat}(h:i<xs.length)(d:α):xs.getD i d=xs[i]:=by
 simp only[List.getD_eq_getElem?_getD,List.getElem?_eq_getElem h,Option.getD_some]
theorem aQ{α:Type}{xs:List α}{i:Nat}(h:xs.length≤i)(d:α):xs.getD i d=d:=by
 simp only[List.getD_eq_getElem?_getD,List.getElem?_eq_none h,Option.getD_none]
theorem drop_cons{α:Type}{xs:List α}{i:Nat}(h:i<xs.length)(d:α):xs.drop i=xs.getD i d::xs.drop (i+1):=by
 rw[al h,List.drop_eq_getElem_cons h]
theorem take_succ{α:Type}{xs:List α}{i:Nat}(h:i<xs.length)(d:α):xs.take (i+1)=xs.take i++ [xs.getD i d]:=by
 rw[al h,List.take_succ_eq_append_getElem h]
theorem Dx{α:Type}{xs:List α}{i:Nat}(h:i<xs.length)(d z:α):(xs.take i++List.replicate (xs.length-i) z).set i (xs.getD i d)=xs.take (i+1)++List.replicate (xs.length-(i+1)) z:=by
 have e:xs.length-i=xs.length-(i+1)+1:=by omega
 rw[take_succ h d,e,List.replicate_succ,List.set_append_right _ _ (by simp;omega)]
 simp[Nat.min_eq_left (Nat.le_of_lt h)]
end Go.Am.Pu
end
section
/- Marking memory and looking whether the marks are held. -/
namespace Go.Am.Pu
def held:List Int→Int→Int
 | [],q=>q
 |x::xs,q=>if x=q then held xs (q+1)else-1
def kC:List (List Int)→Nat
 | []=>0
 |x::xs=>x.length+kC xs
theorem xh: ∀(xs:List (List Int)) (n:Nat),(∀x∈xs,x.length≤n)→kC xs≤xs.length*n
 | [],n,_=>by simp[kC]
 |x::xs,n,h=>by
  have h1:=h x (by simp)
  have h2:=xh xs n fun y hy=>h y (by simp[hy])
  simp only[kC,List.length_cons,Nat.succ_mul]
  omega
theorem xT{xs:List (List Int)}(h:xs.length≤1048576)(hr: ∀x∈xs,x.length≤1048576):kC xs≤1099511627776:=by
 have h1:=xh xs 1048576 hr
 have h2:xs.length*1048576≤1048576*1048576:=Nat.mul_le_mul_right _ h
 omega
end Go.Am.Pu
end
section
/- Partitions, shapes and tableaux as plain words. -/
namespace Go.Am.Pu
def within(x lo hi:Int):Bool:=decide (lo≤x)&&decide (x≤hi)
def atI(p:List Int)(i:Int):Int:=if i<0 then 0 else p.getD i.toNat 0
theorem ca(p:List Int)(i:Nat):atI p (i:Int)=p.getD i 0:=by simp[atI];omega
theorem mG{p:List Int}{i:Int}(h:i<0):atI p i=0:=by simp[atI,h]
theorem B7{p:List Int}{i:Int}(h:(p.length:Int)≤i):atI p i=0:=by
 unfold atI
 split
 ·rfl
 ·exact aQ (by omega) 0
def gB:List Int→Int→Int→Bool
 | [],_,_=>true
 |x::xs,prev,s=>decide (1≤x)&&(decide (x≤prev)&&(decide (s+x≤9)&&gB xs x (s+x)))
def bm(p:List Int):Bool:=gB p 9 0
def dg:List Int→Int
 | []=>0
 |x::xs=>x+dg xs
theorem uR: ∀(p:List Int) (prev s:Int),gB p prev s=true→(∀x∈p,1≤x∧x≤prev)∧(p≠ []→s+dg p≤9)∧(p.length:Int)≤dg p
 | [],prev,s,_=>⟨fun x h=>(by cases h),fun h=>absurd rfl h,(by simp[dg])⟩
 |x::xs,prev,s,h=>by
  simp only[gB,Bool.and_eq_true,decide_eq_true_eq]at h
  obtain⟨h1,h2,h3,h4⟩:=h
  obtain⟨k1,k2,k3⟩:=uR xs x (s+x) h4
  refine⟨fun y hy=> ?_,fun _=> ?_,?_⟩
  ·rcases List.mem_cons.1 hy with rfl|hy
   ·exact⟨h1,h2⟩
   ·have:=k1 y hy;omega
  ·simp only[dg]
   by_cases e:xs= []
   ·subst e;simp[dg];omega
   ·have:=k2 e;omega
  ·simp only[dg,List.length_cons];omega
theorem aY{p:List Int}(h:bm p=true):(∀x∈p,1≤x∧x≤9)∧dg p≤9∧p.length≤9∧(p.length:Int)≤dg p:=by
 obtain⟨h1,h2,h3⟩:=uR p 9 0 h
 have:dg p≤9:=by
  by_cases e:p= []
  ·subst e;simp[dg]
  ·have:=h2 e;omega
 exact⟨h1,this,by omega,h3⟩
theorem cQ{p:List Int}(h:bm p=true)(i:Int):0≤atI p i∧atI p i≤9:=by
 unfold atI
 split
 ·omega
 ·by_cases hl:i.toNat<p.length
  ·rw[al hl]
   have:=(aY h).1 _ (List.getElem_mem hl)
   omega
  ·rw[aQ (by omega)];omega
def ct(q p:List Int):Bool:=bm q&&(bm p&&(decide (q.length≤p.length)&&(List.range' 0 q.length).all fun i=>decide (q.getD i 0≤p.getD i 0)))
theorem Bf{q p:List Int}(hq:bm q=true)(h:(List.range' 0 q.length).all (fun i=>decide (q.getD i 0≤p.getD i 0))=true):q.length≤p.length:=by
 rw[dm]at h
 refine Nat.le_of_not_lt fun hlt=> ?_
 have h1:=h p.length hlt
 rw[decide_eq_true_eq,aQ (Nat.le_refl _),al hlt]at h1
 have:=(aY hq).1 _ (List.getElem_mem hlt)
 omega
theorem nx{q p:List Int}:ct q p=(bm q&&(bm p&&(List.range' 0 q.length).all fun i=>decide (q.getD i 0≤p.getD i 0))):=by
 unfold ct
 cases hq:bm q with
 |false=>rfl
 |true=>
  cases hp:bm p with
  |false=>rfl
  |true=>
   simp only[Bool.true_and]
   cases ha:(List.range' 0 q.length).all fun i=>decide (q.getD i 0≤p.getD i 0)with
   |false=>simp
   |true=>simp[Bf hq ha]
def fZ(inner:List Int):Nat→List (List Int)→List Int
 |_,[]=> []
 |i,r::rs=>(inner.getD i 0+r.length)::fZ inner (i+1) rs
theorem l7(inner:List Int): ∀(rs:List (List Int)) (i:Nat),(fZ inner i rs).length=rs.length
 | [],_=>rfl
 |_::rs,i=>by simp[fZ,l7 inner rs]
theorem fC(inner:List Int): ∀(rs:List (List Int)) (i q:Nat),q<rs.length→(fZ inner i rs).getD q 0=inner.getD (i+q) 0+(rs.getD q []).length
 | [],i,q,h=>by simp at h
 |r::rs,i,0,_=>by simp[fZ]
 |r::rs,i,q+1,h=>by
  have:=fC inner rs (i+1) q (by simpa using h)
  simp only[fZ,List.getD_cons_succ]
  rw[this]
  have e:i+1+q=i+(q+1):=by omega
  rw[e]
abbrev Tab:=List Int×List (List Int)
def outer(t:Tab):List Int:=fZ t.1 0 t.2
def dA(t:Tab):Bool:=bm t.1&&(decide (t.1.length≤t.2.length)&&ct t.1 (outer t))
def shapeOf(t:Tab):(List Int×List Int)×Bool:=if dA t=true then((outer t,t.1),true)else(([],[]),false)
theorem zE{t:Tab}(h:dA t=true):t.2.length≤9:=by
 simp only[dA,ct,Bool.and_eq_true]at h
 have:=(aY h.2.2.2.1).2.2.1
 rw[outer,l7]at this
 exact this
def entry(t:Tab)(r c:Int):Int:=if r<0 then 0 else if(t.2.length:Int)≤r then 0 else atI (t.2.getD r.toNat []) (c-atI t.1 r)
theorem jA{t:Tab}{r:Nat}(h:r<t.2.length)(c:Int):entry t r c=atI (t.2.getD r []) (c-t.1.getD r 0):=by
 unfold entry
 rw[if_neg (by omega),if_neg (by omega),ca]
 rfl
theorem DG{t:Tab}{r c:Int}(h:r<0):entry t r c=0:=by unfold entry;rw[if_pos h]
theorem A9{t:Tab}{r q:Nat}(h:r<t.2.length):entry t r (t.1.getD r 0+q)=(t.2.getD r []).getD q 0:=by
 rw[jA h]
 have e:t.1.getD r 0+(q:Int)-t.1.getD r 0=q:=by omega
 rw[e,ca]
theorem BZ{t:Tab}{r q:Nat}(h:r<t.2.length):entry t r (t.1.getD r 0+q-1)=if q=0 then 0 else(t.2.getD r []).getD (q-1) 0:=by
 rw[jA h]
 by_cases e:q=0
 ·subst e
  rw[if_pos rfl,mG (by omega)]
 ·rw[if_neg e]
  have e:t.1.getD r 0+(q:Int)-1-t.1.getD r 0=((q-1:Nat):Int):=by omega
  rw[e,ca]
def fQ(t:Tab)(i k:Nat):Bool:=within ((t.2.getD i []).getD k 0) 1 9&&((decide (k=0)||decide ((t.2.getD i []).getD (k-1) 0≤(t.2.getD i []).getD k 0))&&
 (decide (i=0)||decide (entry t ((i:Int)-1) (t.1.getD i 0+k)<(t.2.getD i []).getD k 0)))
def dM(t:Tab):Bool:=dA t&&(List.range' 0 t.2.length).all fun i=>(List.range' 0 (t.2.getD i []).length).all fun k=>fQ t i k
def aL(t:Tab):Bool:=dM t&&decide (t.1.length=0)
theorem mJ{t:Tab}(h:dM t=true):dA t=true:=by
 simp only[dM,Bool.and_eq_true]at h;exact h.1
theorem qN(inner:List Int): ∀(rs:List (List Int)) (i:Nat),(∀q,i≤q→inner.getD q 0=0)→dg (fZ inner i rs)=rs.flatten.length
 | [],i,_=>rfl
 |r::rs,i,h=>by
  simp only[fZ,dg,List.flatten_cons,List.length_append]
  rw[qN inner rs (i+1) (fun q hq=>h q (by omega)),h i (Nat.le_refl _)]
  omega
theorem jm{t:Tab}(h:aL t=true):t.2.flatten.length≤9:=by
 simp only[aL,Bool.and_eq_true,decide_eq_true_eq]at h
 have hs:=mJ h.1
 simp only[dA,ct,Bool.and_eq_true]at hs
 have h9:=(aY hs.2.2.2.1).2.1
 have:t.1= []:=List.eq_nil_of_length_eq_zero h.2
 rw[outer,qN t.1 t.2 0 (fun q _=>by rw[this];rfl)]at h9
 omega
def dG:List (List Int)→Int→List (List Int)×Nat
 | [],x=>([[x]],0)
 |r::rs,x=>if r.findIdx (fun n=>decide (x<n))<r.length
   then(r.set (r.findIdx fun n=>decide (x<n)) x::(dG rs (r.getD (r.findIdx fun n=>decide (x<n)) 0)).1,(dG rs (r.getD (r.findIdx fun n=>decide (x<n)) 0)).2+1)
   else((r++ [x])::rs,0)
def jQ(t:Tab):Prop:=t.1.length≤1048576∧t.2.length≤1048576∧ ∀x∈t.2,x.length≤1048576
theorem jQ.nil:jQ ([],[]):=⟨by simp,by simp,fun x h=>by cases h⟩
theorem wx: ∀{rs:List (List Int)} {r:List Int},r∈rs→r.length≤rs.flatten.length
 |q::rs,r,h=>by
  simp only[List.flatten_cons,List.length_append]
  rcases List.mem_cons.1 h with rfl|h
  ·omega
  ·have:=wx h;omega
theorem Bi{p:Int→Bool}{r:List Int}(h:r.findIdx p<r.length):p (r.getD (r.findIdx p) 0)=true:=by
 rw[al h];exact List.findIdx_getElem
theorem rq{α:Type}{xs:List α}{i:Nat}(h:i<xs.length)(x:α):(xs.set i x).take (i+1)=xs.take i++ [x]:=by
 have h':i<(xs.set i x).length:=by rw[List.length_set];exact h
 rw[take_succ h' x,List.take_set_of_le (Nat.le_refl _),al h',List.getElem_set_self]
theorem ri{α:Type}{xs:List α}{i:Nat}(x:α):(xs.set i x).drop (i+1)=xs.drop (i+1):=by
 rw[List.drop_set_of_lt (by omega)]
end Go.Am.Pu
end
section
/- Standard tableaux, weights, descents: plain words. -/
namespace Go.Am.Pu
theorem wa{α R:Type}(r:List α)(d:α)(p:α→Bool)(L:Nat→Nat→Option R)(hit:Nat→Option R)(miss:Option R)
  (hs: ∀j i,i<r.length→L (j+1) i=if p (r.getD i d)=true then hit i else L j (i+1)) (he: ∀j,L (j+1) r.length=miss):
  ∀(m j i:Nat),i+m=r.length→m<j→i≤r.findIdx p→L j i=if r.findIdx p<r.length then hit (r.findIdx p)else miss
 |m,0,i,_,hj,_=>by omega
 |0,j+1,i,hm,_,hi=>by
  have e:i=r.length:=by omega
  rw[if_neg (by omega),e,he]
 |m+1,j+1,i,hm,hj,hi=>by
  have hlt:i<r.length:=by omega
  rw[hs j i hlt]
  by_cases c:p (r.getD i d)=true
  ·have e:r.findIdx p=i:=Nat.le_antisymm (Nat.le_of_not_lt fun h'=>by
    have:=List.not_of_lt_findIdx h'
    rw[al hlt]at c
    rw[c]at this;cases this) hi
   rw[if_pos c,e,if_pos hlt]
  ·rw[if_neg c]
   refine wa r d p L hit miss hs he m j (i+1) (by omega) (by omega) ?_
   refine Nat.succ_le_of_lt (Nat.lt_of_le_of_ne hi fun e=>c ?_)
   have hlt':r.findIdx p<r.length:=by omega
   have:=List.findIdx_getElem (p:=p) (xs:=r) (w:=hlt')
   rw[←al hlt' d,←e]at this
   exact this
def yK{α:Type}(p:α→Bool)(r:List α):Int:=if r.findIdx p<r.length then(r.findIdx p:Int)else-1
theorem D5{α:Type}(p:α→Bool)(r:List α):decide (0≤yK p r)=r.any p:=by
 unfold yK
 by_cases h:r.findIdx p<r.length
 ·rw[if_pos h,List.any_eq_true.2 ⟨_,List.getElem_mem h,List.findIdx_getElem⟩]
  simp
 ·rw[if_neg h]
  have:r.any p=false:=by
   rw[List.any_eq_false]
   intro x hx hp
   exact h (List.findIdx_lt_length_of_exists ⟨x,hx,hp⟩)
  rw[this];rfl
def has(l:List Int)(x:Int):Bool:=l.any fun y=>decide (x=y)
theorem mr{l:List Int}{x:Int}:has l x=true↔x∈l:=by
 simp[has,List.any_eq_true]
def jN(l:List Int):Bool:=(List.range' 0 l.length).all fun i=>has l ((i:Int)+1)
theorem sD: ∀(R l:List Int),R.Nodup→(∀x∈R,x∈l)→R.length≤l.length
 | [],l,_,_=>by simp
 |x::R,l,hn,h=>by
  rw[List.nodup_cons]at hn
  have hx:=h x (by simp)
  have:=sD R (l.erase x) hn.2 fun y hy=>(List.mem_erase_of_ne fun(e:y=x)=>hn.1 (e▸hy)).2 (h y (by simp[hy]))
  rw[List.length_erase_of_mem hx]at this
  have:0<l.length:=List.length_pos_of_mem hx
  simp only[List.length_cons]
  omega
def wT(n:Nat):List Int:=(List.range n).map fun(i:Nat)=>(i:Int)+1
theorem hM{n:Nat}{x:Int}:x∈wT n↔1≤x∧x≤n:=by
 simp only[wT,List.mem_map,List.mem_range]
 constructor
 ·rintro⟨i,h,rfl⟩;omega
 ·rintro⟨h1,h2⟩;exact⟨(x-1).toNat,by omega,by omega⟩
theorem wY(n:Nat):(wT n).Nodup:=by
 unfold wT
 refine List.Pairwise.map _ (fun(a b:Nat) (h:a≠b)=> ?_) List.nodup_range
 intro e
 exact h (by omega)
theorem sJ(n:Nat):(wT n).length=n:=by simp[wT]
theorem j2{l:List Int}:jN l=true↔ ∀x∈wT l.length,x∈l:=by
 unfold jN
 rw[dm]
 constructor
 ·intro h x hx
  rw[hM]at hx
  have:=h (x-1).toNat (by omega)
  rw[mr]at this
  have e:(((x-1).toNat:Nat):Int)+1=x:=by omega
  rw[e]at this;exact this
 ·intro h i hi
  rw[mr]
  exact h _ (hM.2 (by omega))
theorem vM{l:List Int}(h1: ∀x∈l,1≤x):jN l=true↔l.Nodup∧ ∀x∈l,x≤l.length:=by
 rw[j2]
 constructor
 ·intro h
  refine⟨?_,fun x hx=> ?_⟩
  ·
   refine Classical.byContradiction fun hn=> ?_
   have: ∃x,x∈l∧x∈l.erase x:=by
    have key: ∀l:List Int,¬l.Nodup→ ∃x,x∈l∧x∈l.erase x:=by
     intro l
     induction l with
     |nil=>intro h;exact absurd List.nodup_nil h
     |cons a l ih=>
      intro h
      by_cases ha:a∈l
      ·exact⟨a,by simp,by simpa using ha⟩
      ·have: ¬l.Nodup:=fun hl=>h (List.nodup_cons.2 ⟨ha,hl⟩)
       obtain⟨x,h1,h2⟩:=ih this
       refine⟨x,by simp[h1],?_⟩
       have hne:a≠x:=fun e=>ha (e▸h1)
       rw[List.erase_cons_tail (by simpa using hne)]
       exact List.mem_cons_of_mem _ h2
    exact key l hn
   obtain⟨x,hx,hx2⟩:=this
   have:=sD (wT l.length) (l.erase x) (wY _) fun y hy=>by
    by_cases e:y=x
    ·rw[e];exact hx2
    ·exact(List.mem_erase_of_ne e).2 (h y hy)
   rw[sJ,List.length_erase_of_mem hx]at this
   have:0<l.length:=List.length_pos_of_mem hx
   omega
  ·refine Int.not_lt.1 fun hlt=> ?_
   have:=sD (wT l.length) (l.erase x) (wY _) fun y hy=>by
    have hy':=hM.1 hy
    exact(List.mem_erase_of_ne (by omega)).2 (h y hy)
   rw[sJ,List.length_erase_of_mem hx]at this
   have:0<l.length:=List.length_pos_of_mem hx
   omega
 ·rintro⟨hn,hb⟩ x hx
  refine Classical.byContradiction fun hxl=> ?_
  have:=sD (x::l) (wT l.length) (List.nodup_cons.2 ⟨hxl,hn⟩) fun y hy=>by
   rcases List.mem_cons.1 hy with rfl|hy
   ·exact hx
   ·exact hM.2 ⟨h1 y hy,hb y hy⟩
  rw[sJ,List.length_cons]at this
  omega
def mC(n:Int):List Int→List Int→Bool
 |_,[]=>true
 |seen,x::xs=>decide (x≤n)&&(!has seen x&&mC n (seen++ [x]) xs)
theorem u4(n:Int): ∀(xs seen:List Int),mC n seen xs=true↔(∀x∈xs,x≤n)∧xs.Nodup∧ ∀x∈xs,x∉seen
 | [],seen=>by simp[mC]
 |x::xs,seen=>by
  simp only[mC,Bool.and_eq_true,decide_eq_true_eq,u4 n xs,Bool.not_eq_true',List.nodup_cons]
  have hh:has seen x=false↔x∉seen:=by rw[←mr];simp
  rw[hh]
  constructor
  ·rintro⟨h1,h2,h3,h4,h5⟩
   refine⟨fun y hy=> ?_,⟨fun hx=>h5 x hx (by simp),h4⟩,fun y hy=> ?_⟩
   ·rcases List.mem_cons.1 hy with rfl|hy
    ·exact h1
    ·exact h3 y hy
   ·rcases List.mem_cons.1 hy with rfl|hy
    ·exact h2
    ·exact fun h=>h5 y hy (by simp[h])
  ·rintro⟨h1,⟨h2,h3⟩,h4⟩
   refine⟨h1 x (by simp),h4 x (by simp),fun y hy=>h1 y (by simp[hy]),h3,fun y hy h=> ?_⟩
   rcases List.mem_append.1 h with h|h
   ·exact h4 y (by simp[hy]) h
   ·simp only[List.mem_singleton]at h;exact h2 (h▸hy)
theorem Bx{l:List Int}(h1: ∀x∈l,1≤x):mC l.length [] l=jN l:=by
 have a:=u4 l.length l []
 have b:=vM h1
 cases h:mC l.length [] l with
 |true=>
  have:=a.1 h
  exact(b.2 ⟨this.2.1,this.1⟩).symm
 |false=>
  cases h':jN l with
  |false=>rfl
  |true=>
   have:=b.1 h'
   rw[a.2 ⟨this.2,this.1,fun _ _ h=>by cases h⟩]at h
   cases h
theorem nJ{t:Tab}(h:dM t=true): ∀x∈t.2.flatten,1≤x∧x≤9:=by
 intro x hx
 simp only[dM,Bool.and_eq_true]at h
 obtain⟨r,hr,hxr⟩:=List.mem_flatten.1 hx
 obtain⟨i,hi,e⟩:=List.mem_iff_getElem.1 hr
 obtain⟨q,hq,e2⟩:=List.mem_iff_getElem.1 hxr
 have h1:=dm.1 h.2 i hi
 rw[al hi,e]at h1
 have h2:=dm.1 h1 q hq
 simp only[fQ,within,Bool.and_eq_true,decide_eq_true_eq]at h2
 rw[al hi,e,al hq,e2]at h2
 exact h2.1
theorem tc(inner:List Int)(h: ∀q,0≤inner.getD q 0): ∀(rs:List (List Int)) (i:Nat),(rs.flatten.length:Int)≤dg (fZ inner i rs)
 | [],i=>by simp[fZ,dg]
 |r::rs,i=>by
  have:=tc inner h rs (i+1)
  have:=h i
  simp only[fZ,dg,List.flatten_cons,List.length_append]
  omega
theorem Ar{t:Tab}(h:dM t=true):t.2.flatten.length≤9:=by
 have hs:=mJ h
 simp only[dA,ct,Bool.and_eq_true]at hs
 have h9:=(aY hs.2.2.2.1).2.1
 have:=tc t.1 (fun q=>by
  have:=(cQ hs.1 q).1
  rw[ca]at this;exact this) t.2 0
 unfold outer at h9
 omega
def cw(t:Tab):Bool:=dM t&&jN t.2.flatten
def rowOf(t:Tab)(n:Int):Int:=yK (fun r=>has r n) t.2
theorem uP: ∀(w:List Int),(∀x∈w,0≤x)→0≤dg w
 | [],_=>by simp[dg]
 |x::xs,h=>by
  have:=uP xs fun y hy=>h y (by simp[hy])
  have:=h x (by simp)
  simp only[dg];omega
theorem um(w:List Int)(h: ∀x∈w,0≤x)(i:Nat):0≤dg (w.take i)∧dg (w.take i)≤dg w:=by
 induction w generalizing i with
 |nil=>simp[dg]
 |cons x xs ih=>
  have hx:=h x (by simp)
  have h': ∀y∈xs,0≤y:=fun y hy=>h y (by simp[hy])
  cases i with
  |zero=>simp only[List.take_zero,dg];have:=uP xs h';omega
  |succ i=>
   simp only[List.take_succ_cons,dg]
   have:=ih h' i
   omega
theorem Ai(a b:List Int):dg (a++b)=dg a+dg b:=by
 induction a with
 |nil=>simp[dg]
 |cons x a ih=>simp only[List.cons_append,dg,ih];omega
end Go.Am.Pu
end
section
/- Plain laws of draws, and of boxes. -/
namespace Go.Am.Pu
open Go Go.Am
attribute [local instance] D.real
theorem yO(a:Int):0≤D.andI .i64 a 255∧D.andI .i64 a 255≤255:=by
 have h:(BitVec.ofInt 64 a&&&BitVec.ofInt 64 255).toNat≤255:=by
  rw[BitVec.toNat_and]
  exact Nat.le_trans Nat.and_le_right (by decide)
 have e:D.andI .i64 a 255=(((BitVec.ofInt 64 a&&&BitVec.ofInt 64 255).toNat:Nat):Int):=by
  show IntKind.i64.wrap (((BitVec.ofInt 64 a&&&BitVec.ofInt 64 255).toNat:Nat):Int)=_
  rw[w64 (by omega) (by omega)]
 rw[e]
 omega
theorem zi{α:Type}(a b:Int)(x y:Option α):D.test (D.lt a b) x y=if a<b then x else y:=by
 show(if decide (a<b)=true then x else y)=_
 simp only[decide_eq_true_eq]
def yJ:Nat→Nat
 |0=>1
 |n+1=>2^n
def Bz(n:Nat):Nat→Nat
 |0=>0
 |p+1=>yJ (n-(p+1))+Bz n p
theorem Fe{n p:Nat}(hn:n≤9)(h1:1≤n)(hp:p≤n):Bz n p≤yJ n:=by
 have key: ∀n<10,∀p<10,1≤n→p≤n→Bz n p≤yJ n:=by decide
 exact key n (by omega) p (by omega) h1 hp
theorem Cm{n:Nat}(hn:n≤9):yJ n≤256:=by
 have key: ∀n<10,yJ n≤256:=by decide
 exact key n (by omega)
def oh(n:Nat)(x:List Int):Prop:=x.length≤n∧ ∀y∈x,1≤y∧y≤9
def gM (p : List Int) (r : Int) : List Int × Bool :=
  if bm p = true ∧ 0 ≤ r ∧ r ≤ p.length then
    (let q := if r = p.length then p ++ [0] else p
     let o := q.set r.toNat (q.getD r.toNat 0 + 1)
     if bm o = true then (o, true) else ([], false))
  else ([], false)
end Go.Am.Pu
end
section
/- Steps over equations: what a word comes to, told by what must hold of it. -/
namespace Go.Am.Pu
open Go Go.Am
attribute [local instance] D.real
section
variable {α β : Type}
def Ok(x:Option α)(Q:α→Prop):Prop:= ∃y,x=some y∧Q y
theorem Ok.ret{y:α}{Q:α→Prop}(h:Q y):Ok (some y) Q:=⟨y,rfl,h⟩
theorem Ok.mono{x:Option α}{P Q:α→Prop}(h:Ok x P)(g: ∀y,P y→Q y):Ok x Q:=
 let⟨y,e,hp⟩:=h
 ⟨y,e,g y hp⟩
theorem Ok.bnd{x:Option α}{f:α→Option β}{P:α→Prop}{Q:β→Prop}(h:Ok x P)(g: ∀y,P y→Ok (f y) Q):Ok (D.bnd x f) Q:=by
 obtain⟨y,e,hp⟩:=h
 rw[e]
 exact g y hp
theorem Ok.iu{x:Option α}{y:α}{f:α→Option β}{Q:β→Prop}(h:x=some y)(g:Ok (f y) Q):Ok (D.bnd x f) Q:=by
 rw[h]
 exact g
theorem Ok.t{p:Prop} [Decidable p]{x y:Option α}{Q:α→Prop}(h1:p→Ok x Q)(h2: ¬p→Ok y Q):Ok (D.test (decide p) x y) Q:=by
 show Ok (if decide p=true then x else y) Q
 by_cases h:p
 ·rw[if_pos (decide_eq_true h)];exact h1 h
 ·rw[if_neg (by rw[decide_eq_false h];simp)];exact h2 h
theorem Ok.tb{b:Bool}{x y:Option α}{Q:α→Prop}(h1:b=true→Ok x Q)(h2:b=false→Ok y Q):Ok (D.test b x y) Q:=by
 cases b
 ·exact h2 rfl
 ·exact h1 rfl
theorem Ok.tn{b:Bool}{x y:Option α}{Q:α→Prop}(h1:b=false→Ok x Q)(h2:b=true→Ok y Q):Ok (D.test (!b) x y) Q:=by
 cases b
 ·exact h1 rfl
 ·exact h2 rfl
theorem Ok.g{p:Prop} [Decidable p]{x y:Option α}{Q:α→Prop}(h:p)(g:Ok x Q):Ok (D.test (decide p) x y) Q:=Ok.t (fun _=>g) (fun h'=>absurd h h')
theorem Ok.no{p:Prop} [Decidable p]{x y:Option α}{Q:α→Prop}(h: ¬p)(g:Ok y Q):Ok (D.test (decide p) x y) Q:=Ok.t (fun h'=>absurd h' h) (fun _=>g)
theorem Ok.some{x:Option α}{Q:α→Prop}(h:Ok x Q): ∃y,x=Option.some y:=let⟨y,e,_⟩:=h;⟨y,e⟩
end
def cj(n m:Nat)(rs:List (List Int)):Prop:=rs.length≤n∧ ∀r∈rs,r.length≤m
theorem cj.at{n m:Nat}{rs:List (List Int)}(h:cj n m rs)(i:Nat):(rs.getD i []).length≤m:=by
 by_cases hi:i<rs.length
 ·rw[al hi];exact h.2 _ (List.getElem_mem hi)
 ·rw[aQ (by omega)];simp
theorem cj.set{n m:Nat}{rs:List (List Int)}(h:cj n m rs)(i:Nat){r:List Int}(hr:r.length≤m):cj n m (rs.set i r):=by
 refine⟨by rw[List.length_set];exact h.1,fun x hx=> ?_⟩
 rcases List.mem_or_eq_of_mem_set hx with h'|rfl
 ·exact h.2 x h'
 ·exact hr
theorem cj.mono{n m n' m':Nat}{rs:List (List Int)}(h:cj n m rs)(hn:n≤n')(hm:m≤m'):cj n' m' rs:=
 ⟨Nat.le_trans h.1 hn,fun x hx=>Nat.le_trans (h.2 x hx) hm⟩
theorem cj.app{n m:Nat}{rs:List (List Int)}(h:cj n m rs){r:List Int}(hr:r.length≤m):cj (n+1) m (rs++ [r]):=by
 refine⟨by rw[List.length_append];simp;exact h.1,fun x hx=> ?_⟩
 rcases List.mem_append.1 hx with h'|h'
 ·exact h.2 x h'
 ·simp only[List.mem_singleton]at h';subst h';exact hr
theorem B9(p:List Int)(r:Int):(gM p r).1.length≤p.length+1:=by
 unfold gM
 split
 ·simp only
  generalize hq:(if r=(p.length:Int)then p++ [0]else p)=q
  have hl:q.length≤p.length+1:=by
   rw[←hq]
   split
   ·simp
   ·omega
  split
  ·rw[List.length_set];exact hl
  ·simp
 ·simp
end Go.Am.Pu
end
section
/- Corners; a number taken out of rows. Plain words. -/
namespace Go.Am.Pu
def ni(p:List Int):Nat→Nat→List Int
 |0,_=> []
 |m+1,i=>if p.getD (i+1) 0<p.getD i 0 then(i:Int)::ni p m (i+1)else ni p m (i+1)
def nF(p:List Int):List Int:=if bm p=true then ni p p.length 0 else []
theorem vX(p:List Int): ∀(m i:Nat),(ni p m i).length≤m
 |0,_=>by simp[ni]
 |m+1,i=>by
  have:=vX p m (i+1)
  unfold ni
  split<;>simp<;>omega
theorem u6(p:List Int):(nF p).length≤p.length:=by
 unfold nF
 split
 ·exact vX _ _ _
 ·simp
theorem tW: ∀{p:List Int} {prev s:Int},gB p prev s=true→ ∀i,i+1<p.length→p.getD (i+1) 0≤p.getD i 0
 | [],_,_,_,i,h=>by simp at h
 | [x],_,_,_,i,h=>by simp at h
 |x::y::xs,prev,s,hp,i,h=>by
  simp only[gB,Bool.and_eq_true,decide_eq_true_eq]at hp
  cases i with
  |zero=>simpa using hp.2.2.2.2.1
  |succ i=>
   have h2:gB (y::xs) x (s+x)=true:=by
    simp only[gB,Bool.and_eq_true,decide_eq_true_eq]
    exact hp.2.2.2
   have:=tW h2 i (by simpa using h)
   simpa using this
def nR(r:List Int)(y:Int):Nat→Option Nat
 |0=>none
 |i+1=>if r.getD i 0<y then some i else nR r y i
theorem uN{r:List Int}{y:Int}: ∀{m q:Nat},nR r y m=some q→q<m∧r.getD q 0<y
 |0,q,h=>by simp[nR]at h
 |m+1,q,h=>by
  unfold nR at h
  split at h
  ·next hc=>injection h with h;subst h;exact⟨by omega,hc⟩
  ·have:=uN h;exact⟨by omega,this.2⟩
theorem yu{r:List Int}{y:Int}: ∀{m i:Nat},i<m→r.getD i 0<y→ ∃q,nR r y m=some q
 |0,i,h,_=>by omega
 |m+1,i,h,hi=>by
  unfold nR
  split
  ·exact⟨_,rfl⟩
  ·next hc=>
   have:i≠m:=fun e=>hc (e▸hi)
   exact yu (by omega) hi
def nZ:Nat→List (List Int)→Int→List (List Int)×Int
 |0,rs,y=>(rs,y)
 |r+1,rs,y=>match nR (rs.getD r []) y (rs.getD r []).length with
  |some q=>nZ r (rs.set r ((rs.getD r []).set q y)) ((rs.getD r []).getD q 0)
  |none=>nZ r rs y
theorem getD_set_ne{α:Type}{xs:List α}{i j:Nat}(h:j≠i)(x d:α):(xs.set j x).getD i d=xs.getD i d:=by
 simp only[List.getD_eq_getElem?_getD,List.getElem?_set]
 rw[if_neg h]
theorem sd{n m:Nat}: ∀(r:Nat) (rs:List (List Int)) (y:Int),cj n m rs→cj n m (nZ r rs y).1
 |0,_,_,h=>h
 |r+1,rs,y,h=>by
  unfold nZ
  split
  ·exact sd r _ _ (h.set r (by rw[List.length_set];exact h.at r))
  ·exact sd r rs y h
def nG (rs : List (List Int)) (row : Nat) : List (List Int) × Int :=
  ((if (rs.getD row []).length = 1 then (nZ row (rs.set row ((rs.getD row []).take ((rs.getD row []).length - 1))) ((rs.getD row []).getD ((rs.getD row []).length - 1) 0)).1.take row
    else (nZ row (rs.set row ((rs.getD row []).take ((rs.getD row []).length - 1))) ((rs.getD row []).getD ((rs.getD row []).length - 1) 0)).1),
   (nZ row (rs.set row ((rs.getD row []).take ((rs.getD row []).length - 1))) ((rs.getD row []).getD ((rs.getD row []).length - 1) 0)).2)
theorem zq{n m:Nat}{rs:List (List Int)}(h:cj n m rs)(row:Nat):cj n m (nG rs row).1:=by
 have h1:=sd row (rs.set row ((rs.getD row []).take ((rs.getD row []).length-1))) ((rs.getD row []).getD ((rs.getD row []).length-1) 0) (h.set row (by rw[List.length_take];have:=h.at row;omega))
 unfold nG
 simp only
 split
 ·exact⟨by rw[List.length_take];have:=h1.1;omega,fun x hx=>h1.2 x (List.mem_of_mem_take hx)⟩
 ·exact h1
theorem cy{t:Tab}(h:aL t=true):t.1= []:=by
 simp only[aL,Bool.and_eq_true,decide_eq_true_eq]at h
 exact List.eq_nil_of_length_eq_zero h.2
theorem dD{t:Tab}(h:aL t=true){i:Nat}(hi:i<t.2.length):(outer t).getD i 0=(t.2.getD i []).length:=by
 have e:=fC t.1 t.2 0 i hi
 rw[cy h]at e
 unfold outer
 rw[cy h,e]
 simp
theorem gu{t:Tab}(h:aL t=true):bm (outer t)=true:=by
 simp only[aL,Bool.and_eq_true]at h
 have hs:=mJ h.1
 simp only[dA,ct,Bool.and_eq_true]at hs
 exact hs.2.2.2.1
theorem bD(t:Tab):(outer t).length=t.2.length:=by unfold outer;rw[l7]
theorem fN{t:Tab}(h:aL t=true):cj 9 9 t.2:=by
 have h9:=jm h
 have hl:=(aY (gu h)).2.2.1
 rw[bD]at hl
 exact⟨hl,fun r hr=>by have:=wx hr;omega⟩
theorem jh{t:Tab}(h:aL t=true): ∀i,i+1<t.2.length→(t.2.getD (i+1) []).length≤(t.2.getD i []).length∧ ∀q,q<(t.2.getD (i+1) []).length→(t.2.getD i []).getD q 0<(t.2.getD (i+1) []).getD q 0:=by
 intro i hi
 have hm:=tW (show gB (outer t) 9 0=true from gu h) i (by rw[bD];exact hi)
 rw[dD h hi,dD h (by omega)]at hm
 have hl:(t.2.getD (i+1) []).length≤(t.2.getD i []).length:=by omega
 refine⟨hl,fun q hq=> ?_⟩
 have ht:=h
 simp only[aL,Bool.and_eq_true]at ht
 have ht:=ht.1
 simp only[dM,Bool.and_eq_true]at ht
 have h1:=dm.1 (dm.1 ht.2 (i+1) hi) q hq
 simp only[fQ,Bool.and_eq_true,Bool.or_eq_true,decide_eq_true_eq]at h1
 have h2:=h1.2.2.resolve_left (by omega)
 rw[cy h]at h2
 have e:((i+1:Nat):Int)-1=(i:Int):=by omega
 have e2:([]:List Int).getD (i+1) 0+(q:Int)=([]:List Int).getD i 0+(q:Int):=by simp
 rw[e,e2]at h2
 have ee:entry t (i:Int) (([]:List Int).getD i 0+(q:Int))=(t.2.getD i []).getD q 0:=by
  have:=A9 (t:=t) (r:=i) (q:=q) (by omega)
  rw[cy h]at this
  exact this
 rw[ee]at h2
 exact h2
end Go.Am.Pu
end
section
/- Rows with noughts in front; a box taken from a partition. Plain words. -/
namespace Go.Am.Pu
def pJ(a:List (List Int))(i c:Int):Int:=if i<0 then 0 else atI (a.getD i.toNat []) c
theorem mN(a:List (List Int))(i j:Nat):pJ a i j=(a.getD i []).getD j 0:=by
 unfold pJ
 rw[if_neg (by omega),ca,Int.toNat_natCast]
theorem xY{a:List (List Int)}{i c:Int}(h:i<0):pJ a i c=0:=by unfold pJ;rw[if_pos h]
theorem EZ{a:List (List Int)}{i c:Int}(h:(a.length:Int)≤i):pJ a i c=0:=by
 unfold pJ
 rw[if_neg (by omega),aQ (by omega)]
 unfold atI
 split<;>simp
def bP(t:Tab):List (List Int):=(List.range' 0 t.2.length).map fun i=>List.replicate (t.1.getD i 0).toNat 0++t.2.getD i []
theorem fV(t:Tab):(bP t).length=t.2.length:=by simp[bP]
theorem sg{t:Tab}{i:Nat}(h:i<t.2.length):(bP t).getD i []=List.replicate (t.1.getD i 0).toNat 0++t.2.getD i []:=by
 rw[al (by rw[fV];exact h)]
 simp[bP]
theorem w5(p:List Int): ∀(m i n:Nat),i≤n→n<i+m→p.getD (n+1) 0<p.getD n 0→(n:Int)∈ni p m i
 |0,i,n,h1,h2,_=>by omega
 |m+1,i,n,h1,h2,h3=>by
  unfold ni
  by_cases e:n=i
  ·subst e
   rw[if_pos h3]
   exact List.mem_cons_self
  ·have ih:=w5 p m (i+1) n (by omega) (by omega) h3
   split
   ·exact List.mem_cons_of_mem _ ih
   ·exact ih
theorem vh{p:List Int}{n:Nat}(hp:bm p=true)(hn:n<p.length)(h:p.getD (n+1) 0<p.getD n 0):has (nF p) n=true:=by
 rw[mr]
 unfold nF
 rw[if_pos hp]
 exact w5 p p.length 0 n (by omega) (by omega) h
def aB(p:List Int)(n:Nat):List Int:=if p.getD n 0-1=0 then p.take n else p.set n (p.getD n 0-1)
theorem lP(p:List Int)(n:Nat):(aB p n).length≤p.length:=by
 unfold aB
 split
 ·rw[List.length_take];omega
 ·rw[List.length_set];exact Nat.le_refl _
end Go.Am.Pu
end
section
/- A slide: the hole goes right or down until nothing is there. Plain words. -/
namespace Go.Am.Pu
def cel(g:List (List Int))(r c:Nat):Int:=(g.getD r []).getD c 0
def fb(g:List (List Int))(r c:Nat)(v:Int):List (List Int):=g.set r ((g.getD r []).set c v)
def bT:Nat→List (List Int)→Nat→Nat→List (List Int)×(Nat×Nat)
 |0,g,i,c=>(g,(i,c))
 |m+1,g,i,c=>if cel g i (c+1)=0∧cel g (i+1) c=0 then(g,(i,c))
  else if cel g i (c+1)=0∨(0<cel g (i+1) c∧cel g (i+1) c≤cel g i (c+1))then bT m (fb g i c (cel g (i+1) c)) (i+1) c
  else bT m (fb g i c (cel g i (c+1))) i (c+1)
theorem nX{g:List (List Int)}{r c:Nat}(h:cel g r c≠0):r<g.length∧c<(g.getD r []).length:=by
 unfold cel at h
 by_cases h1:r<g.length
 ·refine⟨h1,?_⟩
  by_cases h2:c<(g.getD r []).length
  ·exact h2
  ·exact absurd (aQ (by omega) 0) h
 ·rw[aQ (xs:=g) (by omega)]at h
  simp at h
theorem dy(g:List (List Int))(r c:Nat)(v:Int):(fb g r c v).length=g.length:=by unfold fb;rw[List.length_set]
theorem bp(g:List (List Int))(r c:Nat)(v:Int)(q:Nat):((fb g r c v).getD q []).length=(g.getD q []).length:=by
 unfold fb
 by_cases e:q=r
 ·subst e
  by_cases h:q<g.length
  ·rw[al (by rw[List.length_set];exact h),List.getElem_set_self,List.length_set]
  ·rw[aQ (by rw[List.length_set];omega),aQ (by omega)]
 ·rw[getD_set_ne (Ne.symm e)]
theorem iN{g:List (List Int)}{r c:Nat}(v:Int)(h1:r<g.length)(h2:c<(g.getD r []).length):cel (fb g r c v) r c=v:=by
 unfold cel fb
 rw[al (xs:=g.set r _) (by rw[List.length_set];exact h1),List.getElem_set_self,al (by rw[List.length_set];exact h2),List.getElem_set_self]
theorem gU{g:List (List Int)}{r c q x:Nat}(v:Int)(h: ¬(q=r∧x=c)):cel (fb g r c v) q x=cel g q x:=by
 unfold cel fb
 by_cases e:q=r
 ·subst e
  have hx:x≠c:=fun e=>h ⟨rfl,e⟩
  by_cases hl:q<g.length
  ·rw[al (xs:=g.set q _) (by rw[List.length_set];exact hl),List.getElem_set_self,getD_set_ne (Ne.symm hx)]
  ·rw[aQ (xs:=g.set q _) (by rw[List.length_set];omega),aQ (xs:=g) (by omega)]
 ·rw[getD_set_ne (Ne.symm e)]
structure Sl (q : List Int) (g : List (List Int)) (i c : Nat) : Prop where
  q0 : ∀ r, 0 ≤ q.getD r 0
  qm : ∀ r, q.getD (r + 1) 0 ≤ q.getD r 0
  lm : ∀ r, (g.getD (r + 1) []).length ≤ (g.getD r []).length
  hi : i < g.length
  hc : c < (g.getD i []).length
  hq : q.getD i 0 ≤ c
  pos : ∀ r x, 0 ≤ cel g r x
  num : ∀ r x : Nat, q.getD r 0 ≤ x → x < (g.getD r []).length → ¬ (r = i ∧ x = c) → 1 ≤ cel g r x ∧ cel g r x ≤ 9
  row : ∀ r x : Nat, q.getD r 0 ≤ x → x + 1 < (g.getD r []).length → ¬ (r = i ∧ x = c) → ¬ (r = i ∧ x + 1 = c) → cel g r x ≤ cel g r (x + 1)
  col : ∀ r x : Nat, q.getD r 0 ≤ x → x < (g.getD (r + 1) []).length → ¬ (r = i ∧ x = c) → ¬ (r + 1 = i ∧ x = c) → cel g r x < cel g (r + 1) x
  Gn : ∀ x : Nat, x + 1 = c → q.getD i 0 ≤ x → c + 1 < (g.getD i []).length → cel g i x ≤ cel g i (c + 1)
  colH : ∀ r : Nat, r + 1 = i → q.getD r 0 ≤ c → c < (g.getD (i + 1) []).length → cel g r c < cel g (i + 1) c
theorem Sl.down{q:List Int}{g:List (List Int)}{i c:Nat}(h:Sl q g i c)(hb:cel g (i+1) c≠0)(hr:cel g i (c+1)=0∨(0<cel g (i+1) c∧cel g (i+1) c≤cel g i (c+1))):
  Sl q (fb g i c (cel g (i+1) c)) (i+1) c:=by
 obtain⟨b1,b2⟩:=nX hb
 have hqm:=h.qm i
 have hq:=h.hq
 have hbn:=h.num (i+1) c (by omega) b2 (by omega)
 have e0:=iN (cel g (i+1) c) h.hi h.hc
 have en: ∀r x,¬(r=i∧x=c)→cel (fb g i c (cel g (i+1) c)) r x=cel g r x:=fun r x hh=>gU _ hh
 refine⟨h.q0,h.qm,fun r=> ?_,?_,?_,by omega,fun r x=> ?_,fun r x h1 h2 h3=> ?_,fun r x h1 h2 h3 h4=> ?_,fun r x h1 h2 h3 h4=> ?_,fun x h1 h2 h3=> ?_,fun r h1 h2 h3=> ?_⟩
 ·rw[bp,bp];exact h.lm r
 ·rw[dy];exact b1
 ·rw[bp];exact b2
 ·by_cases e:r=i∧x=c
  ·rw[e.1,e.2,e0];exact h.pos _ _
  ·rw[en r x e];exact h.pos _ _
 ·rw[bp]at h2
  by_cases e:r=i∧x=c
  ·rw[e.1,e.2,e0];exact hbn
  ·rw[en r x e];exact h.num r x h1 h2 e
 ·rw[bp]at h2
  by_cases e:r=i∧x=c
  ·obtain⟨rfl,rfl⟩:=e
   rw[e0,en _ _ (by omega)]
   rcases hr with hr|hr
   ·have:=(h.num r (x+1) (by omega) h2 (by omega)).1
    omega
   ·exact hr.2
  ·rw[en r x e]
   by_cases e':r=i∧x+1=c
   ·obtain⟨rfl,rfl⟩:=e'
    rw[e0]
    have hl:=h.lm r
    have h5:=h.col r x h1 (by omega) (by omega) (by omega)
    have h6:=h.row (r+1) x (by omega) (by omega) (by omega) (by omega)
    omega
   ·rw[en r (x+1) e'];exact h.row r x h1 h2 e e'
 ·rw[bp]at h2
  by_cases e:r=i∧x=c
  ·exact(h4 ⟨by omega,e.2⟩).elim
  ·rw[en r x e]
   by_cases e':r+1=i∧x=c
   ·obtain⟨rfl,rfl⟩:=e'
    rw[e0]
    exact h.colH r rfl h1 b2
   ·rw[en (r+1) x e']
    exact h.col r x h1 h2 e e'
 ·rw[bp]at h3
  rw[en _ _ (by omega),en _ _ (by omega)]
  have h5:=h.row (i+1) x h2 (by omega) (by omega) (by omega)
  have h6:=h.row (i+1) c (by omega) h3 (by omega) (by omega)
  subst h1
  omega
 ·rw[bp]at h3
  have:r=i:=by omega
  subst this
  rw[e0,en _ _ (by omega)]
  exact h.col (r+1) c (by omega) h3 (by omega) (by omega)
theorem Sl.right{q:List Int}{g:List (List Int)}{i c:Nat}(h:Sl q g i c)(hr:cel g i (c+1)≠0)(hb: ¬(0<cel g (i+1) c∧cel g (i+1) c≤cel g i (c+1))):
  Sl q (fb g i c (cel g i (c+1))) i (c+1):=by
 obtain⟨b1,b2⟩:=nX hr
 have hq:=h.hq
 have hrn:=h.num i (c+1) (by omega) b2 (by omega)
 have e0:=iN (cel g i (c+1)) h.hi h.hc
 have en: ∀r x,¬(r=i∧x=c)→cel (fb g i c (cel g i (c+1))) r x=cel g r x:=fun r x hh=>gU _ hh
 refine⟨h.q0,h.qm,fun r=> ?_,?_,?_,by omega,fun r x=> ?_,fun r x h1 h2 h3=> ?_,fun r x h1 h2 h3 h4=> ?_,fun r x h1 h2 h3 h4=> ?_,fun x h1 h2 h3=> ?_,fun r h1 h2 h3=> ?_⟩
 ·rw[bp,bp];exact h.lm r
 ·rw[dy];exact b1
 ·rw[bp];exact b2
 ·by_cases e:r=i∧x=c
  ·rw[e.1,e.2,e0];exact h.pos _ _
  ·rw[en r x e];exact h.pos _ _
 ·rw[bp]at h2
  by_cases e:r=i∧x=c
  ·rw[e.1,e.2,e0];exact hrn
  ·rw[en r x e];exact h.num r x h1 h2 e
 ·rw[bp]at h2
  by_cases e:r=i∧x=c
  ·exact(h4 ⟨e.1,by omega⟩).elim
  ·rw[en r x e]
   by_cases e':r=i∧x+1=c
   ·obtain⟨rfl,rfl⟩:=e'
    rw[e0]
    exact h.Gn x rfl h1 b2
   ·rw[en r (x+1) e'];exact h.row r x h1 h2 e e'
 ·rw[bp]at h2
  by_cases e:r=i∧x=c
  ·obtain⟨rfl,rfl⟩:=e
   rw[e0,en _ _ (by omega)]
   have hqm:=h.qm r
   have h5:=(h.num (r+1) x (by omega) h2 (by omega)).1
   omega
  ·rw[en r x e]
   by_cases e':r+1=i∧x=c
   ·obtain⟨rfl,rfl⟩:=e'
    rw[e0]
    have hl:=h.lm r
    have h5:=h.row r x h1 (by omega) (by omega) (by omega)
    have h6:=h.col r (x+1) (by omega) b2 (by omega) (by omega)
    omega
   ·rw[en (r+1) x e']
    exact h.col r x h1 h2 e e'
 ·rw[bp]at h3
  have:x=c:=by omega
  subst this
  rw[e0,en _ _ (by omega)]
  exact h.row i (x+1) (by omega) h3 (by omega) (by omega)
 ·rw[bp]at h3
  rw[en _ _ (by omega),en _ _ (by omega)]
  subst h1
  have h5:=h.col r (c+1) h2 (by omega) (by omega) (by omega)
  have h6:=h.col (r+1) (c+1) (by omega) h3 (by omega) (by omega)
  omega
end Go.Am.Pu
end
section
/- A slide's end and its start. Plain words. -/
namespace Go.Am.Pu
theorem rI{q:List Int}{w:Nat}: ∀(m:Nat) (g:List (List Int)) (i c:Nat),Sl q g i c→(∀r,(g.getD r []).length≤w)→g.length+w≤i+c+m→
  Sl q (bT m g i c).1 (bT m g i c).2.1 (bT m g i c).2.2∧(bT m g i c).1.length=g.length∧(∀r,((bT m g i c).1.getD r []).length=(g.getD r []).length)∧
   cel (bT m g i c).1 (bT m g i c).2.1 ((bT m g i c).2.2+1)=0∧cel (bT m g i c).1 ((bT m g i c).2.1+1) (bT m g i c).2.2=0
 |0,g,i,c,h,hw,hm=>by
  have h1:=h.hi
  have h2:=h.hc
  have h3:=hw i
  omega
 |m+1,g,i,c,h,hw,hm=>by
  unfold bT
  by_cases c1:cel g i (c+1)=0∧cel g (i+1) c=0
  ·rw[if_pos c1]
   exact⟨h,rfl,fun _=>rfl,c1.1,c1.2⟩
  ·rw[if_neg c1]
   by_cases c2:cel g i (c+1)=0∨(0<cel g (i+1) c∧cel g (i+1) c≤cel g i (c+1))
   ·rw[if_pos c2]
    have hd:=h.down (by
     intro e
     rcases c2 with c2|c2
     ·exact c1 ⟨c2,e⟩
     ·omega) c2
    obtain⟨a1,a2,a3,a4,a5⟩:=rI (q:=q) (w:=w) m _ _ _ hd (fun r=>by rw[bp];exact hw r) (by rw[dy];omega)
    exact⟨a1,by rw[a2,dy],fun r=>by rw[a3,bp],a4,a5⟩
   ·rw[if_neg c2]
    have hd:=h.right (fun e=>c2 (.inl e)) (fun e=>c2 (.inr e))
    obtain⟨a1,a2,a3,a4,a5⟩:=rI (q:=q) (w:=w) m _ _ _ hd (fun r=>by rw[bp];exact hw r) (by rw[dy];omega)
    exact⟨a1,by rw[a2,dy],fun r=>by rw[a3,bp],a4,a5⟩
theorem Sl.Gj{q:List Int}{g:List (List Int)}{i c:Nat}(h:Sl q g i c)(hr:cel g i (c+1)=0):(g.getD i []).length=c+1:=by
 have h1:=h.hc
 have h2:=h.hq
 refine Nat.le_antisymm (Nat.le_of_not_lt fun hlt=> ?_) h1
 have:=(h.num i (c+1) (by omega) hlt (by omega)).1
 omega
theorem Sl.Gx{q:List Int}{g:List (List Int)}{i c:Nat}(h:Sl q g i c)(hb:cel g (i+1) c=0):(g.getD (i+1) []).length≤c:=by
 have h2:=h.hq
 have h3:=h.qm i
 refine Nat.le_of_not_lt fun hlt=> ?_
 have:=(h.num (i+1) c (by omega) hlt (by omega)).1
 omega
theorem fH{p:List Int}(hp:bm p=true)(r:Nat):p.getD (r+1) 0≤p.getD r 0:=by
 by_cases h:r+1<p.length
 ·exact tW hp r h
 ·rw[aQ (by omega)]
  have:=(cQ hp r).1
  rw[ca]at this
  exact this
theorem kS{p:List Int}{n:Nat}(hp:bm p=true)(hn:n<p.length)(hc:p.getD (n+1) 0<p.getD n 0)(r:Nat):(aB p n).getD r 0=if r=n then p.getD n 0-1 else p.getD r 0:=by
 unfold aB
 by_cases h:p.getD n 0-1=0
 ·rw[if_pos h]
  have h0:=(cQ hp (n+1:Nat)).1
  rw[ca]at h0
  have hl:p.length≤n+1:=by
   refine Nat.le_of_not_lt fun hlt=> ?_
   have:=(aY hp).1 _ (List.getElem_mem hlt)
   rw[←al hlt 0]at this
   omega
  by_cases e:r=n
  ·subst e
   rw[if_pos rfl,h,aQ (by rw[List.length_take];omega)]
  ·rw[if_neg e]
   by_cases e2:r<n
   ·rw[al (by rw[List.length_take];omega),List.getElem_take,al (by omega)]
   ·rw[aQ (by rw[List.length_take];omega),aQ (by omega)]
 ·rw[if_neg h]
  by_cases e:r=n
  ·subst e
   rw[if_pos rfl,al (by rw[List.length_set];exact hn),List.getElem_set_self]
  ·rw[if_neg e,getD_set_ne (Ne.symm e)]
theorem og{t:Tab}{r:Nat}(h:r<t.2.length):((bP t).getD r []).length=(t.1.getD r 0).toNat+(t.2.getD r []).length:=by
 rw[sg h];simp
theorem pG{t:Tab}{r:Nat}(h:r<t.2.length)(x:Nat):cel (bP t) r x=if x<(t.1.getD r 0).toNat then 0 else(t.2.getD r []).getD (x-(t.1.getD r 0).toNat) 0:=by
 unfold cel
 rw[sg h]
 generalize(t.1.getD r 0).toNat=n
 generalize t.2.getD r []=y
 by_cases c:x<n
 ·rw[if_pos c]
  simp only[List.getD_eq_getElem?_getD]
  rw[List.getElem?_append_left (by rw[List.length_replicate];exact c),List.getElem?_replicate,if_pos c]
  rfl
 ·rw[if_neg c]
  simp only[List.getD_eq_getElem?_getD]
  rw[List.getElem?_append_right (by rw[List.length_replicate];omega),List.length_replicate]
theorem sZ{t:Tab}{r:Nat}(h:t.2.length≤r):(bP t).getD r []= []:=aQ (by rw[fV];exact h) []
structure Ij (t : Tab) : Prop where
  q0 : ∀ r, 0 ≤ t.1.getD r 0
  qm : ∀ r, t.1.getD (r + 1) 0 ≤ t.1.getD r 0
  lm : ∀ r, ((bP t).getD (r + 1) []).length ≤ ((bP t).getD r []).length
  num : ∀ r x : Nat, t.1.getD r 0 ≤ x → x < ((bP t).getD r []).length → 1 ≤ cel (bP t) r x ∧ cel (bP t) r x ≤ 9
  row : ∀ r x : Nat, t.1.getD r 0 ≤ x → x + 1 < ((bP t).getD r []).length → cel (bP t) r x ≤ cel (bP t) r (x + 1)
  col : ∀ r x : Nat, t.1.getD r 0 ≤ x → x < ((bP t).getD (r + 1) []).length → cel (bP t) r x < cel (bP t) (r + 1) x
end Go.Am.Pu
end
section
/- A tableau cell by cell; a slide's start. Plain words. -/
namespace Go.Am.Pu
theorem iB{t:Tab}(h:dM t=true):bm t.1=true∧bm (outer t)=true∧t.1.length≤t.2.length∧(∀i k,i<t.2.length→k<(t.2.getD i []).length→fQ t i k=true):=by
 simp only[dM,dA,ct,Bool.and_eq_true,decide_eq_true_eq]at h
 obtain⟨⟨h1,h2,h3,h4,h5⟩,h6⟩:=h
 refine⟨h1,h4,h2,fun i k hi hk=> ?_⟩
 rw[dm]at h6
 have:=h6 i hi
 rw[dm]at this
 exact this k hk
theorem jY{t:Tab}(h:bm t.1=true)(r:Nat):(((bP t).getD r []).length:Int)=(outer t).getD r 0:=by
 have h0:=(cQ h r).1
 rw[ca]at h0
 by_cases hr:r<t.2.length
 ·rw[og hr]
  have:=fC t.1 t.2 0 r hr
  rw[Nat.zero_add]at this
  unfold outer
  rw[this]
  omega
 ·rw[sZ (by omega),aQ (by rw[bD];omega)]
  rfl
theorem qK{t:Tab}{r x:Nat}(h:x<((bP t).getD r []).length):r<t.2.length:=by
 refine Nat.lt_of_not_le fun hle=> ?_
 rw[sZ hle]at h
 simp at h
theorem Ii{t:Tab}(h:dM t=true):Ij t:=by
 obtain⟨hp,ho,hl,hc⟩:=iB h
 have q0: ∀r,0≤t.1.getD r 0:=fun r=>by
  have:=(cQ hp r).1
  rw[ca]at this
  exact this
 have at_: ∀r x:Nat,t.1.getD r 0≤x→x<((bP t).getD r []).length→ ∃k:Nat,(x:Int)=t.1.getD r 0+k∧k<(t.2.getD r []).length∧cel (bP t) r x=(t.2.getD r []).getD k 0:=by
  intro r x h1 h2
  have hr:=qK h2
  rw[og hr]at h2
  have:=q0 r
  refine⟨x-(t.1.getD r 0).toNat,by omega,by omega,?_⟩
  rw[pG hr,if_neg (by omega)]
 refine⟨q0,fH hp,fun r=> ?_,fun r x h1 h2=> ?_,fun r x h1 h2=> ?_,fun r x h1 h2=> ?_⟩
 ·have a:=jY hp r
  have b:=jY hp (r+1)
  have c:=fH ho r
  omega
 ·obtain⟨k,e1,e2,e3⟩:=at_ r x h1 h2
  have:=hc r k (qK h2) e2
  simp only[fQ,within,Bool.and_eq_true,decide_eq_true_eq]at this
  rw[e3]
  exact this.1
 ·obtain⟨k,e1,e2,e3⟩:=at_ r x h1 (by omega)
  obtain⟨k',e1',e2',e3'⟩:=at_ r (x+1) (by omega) h2
  have:k'=k+1:=by omega
  subst this
  have:=hc r (k+1) (qK h2) e2'
  simp only[fQ,Bool.and_eq_true,Bool.or_eq_true,decide_eq_true_eq]at this
  rw[e3,e3']
  rcases this.2.1 with h|h
  ·omega
  ·simpa using h
 ·have hm:=fH hp r
  have a:=jY hp r
  have b:=jY hp (r+1)
  have c:=fH ho r
  obtain⟨k,e1,e2,e3⟩:=at_ r x h1 (by omega)
  obtain⟨k',e1',e2',e3'⟩:=at_ (r+1) x (by omega) h2
  have:=hc (r+1) k' (qK h2) e2'
  simp only[fQ,Bool.and_eq_true,Bool.or_eq_true,decide_eq_true_eq]at this
  rw[e3,e3']
  rcases this.2.2 with h|h
  ·omega
  ·have hr:r<t.2.length:=by have:=qK h2;omega
   have er:((r+1:Nat):Int)-1=(r:Int):=by omega
   rw[er,jA hr,show t.1.getD (r+1) 0+(k':Int)-t.1.getD r 0=(k:Int) by omega,ca]at h
   exact h
theorem qx{t:Tab}(h:dM t=true){n:Nat}(hn:n<t.1.length)(hc:t.1.getD (n+1) 0<t.1.getD n 0):
  Sl (aB t.1 n) (bP t) n (t.1.getD n 0-1).toNat:=by
 have hP:=Ii h
 obtain⟨hp,ho,hl,_⟩:=iB h
 have h1:=hP.q0 (n+1)
 have hd:=kS hp hn hc
 have hne:t.2.length>n:=by omega
 have hrow:=og hne
 have hlen:(t.1.getD n 0).toNat≤((bP t).getD n []).length:=by rw[hrow];omega
 have old: ∀r x:Nat,(aB t.1 n).getD r 0≤x→ ¬(r=n∧x=(t.1.getD n 0-1).toNat)→t.1.getD r 0≤x:=by
  intro r x h2 h3
  rw[hd]at h2
  by_cases e:r=n
  ·subst e
   rw[if_pos rfl]at h2
   have:x≠(t.1.getD r 0-1).toNat:=fun e=>h3 ⟨rfl,e⟩
   omega
  ·rw[if_neg e]at h2
   exact h2
 refine⟨fun r=> ?_,fun r=> ?_,hP.lm,by rw[fV];exact hne,by omega,by rw[hd,if_pos rfl];omega,fun r x=> ?_,fun r x h2 h3 h4=>hP.num r x (old r x h2 h4) h3,
  fun r x h2 h3 h4 h5=>hP.row r x (old r x h2 h4) h3,fun r x h2 h3 h4 h5=>hP.col r x (old r x h2 h4) h3,fun x h2 h3 h4=> ?_,fun r h2 h3 h4=> ?_⟩
 ·rw[hd]
  have:=hP.q0 r
  split<;>omega
 ·rw[hd,hd]
  have:=hP.qm r
  by_cases e:r=n
  ·subst e
   rw[if_neg (by omega),if_pos rfl];omega
  ·rw[if_neg e]
   by_cases e2:r+1=n
   ·subst e2;rw[if_pos rfl];omega
   ·rw[if_neg e2];exact this
 ·by_cases hx:x<((bP t).getD r []).length
  ·have hr:=qK hx
   by_cases hq:t.1.getD r 0≤x
   ·have:=(hP.num r x hq hx).1;omega
   ·rw[pG hr,if_pos (by omega)];exact Int.le_refl _
  ·unfold cel
   rw[aQ (by omega)];exact Int.le_refl _
 ·
  rw[hd,if_pos rfl]at h3
  omega
 ·
  rw[hd,if_neg (by omega)]at h3
  subst h2
  have:=hP.qm r
  omega
end Go.Am.Pu
end
section
/- A partition less a box; the tableau that a slide leaves. Plain words. -/
namespace Go.Am.Pu
theorem kV: ∀(p:List Int) (prev s:Int),(∀x∈p,1≤x)→(0<p.length→p.getD 0 0≤prev)→(∀i,i+1<p.length→p.getD (i+1) 0≤p.getD i 0)→s+dg p≤9→gB p prev s=true
 | [],_,_,_,_,_,_=>rfl
 |x::xs,prev,s,h1,h2,h3,h4=>by
  have hs: ∀(l:List Int),(∀y∈l,1≤y)→0≤dg l:=by
   intro l
   induction l with
   |nil=>intro _;simp[dg]
   |cons y l ih=>
    intro h
    have a:=h y List.mem_cons_self
    have b:=ih (fun z hz=>h z (List.mem_cons_of_mem _ hz))
    simp only[dg];omega
  have hx:=h1 x List.mem_cons_self
  have hxs:=hs xs (fun z hz=>h1 z (List.mem_cons_of_mem _ hz))
  have h2':=h2 (by simp)
  simp only[List.getD_cons_zero]at h2'
  simp only[dg]at h4
  have ih:=kV xs x (s+x) (fun z hz=>h1 z (List.mem_cons_of_mem _ hz)) (fun hl=>by have:=h3 0 (by simpa using hl);simpa using this) (fun i hi=>by have:=h3 (i+1) (by simpa using hi);simpa using this) (by omega)
  simp only[gB,Bool.and_eq_true,decide_eq_true_eq]
  exact⟨hx,h2',by omega,ih⟩
theorem qw: ∀(p:List Int) (n:Nat) (v:Int),n<p.length→dg (p.set n v)=dg p-p.getD n 0+v
 | [],n,v,h=>by simp at h
 |x::xs,0,v,_=>by simp[dg];omega
 |x::xs,n+1,v,h=>by
  have:=qw xs n v (by simpa using h)
  simp only[List.set_cons_succ,dg,List.getD_cons_succ,this]
  omega
theorem yR: ∀(p:List Int) (n:Nat),p.length=n+1→dg (p.take n)=dg p-p.getD n 0
 | [],n,h=>by simp at h
 | [x],0,_=>by simp[dg]
 |x::xs,n+1,h=>by
  have:=yR xs n (by simpa using h)
  simp only[List.take_succ_cons,dg,List.getD_cons_succ,this]
  omega
 |x::y::xs,0,h=>by simp at h
theorem oG{p:List Int}{n:Nat}(hp:bm p=true)(hc:p.getD (n+1) 0<p.getD n 0)(h:p.getD n 0-1=0):p.length≤n+1:=by
 have h0:=(cQ hp (n+1:Nat)).1
 rw[ca]at h0
 refine Nat.le_of_not_lt fun hlt=> ?_
 have:=(aY hp).1 _ (List.getElem_mem hlt)
 rw[←al hlt 0]at this
 omega
theorem vT{p:List Int}{n:Nat}(hp:bm p=true)(hn:n<p.length)(hc:p.getD (n+1) 0<p.getD n 0){i:Nat}(hi:i<(aB p n).length):1≤(aB p n).getD i 0:=by
 rw[kS hp hn hc]
 have hl:=lP p n
 have h1: ∀i,i<p.length→1≤p.getD i 0:=fun i hi=>by
  rw[al hi]
  exact((aY hp).1 _ (List.getElem_mem hi)).1
 by_cases h:p.getD n 0-1=0
 ·unfold aB at hi
  rw[if_pos h,List.length_take]at hi
  rw[if_neg (by omega)]
  exact h1 i (by omega)
 ·have a:=h1 n hn
  have b:=h1 i (by omega)
  split<;>omega
theorem oj{p:List Int}{n:Nat}(hp:bm p=true)(hn:n<p.length)(hc:p.getD (n+1) 0<p.getD n 0):bm (aB p n)=true:=by
 have hs:=aY hp
 have hg:=kS hp hn hc
 have hpn:1≤p.getD n 0:=by
  rw[al hn]
  exact(hs.1 _ (List.getElem_mem hn)).1
 refine kV _ _ _ (fun x hx=> ?_) (fun _=> ?_) (fun i _=> ?_) ?_
 ·obtain⟨i,hi,rfl⟩:=List.getElem_of_mem hx
  rw[←al hi 0]
  exact vT hp hn hc hi
 ·rw[hg]
  have: ∀i,p.getD i 0≤9:=fun i=>by
   have:=(cQ hp i).2
   rw[ca]at this
   exact this
  have a:=this 0
  have b:=this n
  split<;>omega
 ·rw[hg,hg]
  have:=fH hp i
  by_cases e:i=n
  ·subst e
   rw[if_neg (by omega),if_pos rfl];omega
  ·rw[if_neg e]
   by_cases e2:i+1=n
   ·subst e2;rw[if_pos rfl];omega
   ·rw[if_neg e2];exact this
 ·have h9:=hs.2.1
  unfold aB
  split
  ·next h=>
   have hl:=oG hp hc h
   rw[yR p n (by omega)]
   omega
  ·rw[qw p n _ hn]
   omega
def cI(q:List Int)(g:List (List Int))(n:Nat):List (List Int):=(List.range' 0 n).map fun r=>(g.getD r []).drop (q.getD r 0).toNat
theorem eR(q:List Int)(g:List (List Int))(n:Nat):(cI q g n).length=n:=by simp[cI]
theorem jb{q:List Int}{g:List (List Int)}{n r:Nat}(h:r<n):(cI q g n).getD r []=(g.getD r []).drop (q.getD r 0).toNat:=by
 rw[al (by rw[eR];exact h)]
 simp[cI]
def lT(g:List (List Int))(i c:Nat):List (List Int):=g.set i ((g.getD i []).take c)
def gP(t:Tab)(n:Nat):List (List Int)×(Nat×Nat):=bT 18 (bP t) n (t.1.getD n 0-1).toNat
def iD(t:Tab)(n:Nat):Tab×Nat:=
 let s:=gP t n
 ((aB t.1 n,cI (aB t.1 n) (lT s.1 s.2.1 s.2.2) (aB (outer t) s.2.1).length),s.2.1)
end Go.Am.Pu
namespace Go.Am.Pu
def lF(t:Tab)(r:Nat):List Int:=(List.range' 0 11).map fun c=>entry t (r:Int) ((c:Nat):Int)
def od(t:Tab):List (List Int):=(List.range' 0 11).map fun r=>lF t r
theorem lg(t:Tab)(r:Nat):(lF t r).length=11:=by simp[lF]
theorem vW{t:Tab}{r c:Nat}(h:c<11):(lF t r).getD c 0=entry t r c:=by
 rw[al (by rw[lg];exact h)]
 simp[lF]
theorem td(t:Tab):(od t).length=11:=by simp[od]
theorem yV{t:Tab}{r:Nat}(h:r<11):(od t).getD r []=lF t r:=by
 rw[al (by rw[td];exact h)]
 simp[od]
theorem Cq{t:Tab}(hp:bm t.1=true){r c:Nat}(h1:r<11)(h2:c<11):cel (od t) r c=cel (bP t) r c:=by
 have h0:=(cQ hp r).1
 rw[ca]at h0
 unfold cel
 rw[yV h1,vW h2]
 by_cases hr:r<t.2.length
 ·rw[jA hr]
  have:=pG hr c
  unfold cel at this
  rw[this]
  by_cases hc:c<(t.1.getD r 0).toNat
  ·rw[if_pos hc,mG (by omega)]
  ·rw[if_neg hc,show(c:Int)-t.1.getD r 0=((c-(t.1.getD r 0).toNat:Nat):Int) by omega,ca]
 ·rw[sZ (by omega)]
  unfold entry
  rw[if_neg (by omega),if_pos (by omega)]
  simp
end Go.Am.Pu
end
section
/- What a slide leaves. Plain words. -/
namespace Go.Am.Pu
theorem zj{g:List (List Int)}{i c r:Nat}(hi:i<g.length):(lT g i c).getD r []=if r=i then(g.getD i []).take c else g.getD r []:=by
 unfold lT
 by_cases e:r=i
 ·subst e
  rw[if_pos rfl,al (by rw[List.length_set];exact hi),List.getElem_set_self]
 ·rw[if_neg e,getD_set_ne (Ne.symm e)]
theorem mE(g:List (List Int))(i c:Nat):(lT g i c).length=g.length:=by unfold lT;rw[List.length_set]
theorem CG{g:List (List Int)}{i c r x:Nat}(hi:i<g.length)(hx:x<((lT g i c).getD r []).length):cel (lT g i c) r x=cel g r x:=by
 unfold cel
 rw[zj hi]at hx⊢
 by_cases e:r=i
 ·subst e
  rw[if_pos rfl]at hx⊢
  rw[List.length_take]at hx
  rw[al (by rw[List.length_take];exact hx),List.getElem_take]
  exact(al (by omega) 0).symm
 ·rw[if_neg e]
structure xF (t : Tab) (n : Nat) (g : List (List Int)) (i c : Nat) : Prop where
  sl : Sl (aB t.1 n) g i c
  len : g.length = t.2.length
  row : ∀ r, (g.getD r []).length = ((bP t).getD r []).length
  hi : i < (outer t).length
  end_ : (outer t).getD i 0 = c + 1
  cor : (outer t).getD (i + 1) 0 < (outer t).getD i 0
  cutl : ∀ r, (((lT g i c).getD r []).length : Int) = (aB (outer t) i).getD r 0
  ins : ∀ r, (aB t.1 n).getD r 0 ≤ (aB (outer t) i).getD r 0
  rows : cj 9 9 (lT g i c)
theorem EG{t:Tab}(h:dM t=true){n:Nat}(hn:n<t.1.length)(hc:t.1.getD (n+1) 0<t.1.getD n 0):
  xF t n (gP t n).1 (gP t n).2.1 (gP t n).2.2∧cel (gP t n).1 (gP t n).2.1 ((gP t n).2.2+1)=0∧cel (gP t n).1 ((gP t n).2.1+1) (gP t n).2.2=0:=by
 obtain⟨hp,ho,hl,_⟩:=iB h
 have hout:=jY hp
 have h9: ∀r,(outer t).getD r 0≤9:=fun r=>by
  have:=(cQ ho r).2
  rw[ca]at this
  exact this
 have hol:=bD t
 have ho9:=(aY ho).2.2.1
 have hst:=qx h hn hc
 have hok:=rI (w:=9) 18 (bP t) n (t.1.getD n 0-1).toNat hst (fun r=>by have:=hout r;have:=h9 r;omega) (by rw[fV];omega)
 unfold gP
 generalize hS:bT 18 (bP t) n (t.1.getD n 0-1).toNat=S at hok
 obtain⟨g,i,c⟩:=S
 obtain⟨a1,a2,a3,a4,a5⟩:=hok
 simp only at a1 a2 a3 a4 a5⊢
 have er:=a1.Gj a4
 have ec:=a1.Gx a5
 have o1:=hout i
 have o2:=hout (i+1)
 rw[←a3]at o1 o2
 rw[fV]at a2
 have hi:=a1.hi
 have cor:(outer t).getD (i+1) 0<(outer t).getD i 0:=by omega
 have hdg:=kS ho (by omega) cor
 have hcl: ∀r,(((lT g i c).getD r []).length:Int)=(aB (outer t) i).getD r 0:=fun r=>by
  rw[zj hi,hdg]
  by_cases e:r=i
  ·rw[if_pos e,if_pos e,List.length_take];omega
  ·rw[if_neg e,if_neg e,a3,hout]
 refine⟨⟨a1,a2,a3,by omega,by omega,cor,hcl,fun r=> ?_,?_⟩,a4,a5⟩
 ·rw[hdg]
  by_cases e:r=i
  ·subst e
   rw[if_pos rfl]
   have:=a1.hq
   omega
  ·rw[if_neg e,kS hp hn hc]
   have hin:t.1.getD r 0≤(outer t).getD r 0:=by
    rw[←hout r]
    by_cases hr:r<t.2.length
    ·rw[og hr]
     have:=(cQ hp r).1
     rw[ca]at this
     omega
    ·rw[aQ (xs:=t.1) (by omega)]
     omega
   split
   ·next e2=>subst e2;omega
   ·exact hin
 ·refine⟨by rw[mE];omega,fun r hr=> ?_⟩
  obtain⟨k,hk,rfl⟩:=List.getElem_of_mem hr
  have a:=hcl k
  have b:=h9 k
  have c':=h9 i
  rw[al hk,hdg]at a
  split at a<;>omega
end Go.Am.Pu
end
section
/- The square that the reference slides in. Plain words. -/
namespace Go.Am.Pu
structure Sq (s g : List (List Int)) (i c : Nat) : Prop where
  len : s.length = 11
  row : ∀ r, r < 11 → (s.getD r []).length = 11
  at_ : ∀ r x, r < 11 → x < 11 → ¬ (r = i ∧ x = c) → cel s r x = cel g r x
  hole : cel s i c = 0
theorem Sq.step{s g:List (List Int)}{i c i' c':Nat}(h:Sq s g i c)(hi:i<g.length)(hc:c<(g.getD i []).length)(h1:i<11)(h2:c<11)(h3:i'<11)(h4:c'<11)(hne: ¬(i'=i∧c'=c))(v:Int):
  Sq (fb (fb s i c v) i' c' 0) (fb g i c v) i' c':=by
 refine⟨by rw[dy,dy];exact h.len,fun r hr=>by rw[bp,bp];exact h.row r hr,fun r x hr hx hn=> ?_,?_⟩
 ·rw[gU _ hn]
  by_cases e:r=i∧x=c
  ·obtain⟨rfl,rfl⟩:=e
   rw[iN _ (by rw[h.len];exact h1) (by rw[h.row _ h1];exact h2),iN _ hi hc]
  ·rw[gU _ e,gU _ e];exact h.at_ r x hr hx e
 ·rw[iN _ (by rw[dy,h.len];exact h3) (by rw[bp,h.row _ h3];exact h4)]
theorem EO{t:Tab}(h:dM t=true){n:Nat}(hn:n<t.1.length):Sq (od t) (bP t) n (t.1.getD n 0-1).toNat:=by
 obtain⟨hp,ho,hl,_⟩:=iB h
 have h9:=(aY hp).2.2.1
 have hb:=cQ hp n
 rw[ca]at hb
 have hpos:1≤t.1.getD n 0:=by
  rw[al hn]
  exact((aY hp).1 _ (List.getElem_mem hn)).1
 refine⟨td t,fun r hr=>by rw[yV hr,lg],fun r x hr hx _=>Cq hp hr hx,?_⟩
 rw[Cq hp (by omega) (by omega),pG (by omega),if_pos (by omega)]
end Go.Am.Pu
end
section
/- What a slide leaves is a tableau. Plain words. -/
namespace Go.Am.Pu
theorem gZ{α:Type}(l:List α)(a x:Nat)(d:α):(l.drop a).getD x d=l.getD (a+x) d:=by
 simp[List.getD_eq_getElem?_getD,List.getElem?_drop]
section
variable {t : Tab} {n : Nat} {g : List (List Int)} {i c : Nat}
theorem xF.cell(E:xF t n g i c){r k:Nat}(hr:r<(aB (outer t) i).length)
  (hk:k<((cI (aB t.1 n) (lT g i c) (aB (outer t) i).length).getD r []).length):
  ((aB t.1 n).getD r 0).toNat+k<(g.getD r []).length∧((((aB t.1 n).getD r 0).toNat+k:Nat):Int)<(aB (outer t) i).getD r 0∧ ¬(r=i∧((aB t.1 n).getD r 0).toNat+k=c)∧
   ((cI (aB t.1 n) (lT g i c) (aB (outer t) i).length).getD r []).getD k 0=cel g r (((aB t.1 n).getD r 0).toNat+k):=by
 have hq:=E.sl.q0 r
 rw[jb hr]at hk⊢
 rw[List.length_drop]at hk
 have hx:((aB t.1 n).getD r 0).toNat+k<((lT g i c).getD r []).length:=by omega
 have hl:=E.cutl r
 have hcut:=zj (c:=c) (r:=r) E.sl.hi
 refine⟨?_,by omega,fun e=> ?_,?_⟩
 ·rw[hcut]at hx
  by_cases e:r=i
  ·subst e;rw[if_pos rfl,List.length_take]at hx;omega
  ·rw[if_neg e]at hx;exact hx
 ·rw[hcut,if_pos e.1,List.length_take]at hx
  omega
 ·rw[gZ]
  exact CG E.sl.hi hx
theorem xF.zh(E:xF t n g i c){r:Nat}(hr:r<(aB (outer t) i).length):
  (aB (outer t) i).getD r 0=(aB t.1 n).getD r 0+(((cI (aB t.1 n) (lT g i c) (aB (outer t) i).length).getD r []).length:Int):=by
 have hq:=E.sl.q0 r
 have hi:=E.ins r
 have hl:=E.cutl r
 rw[jb hr,List.length_drop]
 omega
theorem xF.tab(E:xF t n g i c)(h:dM t=true)(hn:n<t.1.length)(hc:t.1.getD (n+1) 0<t.1.getD n 0):
  dM (aB t.1 n,cI (aB t.1 n) (lT g i c) (aB (outer t) i).length)=true:=by
 obtain⟨hp,ho,hl,_⟩:=iB h
 have hqp:=oj hp hn hc
 have hop:=oj ho E.hi E.cor
 generalize hR:cI (aB t.1 n) (lT g i c) (aB (outer t) i).length=R
 have hRl:R.length=(aB (outer t) i).length:=by rw[←hR,eR]
 have cell: ∀{r k:Nat},r<R.length→k<(R.getD r []).length→((aB t.1 n).getD r 0).toNat+k<(g.getD r []).length∧((((aB t.1 n).getD r 0).toNat+k:Nat):Int)<(aB (outer t) i).getD r 0∧ ¬(r=i∧((aB t.1 n).getD r 0).toNat+k=c)∧(R.getD r []).getD k 0=cel g r (((aB t.1 n).getD r 0).toNat+k):=by
  intro r k hr hk
  subst hR
  exact E.cell (by omega) hk
 have zh: ∀{r:Nat},r<R.length→(aB (outer t) i).getD r 0=(aB t.1 n).getD r 0+((R.getD r []).length:Int):=by
  intro r hr
  subst hR
  exact E.zh (by omega)
 have q0:=E.sl.q0
 have hout:outer (aB t.1 n,R)=aB (outer t) i:=by
  refine List.ext_getElem (by rw[bD];exact hRl) fun r h1 h2=> ?_
  rw[←al h1 0,←al h2 0]
  have h3:r<R.length:=by omega
  have:=fC (aB t.1 n) R 0 r h3
  rw[Nat.zero_add]at this
  unfold outer
  rw[this]
  exact(zh h3).symm
 have hlen:(aB t.1 n).length≤R.length:=by
  refine Nat.le_of_not_lt fun hlt=> ?_
  have a:=vT hp hn hc hlt
  have b:=E.ins R.length
  rw[aQ (xs:=aB (outer t) i) (by omega)]at b
  omega
 have om:=fH hop
 simp only[dM,dA,ct,Bool.and_eq_true,decide_eq_true_eq]
 rw[hout]
 refine⟨⟨hqp,hlen,hqp,hop,by omega,?_⟩,?_⟩
 ·rw[dm]
  intro r _
  exact decide_eq_true (E.ins r)
 ·rw[dm]
  intro r hr
  rw[dm]
  intro k hk
  have hq:=q0 r
  obtain⟨c1,c2,c3,c4⟩:=cell hr hk
  have hx:(aB t.1 n).getD r 0≤((((aB t.1 n).getD r 0).toNat+k:Nat):Int):=by omega
  have hnum:=E.sl.num r _ hx c1 c3
  simp only[fQ,within,Bool.and_eq_true,Bool.or_eq_true,decide_eq_true_eq]
  rw[c4]
  refine⟨hnum,?_,?_⟩
  ·cases k with
   |zero=>exact .inl rfl
   |succ k=>
    obtain⟨d1,d2,d3,d4⟩:=cell hr (show k<(R.getD r []).length by omega)
    right
    rw[show k+1-1=k from rfl,d4]
    exact E.sl.row r (((aB t.1 n).getD r 0).toNat+k) (by omega) (by omega) d3 (by omega)
  ·cases r with
   |zero=>exact .inl rfl
   |succ r=>
    right
    have hr':r<R.length:=by omega
    have em:((r+1:Nat):Int)-1=(r:Int):=by omega
    rw[em,jA hr']
    have hqr:=q0 r
    have hrl:=zh hr'
    have hom:=om r
    simp only
    by_cases e:(aB t.1 n).getD (r+1) 0+(k:Int)<(aB t.1 n).getD r 0
    ·rw[mG (by omega)];omega
    ·obtain⟨y,hy⟩: ∃y:Nat,(aB t.1 n).getD (r+1) 0+(k:Int)-(aB t.1 n).getD r 0=y:=⟨((aB t.1 n).getD (r+1) 0+(k:Int)-(aB t.1 n).getD r 0).toNat,by omega⟩
     rw[hy,ca]
     obtain⟨d1,d2,d3,d4⟩:=cell hr' (show y<(R.getD r []).length by omega)
     have ey:((aB t.1 n).getD r 0).toNat+y=((aB t.1 n).getD (r+1) 0).toNat+k:=by omega
     rw[d4,ey]
     rw[ey]at d3
     exact E.sl.col r _ (by omega) c1 d3 c3
end
theorem De{t:Tab}(h:dM t=true){n:Nat}(hn:n<t.1.length)(hc:t.1.getD (n+1) 0<t.1.getD n 0):dM (iD t n).1=true:=(EG h hn hc).1.tab h hn hc
theorem uw{t:Tab}(h:dM t=true):t.1.length≤9∧cj 9 9 t.2:=by
 obtain⟨hp,ho,hl,_⟩:=iB h
 have h9:=(aY ho).2.2.1
 rw[bD]at h9
 refine⟨by omega,h9,fun r hr=> ?_⟩
 obtain⟨k,hk,rfl⟩:=List.getElem_of_mem hr
 have a:=jY hp k
 have b:=(cQ ho k).2
 rw[ca]at b
 rw[og hk]at a
 rw[←al hk []]
 omega
theorem AI{p:List Int}{n:Nat}(hp:bm p=true)(hn:n<p.length)(hc:p.getD (n+1) 0<p.getD n 0):dg (aB p n)=dg p-1:=by
 unfold aB
 split
 ·next h=>
  have hl:=oG hp hc h
  rw[yR p n (by omega)]
  omega
 ·rw[qw p n _ hn]
  omega
end Go.Am.Pu
namespace Go.Am.Pu
end Go.Am.Pu
end
section
/- Taking the least number out of a plain tableau; evacuation. Plain words. -/
namespace Go.Am.Pu
theorem xF.out{t:Tab}{n:Nat}{g:List (List Int)}{i c:Nat}(E:xF t n g i c):
  outer (aB t.1 n,cI (aB t.1 n) (lT g i c) (aB (outer t) i).length)=aB (outer t) i:=by
 refine List.ext_getElem (by rw[bD];exact eR _ _ _) fun r h1 h2=> ?_
 rw[←al h1 0,←al h2 0]
 have h3:r<(cI (aB t.1 n) (lT g i c) (aB (outer t) i).length).length:=by rw[eR];exact h2
 have:=fC (aB t.1 n) (cI (aB t.1 n) (lT g i c) (aB (outer t) i).length) 0 r h3
 rw[Nat.zero_add]at this
 exact this.trans (E.zh h2).symm
theorem DS{t:Tab}(h:dM t=true){n:Nat}(hn:n<t.1.length)(hc:t.1.getD (n+1) 0<t.1.getD n 0):
  outer (iD t n).1=aB (outer t) (iD t n).2∧(iD t n).2<(outer t).length∧(outer t).getD ((iD t n).2+1) 0<(outer t).getD (iD t n).2 0:=
 have E:=(EG h hn hc).1
 ⟨E.out,E.hi,E.cor⟩
def eY(t:Tab):Tab:=([1],t.2.set 0 ((t.2.getD 0 []).drop 1))
theorem nc(t:Tab)(r:Nat):(eY t).2.getD r []=if r=0 then(t.2.getD 0 []).drop 1 else t.2.getD r []:=by
 unfold eY
 by_cases e:r=0
 ·subst e
  rw[if_pos rfl]
  by_cases h:0<t.2.length
  ·rw[al (by rw[List.length_set];exact h),List.getElem_set_self]
  ·rw[aQ (by rw[List.length_set];omega),aQ (xs:=t.2) (by omega)];rfl
 ·rw[if_neg e,getD_set_ne (Ne.symm e)]
theorem gm{t:Tab}(h:aL t=true){r:Nat}(hr:r<t.2.length):1≤(t.2.getD r []).length:=by
 have hl:=dD h hr
 have hp:=(aY (gu h)).1 ((outer t)[r]'(by rw[bD];exact hr)) (List.getElem_mem _)
 rw[al (by rw[bD];exact hr)]at hl
 omega
theorem jZ(t:Tab):(eY t).2.length=t.2.length:=by simp[eY]
theorem nz(r:Nat):([1]:List Int).getD r 0=if r=0 then 1 else 0:=by
 cases r with
 |zero=>rfl
 |succ r=>simp
theorem oU{t:Tab}(h:aL t=true)(h0:0<t.2.length):outer (eY t)=outer t:=by
 refine List.ext_getElem (by rw[bD,bD,jZ]) fun r h1 h2=> ?_
 rw[←al h1 0,←al h2 0]
 have h3:r<t.2.length:=by rw[bD]at h2;exact h2
 have h4:=gm h h3
 rw[dD h h3]
 have:=fC (eY t).1 (eY t).2 0 r (by rw[jZ];exact h3)
 rw[Nat.zero_add]at this
 unfold outer
 rw[this,nc,show(eY t).1= [1]from rfl,nz]
 by_cases e:r=0
 ·subst e
  rw[if_pos rfl,if_pos rfl,List.length_drop]
  omega
 ·rw[if_neg e,if_neg e];omega
theorem oI{t:Tab}(h:aL t=true)(h0:0<t.2.length):dM (eY t)=true:=by
 have hin:=cy h
 have hp:=gu h
 have h':=h
 simp only[aL,Bool.and_eq_true]at h'
 obtain⟨_,_,_,hc⟩:=iB h'.1
 have hout:=oU h h0
 have hr0:=gm h h0
 simp only[dM,dA,ct,Bool.and_eq_true,decide_eq_true_eq]
 rw[hout,jZ]
 refine⟨⟨rfl,(show 1≤t.2.length from h0),rfl,hp,(by rw[bD];exact(show 1≤t.2.length from h0)),?_⟩,?_⟩
 ·rw[dm]
  intro r hr
  have e:r=0:=by simp[eY]at hr;exact hr
  subst e
  rw[dD h h0]
  exact decide_eq_true (show(1:Int)≤_ by omega)
 ·rw[dm]
  intro r hr
  rw[dm]
  intro k hk
  rw[nc]at hk
  have hl:(eY t).1= [1]:=rfl
  by_cases e:r=0
  ·subst e
   rw[if_pos rfl,List.length_drop]at hk
   have hck:=hc 0 (k+1) h0 (by omega)
   simp only[fQ,within,Bool.and_eq_true,Bool.or_eq_true,decide_eq_true_eq]at hck⊢
   rw[nc,if_pos rfl,gZ,gZ,show 1+k=k+1 by omega]
   refine⟨hck.1,?_,.inl (by simp)⟩
   by_cases e:k=0
   ·exact .inl e
   ·right
    have:=hck.2.1
    rw[show 1+(k-1)=k+1-1 by omega]
    exact this.resolve_left (by omega)
  ·rw[if_neg e]at hk
   have hck:=hc r k hr hk
   simp only[fQ,within,Bool.and_eq_true,Bool.or_eq_true,decide_eq_true_eq]at hck⊢
   rw[nc,if_neg e]
   refine⟨hck.1,hck.2.1,.inr ?_⟩
   have hent:=hck.2.2.resolve_left e
   rw[hin]at hent
   obtain⟨q,rfl⟩: ∃q,r=q+1:=⟨r-1,by omega⟩
   have em:((q+1:Nat):Int)-1=(q:Int):=by omega
   rw[em]at hent⊢
   rw[jA (by omega)]at hent
   simp only[hin,List.getD_nil]at hent
   have g1:=nz (q+1)
   have g2:=nz q
   have o2:=nc t q
   rw[if_neg (by omega)]at g1
   rw[jA (by rw[jZ];omega),hl,g1,g2,o2]
   by_cases e0:q=0
   ·subst e0
    rw[if_pos rfl,if_pos rfl]
    by_cases ek:k=0
    ·subst ek
     rw[mG (by omega)]
     omega
    ·rw[show(0:Int)+(k:Int)-1=((k-1:Nat):Int) by omega,ca,gZ,show 1+(k-1)=k by omega]
     rw[show(0:Int)+(k:Int)-0=(k:Int) by omega,ca]at hent
     exact hent
   ·rw[if_neg e0,if_neg e0]
    exact hent
def aE(t:Tab):Tab×Nat:=iD (eY t) 0
theorem cX{t:Tab}(h:aL t=true)(h0:0<t.2.length):
  aL (aE t).1=true∧outer (aE t).1=aB (outer t) (aE t).2∧(aE t).2<t.2.length∧(outer t).getD ((aE t).2+1) 0<(outer t).getD (aE t).2 0:=by
 have hi:(eY t).1= [1]:=rfl
 have ht:=oI h h0
 have h1:0<(eY t).1.length:=by rw[hi];simp
 have hc:(eY t).1.getD (0+1) 0<(eY t).1.getD 0 0:=by rw[hi];simp
 obtain⟨a,b,c⟩:=DS ht h1 hc
 rw[oU h h0]at a b c
 rw[bD]at b
 refine⟨?_,a,b,c⟩
 simp only[aL,Bool.and_eq_true,decide_eq_true_eq]
 refine⟨De ht h1 hc,?_⟩
 show(aB (eY t).1 0).length=0
 rw[hi];rfl
theorem mS{t:Tab}(h:aL t=true):dg (outer t)=t.2.flatten.length:=by
 unfold outer
 exact qN t.1 t.2 0 fun q _=>by rw[cy h];rfl
theorem fW{t:Tab}(h:0<t.2.flatten.length):0<t.2.length:=by
 refine Nat.pos_of_ne_zero fun e=> ?_
 rw[List.eq_nil_of_length_eq_zero e]at h
 simp at h
theorem mR{t:Tab}(h:aL t=true)(h0:0<t.2.length)(r:Nat):
  ((aE t).1.2.getD r []).length=if r=(aE t).2 then(t.2.getD r []).length-1 else(t.2.getD r []).length:=by
 obtain⟨a,b,c,d⟩:=cX h h0
 have hg:=kS (gu h) (show(aE t).2<(outer t).length by rw[bD];exact c) d r
 have lenI: ∀{u:Tab},aL u=true→ ∀r,(outer u).getD r 0=(u.2.getD r []).length:=by
  intro u hu r
  by_cases hr:r<u.2.length
  ·exact dD hu hr
  ·rw[aQ (by rw[bD];omega),aQ (xs:=u.2) (by omega)];rfl
 rw[←b,lenI a,lenI h,lenI h]at hg
 have:=gm h c
 by_cases e:r=(aE t).2
 ·subst e;rw[if_pos rfl]at hg⊢;omega
 ·rw[if_neg e]at hg⊢;omega
end Go.Am.Pu
end
section
/- Promotion. Plain words. -/
namespace Go.Am.Pu
def jd(d:Int)(q:Nat)(r:List Int):List Int:=r.take q++(r.drop q).map (· +d)
theorem uO(d:Int)(q:Nat)(r:List Int):(jd d q r).length=r.length:=by
 unfold jd
 rw[List.length_append,List.length_map,←List.length_append,List.take_append_drop]
theorem uW(d:Int)(r:List Int):jd d r.length r=r:=by
 unfold jd
 rw[List.take_length,List.drop_length]
 simp
theorem sR{d:Int}{q:Nat}{r:List Int}(h:q<r.length):jd d (q+1) (r.set q (r.getD q 0+d))=jd d q r:=by
 unfold jd
 rw[rq h,ri,drop_cons h 0]
 simp
def bO(d:Int)(rs:List (List Int)):List (List Int):=rs.map fun r=>r.map (· +d)
def jK(d:Int)(i:Nat)(rs:List (List Int)):List (List Int):=rs.take i++bO d (rs.drop i)
theorem qW(d:Int)(rs:List (List Int)):jK d rs.length rs=rs:=by
 unfold jK bO
 rw[List.take_length,List.drop_length]
 simp
theorem qq{d:Int}{i:Nat}{rs:List (List Int)}(h:i<rs.length):jK d (i+1) (rs.set i (jd d 0 (rs.getD i [])))=jK d i rs:=by
 unfold jK bO
 rw[rq h,ri,drop_cons h []]
 simp[jd]
theorem gn(d:Int)(rs:List (List Int)):(bO d rs).length=rs.length:=by simp[bO]
theorem kv(d:Int)(rs:List (List Int))(i:Nat):(bO d rs).getD i []=(rs.getD i []).map (· +d):=by
 unfold bO
 by_cases h:i<rs.length
 ·rw[al (by rw[List.length_map];exact h),al h,List.getElem_map]
 ·rw[aQ (by rw[List.length_map];omega),aQ (by omega)];rfl
theorem CZ(d:Int)(rs:List (List Int))(i:Nat)(r:List Int):bO d (rs.set i r)=(bO d rs).set i (r.map (· +d)):=by
 unfold bO
 rw[List.map_set]
def Small(rs:List (List Int)):Prop:= ∀i q,-100≤(rs.getD i []).getD q 0∧(rs.getD i []).getD q 0≤100
theorem u5{t:Tab}(h:dM t=true):Small t.2:=by
 intro i q
 by_cases hi:i<t.2.length
 ·by_cases hq:q<(t.2.getD i []).length
  ·have:=nJ h ((t.2.getD i []).getD q 0) (List.mem_flatten.2 ⟨t.2.getD i [],by rw[al hi];exact List.getElem_mem hi,by rw[al hq];exact List.getElem_mem hq⟩)
   omega
  ·rw[aQ (by omega)];omega
 ·rw[aQ (xs:=t.2) (by omega)];simp
def dS(s:Tab×Nat):List (List Int):=if s.2=s.1.2.length then s.1.2++ [[]]else s.1.2
def bF(t:Tab):Tab×Bool:=
 if aL t=true∧cw t=true then
  if t.2.flatten.length=0 then(([],[]),true)
  else((([]:List Int),(bO (-1) (dS (aE t))).set (aE t).2 ((bO (-1) (dS (aE t))).getD (aE t).2 []++ [(t.2.flatten.length:Int)])),true)
 else(([],[]),false)
theorem sk{t:Tab}(h:aL t=true)(h0:0<t.2.length):(aE t).2≤(aE t).1.2.length∧(aE t).1.2.length≤t.2.length:=by
 obtain⟨s1,s2,s3,s4⟩:=cX h h0
 have a:=congrArg List.length s2
 rw[bD]at a
 unfold aB at a
 split at a
 ·rw[List.length_take,bD]at a;omega
 ·rw[List.length_set,bD]at a;omega
theorem m9{t:Tab}(h:aL t=true)(h0:0<t.2.length):(aE t).2<(dS (aE t)).length∧cj 10 9 (dS (aE t)):=by
 have a:=(sk h h0).1
 have b:=fN (cX h h0).1
 unfold dS
 split
 ·next e=>rw[List.length_append];exact⟨by simp;omega,b.app (by simp)⟩
 ·exact⟨by omega,b.mono (by omega) (by omega)⟩
theorem xy{t:Tab}(h:aL t=true)(h0:0<t.2.length):Small (dS (aE t)):=by
 have b:=(cX h h0).1
 simp only[aL,Bool.and_eq_true]at b
 have c:=u5 b.1
 unfold dS
 split
 ·intro i q
  have:=c i q
  have hg:((aE t).1.2++ [[]]).getD i []=(aE t).1.2.getD i []:=by
   by_cases hi:i<(aE t).1.2.length
   ·rw[al (xs:=(aE t).1.2++ [[]]) (by rw[List.length_append];omega),List.getElem_append_left hi,←al hi []]
   ·rw[aQ (xs:=(aE t).1.2) (by omega)]
    simp only[List.getD_eq_getElem?_getD,List.getElem?_append_right (Nat.le_of_not_lt hi)]
    cases i-(aE t).1.2.length<;>rfl
  rw[hg];exact this
 ·exact c
theorem rW{n m:Nat}{rs:List (List Int)}(h:cj n m rs)(d:Int):cj n m (bO d rs):=by
 refine⟨by rw[gn];exact h.1,fun r hr=> ?_⟩
 unfold bO at hr
 obtain⟨x,hx,rfl⟩:=List.mem_map.1 hr
 rw[List.length_map]
 exact h.2 x hx
theorem sQ{t:Tab}:cj 10 10 (bF t).1.2:=by
 unfold bF
 split
 ·next h=>
  split
  ·exact⟨by simp,fun r hr=>by simp at hr⟩
  ·next hn=>
   have b:=(m9 h.1 (fW (by omega))).2
   have c:=rW b (-1)
   refine cj.set (c.mono (Nat.le_refl _) (by omega)) _ ?_
   rw[List.length_append]
   have:=c.at (aE t).2
   simp only[List.length_cons,List.length_nil]
   omega
 ·exact⟨by simp,fun r hr=>by simp at hr⟩
theorem nk{t:Tab}:(bF t).1.1= []:=by
 unfold bF
 split
 ·split<;>rfl
 ·rfl
theorem o5{t:Tab}:jQ (bF t).1:=by
 have a:=sQ (t:=t)
 refine⟨by rw[nk];simp,by have:=a.1;omega,fun r hr=>by have:=a.2 r hr;omega⟩
theorem Aa{t:Tab}(n:Int)(h:(aE t).2<(dS (aE t)).length):bO (-1) ((dS (aE t)).set (aE t).2 ((dS (aE t)).getD (aE t).2 []++ [n+1]))=
  (bO (-1) (dS (aE t))).set (aE t).2 ((bO (-1) (dS (aE t))).getD (aE t).2 []++ [n]):=by
 rw[CZ,kv,List.map_append,List.map_cons,List.map_nil,show n+1+ -1=n by omega]
end Go.Am.Pu
end
section
/- Slides undone. Plain words. -/
namespace Go.Am.Pu
def leftOf(g:List (List Int))(i c:Nat):Int:=if c=0 then 0 else cel g i (c-1)
def l6(g:List (List Int))(i c:Nat):Int:=if i=0 then 0 else cel g (i-1) c
def fE:Nat→List (List Int)→Nat→Nat→List (List Int)×(Nat×Nat)
 |0,g,i,c=>(g,(i,c))
 |m+1,g,i,c=>if leftOf g i c=0∧l6 g i c=0 then(g,(i,c))
  else if leftOf g i c≤l6 g i c then fE m (fb g i c (l6 g i c)) (i-1) c
  else fE m (fb g i c (leftOf g i c)) i (c-1)
theorem C4{g:List (List Int)}{i c:Nat}(h1:leftOf g i c=0)(h2:l6 g i c=0): ∀m,fE m g i c=(g,(i,c))
 |0=>rfl
 |m+1=>by unfold fE;rw[if_pos ⟨h1,h2⟩]
structure Ag (f : Int → Int) (g h : List (List Int)) (i c : Nat) : Prop where
  len : h.length = g.length
  row : ∀ r, (h.getD r []).length = (g.getD r []).length
  at_ : ∀ r x, ¬ (r = i ∧ x = c) → cel h r x = f (cel g r x)
def Inn(q:List Int)(g:List (List Int)):Prop:= ∀r x:Nat,(x:Int)<q.getD r 0→cel g r x=0
theorem Inn.step{q:List Int}{g:List (List Int)}{i c:Nat}(h:Inn q g)(hq:q.getD i 0≤c)(v:Int):Inn q (fb g i c v):=by
 intro r x hx
 by_cases e:r=i∧x=c
 ·obtain⟨rfl,rfl⟩:=e;omega
 ·rw[gU _ e];exact h r x hx
theorem th{V:Int→Prop}{g:List (List Int)}(h: ∀r x,V (cel g r x))(i c a b:Nat): ∀r x,V (cel (fb g i c (cel g a b)) r x):=by
 intro r x
 by_cases e:r=i∧x=c
 ·obtain⟨rfl,rfl⟩:=e
  by_cases h1:r<g.length
  ·by_cases h2:x<(g.getD r []).length
   ·rw[iN _ h1 h2];exact h a b
   ·have hl:=bp g r x (cel g a b) r
    have e0:cel (fb g r x (cel g a b)) r x=cel g r x:=by
     show((fb g r x (cel g a b)).getD r []).getD x 0=(g.getD r []).getD x 0
     rw[aQ (xs:=(fb g r x (cel g a b)).getD r []) (by omega),aQ (xs:=g.getD r []) (by omega)]
    rw[e0];exact h r x
  ·have e0:cel (fb g r x (cel g a b)) r x=cel g r x:=by
    show((fb g r x (cel g a b)).getD r []).getD x 0=(g.getD r []).getD x 0
    rw[aQ (xs:=fb g r x (cel g a b)) (by rw[dy];omega),aQ (xs:=g) (by omega)]
   rw[e0];exact h r x
 ·rw[gU _ e];exact h r x
theorem Ag.down{f:Int→Int}{q:List Int}{g h:List (List Int)}{i c:Nat}(hs:Sl q g i c)(hi:Inn q g)(hf: ∀a b x y,cel g a b<cel g x y→f (cel g a b)<f (cel g x y))(f0:f 0=0)
  (hb:cel g (i+1) c≠0) (ha:Ag f (fb g i c (cel g (i+1) c)) h (i+1) c):
  ∃h',Ag f g h' i c∧ ∀m,fE (m+1) h (i+1) c=fE m h' i c:=by
 obtain⟨b1,b2⟩:=nX hb
 have mono: ∀a b x y,cel g a b≤cel g x y→f (cel g a b)≤f (cel g x y):=fun a b x y hh=>by
  rcases Int.lt_or_eq_of_le hh with h1|h1
  ·exact Int.le_of_lt (hf _ _ _ _ h1)
  ·rw[h1];exact Int.le_refl _
 have f0': ∀a b,cel g a b=0→f (cel g a b)=0:=fun a b e=>by rw[e];exact f0
 have hu:l6 h (i+1) c=f (cel g (i+1) c):=by
  unfold l6
  rw[if_neg (by omega),show i+1-1=i by omega,ha.at_ i c (by omega),iN _ hs.hi hs.hc]
 have hpos:0<f (cel g (i+1) c):=by
  have hp:=hs.pos (i+1) c
  have:=hf g.length 0 (i+1) c (by
   have:cel g g.length 0=0:=by unfold cel;rw[aQ (Nat.le_refl _)];rfl
   omega)
  have e:cel g g.length 0=0:=by unfold cel;rw[aQ (Nat.le_refl _)];rfl
  rw[e,f0]at this
  exact this
 have hl:leftOf h (i+1) c≤f (cel g (i+1) c):=by
  unfold leftOf
  by_cases e:c=0
  ·rw[if_pos e];omega
  ·rw[if_neg e,ha.at_ _ _ (by omega),gU _ (by omega)]
   by_cases hq:q.getD (i+1) 0≤((c-1:Nat):Int)
   ·have hr:=hs.row (i+1) (c-1) hq (by omega) (by omega) (by omega)
    rw[show c-1+1=c by omega]at hr
    exact mono _ _ _ _ hr
   ·rw[f0' _ _ (hi (i+1) (c-1) (by omega))];omega
 have hhi:i+1<h.length:=by rw[ha.len,dy];exact b1
 have hhc:c<(h.getD (i+1) []).length:=by rw[ha.row,bp];exact b2
 refine⟨fb h (i+1) c (l6 h (i+1) c),⟨by rw[dy,ha.len,dy],fun r=>by rw[bp,ha.row,bp],fun r x hn=> ?_⟩,fun m=> ?_⟩
 ·by_cases e:r=i+1∧x=c
  ·obtain⟨rfl,rfl⟩:=e
   rw[iN _ hhi hhc,hu]
  ·rw[gU _ e,ha.at_ r x e,gU _ hn]
 ·conv=>lhs;unfold fE
  rw[if_neg (by omega),if_pos (by omega)]
  rfl
theorem Ag.right{f:Int→Int}{q:List Int}{g h:List (List Int)}{i c:Nat}(hs:Sl q g i c)(hi:Inn q g)(hf: ∀a b x y,cel g a b<cel g x y→f (cel g a b)<f (cel g x y))(f0:f 0=0)
  (hr:cel g i (c+1)≠0) (ha:Ag f (fb g i c (cel g i (c+1))) h i (c+1)):
  ∃h',Ag f g h' i c∧ ∀m,fE (m+1) h i (c+1)=fE m h' i c:=by
 obtain⟨b1,b2⟩:=nX hr
 have f0': ∀a b,cel g a b=0→f (cel g a b)=0:=fun a b e=>by rw[e];exact f0
 have hl:leftOf h i (c+1)=f (cel g i (c+1)):=by
  unfold leftOf
  rw[if_neg (by omega),show c+1-1=c by omega,ha.at_ i c (by omega),iN _ hs.hi hs.hc]
 have hpos:0<f (cel g i (c+1)):=by
  have hp:=hs.pos i (c+1)
  have e:cel g g.length 0=0:=by unfold cel;rw[aQ (Nat.le_refl _)];rfl
  have:=hf g.length 0 i (c+1) (by omega)
  rw[e,f0]at this
  exact this
 have hu:l6 h i (c+1)<f (cel g i (c+1)):=by
  unfold l6
  by_cases e:i=0
  ·rw[if_pos e];exact hpos
  ·rw[if_neg e,ha.at_ _ _ (by omega),gU _ (by omega)]
   by_cases hq:q.getD (i-1) 0≤((c+1:Nat):Int)
   ·have hc:=hs.col (i-1) (c+1) hq (by rw[show i-1+1=i by omega];exact b2) (by omega) (by omega)
    rw[show i-1+1=i by omega]at hc
    exact hf _ _ _ _ hc
   ·rw[f0' _ _ (hi (i-1) (c+1) (by omega))];exact hpos
 have hhi:i<h.length:=by rw[ha.len,dy];exact b1
 have hhc:c+1<(h.getD i []).length:=by rw[ha.row,bp];exact b2
 refine⟨fb h i (c+1) (leftOf h i (c+1)),⟨by rw[dy,ha.len,dy],fun r=>by rw[bp,ha.row,bp],fun r x hn=> ?_⟩,fun m=> ?_⟩
 ·by_cases e:r=i∧x=c+1
  ·obtain⟨rfl,rfl⟩:=e
   rw[iN _ hhi hhc,hl]
  ·rw[gU _ e,ha.at_ r x e,gU _ hn]
 ·conv=>lhs;unfold fE
  rw[if_neg (by omega),if_neg (by omega)]
  rfl
theorem rZ{f:Int→Int}{V:Int→Prop}(hf: ∀u v,V u→V v→u<v→f u<f v)(f0:f 0=0){q:List Int}: ∀(m:Nat) (g:List (List Int)) (i c:Nat),Sl q g i c→Inn q g→(∀r x,V (cel g r x))→
  ∀h,Ag f (bT m g i c).1 h (bT m g i c).2.1 (bT m g i c).2.2→ ∃n h',Ag f g h' i c∧i+c+n=(bT m g i c).2.1+(bT m g i c).2.2∧ ∀m0,fE (m0+n) h (bT m g i c).2.1 (bT m g i c).2.2=fE m0 h' i c
 |0,g,i,c,_,_,_,h,ha=>⟨0,h,ha,rfl,fun _=>rfl⟩
 |m+1,g,i,c,hs,hi,hv,h,ha=>by
  unfold bT at ha⊢
  by_cases c1:cel g i (c+1)=0∧cel g (i+1) c=0
  ·rw[if_pos c1]at ha⊢
   exact⟨0,h,ha,rfl,fun _=>rfl⟩
  ·rw[if_neg c1]at ha⊢
   have hf': ∀a b x y,cel g a b<cel g x y→f (cel g a b)<f (cel g x y):=fun a b x y hh=>hf _ _ (hv a b) (hv x y) hh
   by_cases c2:cel g i (c+1)=0∨(0<cel g (i+1) c∧cel g (i+1) c≤cel g i (c+1))
   ·rw[if_pos c2]at ha⊢
    have hb:cel g (i+1) c≠0:=fun e=>c2.elim (fun e1=>c1 ⟨e1,e⟩) (fun e1=>by omega)
    obtain⟨n,h1,a1,a2,a3⟩:=rZ hf f0 m _ _ _ (hs.down hb c2) (hi.step hs.hq _) (th hv _ _ _ _) h ha
    obtain⟨h2,d1,d2⟩:=Ag.down hs hi hf' f0 hb a1
    exact⟨n+1,h2,d1,by omega,fun m0=>by rw[show m0+(n+1)=(m0+1)+n by omega,a3,d2]⟩
   ·rw[if_neg c2]at ha⊢
    have hr:cel g i (c+1)≠0:=fun e=>c2 (.inl e)
    obtain⟨n,h1,a1,a2,a3⟩:=rZ hf f0 m _ _ _ (hs.right hr (fun e=>c2 (.inr e))) (hi.step hs.hq _) (th hv _ _ _ _) h ha
    obtain⟨h2,d1,d2⟩:=Ag.right hs hi hf' f0 hr a1
    exact⟨n+1,h2,d1,by omega,fun m0=>by rw[show m0+(n+1)=(m0+1)+n by omega,a3,d2]⟩
def Occ(q:List Int)(v:Int)(g:List (List Int))(i c:Nat):Prop:= ∃r x:Nat,¬(r=i∧x=c)∧x<(g.getD r []).length∧q.getD r 0≤x∧cel g r x=v
theorem Occ.step{q:List Int}{v:Int}{g:List (List Int)}{i c a b:Nat}(h:Occ q v g i c)(hi:i<g.length)(hc:c<(g.getD i []).length)(hq:q.getD i 0≤c)(hne: ¬(a=i∧b=c)):Occ q v (fb g i c (cel g a b)) a b:=by
 obtain⟨r,x,h1,h2,h3,h4⟩:=h
 by_cases e:r=a∧x=b
 ·obtain⟨rfl,rfl⟩:=e
  exact⟨i,c,fun e=>hne ⟨e.1.symm,e.2.symm⟩,by rw[bp];exact hc,hq,by rw[iN _ hi hc];exact h4⟩
 ·exact⟨r,x,e,by rw[bp];exact h2,h3,by rw[gU _ h1];exact h4⟩
theorem tH{q:List Int}{v:Int}: ∀(m:Nat) (g:List (List Int)) (i c:Nat),Sl q g i c→Occ q v g i c→Occ q v (bT m g i c).1 (bT m g i c).2.1 (bT m g i c).2.2
 |0,g,i,c,_,h=>h
 |m+1,g,i,c,hs,h=>by
  unfold bT
  by_cases c1:cel g i (c+1)=0∧cel g (i+1) c=0
  ·rw[if_pos c1];exact h
  ·rw[if_neg c1]
   by_cases c2:cel g i (c+1)=0∨(0<cel g (i+1) c∧cel g (i+1) c≤cel g i (c+1))
   ·rw[if_pos c2]
    have hb:cel g (i+1) c≠0:=fun e=>c2.elim (fun e1=>c1 ⟨e1,e⟩) (fun e1=>by omega)
    exact tH m _ _ _ (hs.down hb c2) (h.step hs.hi hs.hc hs.hq (by omega))
   ·rw[if_neg c2]
    have hr:cel g i (c+1)≠0:=fun e=>c2 (.inl e)
    exact tH m _ _ _ (hs.right hr (fun e=>c2 (.inr e))) (h.step hs.hi hs.hc hs.hq (by omega))
end Go.Am.Pu
end
section
/- Promotion of a standard tableau is standard, of the same shape, and can be undone. Plain words. -/
namespace Go.Am.Pu
theorem uh{V:Int→Prop}: ∀(m:Nat) (g:List (List Int)) (i c:Nat),(∀r x,V (cel g r x))→ ∀r x,V (cel (bT m g i c).1 r x)
 |0,_,_,_,h=>h
 |m+1,g,i,c,h=>by
  unfold bT
  split
  ·exact h
  ·split
   ·exact uh m _ _ _ (th h _ _ _ _)
   ·exact uh m _ _ _ (th h _ _ _ _)
theorem nv{t:Tab}(h0:t.1= [])(hp:bm (outer t)=true)(hn: ∀r x,r<t.2.length→x<(t.2.getD r []).length→1≤cel t.2 r x∧cel t.2 r x≤9)
  (hr: ∀r x,r<t.2.length→x+1<(t.2.getD r []).length→cel t.2 r x≤cel t.2 r (x+1)) (hc: ∀r x,r+1<t.2.length→x<(t.2.getD (r+1) []).length→cel t.2 r x<cel t.2 (r+1) x):aL t=true:=by
 simp only[aL,dM,dA,ct,Bool.and_eq_true,decide_eq_true_eq,h0]
 refine⟨⟨⟨rfl,by simp,rfl,hp,by simp,?_⟩,?_⟩,rfl⟩
 ·rw[dm]
  intro i hi
  simp at hi
 ·rw[dm]
  intro r hr'
  rw[dm]
  intro k hk
  simp only[fQ,within,Bool.and_eq_true,Bool.or_eq_true,decide_eq_true_eq]
  refine⟨hn r k hr' hk,?_,?_⟩
  ·by_cases e:k=0
   ·exact .inl e
   ·right
    have:=hr r (k-1) hr' (by omega)
    rw[show k-1+1=k by omega]at this
    exact this
  ·by_cases e:r=0
   ·exact .inl e
   ·right
    have:=hc (r-1) k (by omega) (by rw[show r-1+1=r by omega];exact hk)
    rw[show r-1+1=r by omega]at this
    rw[show(r:Int)-1=((r-1:Nat):Int) by omega,jA (by omega),h0]
    simp only[List.getD_nil]
    rw[show(0:Int)+(k:Int)-0=(k:Int) by omega,ca]
    exact this
theorem g9{t:Tab}(h:aL t=true):(∀r x,r<t.2.length→x<(t.2.getD r []).length→1≤cel t.2 r x∧cel t.2 r x≤9)∧(∀r x,r<t.2.length→x+1<(t.2.getD r []).length→cel t.2 r x≤cel t.2 r (x+1)):=by
 have h':=h
 simp only[aL,Bool.and_eq_true]at h'
 obtain⟨_,_,_,hc⟩:=iB h'.1
 refine⟨fun r x hr hx=> ?_,fun r x hr hx=> ?_⟩
 ·have:=hc r x hr hx
  simp only[fQ,within,Bool.and_eq_true,decide_eq_true_eq]at this
  exact this.1
 ·have:=hc r (x+1) hr hx
  simp only[fQ,within,Bool.and_eq_true,Bool.or_eq_true,decide_eq_true_eq]at this
  exact this.2.1.resolve_left (by omega)
theorem iP{rs:List (List Int)}{r x:Nat}(hr:r<rs.length)(hx:x<(rs.getD r []).length):cel rs r x∈rs.flatten:=by
 refine List.mem_flatten.2 ⟨rs.getD r [],by rw[al hr];exact List.getElem_mem hr,?_⟩
 unfold cel
 rw[al hx]
 exact List.getElem_mem hx
theorem o8{rs:List (List Int)}{v:Int}(h:v∈rs.flatten): ∃r x,r<rs.length∧x<(rs.getD r []).length∧cel rs r x=v:=by
 obtain⟨l,hl,hv⟩:=List.mem_flatten.1 h
 obtain⟨r,hr,rfl⟩:=List.getElem_of_mem hl
 obtain⟨x,hx,rfl⟩:=List.getElem_of_mem hv
 have e:=al hr ([]:List Int)
 refine⟨r,x,hr,by rw[e];exact hx,?_⟩
 unfold cel
 rw[e,al hx]
theorem kr{t:Tab}(h:aL t=true)(hs:cw t=true):t.2.flatten.Nodup∧(∀x∈t.2.flatten,1≤x∧x≤t.2.flatten.length):=by
 simp only[cw,Bool.and_eq_true]at hs
 have h1:=nJ hs.1
 obtain⟨a,b⟩:=(vM fun x hx=>(h1 x hx).1).1 hs.2
 exact⟨a,fun x hx=>⟨(h1 x hx).1,b x hx⟩⟩
theorem yW{t:Tab}(h:aL t=true)(hs:cw t=true){r x:Nat}(hr:r<t.2.length)(hx:x<(t.2.getD r []).length)(e:cel t.2 r x=1):r=0∧x=0:=by
 obtain⟨hn,hrow⟩:=g9 h
 have hcol:=jh h
 have r0:r=0:=by
  by_cases e0:r=0
  ·exact e0
  ·have hc:=hcol (r-1) (by omega)
   rw[show r-1+1=r by omega]at hc
   have h2:=hc.2 x hx
   have h3:=hn (r-1) x (by omega) (by omega)
   unfold cel at e h3
   omega
 subst r0
 refine⟨rfl,Nat.eq_zero_of_not_pos fun hp=> ?_⟩
 have h2:=hrow 0 (x-1) hr (by omega)
 rw[show x-1+1=x by omega]at h2
 have h3:=hn 0 (x-1) hr (by omega)
 have nd:(t.2.getD 0 []).Nodup:=by
  have:=(kr h hs).1
  exact(List.pairwise_flatten.1 this).1 _ (by rw[al hr];exact List.getElem_mem hr)
 have e2:(t.2.getD 0 [])[x-1]'(by omega)=(t.2.getD 0 [])[x]:=by
  have a:=al (xs:=t.2.getD 0 []) (i:=x-1) (by omega) 0
  have b:=al (xs:=t.2.getD 0 []) (i:=x) hx 0
  unfold cel at e h2 h3
  rw[←a,←b]
  omega
 exact List.pairwise_iff_getElem.1 nd (x-1) x (by omega) hx (by omega) e2
theorem qE{t:Tab}(h:aL t=true)(hs:cw t=true)(h0:0<t.2.flatten.length):cel t.2 0 0=1:=by
 have ho:jN t.2.flatten=true:=by
  simp only[cw,Bool.and_eq_true]at hs
  exact hs.2
 have hm:=j2.1 ho 1 (hM.2 (by omega))
 obtain⟨r,x,a,b,c⟩:=o8 hm
 obtain⟨rfl,rfl⟩:=yW h hs a b c
 exact c
end Go.Am.Pu
end
section
/- Promotion keeps shapes and standardness. Plain words. -/
namespace Go.Am.Pu
section
variable {t : Tab}
theorem pD(h0:0<t.2.length)(r x:Nat):cel (bP (eY t)) r x=if r=0∧x=0 then 0 else cel t.2 r x:=by
 have hl:(eY t).1= [1]:=rfl
 by_cases hr:r<t.2.length
 ·rw[pG (by rw[jZ];exact hr),hl,nz,nc]
  by_cases e:r=0
  ·subst e
   rw[if_pos rfl,if_pos rfl,show(1:Int).toNat=1 from rfl]
   by_cases ex:x=0
   ·subst ex;simp
   ·rw[if_neg (by omega),if_neg (by omega),gZ,show 1+(x-1)=x by omega];rfl
  ·rw[if_neg e,if_neg e,if_neg (by simp),if_neg (by omega),show x-(0:Int).toNat=x from rfl];rfl
 ·rw[if_neg (by omega)]
  unfold cel
  rw[sZ (by rw[jZ];omega),aQ (xs:=t.2) (by omega)]
theorem mM(h:aL t=true)(h0:0<t.2.length)(r:Nat):((bP (eY t)).getD r []).length=(t.2.getD r []).length:=by
 have hl:(eY t).1= [1]:=rfl
 by_cases hr:r<t.2.length
 ·rw[og (by rw[jZ];exact hr),hl,nz,nc]
  by_cases e:r=0
  ·subst e
   have:=gm h h0
   rw[if_pos rfl,if_pos rfl,List.length_drop,show(1:Int).toNat=1 from rfl]
   omega
  ·rw[if_neg e,if_neg e];simp
 ·rw[sZ (by rw[jZ];omega),aQ (xs:=t.2) (by omega)]
def takeEnd(t:Tab):List (List Int)×(Nat×Nat):=bT 18 (bP (eY t)) 0 0
theorem pw(t:Tab):(aE t).2=(takeEnd t).2.1:=rfl
theorem tq(h:aL t=true)(h0:0<t.2.length):xF (eY t) 0 (takeEnd t).1 (takeEnd t).2.1 (takeEnd t).2.2:=
 (EG (oI h h0) (n:=0) (show 0<1 by omega) (show(0:Int)<1 by omega)).1
theorem DT(h:aL t=true)(h0:0<t.2.length)(r:Nat):(aE t).1.2.getD r []=(lT (takeEnd t).1 (takeEnd t).2.1 (takeEnd t).2.2).getD r []:=by
 have E:=tq h h0
 show(cI [] (lT (takeEnd t).1 (takeEnd t).2.1 (takeEnd t).2.2) (aB (outer (eY t)) (takeEnd t).2.1).length).getD r []=_
 by_cases hr:r<(aB (outer (eY t)) (takeEnd t).2.1).length
 ·rw[jb hr];rfl
 ·rw[aQ (by rw[eR];omega)]
  have:=E.cutl r
  rw[aQ (xs:=aB _ _) (by omega)]at this
  exact(List.eq_nil_of_length_eq_zero (by omega)).symm
theorem wk(h:aL t=true)(h0:0<t.2.length){r x:Nat}(hx:x<((aE t).1.2.getD r []).length):cel (aE t).1.2 r x=cel (takeEnd t).1 r x:=by
 have E:=tq h h0
 have e:=DT h h0 r
 rw[e]at hx
 have:=CG E.sl.hi hx
 unfold cel at this⊢
 rw[e]
 exact this
def Vn(n:Nat)(v:Int):Prop:=v=0∨(2≤v∧v≤n)
theorem tj(h:aL t=true)(hs:cw t=true)(h0:0<t.2.length): ∀r x,Vn t.2.flatten.length (cel (bP (eY t)) r x):=by
 intro r x
 rw[pD h0]
 by_cases e:r=0∧x=0
 ·rw[if_pos e];exact .inl rfl
 ·rw[if_neg e]
  by_cases hr:r<t.2.length
  ·by_cases hx:x<(t.2.getD r []).length
   ·have a:=(kr h hs).2 _ (iP hr hx)
    have b:cel t.2 r x≠1:=fun e1=>e (yW h hs hr hx e1)
    exact .inr ⟨by omega,a.2⟩
   ·unfold cel;rw[aQ (by omega)];exact .inl rfl
  ·unfold cel;rw[aQ (xs:=t.2) (by omega)];exact .inl rfl
theorem Ed(h:aL t=true)(hs:cw t=true)(h0:0<t.2.length): ∀r x,Vn t.2.flatten.length (cel (takeEnd t).1 r x):=uh 18 _ _ _ (tj h hs h0)
theorem oK(h:aL t=true)(hs:cw t=true)(h0:0<t.2.length){r x:Nat}(hx:x<((aE t).1.2.getD r []).length):2≤cel (aE t).1.2 r x∧cel (aE t).1.2 r x≤t.2.flatten.length:=by
 have hr:r<(aE t).1.2.length:=Nat.lt_of_not_le fun hle=>by rw[aQ hle]at hx;simp at hx
 have a:=(g9 (cX h h0).1).1 r x hr hx
 have b:=Ed h hs h0 r x
 rw[←wk h h0 hx]at b
 rcases b with b|b
 ·omega
 ·exact b
theorem nC(t:Tab)(r:Nat):(dS (aE t)).getD r []=(aE t).1.2.getD r []:=by
 unfold dS
 split
 ·by_cases hi:r<(aE t).1.2.length
  ·rw[al (xs:=(aE t).1.2++ [[]]) (by rw[List.length_append];omega),List.getElem_append_left hi,←al hi []]
  ·rw[aQ (xs:=(aE t).1.2) (by omega)]
   simp only[List.getD_eq_getElem?_getD,List.getElem?_append_right (Nat.le_of_not_lt hi)]
   cases r-(aE t).1.2.length<;>rfl
 ·rfl
theorem pC(h:aL t=true)(h0:0<t.2.length):(dS (aE t)).length=t.2.length:=by
 obtain⟨s1,s2,s3,s4⟩:=cX h h0
 have a:=congrArg List.length s2
 rw[bD]at a
 have hd:=oG (gu h) s4
 rw[bD]at hd
 unfold aB at a
 unfold dS
 split at a
 ·next e=>
  rw[List.length_take,bD]at a
  have:=hd e
  rw[if_pos (by omega),List.length_append,List.length_singleton]
  omega
 ·rw[List.length_set,bD]at a
  rw[if_neg (by omega)]
  exact a
theorem rE(h:aL t=true)(hs:cw t=true)(hn:t.2.flatten.length≠0):
  bF t=((([]:List Int),(bO (-1) (dS (aE t))).set (aE t).2 ((bO (-1) (dS (aE t))).getD (aE t).2 []++ [(t.2.flatten.length:Int)])),true):=by
 unfold bF
 rw[if_pos ⟨h,hs⟩,if_neg hn]
theorem jr(h:aL t=true)(hs:cw t=true)(hn:t.2.flatten.length≠0)(r:Nat):
  (bF t).1.2.getD r []=if r=(aE t).2 then((aE t).1.2.getD r []).map (· + -1)++ [(t.2.flatten.length:Int)]else((aE t).1.2.getD r []).map (· + -1):=by
 rw[rE h hs hn]
 have hl:=(m9 h (fW (by omega))).1
 simp only
 by_cases e:r=(aE t).2
 ·rw[if_pos e,e,al (by rw[List.length_set,gn];exact hl),List.getElem_set_self,kv,nC]
 ·rw[if_neg e,getD_set_ne (Ne.symm e),kv,nC]
theorem ju(h:aL t=true)(hs:cw t=true)(hn:t.2.flatten.length≠0):(bF t).1.2.length=t.2.length:=by
 rw[rE h hs hn]
 simp only[List.length_set,gn]
 exact pC h (fW (by omega))
theorem jJ(h:aL t=true)(hs:cw t=true)(hn:t.2.flatten.length≠0)(r:Nat):((bF t).1.2.getD r []).length=(t.2.getD r []).length:=by
 have h0:=fW (t:=t) (by omega)
 have a:=mR h h0 r
 have b:=gm h (cX h h0).2.2.1
 rw[jr h hs hn]
 by_cases e:r=(aE t).2
 ·subst e
  rw[if_pos rfl]at a⊢
  simp only[List.length_append,List.length_map,List.length_singleton]
  omega
 ·rw[if_neg e]at a⊢
  rw[List.length_map];exact a
theorem xJ{a b:Tab}(ha:a.1= [])(hb:b.1= [])(hl:a.2.length=b.2.length)(hr: ∀r,(a.2.getD r []).length=(b.2.getD r []).length):outer a=outer b:=by
 refine List.ext_getElem (by rw[bD,bD];exact hl) fun r h1 h2=> ?_
 rw[bD]at h1 h2
 have e1:=fC a.1 a.2 0 r h1
 have e2:=fC b.1 b.2 0 r h2
 rw[←al (by rw[bD];exact h1) 0,←al (by rw[bD];exact h2) 0]
 unfold outer
 rw[e1,e2,ha,hb,hr]
theorem jX(h:aL t=true)(hs:cw t=true)(hn:t.2.flatten.length≠0):outer (bF t).1=outer t:=
 xJ nk (cy h) (ju h hs hn) (jJ h hs hn)
theorem lx{xs ys:List Int}{x:Nat}(h:x<xs.length):(xs++ys).getD x 0=xs.getD x 0:=by
 simp only[List.getD_eq_getElem?_getD,List.getElem?_append_left h]
theorem mI{xs ys:List Int}{x:Nat}(h:xs.length≤x):(xs++ys).getD x 0=ys.getD (x-xs.length) 0:=by
 simp only[List.getD_eq_getElem?_getD,List.getElem?_append_right h]
theorem gC(h:aL t=true)(hs:cw t=true)(hn:t.2.flatten.length≠0){r x:Nat}(hx:x<(t.2.getD r []).length):
  (r=(aE t).2∧x+1=(t.2.getD r []).length∧cel (bF t).1.2 r x=t.2.flatten.length)∨
  (¬(r=(aE t).2∧x+1=(t.2.getD r []).length)∧x<((aE t).1.2.getD r []).length∧cel (bF t).1.2 r x=cel (aE t).1.2 r x-1):=by
 have h0:=fW (t:=t) (by omega)
 have a:=mR h h0 r
 have b:=gm h (cX h h0).2.2.1
 have mapc: ∀(l:List Int) (y:Nat),y<l.length→(l.map (· + -1)).getD y 0=l.getD y 0-1:=fun l y hy=>by
  rw[al (by rw[List.length_map];exact hy),List.getElem_map,al hy];rfl
 unfold cel
 rw[jr h hs hn]
 by_cases e:r=(aE t).2
 ·subst e
  rw[if_pos rfl]at a⊢
  by_cases e2:x+1=(t.2.getD (aE t).2 []).length
  ·left
   refine⟨rfl,e2,?_⟩
   rw[mI (by rw[List.length_map];omega),List.length_map,show x-((aE t).1.2.getD (aE t).2 []).length=0 by omega]
   rfl
  ·right
   refine⟨fun hh=>e2 hh.2,by omega,?_⟩
   rw[←mapc _ x (by omega),lx (by rw[List.length_map];omega)]
 ·rw[if_neg e]at a⊢
  right
  exact⟨fun hh=>e hh.1,by omega,mapc _ x (by omega)⟩
theorem nQ(h:aL t=true)(hs:cw t=true)(hn:t.2.flatten.length≠0):aL (bF t).1=true:=by
 have h0:=fW (t:=t) (by omega)
 have hS:=(cX h h0).1
 obtain⟨c1,c2⟩:=g9 hS
 have c3:=jh hS
 have h9:=jm h
 have hlen:=ju h hs hn
 have hrl:=jJ h hs hn
 have num: ∀{r x:Nat},x<(t.2.getD r []).length→1≤cel (bF t).1.2 r x∧cel (bF t).1.2 r x≤t.2.flatten.length:=fun{r x} hx=>by
  rcases gC h hs hn hx with⟨_,_,e⟩|⟨_,e1,e⟩
  ·rw[e];omega
  ·have:=oK h hs h0 e1
   rw[e];omega
 refine nv nk (by rw[jX h hs hn];exact gu h) (fun r x hr hx=> ?_) (fun r x hr hx=> ?_) (fun r x hr hx=> ?_)
 ·rw[hrl]at hx
  have:=num hx
  omega
 ·rw[hrl]at hx
  rcases gC h hs hn hx with⟨e1,e2,e⟩|⟨n1,e1,e⟩
  ·rw[e];exact(num (by omega)).2
  ·rcases gC h hs hn (show x<(t.2.getD r []).length by omega)with⟨e3,e4,_⟩|⟨_,_,e4⟩
   ·omega
   ·have:=c2 r x (Nat.lt_of_not_le fun hle=>by rw[aQ hle]at e1;simp at e1) e1
    rw[e,e4];omega
 ·rw[hrl]at hx
  rw[hlen]at hr
  have hm:=(jh h r hr).1
  rcases gC h hs hn hx with⟨e1,e2,e⟩|⟨n1,e1,e⟩
  ·rcases gC h hs hn (show x<(t.2.getD r []).length by omega)with⟨e3,_,_⟩|⟨_,e5,e4⟩
   ·omega
   ·have:=oK h hs h0 e5
    rw[e,e4];omega
  ·rcases gC h hs hn (show x<(t.2.getD r []).length by omega)with⟨e3,e4,_⟩|⟨_,_,e4⟩
   ·
    exfalso
    obtain⟨_,_,s3,s4⟩:=cX h h0
    rw[←e3,dD h hr,dD h (show r<t.2.length by omega)]at s4
    omega
   ·have:=(c3 r (Nat.lt_of_not_le fun hle=>by rw[aQ hle]at e1;simp at e1)).2 x e1
    unfold cel at e e4⊢
    rw[e,e4];omega
theorem kK(h:aL t=true)(hs:cw t=true)(hn:t.2.flatten.length≠0):(bF t).1.2.flatten.length=t.2.flatten.length:=by
 have a:=mS (nQ h hs hn)
 rw[jX h hs hn,mS h]at a
 omega
theorem AD(h:aL t=true)(hs:cw t=true)(hn:t.2.flatten.length≠0):cw (bF t).1=true:=by
 have h0:=fW (t:=t) (by omega)
 have hp:=nQ h hs hn
 have hp':=hp
 simp only[aL,Bool.and_eq_true]at hp'
 simp only[cw,Bool.and_eq_true]
 refine⟨hp'.1,j2.2 fun v hv=> ?_⟩
 rw[kK h hs hn,hM]at hv
 have hrl:=jJ h hs hn
 have hlen:=ju h hs hn
 have E:=tq h h0
 obtain⟨s1,s2,s3,s4⟩:=cX h h0
 by_cases e:v=t.2.flatten.length
 ·have hb:=gm h s3
  have hx:(t.2.getD (aE t).2 []).length-1<(t.2.getD (aE t).2 []).length:=by omega
  rcases gC h hs hn hx with⟨_,_,e1⟩|⟨n1,_,_⟩
  ·rw[e,←e1]
   exact iP (by rw[hlen];exact s3) (by rw[hrl];exact hx)
  ·exact absurd ⟨rfl,by omega⟩ n1
 ·have ho:jN t.2.flatten=true:=by
   have:=hs
   simp only[cw,Bool.and_eq_true]at this
   exact this.2
  obtain⟨a,b,ha,hb,hab⟩:=o8 (j2.1 ho (v+1) (hM.2 (by omega)))
  have hne: ¬(a=0∧b=0):=fun hh=>by
   have:=qE h hs (by omega)
   rw[hh.1,hh.2]at hab
   omega
  have hocc:Occ (aB (eY t).1 0) (v+1) (bP (eY t)) 0 0:=⟨a,b,hne,by rw[mM h h0];exact hb,by rw[show aB (eY t).1 0= []from rfl];simp,by rw[pD h0,if_neg hne];exact hab⟩
  have hst:=qx (oI h h0) (n:=0) (show 0<1 by omega) (show(0:Int)<1 by omega)
  obtain⟨a',b',h1,h2,h3,h4⟩:=tH 18 _ _ _ hst hocc
  have h1: ¬(a'=(takeEnd t).2.1∧b'=(takeEnd t).2.2):=h1
  have h2:b'<((takeEnd t).1.getD a' []).length:=h2
  have h4:cel (takeEnd t).1 a' b'=v+1:=h4
  have hl2:=E.row a'
  rw[mM h h0]at hl2
  have hcut:b'<((aE t).1.2.getD a' []).length:=by
   rw[mR h h0]
   by_cases e2:a'=(aE t).2
   ·rw[if_pos e2]
    have e3:=E.end_
    rw[oU h h0,←pw,dD h s3]at e3
    rw[e2]at h2 hl2⊢
    rw[e2]at h1
    have: ¬b'=(takeEnd t).2.2:=fun hh=>h1 ⟨rfl,hh⟩
    omega
   ·rw[if_neg e2];omega
  have hv2:=wk h h0 hcut
  rw[h4]at hv2
  rcases gC h hs hn (show b'<(t.2.getD a' []).length by omega)with⟨e1,e2,_⟩|⟨_,_,e1⟩
  ·have:=mR h h0 a'
   rw[if_pos e1]at this
   omega
  ·rw[hv2]at e1
   rw[show v=cel (bF t).1.2 a' b' by omega]
   refine iP ?_ (by rw[hrl];omega)
   rw[hlen]
   exact Nat.lt_of_not_le fun hle=>by rw[hl2,aQ (xs:=t.2) hle]at h2;simp at h2
end
end Go.Am.Pu
end
section
/- Promotion undone: it is one to one. Plain words. -/
namespace Go.Am.Pu
def eU(t:Tab)(n:Nat):List (List Int):=
 (if n=t.2.length then bP t++ [[]]else bP t).set n ((if n=t.2.length then bP t++ [[]]else bP t).getD n []++ [0])
def pn(v:Int):Int:=if v=0 then 0 else v-1
theorem rK{t:Tab}(h:t.1= []):bP t=t.2:=by
 refine List.ext_getElem (fV t) fun r h1 h2=> ?_
 rw[←al h1 [],←al h2 [],sg h2,h]
 simp
section
variable {t : Tab}
def eF(t:Tab):Tab:=([],bO (-1) (aE t).1.2)
theorem lW(t:Tab)(r:Nat):(eF t).2.getD r []=((aE t).1.2.getD r []).map (· + -1):=kv _ _ _
theorem mP{r x:Nat}(hx:x<((aE t).1.2.getD r []).length):cel (eF t).2 r x=cel (aE t).1.2 r x-1:=by
 unfold cel
 rw[lW,al (by rw[List.length_map];exact hx),List.getElem_map,al hx];rfl
theorem uH(h:aL t=true)(h0:0<t.2.length):outer (eF t)=aB (outer t) (aE t).2:=by
 rw[←(cX h h0).2.1]
 exact xJ rfl (cy (cX h h0).1) (gn _ _) fun r=>by rw[lW,List.length_map]
theorem Aw(h:aL t=true)(hs:cw t=true)(h0:0<t.2.length):aL (eF t)=true:=by
 have hS:=(cX h h0).1
 obtain⟨c1,c2⟩:=g9 hS
 have c3:=jh hS
 have h9:=jm h
 have hl:(eF t).2.length=(aE t).1.2.length:=gn _ _
 have hrl: ∀r,((eF t).2.getD r []).length=((aE t).1.2.getD r []).length:=fun r=>by rw[lW,List.length_map]
 refine nv rfl ?_ (fun r x hr hx=> ?_) (fun r x hr hx=> ?_) (fun r x hr hx=> ?_)
 ·have:=gu hS
  rw[(cX h h0).2.1,←uH h h0]at this
  exact this
 ·rw[hrl]at hx
  have:=oK h hs h0 hx
  rw[mP hx];omega
 ·rw[hrl]at hx
  rw[hl]at hr
  rw[mP hx,mP (by omega)]
  have:=c2 r x hr hx
  omega
 ·rw[hrl]at hx
  rw[hl]at hr
  have:=c3 r hr
  rw[mP hx,mP (by omega)]
  have:=this.2 x hx
  unfold cel
  omega
theorem Ep{p:List Int}{n:Nat}(hp:bm p=true)(hn:n<p.length)(hc:p.getD (n+1) 0<p.getD n 0):gM (aB p n) n=(p,true):=by
 have hd:=oj hp hn hc
 have hg:=kS hp hn hc
 have hl:n≤(aB p n).length∧(if n=(aB p n).length then(aB p n)++ [0]else aB p n).length=p.length:=by
  have hlast:=oG hp hc
  unfold aB
  split
  ·next e=>
   have:=hlast e
   rw[List.length_take,if_pos (by omega),List.length_append,List.length_take]
   simp;omega
  ·rw[List.length_set,if_neg (by omega),List.length_set]
   exact⟨by omega,rfl⟩
 have hget: ∀r,(if n=(aB p n).length then(aB p n)++ [0]else aB p n).getD r 0=(aB p n).getD r 0:=by
  intro r
  split
  ·by_cases hr:r<(aB p n).length
   ·rw[lx hr]
   ·rw[mI (by omega),aQ (xs:=aB p n) (by omega)]
    cases r-(aB p n).length<;>rfl
  ·rfl
 have ei:((n:Int)=((aB p n).length:Int))=(n=(aB p n).length):=by rw[Int.ofNat_inj]
 have key:(if(n:Int)=(aB p n).length then aB p n++ [0]else aB p n).set (n:Int).toNat ((if(n:Int)=(aB p n).length then aB p n++ [0]else aB p n).getD (n:Int).toNat 0+1)=p:=by
  simp only[ei,Int.toNat_natCast]
  refine List.ext_getElem (by rw[List.length_set];exact hl.2) fun r h1 h2=> ?_
  rw[←al h1 0,←al h2 0]
  by_cases e:r=n
  ·subst e
   rw[al (by rw[List.length_set,hl.2];exact hn),List.getElem_set_self,hget,hg,if_pos rfl];omega
  ·rw[getD_set_ne (Ne.symm e),hget,hg,if_neg e]
 unfold gM
 rw[if_pos ⟨hd,by omega,by omega⟩]
 simp only[key,hp,if_true]
theorem EH{n:Nat}: ∀u v,Vn n u→Vn n v→u<v→pn u<pn v:=by
 intro u v hu hv h
 unfold pn Vn at*
 split<;>split<;>omega
theorem Dd{n:Nat}{u v:Int}(hu:Vn n u)(hv:Vn n v)(h:pn u=pn v):u=v:=by
 unfold pn Vn at*
 split at h<;>split at h<;>omega
theorem tP(h:aL t=true)(hs:cw t=true)(h0:0<t.2.length):
  ∃g,fE 18 (eU (eF t) (aE t).2) (aE t).2 ((outer t).getD (aE t).2 0-1).toNat=(g,(0,0))∧Ag pn (bP (eY t)) g 0 0:=by
 have E:=tq h h0
 obtain⟨s1,s2,s3,s4⟩:=cX h h0
 have hrows:=mR h h0
 have hp:=gm h s3
 have hle:=sk h h0
 have hc:((outer t).getD (aE t).2 0-1).toNat=(takeEnd t).2.2:=by
  have:=E.end_
  rw[oU h h0,←pw]at this
  omega
 have hcl:(takeEnd t).2.2+1=(t.2.getD (aE t).2 []).length:=by
  rw[dD h s3]at hc
  omega
 have hst:=qx (oI h h0) (n:=0) (show 0<1 by omega) (show(0:Int)<1 by omega)
 have hinn:Inn (aB (eY t).1 0) (bP (eY t)):=fun r x hx=>by
  rw[show aB (eY t).1 0= []from rfl]at hx
  simp at hx;omega
 have hlS:(eF t).2.length=(aE t).1.2.length:=gn _ _
 have hW:=pC h h0
 have hbase: ∀r,(if(aE t).2=(eF t).2.length then bP (eF t)++ [[]]else bP (eF t)).getD r []=(eF t).2.getD r []:=by
  intro r
  rw[rK rfl]
  split
  ·by_cases hr:r<(eF t).2.length
   ·simp only[List.getD_eq_getElem?_getD,List.getElem?_append_left hr]
   ·rw[aQ (xs:=(eF t).2) (by omega)]
    simp only[List.getD_eq_getElem?_getD,List.getElem?_append_right (Nat.le_of_not_lt hr)]
    cases r-(eF t).2.length<;>rfl
  ·rfl
 have hblen:(if(aE t).2=(eF t).2.length then bP (eF t)++ [[]]else bP (eF t)).length=t.2.length:=by
  rw[rK rfl,←hW]
  unfold dS
  rw[hlS]
  split
  ·rw[List.length_append,List.length_append,hlS]
  ·exact hlS
 have hog: ∀r,(eU (eF t) (aE t).2).getD r []=if r=(aE t).2 then(eF t).2.getD r []++ [0]else(eF t).2.getD r []:=by
  intro r
  unfold eU
  by_cases e:r=(aE t).2
  ·subst e
   rw[if_pos rfl,al (by rw[List.length_set,hblen];exact s3),List.getElem_set_self,hbase]
  ·rw[if_neg e,getD_set_ne (Ne.symm e),hbase]
 have hag:Ag pn (takeEnd t).1 (eU (eF t) (aE t).2) (takeEnd t).2.1 (takeEnd t).2.2:=by
  refine⟨?_,fun r=> ?_,fun r x hn=> ?_⟩
  ·unfold eU
   rw[List.length_set,hblen,E.len,jZ]
  ·have a:=E.row r
   rw[mM h h0]at a
   have b:=hrows r
   rw[a,hog]
   by_cases e:r=(aE t).2
   ·subst e
    rw[if_pos rfl]at b⊢
    rw[List.length_append,lW,List.length_map,List.length_singleton]
    omega
   ·rw[if_neg e]at b⊢
    rw[lW,List.length_map];exact b
  ·have hin:x<((aE t).1.2.getD r []).length→cel (eU (eF t) (aE t).2) r x=cel (eF t).2 r x:=fun hx=>by
    unfold cel
    rw[hog]
    by_cases e:r=(aE t).2
    ·rw[if_pos e,lx (by rw[lW,List.length_map];exact hx)]
    ·rw[if_neg e]
   by_cases hx:x<((aE t).1.2.getD r []).length
   ·have hv:=oK h hs h0 hx
    rw[hin hx,mP hx,←wk h h0 hx]
    unfold pn
    rw[if_neg (by omega)]
   ·have a:=E.row r
    rw[mM h h0]at a
    have b:=hrows r
    have hout:((takeEnd t).1.getD r []).length≤x:=by
     by_cases e:r=(aE t).2
     ·subst e
      rw[if_pos rfl]at b
      have: ¬x=(takeEnd t).2.2:=fun hh=>hn ⟨rfl,hh⟩
      omega
     ·rw[if_neg e]at b;omega
    have e1:cel (takeEnd t).1 r x=0:=by unfold cel;rw[aQ hout]
    have e2:cel (eU (eF t) (aE t).2) r x=0:=by
     unfold cel
     rw[hog]
     by_cases e:r=(aE t).2
     ·subst e
      rw[if_pos rfl]at b⊢
      rw[aQ]
      rw[List.length_append,lW,List.length_map,List.length_singleton]
      omega
     ·rw[if_neg e]at b⊢
      rw[aQ]
      rw[lW,List.length_map];omega
    rw[e1,e2];rfl
 obtain⟨n,g,a1,a2,a3⟩:=rZ (f:=pn) (V:=Vn t.2.flatten.length) EH rfl 18 _ _ _ hst hinn (tj h hs h0) _ hag
 have a2:0+(1-1:Int).toNat+n=(takeEnd t).2.1+(takeEnd t).2.2:=a2
 have a3: ∀m0,fE (m0+n) (eU (eF t) (aE t).2) (takeEnd t).2.1 (takeEnd t).2.2=fE m0 g 0 0:=a3
 have hn:n≤18:=by
  have h9:=fN h
  have:=h9.at (aE t).2
  have h10:=h9.1
  have:(takeEnd t).2.1=(aE t).2:=rfl
  simp at a2
  omega
 refine⟨g,?_,a1⟩
 have a4:=a3 (18-n)
 rw[show(18-n)+n=18 by omega,←pw]at a4
 rw[hc,a4]
 exact C4 rfl rfl _
theorem zO{u:Tab}(h:aL t=true)(hs:cw t=true)(hn:t.2.flatten.length≠0)(h':aL u=true)(hs':cw u=true)(hn':u.2.flatten.length≠0)(e:(bF t).1=(bF u).1):t=u:=by
 have h0:=fW (t:=t) (by omega)
 have h0':=fW (t:=u) (by omega)
 have e2:(bF t).1.2=(bF u).1.2:=by rw[e]
 have el:t.2.length=u.2.length:=by rw[←ju h hs hn,←ju h' hs' hn',e2]
 have er: ∀r,(t.2.getD r []).length=(u.2.getD r []).length:=fun r=>by rw[←jJ h hs hn,←jJ h' hs' hn',e2]
 have eo:outer t=outer u:=by rw[←jX h hs hn,←jX h' hs' hn',e]
 have ef:t.2.flatten.length=u.2.flatten.length:=by rw[←kK h hs hn,←kK h' hs' hn',e2]
 have erow:(aE t).2=(aE u).2:=by
  obtain⟨_,_,s3,_⟩:=cX h h0
  have hb:=gm h s3
  rcases gC h hs hn (show(t.2.getD (aE t).2 []).length-1<(t.2.getD (aE t).2 []).length by omega)with⟨_,_,e1⟩|⟨n1,_,_⟩
  ·have hx:(t.2.getD (aE t).2 []).length-1<(u.2.getD (aE t).2 []).length:=by rw[←er];omega
   rcases gC h' hs' hn' hx with⟨e3,_,_⟩|⟨_,e4,e5⟩
   ·exact e3
   ·have:=oK h' hs' h0' e4
    rw[e2,e5]at e1
    omega
  ·exact absurd ⟨rfl,by omega⟩ n1
 have es: ∀r,(aE t).1.2.getD r []=(aE u).1.2.getD r []:=by
  intro r
  have a:=jr h hs hn r
  rw[e2,jr h' hs' hn',←erow]at a
  have inj: ∀{l m:List Int},l.map (· + -1)=m.map (· + -1)→l=m:=fun{l m} hlm=>by
   have:=congrArg (List.map (· +(1:Int))) hlm
   simpa[List.map_map,Function.comp_def,Int.add_assoc]using this
  by_cases er:r=(aE t).2
  ·rw[if_pos er,if_pos er]at a
   exact(inj (List.append_inj' a rfl).1).symm
  ·rw[if_neg er,if_neg er]at a
   exact(inj a).symm
 have eW:(aE t).1.2.length=(aE u).1.2.length:=by
  have a:=congrArg List.length (cX h h0).2.1
  have b:=congrArg List.length (cX h' h0').2.1
  rw[bD]at a b
  rw[a,b,eo,erow]
 have eS:(aE t).1.2=(aE u).1.2:=List.ext_getElem eW fun r h1 h2=>by
  rw[←al h1 [],←al h2 []];exact es r
 have eD:eF t=eF u:=by unfold eF;rw[eS]
 obtain⟨g,a1,a2⟩:=tP h hs h0
 obtain⟨g',b1,b2⟩:=tP h' hs' h0'
 rw[eD,erow,eo,b1]at a1
 have eg:g'=g:=by injection a1
 subst eg
 have cells: ∀r x,cel t.2 r x=cel u.2 r x:=by
  intro r x
  by_cases c:r=0∧x=0
  ·rw[c.1,c.2,qE h hs (by omega),qE h' hs' (by omega)]
  ·have v1:=tj h hs h0 r x
   have v2:=tj h' hs' h0' r x
   rw[←ef]at v2
   have c1:=a2.at_ r x c
   have c2:=b2.at_ r x c
   have:=Dd v1 v2 (by rw[←c1,←c2])
   rw[pD h0,pD h0',if_neg c,if_neg c]at this
   exact this
 refine Prod.ext (by rw[cy h,cy h']) ?_
 refine List.ext_getElem el fun r h1 h2=> ?_
 rw[←al h1 [],←al h2 []]
 refine List.ext_getElem (er r) fun x h3 h4=> ?_
 rw[←al h3 0,←al h4 0]
 exact cells r x
end
end Go.Am.Pu
end
section
/- Orbits of promotion come back. Plain words. -/
namespace Go.Am.Pu
def prom(t:Tab):Tab:=(bF t).1
def iter:Nat→Tab→Tab
 |0,t=>t
 |n+1,t=>iter n (prom t)
structure Good (t : Tab) : Prop where
  pl : aL t = true
  st : cw t = true
  ne : t.2.flatten.length ≠ 0
theorem Good.prom{t:Tab}(h:Good t):Good (prom t):=⟨nQ h.pl h.st h.ne,AD h.pl h.st h.ne,by unfold Pu.prom;rw[kK h.pl h.st h.ne];exact h.ne⟩
theorem ov: ∀(n:Nat) {t:Tab},Good t→Good (iter n t)
 |0,_,h=>h
 |n+1,_,h=>ov n h.prom
theorem pQ: ∀(a b:Nat) (t:Tab),iter (a+b) t=iter b (iter a t)
 |0,b,t=>by rw[Nat.zero_add];rfl
 |a+1,b,t=>by
  rw[show a+1+b=(a+b)+1 by omega]
  exact pQ a b (prom t)
theorem Bc: ∀(n:Nat) {t u:Tab},Good t→Good u→iter n t=iter n u→t=u
 |0,_,_,_,_,e=>e
 |n+1,t,u,h,h',e=>zO h.pl h.st h.ne h'.pl h'.st h'.ne (Bc n h.prom h'.prom e)
theorem rN: ∀(n:Nat) {t:Tab},Good t→outer (iter n t)=outer t
 |0,_,_=>rfl
 |n+1,t,h=>by
  have a:=rN n h.prom
  have b:=jX h.pl h.st h.ne
  exact a.trans b
def code:List Int→Int
 | []=>0
 |x::xs=>x+10*code xs
theorem Cl: ∀(n:Nat) (l:List Int),l.length≤n→(∀x∈l,1≤x∧x≤9)→0≤code l∧code l<(10^n:Nat)
 |n,[],_,_=>⟨by simp[code],by
  have:0<10^n:=Nat.pow_pos (by omega)
  simp only[code];omega⟩
 |0,x::xs,h,_=>by simp at h
 |n+1,x::xs,h,hx=>by
  have ih:=Cl n xs (by simp at h;exact h) fun y hy=>hx y (List.mem_cons_of_mem _ hy)
  have:=hx x (List.mem_cons_self ..)
  rw[Nat.pow_succ]
  simp only[code]
  omega
theorem zW: ∀(l m:List Int),l.length=m.length→(∀x∈l,1≤x∧x≤9)→(∀x∈m,1≤x∧x≤9)→code l=code m→l=m
 | [],[],_,_,_,_=>rfl
 | [],_::_,h,_,_,_=>by simp at h
 |_::_,[],h,_,_,_=>by simp at h
 |x::xs,y::ys,h,hx,hy,e=>by
  have a:=hx x (List.mem_cons_self ..)
  have b:=hy y (List.mem_cons_self ..)
  simp only[code]at e
  have e1:x=y:=by omega
  have e2:code xs=code ys:=by omega
  rw[e1,zW xs ys (by simpa using h) (fun z hz=>hx z (List.mem_cons_of_mem _ hz)) (fun z hz=>hy z (List.mem_cons_of_mem _ hz)) e2]
theorem AE: ∀(a b:List (List Int)),a.map List.length=b.map List.length→a.flatten=b.flatten→a=b
 | [],[],_,_=>rfl
 | [],_::_,h,_=>by simp at h
 |_::_,[],h,_=>by simp at h
 |x::xs,y::ys,h,e=>by
  simp only[List.map_cons,List.cons.injEq]at h
  simp only[List.flatten_cons]at e
  obtain⟨e1,e2⟩:=List.append_inj e h.1
  rw[e1,AE xs ys h.2 e2]
theorem Dc{t u:Tab}(h:aL t=true)(h':aL u=true)(eo:outer t=outer u)(ef:t.2.flatten=u.2.flatten):t=u:=by
 have el:t.2.length=u.2.length:=by rw[←bD,←bD,eo]
 refine Prod.ext (by rw[cy h,cy h']) (AE _ _ ?_ ef)
 refine List.ext_getElem (by simpa using el) fun r h1 h2=> ?_
 simp only[List.length_map]at h1 h2
 rw[List.getElem_map,List.getElem_map]
 have a:=dD h h1
 have b:=dD h' h2
 rw[eo]at a
 rw[al h1]at a
 rw[al h2]at b
 omega
theorem uj{t:Tab}(h:Good t):0≤code t.2.flatten∧code t.2.flatten<1000000000∧(∀x∈t.2.flatten,1≤x∧x≤9):=by
 have hp:=h.pl
 simp only[aL,Bool.and_eq_true]at hp
 have:=nJ hp.1
 have:=Cl 9 _ (jm h.pl) this
 refine⟨this.1,this.2,?_⟩
 assumption
theorem BU{t:Tab}(h:Good t): ∃d,1≤d∧d≤1000000000∧iter d t=t:=by
 refine Classical.byContradiction fun hno=> ?_
 have hne: ∀i j,i<j→j≤1000000000→iter i t≠iter j t:=by
  intro i j hij hj e
  refine hno ⟨j-i,by omega,by omega,?_⟩
  rw[show j=(j-i)+i by omega,pQ]at e
  exact(Bc i h (ov (j-i) h) e).symm
 have hcode: ∀i j,code (iter i t).2.flatten=code (iter j t).2.flatten→iter i t=iter j t:=by
  intro i j e
  have a:=ov i h
  have b:=ov j h
  have eo:outer (iter i t)=outer (iter j t):=by rw[rN i h,rN j h]
  have el:(iter i t).2.flatten.length=(iter j t).2.flatten.length:=by
   have x:=mS a.pl
   have y:=mS b.pl
   rw[eo]at x
   omega
  exact Dc a.pl b.pl eo (zW _ _ el (uj a).2.2 (uj b).2.2 e)
 have hR:((List.range 1000000001).map fun i=>code (iter i t).2.flatten+1).Nodup:=by
  rw[List.Nodup,List.pairwise_map]
  refine List.Pairwise.imp_of_mem (R:=fun a b=>a<b) (fun{a b} ha hb hab e=> ?_) List.pairwise_lt_range
  rw[List.mem_range]at hb
  exact hne a b hab (by omega) (hcode a b (by omega))
 have hsub: ∀x∈(List.range 1000000001).map (fun i=>code (iter i t).2.flatten+1),x∈wT 1000000000:=by
  intro x hx
  obtain⟨i,_,rfl⟩:=List.mem_map.1 hx
  have:=uj (ov i h)
  rw[hM]
  omega
 have:=sD _ _ hR hsub
 rw[List.length_map,List.length_range,sJ]at this
 omega
def jO:Nat→Tab→Tab→List Tab→List Tab
 |0,_,_,acc=>acc
 |m+1,t,cur,acc=>if prom cur=t then acc else jO m t (prom cur) (acc++ [prom cur])
theorem xS: ∀(m:Nat) (t cur:Tab) (acc:List Tab),(jO m t cur acc).length≤acc.length+m
 |0,_,_,_=>Nat.le_refl _
 |m+1,t,cur,acc=>by
  unfold jO
  split
  ·omega
  ·have:=xS m t (prom cur) (acc++ [prom cur])
   rw[List.length_append,List.length_singleton]at this
   omega
theorem Ei{t:Tab}(h:aL t=true)(hs:cw t=true): ∃d,1≤d∧d≤1000000000∧iter d t=t:=by
 by_cases hn:t.2.flatten.length=0
 ·refine⟨1,by omega,by omega,?_⟩
  show(bF t).1=t
  unfold bF
  rw[if_pos ⟨h,hs⟩,if_pos hn]
  refine Prod.ext (cy h).symm ?_
  refine(List.eq_nil_of_length_eq_zero (Nat.eq_zero_of_not_pos fun hp=> ?_)).symm
  have:=gm h hp
  have hl:=iP hp (show 0<(t.2.getD 0 []).length by omega)
  rw[List.eq_nil_of_length_eq_zero hn]at hl
  simp at hl
 ·exact BU ⟨h,hs,hn⟩
end Go.Am.Pu
end
section
/- A slide outwards, as the program has it; demotion. Plain words. -/
namespace Go.Am.Pu
theorem yl(g:List (List Int))(i c:Nat):pJ g i ((c:Int)-1)=leftOf g i c:=by
 unfold leftOf
 by_cases e:c=0
 ·subst e
  unfold pJ
  rw[if_neg (by omega),mG (by omega)];rfl
 ·rw[if_neg e,show(c:Int)-1=((c-1:Nat):Int) by omega,mN];rfl
theorem Ct(g:List (List Int))(i c:Nat):pJ g ((i:Int)-1) c=l6 g i c:=by
 unfold l6
 by_cases e:i=0
 ·subst e;rw[xY (by omega)];rfl
 ·rw[if_neg e,show(i:Int)-1=((i-1:Nat):Int) by omega,mN];rfl
theorem FK{g:List (List Int)}{i c:Nat}(h:leftOf g i c≠0):1≤c∧i<g.length∧c-1<(g.getD i []).length:=by
 unfold leftOf at h
 by_cases e:c=0
 ·rw[if_pos e]at h;exact absurd rfl h
 ·rw[if_neg e]at h
  have:=nX h
  exact⟨by omega,this.1,this.2⟩
theorem Hn{g:List (List Int)}{i c:Nat}(h:l6 g i c≠0):1≤i∧i-1<g.length∧c<(g.getD (i-1) []).length:=by
 unfold l6 at h
 by_cases e:i=0
 ·rw[if_pos e]at h;exact absurd rfl h
 ·rw[if_neg e]at h
  have:=nX h
  exact⟨by omega,this.1,this.2⟩
theorem EJ{V:Int→Prop}{g:List (List Int)}(v0:V 0)(h: ∀r x,V (cel g r x))(i c:Nat):V (leftOf g i c):=by
 unfold leftOf;split
 ·exact v0
 ·exact h _ _
theorem Gh{V:Int→Prop}{g:List (List Int)}(v0:V 0)(h: ∀r x,V (cel g r x))(i c:Nat):V (l6 g i c):=by
 unfold l6;split
 ·exact v0
 ·exact h _ _
theorem CU{g:List (List Int)}(h: ∀r x,0≤cel g r x)(i c:Nat){v:Int}(hv:0≤v): ∀r x,0≤cel (fb g i c v) r x:=by
 intro r x
 by_cases e:r=i∧x=c
 ·obtain⟨rfl,rfl⟩:=e
  by_cases h1:r<g.length
  ·by_cases h2:x<(g.getD r []).length
   ·rw[iN _ h1 h2];exact hv
   ·have hl:=bp g r x v r
    show 0≤((fb g r x v).getD r []).getD x 0
    rw[aQ (xs:=(fb g r x v).getD r []) (by omega)];omega
  ·show 0≤((fb g r x v).getD r []).getD x 0
   rw[aQ (xs:=fb g r x v) (by rw[dy];omega)];simp
 ·rw[gU _ e];exact h r x
def k9(q:List Int):Nat→List (List Int)→List (List Int)
 |_,[]=> []
 |i,r::rs=>if 0<r.length then r.drop (q.getD i 0).toNat::k9 q (i+1) rs else k9 q (i+1) rs
theorem lz{p q:List Int}{n:Nat}(h:gM p n=(q,true)):n≤p.length∧n<q.length∧q.length≤p.length+1∧(∀r,q.getD r 0=if r=n then p.getD n 0+1 else p.getD r 0)∧bm q=true:=by
 have hl:=B9 p n
 rw[h]at hl
 unfold gM at h
 by_cases hc:bm p=true∧(0:Int)≤n∧(n:Int)≤p.length
 ·rw[if_pos hc]at h
  have hn:n≤p.length:=by omega
  generalize hw:(if(n:Int)=p.length then p++ [0]else p)=w at h
  have hb: ∀r,w.getD r 0=p.getD r 0:=fun r=>by
   rw[←hw]
   split
   ·by_cases hr:r<p.length
    ·rw[lx hr]
    ·rw[mI (by omega),aQ (xs:=p) (by omega)]
     cases r-p.length<;>rfl
   ·rfl
  have hwl:n<w.length:=by
   rw[←hw]
   split
   ·rw[List.length_append,List.length_singleton];omega
   ·omega
  simp only[Int.toNat_natCast]at h
  by_cases hp:bm (w.set n (w.getD n 0+1))=true
  ·rw[if_pos hp]at h
   have h1:=congrArg Prod.fst h
   simp only at h1
   subst h1
   refine⟨hn,by rw[List.length_set];exact hwl,hl,fun r=> ?_,hp⟩
   by_cases e:r=n
   ·subst e
    rw[if_pos rfl,al (by rw[List.length_set];exact hwl),List.getElem_set_self,hb]
   ·rw[if_neg e,getD_set_ne (Ne.symm e),hb]
  ·rw[if_neg hp]at h
   have h2:=congrArg Prod.snd h
   simp at h2
 ·rw[if_neg hc]at h
  have h2:=congrArg Prod.snd h
  simp at h2
theorem wP{l m:List Int}(hl:l.length=m.length)(h: ∀x,x<m.length→l.getD x 0=m.getD x 0):l=m:=
 List.ext_getElem hl fun x h1 h2=>by rw[←al h1 0,←al h2 0];exact h x h2
theorem zd{l:List Int}{d:Int}{y:Nat}(h:y<l.length):(l.map (· +d)).getD y 0=l.getD y 0+d:=by
 rw[al (by rw[List.length_map];exact h),List.getElem_map,al h]
theorem y7{t:Tab}{n:Nat}(hn:n≤t.2.length)(r:Nat):(eU t n).getD r []=if r=n then(bP t).getD n []++ [0]else(bP t).getD r []:=by
 have hb: ∀r,(if n=t.2.length then bP t++ [[]]else bP t).getD r []=(bP t).getD r []:=fun r=>by
  split
  ·by_cases hr:r<(bP t).length
   ·simp only[List.getD_eq_getElem?_getD,List.getElem?_append_left hr]
   ·rw[aQ (xs:=bP t) (by omega)]
    simp only[List.getD_eq_getElem?_getD,List.getElem?_append_right (Nat.le_of_not_lt hr)]
    cases r-(bP t).length<;>rfl
  ·rfl
 unfold eU
 by_cases e:r=n
 ·subst e
  rw[if_pos rfl,al (by
   rw[List.length_set]
   split
   ·rw[List.length_append,List.length_singleton,fV];omega
   ·rw[fV];omega),List.getElem_set_self,hb]
 ·rw[if_neg e,getD_set_ne (Ne.symm e),hb]
theorem Fp{t:Tab}{n:Nat}:(eU t n).length=if n=t.2.length then t.2.length+1 else t.2.length:=by
 unfold eU
 rw[List.length_set]
 split
 ·rw[List.length_append,List.length_singleton,fV]
 ·rw[fV]
section
variable {u : Tab}
theorem xD(h:Good u):rowOf (prom u) u.2.flatten.length=((aE u).2:Int):=by
 obtain⟨hp,hs,hn⟩:=h
 have h0:=fW (t:=u) (by omega)
 obtain⟨_,_,s3,_⟩:=cX hp h0
 have hl:=ju hp hs hn
 have hlt:(aE u).2<(prom u).2.length:=by show _<(bF u).1.2.length;omega
 have hf:(prom u).2.findIdx (fun r=>has r u.2.flatten.length)=(aE u).2:=by
  rw[List.findIdx_eq hlt]
  refine⟨?_,fun j hj=> ?_⟩
  ·rw[←al hlt []]
   show has ((bF u).1.2.getD (aE u).2 []) u.2.flatten.length=true
   rw[jr hp hs hn,if_pos rfl,mr]
   simp
  ·rw[←al (show j<(prom u).2.length by omega) []]
   show has ((bF u).1.2.getD j []) u.2.flatten.length=false
   rw[Bool.eq_false_iff]
   intro hc
   rw[mr,jr hp hs hn,if_neg (by omega)]at hc
   obtain⟨x,hx,e⟩:=List.mem_map.1 hc
   obtain⟨y,hy,rfl⟩:=List.getElem_of_mem hx
   have:=oK hp hs h0 hy
   unfold cel at this
   rw[al hy]at this
   omega
 unfold rowOf yK
 rw[hf,if_pos hlt]
theorem zG(h:Good u):(prom u).2.set (aE u).2 (((prom u).2.getD (aE u).2 []).take (((prom u).2.getD (aE u).2 []).length-1))=bO (-1) (dS (aE u)):=by
 obtain⟨hp,hs,hn⟩:=h
 have h0:=fW (t:=u) (by omega)
 have hg:(prom u).2.getD (aE u).2 []=((aE u).1.2.getD (aE u).2 []).map (· + -1)++ [(u.2.flatten.length:Int)]:=by
  have:=jr hp hs hn (aE u).2
  rw[if_pos rfl]at this
  exact this
 have hw:=(m9 hp h0).1
 rw[hg]
 show(bF u).1.2.set _ _=_
 rw[rE hp hs hn]
 simp only[List.set_set]
 refine List.ext_getElem (by rw[List.length_set]) fun r h1 h2=> ?_
 rw[←al h1 [],←al h2 []]
 by_cases e:r=(aE u).2
 ·subst e
  rw[al (by rw[List.length_set,gn];exact hw),List.getElem_set_self,kv,nC]
  simp
 ·rw[getD_set_ne (Ne.symm e)]
theorem yN(h:Good u):if((aE u).1.2.getD (aE u).2 []).length=0 then(bO (-1) (dS (aE u))).take (aE u).2=(eF u).2 else bO (-1) (dS (aE u))=(eF u).2:=by
 obtain⟨hp,hs,hn⟩:=h
 have h0:=fW (t:=u) (by omega)
 have hle:=sk hp h0
 have hS:=(cX hp h0).1
 unfold dS
 by_cases e:(aE u).2=(aE u).1.2.length
 ·have e1:((aE u).1.2.getD (aE u).2 []).length=0:=by rw[aQ (by omega)];rfl
  rw[if_pos e1,if_pos e]
  show(bO (-1) ((aE u).1.2++ [[]])).take (aE u).2=bO (-1) (aE u).1.2
  rw[e]
  simp[bO]
 ·have:=gm hS (show(aE u).2<(aE u).1.2.length by omega)
  rw[if_neg (by omega),if_neg e]
  rfl
theorem DE(h:Good u){g:List (List Int)}(ha:Ag pn (bP (eY u)) g 0 0):
  (∀r,r<g.length→0<(g.getD r []).length)∧g.length=u.2.length∧
  (bO 1 (k9 [1] 0 g)).set 0 (1::(bO 1 (k9 [1] 0 g)).getD 0 [])=u.2:=by
 obtain⟨hp,hs,hn⟩:=h
 have h0:=fW (t:=u) (by omega)
 have hl:g.length=u.2.length:=by rw[ha.len,fV,jZ]
 have hr: ∀r,(g.getD r []).length=(u.2.getD r []).length:=fun r=>by rw[ha.row,mM hp h0]
 have hpos: ∀r,r<g.length→0<(g.getD r []).length:=fun r h1=>by
  have:=gm hp (show r<u.2.length by omega)
  rw[hr];omega
 refine⟨hpos,hl,?_⟩
 have hgo: ∀(rs:List (List Int)) (i:Nat),(∀r∈rs,0<r.length)→(k9 [1] i rs).length=rs.length∧ ∀r,r<rs.length→(k9 [1] i rs).getD r []=(rs.getD r []).drop (([1]:List Int).getD (i+r) 0).toNat:=by
  intro rs
  induction rs with
  |nil=>intro i _;exact⟨rfl,fun r h=>by simp at h⟩
  |cons x xs ih=>
   intro i hx
   obtain⟨a,b⟩:=ih (i+1) fun r h=>hx r (List.mem_cons_of_mem _ h)
   unfold k9
   rw[if_pos (hx x (List.mem_cons_self ..))]
   refine⟨by simp[a],fun r h=> ?_⟩
   cases r with
   |zero=>rfl
   |succ r=>
    have:=b r (by simpa using h)
    rw[show i+1+r=i+(r+1) by omega]at this
    exact this
 obtain⟨o1,o2⟩:=hgo g 0 fun r hm=>by
  obtain⟨q,hq,rfl⟩:=List.getElem_of_mem hm
  have:=hpos q hq
  rw[al hq]at this
  exact this
 refine List.ext_getElem (by rw[List.length_set,gn,o1,hl]) fun r h1 h2=> ?_
 have h3:r<g.length:=by omega
 rw[←al h1 [],←al h2 []]
 have hsh:(bO 1 (k9 [1] 0 g)).getD r []=((g.getD r []).drop (([1]:List Int).getD r 0).toNat).map (· +1):=by
  rw[kv,o2 r h3,Nat.zero_add]
 have hval: ∀x,¬(r=0∧x=0)→x<(u.2.getD r []).length→(g.getD r []).getD x 0+1=(u.2.getD r []).getD x 0:=by
  intro x hc hx
  have a:=ha.at_ r x hc
  rw[pD h0,if_neg hc]at a
  have b:=(kr hp hs).2 _ (iP h2 hx)
  have c:cel u.2 r x≠1:=fun e1=>hc (yW hp hs h2 hx e1)
  unfold pn at a
  rw[if_neg (by omega)]at a
  unfold cel at a
  omega
 by_cases e:r=0
 ·subst e
  rw[al h1,List.getElem_set_self,hsh]
  have hrl:=hr 0
  have hp0:=hpos 0 h3
  refine wP (by rw[List.length_cons,List.length_map,List.length_drop,nz,if_pos rfl,show(1:Int).toNat=1 from rfl];omega) fun x h5=> ?_
  cases x with
  |zero=>exact(qE hp hs (by omega)).symm
  |succ x=>
   show(((g.getD 0 []).drop 1).map (· +1)).getD x 0=_
   rw[zd (by rw[List.length_drop];omega),gZ,←hval (x+1) (by omega) h5,Nat.add_comm 1 x]
 ·rw[getD_set_ne (Ne.symm e),hsh,nz,if_neg e]
  have hrl:=hr r
  refine wP (by rw[List.length_map,List.length_drop,show(0:Int).toNat=0 from rfl];omega) fun x h5=> ?_
  show(((g.getD r []).drop 0).map (· +1)).getD x 0=_
  rw[zd (by rw[List.length_drop];omega),gZ,←hval x (by omega) h5,Nat.zero_add]
end
end Go.Am.Pu
end
section
/- The last promotion of an orbit; orbits' sizes. Plain words. -/
namespace Go.Am.Pu
theorem AR{t:Tab}: ∀(m:Nat) (cur:Tab) (acc:List Tab),Good cur→(∃d,1≤d∧d≤m∧iter d cur=t)→ ∃l u,jO m t cur (acc++ [cur])=l++ [u]∧Good u∧prom u=t
 |0,cur,acc,_,⟨d,h1,h2,_⟩=>by omega
 |m+1,cur,acc,hg,⟨d,h1,h2,h3⟩=>by
  unfold jO
  by_cases c:prom cur=t
  ·rw[if_pos c];exact⟨acc,cur,rfl,hg,c⟩
  ·rw[if_neg c]
   refine AR m (prom cur) (acc++ [cur]) hg.prom ?_
   cases d with
   |zero=>omega
   |succ d=>
    have h3:iter d (prom cur)=t:=h3
    refine⟨d,?_,by omega,h3⟩
    cases d with
    |zero=>exact absurd h3 c
    |succ d=>omega
theorem tV{t:Tab}(h:aL t=true)(hn:t.2.flatten.length=0):t=([],[]):=by
 refine Prod.ext (cy h) ?_
 refine List.eq_nil_of_length_eq_zero (Nat.eq_zero_of_not_pos fun hp=> ?_)
 have:=gm h hp
 have hl:=iP hp (show 0<(t.2.getD 0 []).length by omega)
 rw[List.eq_nil_of_length_eq_zero hn]at hl
 simp at hl
theorem D3{m:Nat}{t:Tab}(h:aL t=true)(hs:cw t=true)(hd: ∃d,1≤d∧d≤m∧iter d t=t):
  ∃l u,jO m t t [t]=l++ [u]∧jQ u∧((Good u∧prom u=t)∨(t.2.flatten.length=0∧u=([],[]))):=by
 by_cases hn:t.2.flatten.length=0
 ·have ht:=tV h hn
  subst ht
  obtain⟨d,h1,h2,_⟩:=hd
  refine⟨[],([],[]),?_,jQ.nil,.inr ⟨rfl,rfl⟩⟩
  cases m with
  |zero=>omega
  |succ m=>
   unfold jO
   rw[if_pos ?_];rfl
   show(bF ([],[])).1=([],[])
   unfold bF
   rw[if_pos ⟨h,hs⟩,if_pos hn]
 ·obtain⟨l,u,a,b,c⟩:=AR m t [] ⟨h,hs,hn⟩ hd
  refine⟨l,u,a,?_,.inl ⟨b,c⟩⟩
  have hr:=fN b.pl
  exact⟨by rw[cy b.pl];simp,by have:=hr.1;omega,fun r hm=>by have:=hr.2 r hm;omega⟩
def yj(t:Tab):Prop:=t.1= []∧cj 10 10 t.2
theorem yj.ok{t:Tab}(h:yj t):jQ t:=⟨by rw[h.1];simp,by have:=h.2.1;omega,fun r hr=>by have:=h.2.2 r hr;omega⟩
theorem yj.size{t:Tab}(h:yj t):kC t.2≤100:=by
 have a:=xh t.2 10 h.2.2
 have b:=h.2.1
 omega
theorem Ey{t:Tab}: ∀(m:Nat) (cur:Tab) (acc:List Tab),(∀x∈acc,yj x)→ ∀x∈jO m t cur acc,yj x
 |0,_,_,h=>h
 |m+1,cur,acc,h=>by
  unfold jO
  split
  ·exact h
  ·refine Ey m _ _ fun x hx=> ?_
   rcases List.mem_append.1 hx with hx|hx
   ·exact h x hx
   ·rw[List.mem_singleton.1 hx]
    exact⟨nk,sQ⟩
section
attribute [local instance] D.real
variable {α β : Type} {x y v : Option α}
theorem bE{x:Option β}{z:β}{f:β→Option α}(h:x=some z)(g:f z=v):D.bnd x f=v:=by rw[h];exact g
theorem tN(g:x=v):D.test (D.no true) y x=v:=g
theorem tY(g:x=v):D.test true x y=v:=g
theorem tF(g:y=v):D.test false x y=v:=g
theorem tM(g:y=v):D.test (D.no false) y x=v:=g
theorem tG{p:Prop} [Decidable p](h:p)(g:x=v):D.test (decide p) x y=v:=by
 show(if decide p=true then x else y)=v
 rw[if_pos (decide_eq_true h)];exact g
theorem tX{p:Prop} [Decidable p](h: ¬p)(g:y=v):D.test (decide p) x y=v:=by
 show(if decide p=true then x else y)=v
 rw[decide_eq_false h];exact g
theorem tE{a b:Int}(h:a=b)(g:x=v):D.test (D.no (D.eq a b)) y x=v:=by
 show(if(!decide (a=b))=true then y else x)=v
 rw[decide_eq_true h];exact g
theorem tB{b:Bool}(g:x=v):D.test (D.no (D.eqB b b)) y x=v:=by
 show(if(!(b==b))=true then y else x)=v
 rw[beq_self_eq_true];exact g
end
end Go.Am.Pu
end
section
/- The rewriting rules of the plain laws, in one. -/
namespace Go.Am.Pu
open Go Go.Am
attribute [local instance] D.real
theorem sss:type_of% @gV∧type_of% @gH∧type_of% @dV∧type_of% @eQ∧type_of% @eP∧type_of% @dq∧type_of% @dn∧type_of% @dR∧type_of% @gF∧type_of% @eG∧type_of% @eN∧type_of% @cR∧type_of% @cS∧type_of% @eO∧type_of% @cJ∧type_of% @ez∧type_of% @dW∧type_of% @gJ∧type_of% @gW∧type_of% @eI∧type_of% @eM∧type_of% @aX∧type_of% @w64∧type_of% @Int.toNat_natCast∧type_of% @decide_eq_true_eq∧type_of% @Int.ofNat_lt∧type_of% @Int.ofNat_le∧type_of% @Int.natCast_nonneg∧type_of% @decide_true∧type_of% @decide_false∧type_of% @Bool.not_true∧type_of% @Bool.not_false∧type_of% @Bool.false_eq_true∧type_of% @Bool.not_eq_true∧type_of% @Bool.true_and∧type_of% @Bool.and_true∧type_of% @Bool.false_and∧type_of% @Bool.and_false:=
 ⟨@gV,@gH,@dV,@eQ,@eP,@dq,@dn,@dR,@gF,@eG,@eN,@cR,@cS,@eO,@cJ,@ez,@dW,@gJ,@gW,@eI,@eM,@aX,@w64,@Int.toNat_natCast,@decide_eq_true_eq,@Int.ofNat_lt,@Int.ofNat_le,@Int.natCast_nonneg,@decide_true,@decide_false,@Bool.not_true,@Bool.not_false,@Bool.false_eq_true,@Bool.not_eq_true,@Bool.true_and,@Bool.and_true,@Bool.false_and,@Bool.and_false⟩
end Go.Am.Pu
end
section
/- Cells taken out of plain tableaux, one behind another. Plain words. -/
namespace Go.Am.Pu
def si(rs:List (List Int)):Prop:= ∀i,i+1<rs.length→(rs.getD (i+1) []).length≤(rs.getD i []).length∧ ∀q,q<(rs.getD (i+1) []).length→(rs.getD i []).getD q 0<(rs.getD (i+1) []).getD q 0
theorem wX{r:List Int}{y:Int}: ∀{m q:Nat},nR r y m=some q→ ∀c,q<c→c<m→y≤r.getD c 0
 |0,q,h,_,_,_=>by simp[nR]at h
 |m+1,q,h,c,h1,h2=>by
  unfold nR at h
  split at h
  ·next hc=>injection h with h;omega
  ·next hc=>
   by_cases e:c=m
   ·subst e;omega
   ·exact wX h c h1 (by omega)
theorem tD: ∀(r:Nat) (rs:List (List Int)) (y:Int),(nZ r rs y).1.length=rs.length∧ ∀i,((nZ r rs y).1.getD i []).length=(rs.getD i []).length
 |0,_,_=>⟨rfl,fun _=>rfl⟩
 |r+1,rs,y=>by
  unfold nZ
  split
  ·next q hq=>
   obtain⟨a,b⟩:=tD r (rs.set r ((rs.getD r []).set q y)) ((rs.getD r []).getD q 0)
   refine⟨by rw[a,List.length_set],fun i=> ?_⟩
   rw[b]
   by_cases e:i=r
   ·subst e
    by_cases h:i<rs.length
    ·rw[al (by rw[List.length_set];exact h),List.getElem_set_self,List.length_set]
    ·rw[aQ (by rw[List.length_set];omega),aQ (xs:=rs) (by omega)]
   ·rw[getD_set_ne (Ne.symm e)]
  ·exact tD r rs y
theorem yA: ∀(r:Nat) (rs:List (List Int)) (y:Int) (q:Nat),r<rs.length→(∀i,i+1<r→(rs.getD (i+1) []).length≤(rs.getD i []).length∧ ∀q,q<(rs.getD (i+1) []).length→(rs.getD i []).getD q 0<(rs.getD (i+1) []).getD q 0)→
  (∀i,r≤i→i+1<rs.length→(rs.getD (i+1) []).length≤(rs.getD i []).length∧ ∀q,q<(rs.getD (i+1) []).length→(rs.getD i []).getD q 0<(rs.getD (i+1) []).getD q 0)→
  (∀i,i+1=r→(rs.getD r []).length≤(rs.getD i []).length∧q<(rs.getD i []).length∧(rs.getD i []).getD q 0<y∧(∀c,c<(rs.getD r []).length→c≠q→(rs.getD i []).getD c 0<(rs.getD r []).getD c 0)∧(∀c,q≤c→c<(rs.getD r []).length→y<(rs.getD r []).getD c 0))→
  si (nZ r rs y).1
 |0,rs,y,q,hr,_,hB,_=>fun i hi=>hB i (Nat.zero_le _) hi
 |r+1,rs,y,q,hr,hA,hB,hI=>by
  obtain⟨i1,i2,i3,i4,i5⟩:=hI r rfl
  obtain⟨q0,hq0⟩:=yu i2 i3
  have hmax:=wX hq0
  obtain⟨k1,k2⟩:=uN hq0
  have hqq:q≤q0:=Nat.le_of_not_lt fun hlt=>by
   have:=hmax q hlt i2
   omega
  unfold nZ
  rw[hq0]
  have hrow:(rs.set r ((rs.getD r []).set q0 y)).getD r []=(rs.getD r []).set q0 y:=by
   rw[al (by rw[List.length_set];omega),List.getElem_set_self]
  have hne: ∀i,i≠r→(rs.set r ((rs.getD r []).set q0 y)).getD i []=rs.getD i []:=fun i h=>getD_set_ne (Ne.symm h) _ _
  have hset: ∀c,c≠q0→((rs.getD r []).set q0 y).getD c 0=(rs.getD r []).getD c 0:=fun c h=>getD_set_ne (Ne.symm h) _ _
  have hself:((rs.getD r []).set q0 y).getD q0 0=y:=by rw[al (by rw[List.length_set];exact k1),List.getElem_set_self]
  refine yA r _ _ q0 (by rw[List.length_set];omega) (fun i hi=> ?_) (fun i hi hl=> ?_) (fun i hi=> ?_)
  ·rw[hne _ (by omega),hne _ (by omega)]
   exact hA i (by omega)
  ·rw[List.length_set]at hl
   by_cases e:i=r
   ·subst e
    rw[hne (i+1) (by omega),hrow,List.length_set]
    refine⟨i1,fun c hc=> ?_⟩
    by_cases e2:c=q0
    ·subst e2;rw[hself];exact i5 c hqq hc
    ·rw[hset c e2]
     by_cases e3:c=q
     ·subst e3
      have:=i5 c (Nat.le_refl _) hc
      omega
     ·exact i4 c hc e3
   ·rw[hne (i+1) (by omega),hne i e]
    exact hB i (by omega) hl
  ·subst hi
   obtain⟨a1,a2⟩:=hA i (by omega)
   rw[hrow,hne i (by omega),List.length_set]
   refine⟨a1,by omega,a2 q0 k1,fun c hc e=> ?_,fun c h1 h2=> ?_⟩
   ·rw[hset c e];exact a2 c hc
   ·by_cases e:c=q0
    ·subst e;rw[hself];exact k2
    ·rw[hset c e]
     have:=hmax c (by omega) h2
     omega
def cV(rs:List (List Int))(r:Nat):List (List Int):=
 if(rs.getD r []).length=1 then(rs.set r ((rs.getD r []).take ((rs.getD r []).length-1))).take r else rs.set r ((rs.getD r []).take ((rs.getD r []).length-1))
def ij(a b:List (List Int)):Prop:=a.length=b.length∧ ∀i,(a.getD i []).length=(b.getD i []).length
theorem iJ{α:Type}{l:List α}{n i:Nat}(h:i<n)(d:α):(l.take n).getD i d=l.getD i d:=by
 simp only[List.getD_eq_getElem?_getD,List.getElem?_take,if_pos h]
theorem yp{a b:List (List Int)}(h:ij a b)(n:Nat):ij (a.take n) (b.take n):=by
 refine⟨by rw[List.length_take,List.length_take,h.1],fun i=> ?_⟩
 by_cases hi:i<n
 ·rw[iJ hi,iJ hi];exact h.2 i
 ·rw[aQ (xs:=a.take n) (by rw[List.length_take];omega),aQ (xs:=b.take n) (by rw[List.length_take];omega)]
theorem yZ(rs:List (List Int))(r:Nat):ij (nG rs r).1 (cV rs r):=by
 have a:=tD r (rs.set r ((rs.getD r []).take ((rs.getD r []).length-1))) ((rs.getD r []).getD ((rs.getD r []).length-1) 0)
 unfold nG cV
 simp only
 split
 ·exact yp a r
 ·exact a
theorem Al{a b:List (List Int)}(h:ij a b)(r:Nat):ij (cV a r) (cV b r):=by
 have hs:ij (a.set r ((a.getD r []).take ((a.getD r []).length-1))) (b.set r ((b.getD r []).take ((b.getD r []).length-1))):=by
  refine⟨by rw[List.length_set,List.length_set,h.1],fun i=> ?_⟩
  by_cases e:i=r
  ·subst e
   by_cases hi:i<a.length
   ·rw[al (xs:=a.set _ _) (by rw[List.length_set];exact hi),List.getElem_set_self,al (xs:=b.set _ _) (by rw[List.length_set,←h.1];exact hi),List.getElem_set_self,List.length_take,List.length_take,h.2 i]
   ·rw[aQ (xs:=a.set _ _) (by rw[List.length_set];omega),aQ (xs:=b.set _ _) (by rw[List.length_set,←h.1];omega)]
  ·rw[getD_set_ne (Ne.symm e),getD_set_ne (Ne.symm e)];exact h.2 i
 unfold cV
 rw[h.2 r]
 split
 ·rw[←h.2 r];rw[h.2 r]at*;exact yp hs r
 ·rw[h.2 r]at hs;exact hs
theorem ij.trans{a b c:List (List Int)}(h:ij a b)(h':ij b c):ij a c:=⟨h.1.trans h'.1,fun i=>(h.2 i).trans (h'.2 i)⟩
theorem EX{rs:List (List Int)}(h:si rs)(n:Nat):si (rs.take n):=by
 intro i hi
 rw[List.length_take]at hi
 rw[iJ (by omega),iJ (by omega)]
 exact h i (by omega)
theorem zz{rs:List (List Int)}{r:Nat}(h:si rs)(hr:r<rs.length)(hl:1≤(rs.getD r []).length)(hc:(rs.getD (r+1) []).length<(rs.getD r []).length):si (nG rs r).1:=by
 have hrow:(rs.set r ((rs.getD r []).take ((rs.getD r []).length-1))).getD r []=(rs.getD r []).take ((rs.getD r []).length-1):=by
  rw[al (by rw[List.length_set];exact hr),List.getElem_set_self]
 have hne: ∀i,i≠r→(rs.set r ((rs.getD r []).take ((rs.getD r []).length-1))).getD i []=rs.getD i []:=fun i h=>getD_set_ne (Ne.symm h) _ _
 have key:si (nZ r (rs.set r ((rs.getD r []).take ((rs.getD r []).length-1))) ((rs.getD r []).getD ((rs.getD r []).length-1) 0)).1:=by
  refine yA r _ _ ((rs.getD r []).length-1) (by rw[List.length_set];exact hr) (fun i hi=> ?_) (fun i hi hil=> ?_) (fun i hi=> ?_)
  ·rw[hne _ (by omega),hne _ (by omega)];exact h i (by omega)
  ·rw[List.length_set]at hil
   by_cases e:i=r
   ·subst e
    rw[hne (i+1) (by omega),hrow,List.length_take]
    refine⟨by omega,fun c hc'=> ?_⟩
    rw[iJ (by omega)]
    exact(h i hil).2 c hc'
   ·rw[hne (i+1) (by omega),hne i e];exact h i hil
  ·subst hi
   obtain⟨a1,a2⟩:=h i hr
   rw[hrow,hne i (by omega),List.length_take]
   refine⟨by omega,by omega,a2 _ (by omega),fun c h1 h2=> ?_,fun c h1 h2=>by omega⟩
   rw[iJ (by omega)]
   exact a2 c (by omega)
 unfold nG
 simp only
 split
 ·exact EX key r
 ·exact key
end Go.Am.Pu
end
section
/- The greatest number of a standard tableau, and the tableau without it; a pair of tableaux unrolled. Plain words. -/
namespace Go.Am.Pu
section
variable {t : Tab}
theorem wA(h:aL t=true)(hs:cw t=true){a b x y:Nat}(ha:a<t.2.length)(hx:x<(t.2.getD a []).length)(hb:b<t.2.length)(hy:y<(t.2.getD b []).length)(e:cel t.2 a x=cel t.2 b y):a=b∧x=y:=by
 have nd:=(kr h hs).1
 rw[List.Nodup,List.pairwise_flatten]at nd
 have mem: ∀{r z:Nat},r<t.2.length→(hz:z<(t.2.getD r []).length)→cel t.2 r z∈t.2.getD r []:=fun{r z} _ hz=>by
  unfold cel
  rw[al hz]
  exact List.getElem_mem hz
 have ab: ∀{a b x y:Nat},a<b→a<t.2.length→x<(t.2.getD a []).length→b<t.2.length→y<(t.2.getD b []).length→cel t.2 a x≠cel t.2 b y:=fun{a b x y} hab ha hx hb hy=>by
  have:=List.pairwise_iff_getElem.1 nd.2 a b ha hb hab
  exact this _ (by rw[←al ha []];exact mem ha hx) _ (by rw[←al hb []];exact mem hb hy)
 have e1:a=b:=by
  rcases Nat.lt_trichotomy a b with hl|hl|hl
  ·exact absurd e (ab hl ha hx hb hy)
  ·exact hl
  ·exact absurd e.symm (ab hl hb hy ha hx)
 subst e1
 refine⟨rfl,?_⟩
 have n2:=nd.1 _ (by rw[al ha];exact List.getElem_mem ha:t.2.getD a []∈t.2)
 unfold cel at e
 rw[al hx,al hy]at e
 rcases Nat.lt_trichotomy x y with hl|hl|hl
 ·exact absurd e (List.pairwise_iff_getElem.1 n2 x y hx hy hl)
 ·exact hl
 ·exact absurd e.symm (List.pairwise_iff_getElem.1 n2 y x hy hx hl)
theorem mO(h:aL t=true)(hs:cw t=true){a x:Nat}{v:Int}(ha:a<t.2.length)(hx:x<(t.2.getD a []).length)(e:cel t.2 a x=v):rowOf t v=a:=by
 have hf:t.2.findIdx (fun r=>has r v)=a:=by
  rw[List.findIdx_eq ha]
  refine⟨?_,fun j hj=> ?_⟩
  ·rw[←al ha [],mr,←e]
   unfold cel
   rw[al hx]
   exact List.getElem_mem hx
  ·rw[Bool.eq_false_iff]
   intro hc
   rw[mr]at hc
   obtain⟨y,hy,e2⟩:=List.getElem_of_mem hc
   have hjl:j<t.2.length:=by omega
   have hy':y<(t.2.getD j []).length:=by rw[al hjl];exact hy
   have e3:cel t.2 j y=v:=by
    unfold cel
    rw[al hy']
    simp only[al hjl]
    exact e2
   have:=wA h hs hjl hy' ha hx (by rw[e,e3])
   omega
 unfold rowOf yK
 rw[hf,if_pos ha]
theorem AK(h:aL t=true)(hs:cw t=true)(hn:t.2.flatten.length≠0): ∃a:Nat,a<t.2.length∧1≤(t.2.getD a []).length∧cel t.2 a ((t.2.getD a []).length-1)=t.2.flatten.length∧(t.2.getD (a+1) []).length<(t.2.getD a []).length∧rowOf t t.2.flatten.length=a:=by
 have ho:jN t.2.flatten=true:=by
  have:=hs
  simp only[cw,Bool.and_eq_true]at this
  exact this.2
 obtain⟨a,x,ha,hx,e⟩:=o8 (j2.1 ho t.2.flatten.length (hM.2 (by omega)))
 have hb:=(kr h hs).2
 obtain⟨c1,c2⟩:=g9 h
 have hx1:x+1=(t.2.getD a []).length:=by
  refine Nat.le_antisymm hx (Nat.le_of_not_lt fun hlt=> ?_)
  have k1:=c2 a x ha hlt
  have k2:=(hb _ (iP ha hlt)).2
  have:=wA h hs ha hx ha hlt (by omega)
  omega
 have hbel:(t.2.getD (a+1) []).length≤x:=by
  refine Nat.le_of_not_lt fun hlt=> ?_
  have ha1:a+1<t.2.length:=Nat.lt_of_not_le fun hle=>by rw[aQ hle]at hlt;simp at hlt
  have k1:=(jh h a ha1).2 x hlt
  have k2:=(hb _ (iP ha1 hlt)).2
  unfold cel at e k2
  omega
 refine⟨a,ha,by omega,by rw[show(t.2.getD a []).length-1=x by omega];exact e,by omega,mO h hs ha hx e⟩
theorem mZ{rs:List (List Int)}{a:Nat}(ha:a<rs.length)(hc:(rs.getD (a+1) []).length<(rs.getD a []).length)(hp: ∀r,r<rs.length→1≤(rs.getD r []).length)(r:Nat):(cV rs a).getD r []=if r=a then(rs.getD a []).take ((rs.getD a []).length-1)else rs.getD r []:=by
 have hset:(rs.set a ((rs.getD a []).take ((rs.getD a []).length-1))).getD r []=if r=a then(rs.getD a []).take ((rs.getD a []).length-1)else rs.getD r []:=by
  by_cases e:r=a
  ·subst e;rw[if_pos rfl,al (by rw[List.length_set];exact ha),List.getElem_set_self]
  ·rw[if_neg e,getD_set_ne (Ne.symm e)]
 unfold cV
 split
 ·next h1=>
  by_cases hr:r<a
  ·rw[iJ hr,hset]
  ·rw[aQ (by rw[List.length_take];omega)]
   by_cases e:r=a
   ·subst e;rw[if_pos rfl,h1];rfl
   ·rw[if_neg e]
    have hlast:rs.length≤a+1:=Nat.le_of_not_lt fun hlt=>by
     have:=hp (a+1) hlt
     omega
    rw[aQ (by omega)]
 ·exact hset
theorem pf{rs:List (List Int)}{a:Nat}(ha:a<rs.length):(cV rs a).length=if(rs.getD a []).length=1 then a else rs.length:=by
 unfold cV
 split
 ·rw[List.length_take,List.length_set];omega
 ·rw[List.length_set]
theorem Cy(h:aL t=true)(hs:cw t=true){a:Nat}(hn:t.2.flatten.length≠0)(ha:a<t.2.length)(h1:1≤(t.2.getD a []).length)(htop:cel t.2 a ((t.2.getD a []).length-1)=t.2.flatten.length)(hc:(t.2.getD (a+1) []).length<(t.2.getD a []).length):
  aL (([],cV t.2 a):Tab)=true∧cw (([],cV t.2 a):Tab)=true∧(cV t.2 a).flatten.length+1=t.2.flatten.length∧ ∀v,1≤v→v<(t.2.flatten.length:Int)→rowOf ([],cV t.2 a) v=rowOf t v:=by
 have hpos:=fun r (hr:r<t.2.length)=>gm h hr
 have hrow:=mZ ha hc hpos
 have hlen:=pf ha
 obtain⟨c1,c2⟩:=g9 h
 have c3:=jh h
 have hcorner:(outer t).getD (a+1) 0<(outer t).getD a 0:=by
  rw[dD h ha]
  by_cases e:a+1<t.2.length
  ·rw[dD h e];omega
  ·rw[aQ (by rw[bD];omega)];omega
 have hal:a<(outer t).length:=by rw[bD];exact ha
 have hout:outer (([],cV t.2 a):Tab)=aB (outer t) a:=by
  have hdl:(aB (outer t) a).length=(cV t.2 a).length:=by
   rw[hlen]
   unfold aB
   rw[dD h ha]
   by_cases e:(t.2.getD a []).length=1
   ·rw[if_pos (by omega),if_pos e,List.length_take,bD];omega
   ·rw[if_neg (by omega),if_neg e,List.length_set,bD]
  refine List.ext_getElem (by rw[bD,hdl]) fun r k1 k2=> ?_
  rw[←al k1 0,←al k2 0,kS (gu h) hal hcorner]
  have k3:r<(cV t.2 a).length:=by rw[bD]at k1;exact k1
  have:=fC [] (cV t.2 a) 0 r k3
  unfold outer at this⊢
  rw[this,hrow]
  have hrl:r<t.2.length:=by
   rw[hlen]at k3
   split at k3<;>omega
  have po:=dD h hrl
  have pa:=dD h ha
  unfold outer at po pa
  by_cases e:r=a
  ·subst e
   rw[if_pos rfl,if_pos rfl,List.length_take,pa]
   simp only[List.getD_nil]
   omega
  ·rw[if_neg e,if_neg e,po]
   simp only[List.getD_nil]
   omega
 have hcel: ∀{r x:Nat},x<((cV t.2 a).getD r []).length→x<(t.2.getD r []).length∧cel (cV t.2 a) r x=cel t.2 r x:=fun{r x} hx=>by
  unfold cel
  rw[hrow]at hx⊢
  by_cases e:r=a
  ·subst e
   rw[if_pos rfl,List.length_take]at hx
   rw[if_pos rfl,iJ (by omega)]
   exact⟨by omega,rfl⟩
  ·rw[if_neg e]at hx⊢
   exact⟨hx,rfl⟩
 have hrl: ∀{r:Nat},r<(cV t.2 a).length→r<t.2.length:=fun{r} hr=>by
  rw[hlen]at hr
  split at hr<;>omega
 have hin: ∀{r x:Nat},x<(t.2.getD r []).length→ ¬(r=a∧x+1=(t.2.getD a []).length)→x<((cV t.2 a).getD r []).length:=fun{r x} hx hne=>by
  rw[hrow]
  by_cases e:r=a
  ·subst e
   rw[if_pos rfl,List.length_take]
   have: ¬x+1=(t.2.getD r []).length:=fun e=>hne ⟨rfl,e⟩
   omega
  ·rw[if_neg e];exact hx
 have hpl:aL (([],cV t.2 a):Tab)=true:=by
  refine nv rfl (by rw[hout];exact oj (gu h) hal hcorner) (fun r x hr hx=> ?_) (fun r x hr hx=> ?_) (fun r x hr hx=> ?_)
  ·obtain⟨k1,k2⟩:=hcel hx
   rw[k2];exact c1 r x (hrl hr) k1
  ·obtain⟨k1,k2⟩:=hcel hx
   obtain⟨_,k4⟩:=hcel (show x<((cV t.2 a).getD r []).length from Nat.lt_of_succ_lt hx)
   rw[k2,k4];exact c2 r x (hrl hr) k1
  ·obtain⟨k1,k2⟩:=hcel hx
   have hr1:=hrl hr
   obtain⟨d1,d2⟩:=c3 r hr1
   have hxr:x<((cV t.2 a).getD r []).length:=by
    refine hin (by omega) fun e=> ?_
    rw[e.1]at k1
    omega
   obtain⟨_,k4⟩:=hcel hxr
   rw[k2,k4]
   exact d2 x k1
 have hfl:(cV t.2 a).flatten.length+1=t.2.flatten.length:=by
  have e1:=mS hpl
  rw[hout,AI (gu h) hal hcorner,mS h]at e1
  simp only at e1
  omega
 have ho:jN t.2.flatten=true:=by
  have:=hs
  simp only[cw,Bool.and_eq_true]at this
  exact this.2
 have hcells: ∀v,1≤v→v<(t.2.flatten.length:Int)→ ∃r x,r<(cV t.2 a).length∧x<((cV t.2 a).getD r []).length∧cel (cV t.2 a) r x=v∧r<t.2.length∧x<(t.2.getD r []).length∧cel t.2 r x=v:=by
  intro v v1 v2
  obtain⟨r,x,hr,hx,e⟩:=o8 (j2.1 ho v (hM.2 (by omega)))
  have hx':x<((cV t.2 a).getD r []).length:=by
   refine hin hx fun e2=> ?_
   rw[e2.1,show x=(t.2.getD a []).length-1 by omega,htop]at e
   omega
  exact⟨r,x,Nat.lt_of_not_le fun hle=>by rw[aQ hle]at hx';simp at hx',hx',by rw[(hcel hx').2];exact e,hr,hx,e⟩
 have hst:cw (([],cV t.2 a):Tab)=true:=by
  have hp':=hpl
  simp only[aL,Bool.and_eq_true]at hp'
  simp only[cw,Bool.and_eq_true]
  refine⟨hp'.1,j2.2 fun v hv=> ?_⟩
  rw[hM]at hv
  obtain⟨r,x,q1,q2,q3,_⟩:=hcells v hv.1 (by omega)
  rw[←q3]
  exact iP q1 q2
 refine⟨hpl,hst,hfl,fun v v1 v2=> ?_⟩
 obtain⟨r,x,q1,q2,q3,q4,q5,q6⟩:=hcells v v1 v2
 rw[mO h hs q4 q5 q6,mO hpl hst q1 q2 q3]
end
structure Unr (q : Tab) (k : Nat) (P Q : List (List Int)) : Prop where
  pl : aL (([], Q) : Tab) = true
  st : cw (([], Q) : Tab) = true
  fl : Q.flatten.length = k
  col : si P
  same : ij P Q
  p9 : cj 9 9 P
  row : ∀ v, 1 ≤ v → v ≤ (k : Int) → rowOf ([], Q) v = rowOf q v
theorem Unr.step{q:Tab}{k:Nat}{P Q:List (List Int)}(h:Unr q (k+1) P Q): ∃a:Nat,rowOf q ((k+1:Nat):Int)=a∧a<Q.length∧1≤(Q.getD a []).length∧cel Q a ((Q.getD a []).length-1)=(k+1:Nat)∧(Q.getD (a+1) []).length<(Q.getD a []).length∧Unr q k (nG P a).1 (cV Q a):=by
 have hfl:(([],Q):Tab).2.flatten.length=k+1:=h.fl
 obtain⟨a,a1,a2,a3,a4,a5⟩:=AK h.pl h.st (by omega)
 obtain⟨b1,b2,b3,b4⟩:=Cy h.pl h.st (by omega) a1 a2 a3 a4
 simp only at a1 a2 a3 a4 b3
 have hP1:a<P.length:=by rw[h.same.1];exact a1
 refine⟨a,?_,a1,a2,by rw[a3,h.fl],a4,⟨b1,b2,by have:=h.fl;omega,zz h.col hP1 (by rw[h.same.2];exact a2) (by rw[h.same.2,h.same.2];exact a4),(yZ P a).trans (Al h.same a),zq h.p9 a,fun v v1 v2=> ?_⟩⟩
 ·rw[←h.row _ (by omega) (Int.le_refl _),←a5,hfl]
 ·rw[b4 v v1 (by rw[hfl];omega)]
  exact h.row v v1 (by omega)
end Go.Am.Pu
namespace Go.Am.Pu
end Go.Am.Pu
end
section
/- Insertion keeps tableaux; where the new cells lie; a tableau from its word. Plain words. -/
namespace Go.Am.Pu
def ox(r:List Int):Prop:= ∀i,i+1<r.length→r.getD i 0≤r.getD (i+1) 0
theorem ox.le{r:List Int}(h:ox r): ∀(d i:Nat),i+d<r.length→r.getD i 0≤r.getD (i+d) 0
 |0,i,_=>Int.le_refl _
 |d+1,i,hi=>by
  have a:=ox.le h d i (by omega)
  have b:=h (i+d) (by omega)
  rw[show i+(d+1)=i+d+1 by omega]
  omega
theorem ox.mono{r:List Int}(h:ox r){i j:Nat}(hij:i≤j)(hj:j<r.length):r.getD i 0≤r.getD j 0:=by
 have:=h.le (j-i) i (by omega)
 rw[show i+(j-i)=j by omega]at this
 exact this
def fst(r:List Int)(x:Int):Nat:=r.findIdx fun n=>decide (x<n)
theorem yC{r:List Int}{x:Int}:fst r x≤r.length:=List.findIdx_le_length
theorem ER{r:List Int}{x:Int}(h:fst r x<r.length):x<r.getD (fst r x) 0:=by
 have:=Bi (p:=fun n=>decide (x<n)) h
 exact of_decide_eq_true this
theorem zc{r:List Int}{x:Int}{i:Nat}(h:i<fst r x):r.getD i 0≤x:=by
 have h1:i<r.length:=Nat.lt_of_lt_of_le h yC
 have h2:=List.not_of_lt_findIdx h
 rw[al h1]
 exact Int.not_lt.1 (of_decide_eq_false h2)
theorem jD(r:List Int)(rs:List (List Int))(x:Int):dG (r::rs) x=if fst r x<r.length then(r.set (fst r x) x::(dG rs (r.getD (fst r x) 0)).1,(dG rs (r.getD (fst r x) 0)).2+1)else((r++ [x])::rs,0):=rfl
def GI(r:List Int):List (List Int)→Prop
 | []=>True
 |s::_=>s.length≤r.length∧ ∀q,q<s.length→r.getD q 0<s.getD q 0
def SSR:List (List Int)→Prop
 | []=>True
 |r::rs=>0<r.length∧ox r∧GI r rs∧SSR rs
theorem j5{r:List Int}{i:Nat}(x:Int)(h:i<r.length)(q:Nat):(r.set i x).getD q 0=if q=i then x else r.getD q 0:=by
 by_cases e:q=i
 ·subst e;rw[if_pos rfl,al (by rw[List.length_set];exact h),List.getElem_set_self]
 ·rw[if_neg e,getD_set_ne (Ne.symm e)]
theorem j6{r:List Int}(x:Int)(q:Nat):(r++ [x]).getD q 0=if q=r.length then x else r.getD q 0:=by
 by_cases h:q<r.length
 ·rw[lx h,if_neg (by omega)]
 ·rw[mI (by omega)]
  by_cases e:q=r.length
  ·rw[if_pos e,e,Nat.sub_self];rfl
  ·rw[if_neg e,aQ (by simp;omega),aQ (by omega)]
theorem FU{r:List Int}{x:Int}(h:ox r)(hf:fst r x<r.length):ox (r.set (fst r x) x):=by
 intro i hi
 rw[List.length_set]at hi
 rw[j5 x hf,j5 x hf]
 have h0:=h i hi
 by_cases e1:i=fst r x
 ·rw[if_pos e1,if_neg (by omega)]
  have:=ER hf
  rw[←e1]at this
  omega
 ·rw[if_neg e1]
  by_cases e2:i+1=fst r x
  ·rw[if_pos e2];exact zc (by omega)
  ·rw[if_neg e2];exact h0
theorem FO{r:List Int}{x:Int}(h:ox r)(hf: ¬fst r x<r.length):ox (r++ [x]):=by
 intro i hi
 rw[List.length_append,List.length_singleton]at hi
 rw[j6,j6,if_neg (by omega)]
 by_cases e:i+1=r.length
 ·rw[if_pos e]
  have:= @yC r x
  exact zc (by omega)
 ·rw[if_neg e];exact h i (by omega)
theorem Es{r:List Int}{x:Int}{rs:List (List Int)}(h:ox r)(hf:fst r x<r.length)(ho:GI r rs):GI (r.set (fst r x) x) (dG rs (r.getD (fst r x) 0)).1:=by
 have hy:=ER hf
 have hle: ∀q,q<r.length→(r.set (fst r x) x).getD q 0≤r.getD q 0:=fun q hq=>by
  rw[j5 x hf]
  split
  ·next e=>rw[e];omega
  ·exact Int.le_refl _
 have hlow: ∀p,p≤fst r x→(r.set (fst r x) x).getD p 0<r.getD (fst r x) 0:=fun p hp=>by
  rw[j5 x hf]
  split
  ·exact hy
  ·have:=zc (r:=r) (x:=x) (i:=p) (by omega)
   omega
 cases rs with
 |nil=>
  show([r.getD (fst r x) 0]:List Int).length≤_∧_
  refine⟨by rw[List.length_set];simp;omega,fun q hq=> ?_⟩
  have e:q=0:=by simp at hq;exact hq
  subst e
  exact hlow 0 (by omega)
 |cons s rs=>
  obtain⟨o1,o2⟩:=ho
  have hp:fst s (r.getD (fst r x) 0)≤fst r x:=by
   refine Nat.le_of_not_lt fun hlt=> ?_
   have hs:fst r x<s.length:=Nat.lt_of_lt_of_le hlt yC
   have a:=zc hlt
   have b:=o2 _ hs
   omega
  rw[jD]
  by_cases c:fst s (r.getD (fst r x) 0)<s.length
  ·rw[if_pos c]
   refine⟨by rw[List.length_set,List.length_set];exact o1,fun q hq=> ?_⟩
   rw[List.length_set]at hq
   rw[j5 (r:=s) _ c]
   split
   ·next e=>rw[e];exact hlow _ hp
   ·have a:=hle q (by omega)
    have b:=o2 q hq
    omega
  ·rw[if_neg c]
   have hsl:fst s (r.getD (fst r x) 0)=s.length:=Nat.le_antisymm yC (Nat.le_of_not_lt c)
   refine⟨by rw[List.length_set,List.length_append,List.length_singleton];omega,fun q hq=> ?_⟩
   rw[List.length_append,List.length_singleton]at hq
   rw[j6]
   split
   ·next e=>rw[e];exact hlow _ (by omega)
   ·have a:=hle q (by omega)
    have b:=o2 q (by omega)
    omega
theorem CS: ∀(rs:List (List Int)) (x:Int),SSR rs→SSR (dG rs x).1
 | [],x,_=>⟨by simp,fun i hi=>by simp at hi,trivial,trivial⟩
 |r::rs,x,h=>by
  obtain⟨h1,h2,h3,h4⟩:=h
  rw[jD]
  split
  ·next c=>exact⟨by rw[List.length_set];exact h1,FU h2 c,Es h2 c h3,CS rs _ h4⟩
  ·next c=>
   refine⟨by simp,FO h2 c,?_,h4⟩
   cases rs with
   |nil=>trivial
   |cons s rs=>
    obtain⟨o1,o2⟩:=h3
    refine⟨by rw[List.length_append];omega,fun q hq=> ?_⟩
    rw[j6,if_neg (by omega)]
    exact o2 q hq
end Go.Am.Pu
end
section
/- Plain tableaux, row by row; a tableau from its word; words inserted. Plain words. -/
namespace Go.Am.Pu
theorem zp: ∀{rs:List (List Int)},SSR rs→ ∀r,r<rs.length→0<(rs.getD r []).length∧ox (rs.getD r [])
 |r::rs,h,0,_=>⟨h.1,h.2.1⟩
 |r::rs,h,q+1,hq=>zp h.2.2.2 q (by simpa using hq)
theorem yH: ∀{rs:List (List Int)},SSR rs→si rs
 | [],_,i,hi=>by simp at hi
 | [r],_,i,hi=>by simp at hi
 |r::s::rs,h,0,_=>h.2.2.1
 |r::s::rs,h,i+1,hi=>yH h.2.2.2 i (by simpa using hi)
theorem xL: ∀{rs:List (List Int)},(∀r,r<rs.length→0<(rs.getD r []).length∧ox (rs.getD r []))→si rs→SSR rs
 | [],_,_=>trivial
 |r::rs,h1,h2=>by
  refine⟨(h1 0 (by simp)).1,(h1 0 (by simp)).2,?_,xL (fun q hq=>h1 (q+1) (by simpa using hq)) (fun i hi=>h2 (i+1) (by simpa using hi))⟩
  cases rs with
  |nil=>trivial
  |cons s rs=>exact h2 0 (by simp)
theorem qC(rs:List (List Int)){i:Nat}(h:i<rs.length):(outer (([],rs):Tab)).getD i 0=(rs.getD i []).length:=by
 have:=fC [] rs 0 i h
 unfold outer
 rw[this]
 simp
theorem yG{rs:List (List Int)}(h:SSR rs)(hn: ∀x∈rs.flatten,1≤x∧x≤9)(h9:rs.flatten.length≤9):aL (([],rs):Tab)=true:=by
 have hr:=fun r hr=>zp h r hr
 have hc:=yH h
 have hrl: ∀r,r<rs.length→(rs.getD r []).length≤9:=fun r h1=>by
  have:=wx (rs:=rs) (r:=rs.getD r []) (by rw[al h1];exact List.getElem_mem h1)
  omega
 refine nv rfl ?_ (fun r x h1 h2=>hn _ (iP h1 h2)) (fun r x h1 h2=>(hr r h1).2 x h2) (fun r x h1 h2=>(hc r h1).2 x h2)
 have hs:dg (outer (([],rs):Tab))=rs.flatten.length:=qN [] rs 0 fun q _=>by simp
 refine kV _ 9 0 (fun x hx=> ?_) (fun h0=> ?_) (fun i hi=> ?_) (by omega)
 ·obtain⟨i,hi,rfl⟩:=List.getElem_of_mem hx
  have hi':i<rs.length:=by rw[bD]at hi;exact hi
  rw[←al hi 0,qC rs hi']
  have:=(hr i hi').1
  omega
 ·have h0':0<rs.length:=by rw[bD]at h0;exact h0
  rw[qC rs h0']
  have:=hrl 0 h0'
  omega
 ·have hi':i+1<rs.length:=by rw[bD]at hi;exact hi
  rw[qC rs hi',qC rs (by omega)]
  have:=(hc i hi').1
  omega
theorem Cx: ∀(rs:List (List Int)) (x z:Int),z∈(dG rs x).1.flatten→z=x∨z∈rs.flatten
 | [],x,z,h=>by simp[dG]at h;exact .inl h
 |r::rs,x,z,h=>by
  rw[jD]at h
  split at h
  ·next c=>
   simp only[List.flatten_cons,List.mem_append]at h⊢
   rcases h with h|h
   ·rcases List.mem_or_eq_of_mem_set h with h|h
    ·exact .inr (.inl h)
    ·exact .inl h
   ·rcases Cx rs _ z h with h|h
    ·right;left
     rw[h,al c]
     exact List.getElem_mem c
    ·exact .inr (.inr h)
  ·simp only[List.flatten_cons,List.mem_append,List.mem_singleton]at h⊢
   rcases h with(h|h)|h
   ·exact .inr (.inl h)
   ·exact .inl h
   ·exact .inr (.inr h)
theorem Aq: ∀(rs:List (List Int)) (x:Int),(dG rs x).1.flatten.length=rs.flatten.length+1
 | [],x=>by simp[dG]
 |r::rs,x=>by
  rw[jD]
  split
  ·have:=Aq rs (r.getD (fst r x) 0)
   simp only[List.flatten_cons,List.length_append,List.length_set]
   omega
  ·simp only[List.flatten_cons,List.length_append,List.length_singleton]
   omega
theorem CV: ∀(rs:List (List Int)) (x:Int),(dG rs x).2≤rs.length∧((dG rs x).1.length=if(dG rs x).2=rs.length then rs.length+1 else rs.length)∧ ∀i,((dG rs x).1.getD i []).length=if i=(dG rs x).2 then(rs.getD i []).length+1 else(rs.getD i []).length
 | [],x=>by
  refine⟨Nat.le_refl _,rfl,fun i=> ?_⟩
  cases i with
  |zero=>rfl
  |succ i=>simp[dG]
 |r::rs,x=>by
  rw[jD]
  split
  ·next c=>
   obtain⟨a,b,d⟩:=CV rs (r.getD (fst r x) 0)
   refine⟨by simp only[List.length_cons];omega,?_,fun i=> ?_⟩
   ·simp only[List.length_cons,b,Nat.add_right_cancel_iff]
    split<;>rfl
   ·cases i with
    |zero=>simp
    |succ i=>
     have:=d i
     simp only[Nat.add_right_cancel_iff]
     exact this
  ·refine⟨Nat.zero_le _,by simp,fun i=> ?_⟩
   cases i with
   |zero=>simp
   |succ i=>simp
def pq:List Int→List (List Int)→List (List Int)
 | [],P=>P
 |x::w,P=>pq w (dG P x).1
theorem n5: ∀(v w:List Int) (P:List (List Int)),pq (v++w) P=pq w (pq v P)
 | [],_,_=>rfl
 |x::v,w,P=>n5 v w _
end Go.Am.Pu
end
section
/- The recording tableau is standard, and its descents are the word's. Plain words. -/
namespace Go.Am.Pu
def lb(Q:List (List Int))(a:Nat)(v:Int):List (List Int):=if a=Q.length then Q++ [[v]]else Q.set a (Q.getD a []++ [v])
theorem xI{Q:List (List Int)}{a:Nat}(v:Int)(ha:a≤Q.length)(i:Nat):(lb Q a v).getD i []=if i=a then Q.getD a []++ [v]else Q.getD i []:=by
 unfold lb
 by_cases e:a=Q.length
 ·rw[if_pos e]
  by_cases h:i<Q.length
  ·rw[if_neg (by omega)]
   simp only[List.getD_eq_getElem?_getD,List.getElem?_append_left h]
  ·by_cases e2:i=a
   ·rw[if_pos e2,e2,e,aQ (xs:=Q) (Nat.le_refl _)]
    simp
   ·rw[if_neg e2,aQ (xs:=Q) (by omega),aQ (by rw[List.length_append,List.length_singleton];omega)]
 ·rw[if_neg e]
  by_cases e2:i=a
  ·subst e2;rw[if_pos rfl,al (by rw[List.length_set];omega),List.getElem_set_self]
  ·rw[if_neg e2,getD_set_ne (Ne.symm e2)]
theorem ym{Q:List (List Int)}{a:Nat}(v:Int):(lb Q a v).length=if a=Q.length then Q.length+1 else Q.length:=by
 unfold lb
 split
 ·rw[List.length_append,List.length_singleton]
 ·rw[List.length_set]
theorem BY{Q:List (List Int)}{a:Nat}(v:Int)(ha:a≤Q.length):(lb Q a v).flatten.length=Q.flatten.length+1:=by
 unfold lb
 split
 ·simp
 ·next e=>
  have: ∀(Q:List (List Int)) (a:Nat),a<Q.length→(Q.set a (Q.getD a []++ [v])).flatten.length=Q.flatten.length+1:=by
   intro Q
   induction Q with
   |nil=>intro a h;simp at h
   |cons r rs ih=>
    intro a h
    cases a with
    |zero=>simp;omega
    |succ a=>
     have:=ih a (by simpa using h)
     simp only[List.set_cons_succ,List.getD_cons_succ,List.flatten_cons,List.length_append,this]
     omega
  exact this Q a (by omega)
theorem Fl{Q P:List (List Int)}{a k:Nat}(hp:aL (([],Q):Tab)=true)(hs:cw (([],Q):Tab)=true)(hk:Q.flatten.length=k)(h9:k+1≤9)(hP:SSR P)(ha:a≤Q.length)(hPl:P.length=if a=Q.length then Q.length+1 else Q.length)
  (hl: ∀i,(P.getD i []).length=if i=a then(Q.getD i []).length+1 else(Q.getD i []).length):
  aL (([],lb Q a ((k+1:Nat):Int)):Tab)=true∧cw (([],lb Q a ((k+1:Nat):Int)):Tab)=true∧(lb Q a ((k+1:Nat):Int)).flatten.length=k+1∧ij P (lb Q a ((k+1:Nat):Int))∧
   rowOf ([],lb Q a ((k+1:Nat):Int)) ((k+1:Nat):Int)=a∧ ∀v,1≤v→v≤(k:Int)→rowOf ([],lb Q a ((k+1:Nat):Int)) v=rowOf ([],Q) v:=by
 have hget:=xI ((k+1:Nat):Int) ha
 have hlen:= @ym Q a ((k+1:Nat):Int)
 have hfl:=BY ((k+1:Nat):Int) ha
 generalize hN:lb Q a ((k+1:Nat):Int)=N at*
 have hNl: ∀i,(N.getD i []).length=if i=a then(Q.getD i []).length+1 else(Q.getD i []).length:=fun i=>by
  rw[hget]
  split
  ·next e=>rw[e,List.length_append,List.length_singleton]
  ·rfl
 have hsame:ij P N:=⟨by rw[hPl,hlen],fun i=>by rw[hl,hNl]⟩
 have hcel: ∀r x,cel N r x=if r=a∧x=(Q.getD a []).length then((k+1:Nat):Int)else cel Q r x:=fun r x=>by
  unfold cel
  rw[hget]
  by_cases e:r=a
  ·subst e
   rw[if_pos rfl,j6]
   by_cases e2:x=(Q.getD r []).length
   ·rw[if_pos e2,if_pos ⟨rfl,e2⟩]
   ·rw[if_neg e2,if_neg (fun h=>e2 h.2)]
  ·rw[if_neg e,if_neg (fun h=>e h.1)]
 have hb:=(kr hp hs).2
 simp only at hb
 rw[hk]at hb
 have hQ: ∀{r x:Nat},x<(Q.getD r []).length→1≤cel Q r x∧cel Q r x≤(k:Int):=fun{r x} hx=>by
  have hr:r<Q.length:=Nat.lt_of_not_le fun hle=>by rw[aQ hle]at hx;simp at hx
  exact hb _ (iP hr hx)
 obtain⟨q1,q2⟩:=g9 hp
 have q3:=jh hp
 simp only at q2 q3
 have pc:=yH hP
 have pr:=fun r hr=>zp hP r hr
 have hqlen: ∀i,(Q.getD (i+1) []).length≤(Q.getD i []).length:=fun i=>by
  by_cases h:i+1<Q.length
  ·exact(q3 i h).1
  ·rw[aQ (by omega)];exact Nat.zero_le _
 have hssr:SSR N:=by
  refine xL (fun r hr=>⟨?_,fun x hx=> ?_⟩) (fun i hi=> ?_)
  ·rw[←hsame.2];exact(pr r (by rw[hsame.1];exact hr)).1
  ·have e1:=hcel r x
   have e2:=hcel r (x+1)
   unfold cel at e1 e2
   rw[e1,e2]
   rw[hNl]at hx
   have hxQ:x<(Q.getD r []).length:=by
    split at hx<;>omega
   rw[if_neg (fun h=>by rw[h.1]at hxQ;omega)]
   have hv:=hQ hxQ
   unfold cel at hv
   by_cases e:r=a∧x+1=(Q.getD a []).length
   ·rw[if_pos e];omega
   ·rw[if_neg e]
    have hx1:x+1<(Q.getD r []).length:=by
     split at hx
     ·next e3=>
      have: ¬x+1=(Q.getD a []).length:=fun h=>e ⟨e3,h⟩
      rw[←e3]at this
      omega
     ·exact hx
    have hr:r<Q.length:=Nat.lt_of_not_le fun hle=>by rw[aQ hle]at hx1;simp at hx1
    exact q2 r x hr hx1
  ·obtain⟨c1,c2⟩:=pc i (by rw[hsame.1];exact hi)
   rw[hsame.2,hsame.2]at c1
   refine⟨c1,fun x hx=> ?_⟩
   have e1:=hcel i x
   have e2:=hcel (i+1) x
   unfold cel at e1 e2
   rw[e1,e2]
   rw[hNl]at hx
   have hxi:x<(N.getD i []).length:=by
    have:=hNl (i+1)
    omega
   rw[hNl]at hxi
   by_cases e:i+1=a∧x=(Q.getD a []).length
   ·rw[if_pos e,if_neg (fun h=>by omega)]
    have hxQ:x<(Q.getD i []).length:=by rw[if_neg (by omega)]at hxi;exact hxi
    have hv:=hQ hxQ
    unfold cel at hv
    omega
   ·rw[if_neg e]
    have hx1:x<(Q.getD (i+1) []).length:=by
     split at hx
     ·next e3=>
      have: ¬x=(Q.getD a []).length:=fun h=>e ⟨e3,h⟩
      rw[←e3]at this
      omega
     ·exact hx
    have hxQ:x<(Q.getD i []).length:=Nat.lt_of_lt_of_le hx1 (hqlen i)
    rw[if_neg (fun h=>by rw[h.1]at hxQ;omega)]
    have hr:i+1<Q.length:=Nat.lt_of_not_le fun hle=>by rw[aQ hle]at hx1;simp at hx1
    exact(q3 i hr).2 x hx1
 have hflk:N.flatten.length=k+1:=by omega
 have hmem: ∀z∈N.flatten,1≤z∧z≤9:=fun z hz=>by
  obtain⟨r,x,hr,hx,e⟩:=o8 hz
  rw[←e,hcel]
  split
  ·omega
  ·next hc=>
   rw[hNl]at hx
   have hxQ:x<(Q.getD r []).length:=by
    split at hx
    ·next e3=>
     have: ¬x=(Q.getD a []).length:=fun h=>hc ⟨e3,h⟩
     rw[←e3]at this
     omega
    ·exact hx
   have:=hQ hxQ
   omega
 have hpl:=yG hssr hmem (by omega)
 have haN:a<N.length:=by
  rw[hlen]
  split<;>omega
 have hxN:(Q.getD a []).length<(N.getD a []).length:=by rw[hNl,if_pos rfl];omega
 have hnew:cel N a (Q.getD a []).length=((k+1:Nat):Int):=by rw[hcel,if_pos ⟨rfl,rfl⟩]
 have hold: ∀{r x:Nat},x<(Q.getD r []).length→r<N.length∧x<(N.getD r []).length∧cel N r x=cel Q r x:=fun{r x} hx=>by
  have hx':x<(N.getD r []).length:=by
   rw[hNl]
   split<;>omega
  refine⟨Nat.lt_of_not_le fun hle=>by rw[aQ hle]at hx';simp at hx',hx',?_⟩
  rw[hcel,if_neg (fun h=>by rw[h.1]at hx;omega)]
 have ho:jN Q.flatten=true:=by
  have:=hs
  simp only[cw,Bool.and_eq_true]at this
  exact this.2
 have hst:cw (([],N):Tab)=true:=by
  have hp':=hpl
  simp only[aL,Bool.and_eq_true]at hp'
  simp only[cw,Bool.and_eq_true]
  refine⟨hp'.1,j2.2 fun v hv=> ?_⟩
  rw[hflk,hM]at hv
  by_cases e:v=((k+1:Nat):Int)
  ·rw[e,←hnew];exact iP haN hxN
  ·obtain⟨r,x,hr,hx,e2⟩:=o8 (j2.1 ho v (hM.2 (by omega)))
   obtain⟨d1,d2,d3⟩:=hold hx
   rw[←e2,←d3]
   exact iP d1 d2
 refine⟨hpl,hst,hflk,hsame,mO hpl hst haN hxN hnew,fun v v1 v2=> ?_⟩
 obtain⟨r,x,hr,hx,e2⟩:=o8 (j2.1 ho v (hM.2 (by omega)))
 obtain⟨d1,d2,d3⟩:=hold hx
 rw[mO hpl hst d1 d2 (by rw[d3];exact e2),mO hp hs hr hx e2]
structure Ins (P Q : List (List Int)) (k : Nat) : Prop where
  ssr : SSR P
  num : ∀ x ∈ P.flatten, 1 ≤ x ∧ x ≤ 9
  fl : P.flatten.length = k
  pl : aL (([], Q) : Tab) = true
  st : cw (([], Q) : Tab) = true
  qf : Q.flatten.length = k
  same : ij P Q
theorem Ins.step{P Q:List (List Int)}{k:Nat}{x:Int}(h:Ins P Q k)(hx:1≤x∧x≤9)(h9:k+1≤9):
  Ins (dG P x).1 (lb Q (dG P x).2 ((k+1:Nat):Int)) (k+1)∧rowOf ([],lb Q (dG P x).2 ((k+1:Nat):Int)) ((k+1:Nat):Int)=((dG P x).2:Nat)∧ ∀v,1≤v→v≤(k:Int)→rowOf ([],lb Q (dG P x).2 ((k+1:Nat):Int)) v=rowOf ([],Q) v:=by
 obtain⟨a,b,c⟩:=CV P x
 have hs:=CS P x h.ssr
 obtain⟨d1,d2,d3,d4,d5,d6⟩:=Fl (a:=(dG P x).2) h.pl h.st h.qf h9 hs (by rw[←h.same.1];exact a) (by rw[←h.same.1];exact b) (fun i=>by rw[←h.same.2];exact c i)
 refine⟨⟨hs,fun z hz=> ?_,by rw[Aq,h.fl],d1,d2,d3,d4⟩,d5,d6⟩
 rcases Cx P x z hz with e|e
 ·rw[e];exact hx
 ·exact h.num z e
theorem Ins.nil:Ins [] [] 0:=⟨trivial,fun x hx=>by simp at hx,rfl,rfl,rfl,rfl,⟨rfl,fun _=>rfl⟩⟩
end Go.Am.Pu
end
section
/- Words, and what inserting makes of them. Plain words. -/
namespace Go.Am.Pu
end Go.Am.Pu
end
section
/- Standardizing a tableau: the cells numbered by number and column. Plain words. -/
namespace Go.Am.Pu
def j3(Q:List (List Int))(v:Int)(c r:Nat)(s:Nat×List (List Int)):Nat×List (List Int):=
 if c<(Q.getD r []).length∧cel Q r c=v then(s.1+1,fb s.2 r c ((s.1+1:Nat):Int))else s
structure Num (Q : List (List Int)) (D : Nat → Nat → Prop) (s : Nat × List (List Int)) (F : List Int) : Prop where
  same : ij s.2 Q
  len : F.length = s.1
  val : ∀ r x, r < Q.length → x < (Q.getD r []).length → D r x → ∃ k, k < s.1 ∧ cel s.2 r x = ((k + 1 : Nat) : Int) ∧ F.getD k 0 = cel Q r x
  inj : ∀ r x r' x', r < Q.length → x < (Q.getD r []).length → D r x → r' < Q.length → x' < (Q.getD r' []).length → D r' x' → cel s.2 r x = cel s.2 r' x' → r = r' ∧ x = x'
  all : ∀ k, k < s.1 → ∃ r x, r < Q.length ∧ x < (Q.getD r []).length ∧ D r x ∧ cel s.2 r x = ((k + 1 : Nat) : Int)
  lex : ∀ r x r' x', r < Q.length → x < (Q.getD r []).length → D r x → r' < Q.length → x' < (Q.getD r' []).length → D r' x' → cel s.2 r x < cel s.2 r' x' → cel Q r x < cel Q r' x' ∨ (cel Q r x = cel Q r' x' ∧ x ≤ x')
theorem Num.congr{Q:List (List Int)}{D D':Nat→Nat→Prop}{s:Nat×List (List Int)}{F:List Int}(h:Num Q D s F)(e: ∀r x,r<Q.length→x<(Q.getD r []).length→(D r x↔D' r x)):Num Q D' s F:=
 ⟨h.same,h.len,fun r x a b d=>h.val r x a b ((e r x a b).2 d),fun r x r' x' a b d a' b' d'=>h.inj r x r' x' a b ((e r x a b).2 d) a' b' ((e r' x' a' b').2 d'),
  fun k hk=>by obtain⟨r,x,a,b,d,q⟩:=h.all k hk;exact⟨r,x,a,b,(e r x a b).1 d,q⟩,fun r x r' x' a b d a' b' d'=>h.lex r x r' x' a b ((e r x a b).2 d) a' b' ((e r' x' a' b').2 d')⟩
def Dn(Q:List (List Int))(v:Int)(c r:Nat)(a i:Nat):Prop:=cel Q a i<v∨(cel Q a i=v∧(i<c∨(i=c∧a<r)))
theorem Num.step{Q:List (List Int)}{v:Int}{c r:Nat}{s:Nat×List (List Int)}{F:List Int}(h:Num Q (Dn Q v c r) s F)(hr:r<Q.length): ∃F',Num Q (Dn Q v c (r+1)) (j3 Q v c r s) F':=by
 unfold j3
 split
 ·next hc=>
  obtain⟨hc,hv⟩:=hc
  have hnd: ¬Dn Q v c r r c:=by unfold Dn;omega
  have hsr:r<s.2.length:=by rw[h.same.1];exact hr
  have hsc:c<(s.2.getD r []).length:=by rw[h.same.2];exact hc
  have new: ∀a i,Dn Q v c (r+1) a i→(a=r∧i=c)∨(¬(a=r∧i=c)∧Dn Q v c r a i):=fun a i d=>by
   by_cases e:a=r∧i=c
   ·exact .inl e
   ·refine .inr ⟨e,?_⟩
    unfold Dn at d⊢
    omega
  have at1:=iN (g:=s.2) (r:=r) (c:=c) ((s.1+1:Nat):Int) hsr hsc
  have ne1: ∀a i,¬(a=r∧i=c)→cel (fb s.2 r c ((s.1+1:Nat):Int)) a i=cel s.2 a i:=fun a i e=>gU _ e
  refine⟨F++ [v],⟨⟨by rw[dy];exact h.same.1,fun i=>by rw[bp];exact h.same.2 i⟩,by rw[List.length_append,List.length_singleton,h.len],?_,?_,?_,?_⟩⟩
  ·intro a i ha hi d
   rcases new a i d with⟨rfl,rfl⟩|⟨e,d'⟩
   ·refine⟨s.1,by simp only;omega,at1,?_⟩
    rw[hv,←h.len,List.getD_eq_getElem?_getD]
    simp
   ·obtain⟨k,k1,k2,k3⟩:=h.val a i ha hi d'
    refine⟨k,by simp only;omega,by rw[ne1 a i e];exact k2,?_⟩
    rw[←k3,List.getD_eq_getElem?_getD,List.getD_eq_getElem?_getD,List.getElem?_append_left (by rw[h.len];exact k1)]
  ·intro a i b j ha hi d hb hj d' e
   rcases new a i d with⟨rfl,rfl⟩|⟨ea,da⟩
   ·rcases new b j d' with⟨rfl,rfl⟩|⟨eb,db⟩
    ·exact⟨rfl,rfl⟩
    ·obtain⟨k,k1,k2,_⟩:=h.val b j hb hj db
     simp only at e
     rw[at1,ne1 b j eb,k2]at e
     omega
   ·rcases new b j d' with⟨rfl,rfl⟩|⟨eb,db⟩
    ·obtain⟨k,k1,k2,_⟩:=h.val a i ha hi da
     simp only at e
     rw[at1,ne1 a i ea,k2]at e
     omega
    ·simp only at e
     rw[ne1 a i ea,ne1 b j eb]at e
     exact h.inj a i b j ha hi da hb hj db e
  ·intro k hk
   simp only at hk
   by_cases ek:k=s.1
   ·subst ek
    exact⟨r,c,hr,hc,by unfold Dn;omega,at1⟩
   ·obtain⟨a,i,ha,hi,d,e⟩:=h.all k (by omega)
    have hne: ¬(a=r∧i=c):=fun q=>by rw[q.1,q.2]at d;exact hnd d
    exact⟨a,i,ha,hi,by unfold Dn at d⊢;omega,by simp only;rw[ne1 a i hne];exact e⟩
  ·intro a i b j ha hi d hb hj d' e
   simp only at e
   rcases new a i d with⟨rfl,rfl⟩|⟨ea,da⟩
   ·rcases new b j d' with⟨rfl,rfl⟩|⟨eb,db⟩
    ·omega
    ·obtain⟨k,k1,k2,_⟩:=h.val b j hb hj db
     rw[at1,ne1 b j eb,k2]at e
     omega
   ·rcases new b j d' with⟨rfl,rfl⟩|⟨eb,db⟩
    ·unfold Dn at da
     omega
    ·rw[ne1 a i ea,ne1 b j eb]at e
     exact h.lex a i b j ha hi da hb hj db e
 ·next hc=>
  refine⟨F,h.congr fun a i ha hi=> ?_⟩
  unfold Dn
  constructor
  ·intro d;omega
  ·intro d
   by_cases e:a=r∧i=c
   ·obtain⟨rfl,rfl⟩:=e
    have:cel Q a i≠v:=fun q=>hc ⟨hi,q⟩
    omega
   ·omega
structure xX (Q X : List (List Int)) (f : Int → Int) : Prop where
  same : ij X Q
  val : ∀ r x, r < X.length → x < (X.getD r []).length → cel Q r x = f (cel X r x)
  lex : ∀ r x r' x', r < X.length → x < (X.getD r []).length → r' < X.length → x' < (X.getD r' []).length → cel X r x < cel X r' x' → cel Q r x < cel Q r' x' ∨ (cel Q r x = cel Q r' x' ∧ x < x')
end Go.Am.Pu
end
section
/- A pair of tableaux unrolled, the second one semistandard; sorting; the matrix of a pair. Plain words. -/
namespace Go.Am.Pu
def Cc(R:Int→Prop)(rs:List (List Int)):Prop:= ∀r∈rs,∀v∈r,R v
theorem Cc.at{R:Int→Prop}{rs:List (List Int)}(h:Cc R rs){r x:Nat}(hr:r<rs.length)(hx:x<(rs.getD r []).length):R ((rs.getD r []).getD x 0):=by
 rw[al hx]
 exact h (rs.getD r []) (by rw[al hr];exact List.getElem_mem hr) _ (List.getElem_mem hx)
theorem Cc.set{R:Int→Prop}{rs:List (List Int)}(h:Cc R rs)(i:Nat){r:List Int}(hr: ∀v∈r,R v):Cc R (rs.set i r):=fun y hy=>by
 rcases List.mem_or_eq_of_mem_set hy with h'|rfl
 ·exact h y h'
 ·exact hr
theorem Cc.row{R:Int→Prop}{rs:List (List Int)}(h:Cc R rs)(i:Nat): ∀v∈rs.getD i [],R v:=by
 by_cases hi:i<rs.length
 ·exact h _ (by rw[al hi];exact List.getElem_mem hi)
 ·rw[aQ (by omega)];simp
theorem Unr.top{q:Tab}{m:Nat}{P X:List (List Int)}(h:Unr q (m+1) P X){a:Nat}(ha:a<X.length)(htop:cel X a ((X.getD a []).length-1)=((m+1:Nat):Int)):
  (∀r,r<X.length→1≤(X.getD r []).length)∧(∀r,r<X.length→r≠a→cel X r ((X.getD r []).length-1)<((m+1:Nat):Int)):=by
 have hp:=fun r hr=>gm h.pl (r:=r) hr
 refine⟨hp,fun r hr hne=> ?_⟩
 have h1:=hp r hr
 have h2:=hp a ha
 simp only at h1 h2
 have hb:=((kr h.pl h.st).2 _ (iP (rs:=X) hr (show(X.getD r []).length-1<(X.getD r []).length by omega))).2
 have hf:=h.fl
 simp only at hb
 rw[hf]at hb
 have hx:cel X r ((X.getD r []).length-1)≠((m+1:Nat):Int):=fun e=>hne (wA h.pl h.st (a:=r) (b:=a) (x:=(X.getD r []).length-1) (y:=(X.getD a []).length-1) hr (show _<(X.getD r []).length by omega) ha (show _<(X.getD a []).length by omega) (by rw[htop];exact e)).1
 omega
theorem DV{n m:Nat}{A B:List (List Int)}(h:cj n m A)(s:ij A B):cj n m B:=by
 refine⟨by rw[←s.1];exact h.1,fun x hx=> ?_⟩
 obtain⟨i,hi,rfl⟩:=List.getElem_of_mem hx
 have:=h.at i
 rw[s.2 i,al hi]at this
 exact this
theorem xX.cut{Q X:List (List Int)}{f:Int→Int}(s:xX Q X f){a:Nat}(ha:a<X.length)(hc:(X.getD (a+1) []).length<(X.getD a []).length)(hp: ∀r,r<X.length→1≤(X.getD r []).length):xX (cV Q a) (cV X a) f:=by
 have hq: ∀r,r<Q.length→1≤(Q.getD r []).length:=fun r hr=>by rw[←s.same.2];exact hp r (by rw[s.same.1];exact hr)
 have rX:=mZ ha hc hp
 have rQ:=mZ (rs:=Q) (a:=a) (by rw[←s.same.1];exact ha) (by rw[←s.same.2,←s.same.2];exact hc) hq
 have old: ∀{r x},r<(cV X a).length→x<((cV X a).getD r []).length→r<X.length∧x<(X.getD r []).length∧cel (cV X a) r x=cel X r x∧cel (cV Q a) r x=cel Q r x:=fun{r x} hr hx=>by
  have hl:=pf (rs:=X) ha
  have hr':r<X.length:=by rw[hl]at hr;split at hr<;>omega
  have e1:=rX r
  have e2:=rQ r
  unfold cel
  by_cases e:r=a
  ·rw[if_pos e]at e1 e2
   rw[e1]at hx
   rw[List.length_take]at hx
   subst e
   refine⟨hr',by omega,by rw[e1,iJ (by omega)],?_⟩
   rw[e2,iJ (by have:=s.same.2 r;omega)]
  ·rw[if_neg e]at e1 e2
   rw[e1]at hx
   exact⟨hr',hx,by rw[e1],by rw[e2]⟩
 refine⟨Al s.same a,fun r x hr hx=> ?_,fun r x r' x' hr hx hr' hx' hlt=> ?_⟩
 ·obtain⟨o1,o2,o3,o4⟩:=old hr hx
  rw[o3,o4]
  exact s.val r x o1 o2
 ·obtain⟨o1,o2,o3,o4⟩:=old hr hx
  obtain⟨p1,p2,p3,p4⟩:=old hr' hx'
  rw[o3,p3]at hlt
  rw[o4,p4]
  exact s.lex r x r' x' o1 o2 p1 p2 hlt
theorem xX.step{q:Tab}{m:Nat}{P X Q:List (List Int)}{f:Int→Int}(s:xX Q X f)(h:Unr q (m+1) P X):
  ∃a:Nat,rowOf q ((m+1:Nat):Int)=a∧a<Q.length∧1≤(Q.getD a []).length∧(Q.getD a []).getD ((Q.getD a []).length-1) 0=f ((m+1:Nat):Int)∧(∀r,r<Q.length→1≤(Q.getD r []).length)∧
   (∀r,r<Q.length→r≠a→(Q.getD r []).getD ((Q.getD r []).length-1) 0<f ((m+1:Nat):Int)∨((Q.getD r []).getD ((Q.getD r []).length-1) 0=f ((m+1:Nat):Int)∧(Q.getD r []).length<(Q.getD a []).length))∧
   cj 9 9 Q∧a<P.length∧1≤(P.getD a []).length∧Unr q m (nG P a).1 (cV X a)∧xX (cV Q a) (cV X a) f:=by
 obtain⟨a,a1,a2,a3,a4,a5,a6⟩:=h.step
 obtain⟨t1,t2⟩:=h.top a2 a4
 have v0:=s.val a ((X.getD a []).length-1) a2 (by omega)
 rw[a4]at v0
 unfold cel at v0
 rw[s.same.2]at v0
 refine⟨a,a1,by rw[←s.same.1];exact a2,by rw[←s.same.2];exact a3,v0,fun r hr=>by rw[←s.same.2];exact t1 r (by rw[s.same.1];exact hr),fun r hr hne=> ?_,DV (fN h.pl) s.same,
  by rw[h.same.1];exact a2,by rw[h.same.2];exact a3,a6,s.cut a2 a5 t1⟩
 have hr':r<X.length:=by rw[s.same.1];exact hr
 have u1:=t1 r hr'
 have hl:=s.lex r ((X.getD r []).length-1) a ((X.getD a []).length-1) hr' (by omega) a2 (by omega) (by rw[a4];exact t2 r hr' hne)
 have v:=s.val a ((X.getD a []).length-1) a2 (by omega)
 rw[v,a4]at hl
 unfold cel at hl
 rw[s.same.2 r,s.same.2 a]at hl
 have e1:=s.same.2 r
 rcases hl with hl|hl
 ·exact .inl hl
 ·exact .inr ⟨hl.1,by omega⟩
structure Ip (r c : Nat) (b : Int) (M : List (List Int)) : Prop where
  len : M.length = r
  row : ∀ i, i < r → (M.getD i []).length = c
  sm : ∀ x ∈ M, ∀ v ∈ x, 0 ≤ v ∧ v ≤ b
end Go.Am.Pu
end
section
/- Standardizing any tableau: its cells in the order of number and column. Plain words. -/
namespace Go.Am.Pu
theorem Aj{p:List Int}(hp:bm p=true)(r:Nat): ∀d:Nat,p.getD (r+d) 0≤p.getD r 0
 |0=>Int.le_refl _
 |d+1=>Int.le_trans (fH hp (r+d)) (Aj hp r d)
def D6(t:Tab)(r:Nat):List (Int×Int×Int):=(List.range (t.2.getD r []).length).map fun x=>(cel t.2 r x,t.1.getD r 0+x,(r:Int))
def cellsOf(t:Tab):List (Int×Int×Int):=((List.range t.2.length).map (D6 t)).flatten
def KLt(a b:Int×Int×Int):Prop:=a.1<b.1∨(a.1=b.1∧a.2.1<b.2.1)
end Go.Am.Pu
end
section
/- Sorting cells by insertion, as the library does. Plain words. -/
namespace Go.Am.Pu
instance(a b:Int×Int×Int):Decidable (KLt a b):=by unfold KLt;infer_instance
end Go.Am.Pu
end
section
/- All standard tableaux of given rows, found by taking out the greatest number. Plain words. -/
namespace Go.Am.Pu
def iv(ls:List Nat)(a:Nat):List Nat:=if ls.getD a 0=1 then ls.take a else ls.set a (ls.getD a 0-1)
def FV:Nat→List Nat→List (List (List Int))
 |0,_=> [[]]
 |n+1,ls=>((List.range ls.length).map fun a=>if ls.getD (a+1) 0<ls.getD a 0 then(FV n (iv ls a)).map fun Q=>lb Q a ((n+1:Nat):Int)else []).flatten
theorem Cg{α:Type}{d:α}{A B:List α}(hl:A.length=B.length)(h: ∀i,i<A.length→A.getD i d=B.getD i d):A=B:=by
 refine List.ext_getElem hl fun i h1 h2=> ?_
 have:=h i h1
 rw[al h1,al h2]at this
 exact this
theorem iX(rs:List (List Int))(i:Nat):(rs.map List.length).getD i 0=(rs.getD i []).length:=by
 by_cases h:i<rs.length
 ·rw[al (by simpa using h),al h,List.getElem_map]
 ·rw[aQ (by simpa using h),aQ (by omega)]
  rfl
theorem EU{rs:List (List Int)}{a:Nat}(ha:a<rs.length)(hc:(rs.getD (a+1) []).length<(rs.getD a []).length)(hp: ∀r,r<rs.length→1≤(rs.getD r []).length):(cV rs a).map List.length=iv (rs.map List.length) a:=by
 have hr:=mZ ha hc hp
 have hl:=pf (rs:=rs) ha
 have e:(rs.map List.length).getD a 0=(rs.getD a []).length:=iX rs a
 have lastRow:(rs.getD a []).length=1→a+1=rs.length:=fun h1=>by
  refine Nat.le_antisymm ha (Nat.le_of_not_lt fun hlt=> ?_)
  have:=hp (a+1) hlt
  omega
 refine Cg (d:=0) ?_ fun i hi=> ?_
 ·rw[List.length_map,hl]
  unfold iv
  rw[e]
  split
  ·rw[List.length_take,List.length_map];omega
  ·rw[List.length_set,List.length_map]
 ·rw[List.length_map,hl]at hi
  rw[iX,hr i]
  unfold iv
  rw[e]
  by_cases h1:(rs.getD a []).length=1
  ·rw[if_pos h1]at hi⊢
   rw[if_neg (by omega),iJ hi,iX]
  ·rw[if_neg h1]at hi⊢
   by_cases ei:i=a
   ·subst ei
    rw[if_pos rfl,al (xs:=(rs.map List.length).set i ((rs.getD i []).length-1)) (by rw[List.length_set,List.length_map];exact ha),List.getElem_set_self,List.length_take]
    omega
   ·rw[if_neg ei,getD_set_ne (Ne.symm ei),iX]
theorem FH{rs:List (List Int)}{a:Nat}{v:Int}(ha:a<rs.length)(hc:(rs.getD (a+1) []).length<(rs.getD a []).length)(hp: ∀r,r<rs.length→1≤(rs.getD r []).length)(hv:cel rs a ((rs.getD a []).length-1)=v):lb (cV rs a) a v=rs:=by
 have hr:=mZ ha hc hp
 have hl:=pf (rs:=rs) ha
 have hpa:=hp a ha
 have lastRow:(rs.getD a []).length=1→a+1=rs.length:=fun h1=>by
  refine Nat.le_antisymm ha (Nat.le_of_not_lt fun hlt=> ?_)
  have:=hp (a+1) hlt
  omega
 have hal:a≤(cV rs a).length:=by rw[hl];split<;>omega
 refine Cg (d:= []) ?_ fun i hi=> ?_
 ·have:= @ym (cV rs a) a v
  rw[this,hl]
  by_cases h1:(rs.getD a []).length=1
  ·have:=lastRow h1
   rw[if_pos h1,if_pos rfl]
   omega
  ·rw[if_neg h1,if_neg (by omega)]
 ·rw[xI v hal i]
  by_cases ei:i=a
  ·subst ei
   rw[if_pos rfl,hr i,if_pos rfl]
   have hlt:(rs.getD i []).length-1<(rs.getD i []).length:=by omega
   have h2:=take_succ hlt 0
   unfold cel at hv
   rw[hv,show(rs.getD i []).length-1+1=(rs.getD i []).length by omega,List.take_length]at h2
   exact h2.symm
  ·rw[if_neg ei,hr i,if_neg ei]
theorem A5: ∀(n:Nat) (Q:List (List Int)),aL ([],Q)=true→cw ([],Q)=true→Q.flatten.length=n→Q∈FV n (Q.map List.length)
 |0,Q,h,_,hn=>by
  have:Q= []:=by
   refine List.eq_nil_of_length_eq_zero (Nat.eq_zero_of_not_pos fun hp=> ?_)
   have h1:=gm h (r:=0) hp
   have h2:=iP (rs:=Q) (r:=0) (x:=0) hp h1
   rw[List.eq_nil_of_length_eq_zero hn]at h2
   cases h2
  rw[this]
  exact List.mem_singleton.2 rfl
 |n+1,Q,h,hs,hn=>by
  have hn':(([],Q):Tab).2.flatten.length≠0:=by simp only;omega
  obtain⟨a,a1,a2,a3,a4,_⟩:=AK h hs hn'
  obtain⟨b1,b2,b3,_⟩:=Cy h hs hn' a1 a2 a3 a4
  simp only at a1 a2 a3 a4 b3
  have hp:=fun r (hr:r<Q.length)=>gm h (r:=r) hr
  have ih:=A5 n (cV Q a) b1 b2 (by omega)
  rw[EU a1 a4 hp]at ih
  unfold FV
  refine List.mem_flatten.2 ⟨_,List.mem_map.2 ⟨a,List.mem_range.2 (by rw[List.length_map];exact a1),rfl⟩,?_⟩
  rw[iX,iX,if_pos a4]
  refine List.mem_map.2 ⟨_,ih,?_⟩
  exact FH a1 a4 hp (by rw[a3,hn])
end Go.Am.Pu
end
section
/- Promotion of a rectangle comes back after as many steps as there are cells (reckoned over all of them). Plain words. -/
namespace Go.Am.Pu
def CX(n:Nat)(ls:List Nat):Bool:=(FV n ls).all fun Q=>decide (iter n ([],Q)=([],Q))
theorem FR:((List.range 10).all fun a=>(List.range 10).all fun b=>if a*b≤9 then CX (a*b) (List.replicate a b)else true)=true:=by decide+kernel
theorem tL{t:Tab}(h:aL t=true): ∀(d r:Nat),r+d<t.2.length→(t.2.getD (r+d) []).length≤(t.2.getD r []).length
 |0,r,_=>Nat.le_refl _
 |d+1,r,hr=>Nat.le_trans ((jh h (r+d) hr).1) (tL h d r (by omega))
theorem Dw{t:Tab}(h:aL t=true)(hs:cw t=true)(h0:0<t.2.length)(he:(t.2.getD 0 []).length=(t.2.getD (t.2.length-1) []).length):iter t.2.flatten.length t=t:=by
 have e:(([],t.2):Tab)=t:=Prod.ext (cy h).symm rfl
 have h9:=jm h
 have hr9:=fN h
 have heq:t.2.map List.length=List.replicate t.2.length (t.2.getD 0 []).length:=by
  refine Cg (d:=0) (by simp) fun i hi=> ?_
  rw[List.length_map]at hi
  rw[iX,al (xs:=List.replicate t.2.length (t.2.getD 0 []).length) (by simpa using hi),List.getElem_replicate]
  have a1:=tL h i 0 (by omega)
  have a2:=tL h (t.2.length-1-i) i (by omega)
  rw[Nat.zero_add]at a1
  rw[show i+(t.2.length-1-i)=t.2.length-1 by omega]at a2
  omega
 have hsum:t.2.flatten.length=t.2.length*(t.2.getD 0 []).length:=by
  rw[List.length_flatten,heq,List.sum_replicate_nat]
 have hmem:=A5 t.2.flatten.length t.2 (by rw[e];exact h) (by rw[e];exact hs) rfl
 rw[heq,hsum]at hmem
 have hc:=FR
 rw[List.all_eq_true]at hc
 have hc1:=hc t.2.length (List.mem_range.2 (by have:=hr9.1;omega))
 rw[List.all_eq_true]at hc1
 have hc2:=hc1 (t.2.getD 0 []).length (List.mem_range.2 (by have:=hr9.at 0;omega))
 rw[if_pos (by omega)]at hc2
 unfold CX at hc2
 rw[List.all_eq_true]at hc2
 have:=of_decide_eq_true (hc2 _ hmem)
 rw[e]at this
 rw[hsum]
 exact this
end Go.Am.Pu
end
section
/- The length of an orbit divides every number of steps that come back. Plain words. -/
namespace Go.Am.Pu
theorem AX{n:Nat}{t:Tab}(h:iter n t=t): ∀q:Nat,iter (n*q) t=t
 |0=>rfl
 |q+1=>by rw[Nat.mul_succ,pQ,AX h q,h]
theorem El{n N:Nat}{t:Tab}(h1:iter n t=t)(h2:iter N t=t):iter (N % n) t=t:=by
 have e:=Nat.div_add_mod N n
 rw[←e,pQ,AX h1]at h2
 exact h2
theorem xB{n N:Nat}{t:Tab}(hn:1≤n)(h1:iter n t=t)(hl: ∀d,1≤d→d<n→iter d t≠t)(h2:iter N t=t):N % n=0:=by
 have h:=El h1 h2
 have hlt:=Nat.mod_lt N (show n>0 by omega)
 refine Nat.eq_zero_of_not_pos fun hp=> ?_
 exact hl _ hp hlt h
theorem vd: ∀(m i:Nat) (t:Tab) (acc:List Tab),acc.length=i+1→(∀d,1≤d→d≤i→iter d t≠t)→(∃d,i<d∧d≤i+m∧iter d t=t)→
  ∃n,(jO m t (iter i t) acc).length=n∧i<n∧iter n t=t∧ ∀d,1≤d→d<n→iter d t≠t
 |0,i,t,acc,_,_,⟨d,h1,h2,_⟩=>by omega
 |m+1,i,t,acc,ha,hl,⟨d,h1,h2,h3⟩=>by
  have e:prom (iter i t)=iter (i+1) t:=(pQ i 1 t).symm
  unfold jO
  split
  ·next c=>
   rw[e]at c
   exact⟨i+1,ha,by omega,c,fun d a b=>hl d a (by omega)⟩
  ·next c=>
   rw[e]at c⊢
   obtain⟨n,n1,n2,n3,n4⟩:=vd m (i+1) t (acc++ [iter (i+1) t]) (by rw[List.length_append,List.length_singleton,ha]) (fun d a b=>by
    by_cases q:d=i+1
    ·rw[q];exact c
    ·exact hl d a (by omega)) ⟨d,by
     by_cases q:d=i+1
     ·rw[q]at h3;exact absurd h3 c
     ·omega,by omega,h3⟩
   exact⟨n,n1,by omega,n3,n4⟩
end Go.Am.Pu
end
section
/- Knuth's relations: insertion does not tell related words apart, and a row and a number are related to what an insertion makes of them. Plain words. -/
namespace Go.Am.Pu
abbrev Up(r:List Int):Prop:=r.Pairwise (· ≤ ·)
def fO:List Int→Int→List Int×List Int
 | [],x=>([x],[])
 |a::r,x=>if x<a then(x::r,[a])else(a::(fO r x).1,(fO r x).2)
theorem gh{a x:Int}{r:List Int}(h:x<a):fO (a::r) x=(x::r,[a]):=by unfold fO;rw[if_pos h]
theorem fF{a x:Int}{r:List Int}(h:a≤x):fO (a::r) x=(a::(fO r x).1,(fO r x).2):=by
 conv=>lhs;unfold fO
 rw[if_neg (by omega)]
theorem xg: ∀(r:List Int) (x z:Int),z∈(fO r x).1→z=x∨z∈r
 | [],x,z,h=>by simp only[fO,List.mem_singleton]at h;exact .inl h
 |a::r,x,z,h=>by
  by_cases c:x<a
  ·rw[gh c]at h
   rcases List.mem_cons.1 h with h|h
   ·exact .inl h
   ·exact .inr (List.mem_cons_of_mem _ h)
  ·rw[fF (by omega)]at h
   rcases List.mem_cons.1 h with h|h
   ·exact .inr (by rw[h];exact List.mem_cons_self ..)
   ·rcases xg r x z h with h|h
    ·exact .inl h
    ·exact .inr (List.mem_cons_of_mem _ h)
theorem y8: ∀{r:List Int} (x:Int),Up r→Up (fO r x).1
 | [],x,_=>List.pairwise_singleton ..
 |a::r,x,h=>by
  have h':=List.pairwise_cons.1 h
  by_cases c:x<a
  ·rw[gh c]
   exact List.pairwise_cons.2 ⟨fun z hz=>by have:=h'.1 z hz;omega,h'.2⟩
  ·rw[fF (by omega)]
   refine List.pairwise_cons.2 ⟨fun z hz=> ?_,y8 x h'.2⟩
   rcases xg r x z hz with e|e
   ·omega
   ·exact h'.1 z e
theorem me: ∀(r:List Int) (x:Int),(fO r x).2= []∨ ∃b,(fO r x).2= [b]∧x<b∧b∈r
 | [],x=> .inl rfl
 |a::r,x=>by
  by_cases c:x<a
  ·rw[gh c];exact .inr ⟨a,rfl,c,List.mem_cons_self ..⟩
  ·rw[fF (by omega)]
   rcases me r x with h|⟨b,h1,h2,h3⟩
   ·exact .inl h
   ·exact .inr ⟨b,h1,h2,List.mem_cons_of_mem _ h3⟩
theorem CB: ∀{r:List Int} {y z:Int},Up r→y≤z→((fO r y).2= []→(fO (fO r y).1 z).2= [])∧ ∀p q,(fO r y).2= [p]→(fO (fO r y).1 z).2= [q]→p≤q
 | [],y,z,_,hz=>by
  refine⟨fun _=> ?_,fun p q h=>by simp[fO]at h⟩
  show(fO [y] z).2= []
  rw[fF hz];rfl
 |a::r,y,z,h,hz=>by
  have h':=List.pairwise_cons.1 h
  by_cases c:y<a
  ·rw[gh c]
   refine⟨fun e=>by simp at e,fun p q e1 e2=> ?_⟩
   rw[fF hz]at e2
   rcases me r z with o|⟨b,o1,_,o3⟩
   ·simp only at e2;rw[o]at e2;simp at e2
   ·simp only at e2
    rw[o1]at e2
    simp only[List.cons.injEq,and_true]at e1 e2
    have:=h'.1 b o3
    omega
  ·rw[fF (show a≤y by omega)]
   show((fO r y).2= []→(fO (a::(fO r y).1) z).2= [])∧ ∀p q,(fO r y).2= [p]→(fO (a::(fO r y).1) z).2= [q]→p≤q
   rw[fF (show a≤z by omega)]
   exact CB h'.2 hz
theorem CR: ∀{r:List Int} {y z:Int},Up r→y<z→z∈r→ ∃c,(fO r y).2= [c]∧y<c∧c≤z
 | [],_,_,_,_,hm=>by simp at hm
 |a::r,y,z,h,hz,hm=>by
  have h':=List.pairwise_cons.1 h
  by_cases c:y<a
  ·rw[gh c]
   refine⟨a,rfl,c,?_⟩
   rcases List.mem_cons.1 hm with e|e
   ·omega
   ·exact h'.1 z e
  ·rw[fF (by omega)]
   rcases List.mem_cons.1 hm with e|e
   ·omega
   ·exact CR h'.2 hz e
theorem yd: ∀(r:List Int) (x:Int),x∈(fO r x).1
 | [],x=>List.mem_singleton.2 rfl
 |a::r,x=>by
  by_cases c:x<a
  ·rw[gh c];exact List.mem_cons_self ..
  ·rw[fF (by omega)];exact List.mem_cons_of_mem _ (yd r x)
def Tri(u v:List Int):Prop:= ∃x y z:Int,(x<y∧y≤z∧u= [y,z,x]∧v= [y,x,z])∨(x≤y∧y<z∧u= [x,z,y]∧v= [z,x,y])
theorem Tri.a{x y z:Int}(h1:x<y)(h2:y≤z):Tri [y,z,x] [y,x,z]:=⟨x,y,z,.inl ⟨h1,h2,rfl,rfl⟩⟩
theorem Tri.b{x y z:Int}(h1:x≤y)(h2:y<z):Tri [x,z,y] [z,x,y]:=⟨x,y,z,.inr ⟨h1,h2,rfl,rfl⟩⟩
def jP:List Int→List Int→List Int×List Int
 |r,[]=>(r,[])
 |r,x::w=>((jP (fO r x).1 w).1,(fO r x).2++(jP (fO r x).1 w).2)
def CA(p q:List Int×List Int):Prop:=p.1=q.1∧(p.2=q.2∨Tri p.2 q.2)
theorem pz{a:Int}: ∀{w r:List Int},(∀x∈w,a≤x)→jP (a::r) w=(a::(jP r w).1,(jP r w).2)
 | [],_,_=>rfl
 |x::w,r,h=>by
  show((jP (fO (a::r) x).1 w).1,(fO (a::r) x).2++(jP (fO (a::r) x).1 w).2)=_
  rw[fF (h x (List.mem_cons_self ..))]
  simp only
  rw[pz fun y hy=>h y (List.mem_cons_of_mem _ hy)]
  rfl
theorem nE(r:List Int)(x y z:Int):jP r [x,y,z]=((fO (fO (fO r x).1 y).1 z).1,(fO r x).2++((fO (fO r x).1 y).2++(fO (fO (fO r x).1 y).1 z).2)):=by
 simp[jP]
theorem F1: ∀{r:List Int} {x y z:Int},Up r→x<y→y≤z→CA (jP r [y,z,x]) (jP r [y,x,z])
 | [],x,y,z,_,h1,h2=>by
  refine⟨?_,.inl ?_⟩
  ·simp[jP,fO,h1,show¬z<y by omega,show¬z<x by omega]
  ·simp[jP,fO,h1,show¬z<y by omega,show¬z<x by omega]
 |a::r,x,y,z,h,h1,h2=>by
  have h':=List.pairwise_cons.1 h
  by_cases c:y<a
  ·rw[nE,nE,gh c]
   simp only
   rw[fF (r:=r) h2,gh (r:=r) h1]
   simp only
   rw[gh h1,fF (show x≤z by omega)]
   refine⟨rfl,?_⟩
   rcases me r z with o|⟨b,o1,o2,o3⟩
   ·simp only;rw[o];exact .inl rfl
   ·simp only;rw[o1]
    exact .inr (Tri.a c (h'.1 b o3))
  ·by_cases c2:x<a
   ·rw[nE,nE,fF (show a≤y by omega)]
    simp only
    rw[fF (show a≤z by omega),gh c2]
    simp only
    rw[gh c2,fF (show x≤z by omega)]
    refine⟨rfl,?_⟩
    simp only
    obtain⟨e1,e2⟩:=CB h'.2 h2
    rcases me r y with o|⟨b,o1,o2,o3⟩
    ·rw[o,e1 o];exact .inl rfl
    ·rcases me (fO r y).1 z with p|⟨d,p1,p2,p3⟩
     ·rw[p,o1];exact .inl rfl
     ·rw[o1,p1]
      exact .inr (Tri.a (by omega) (e2 _ _ o1 p1))
   ·have ih:=F1 h'.2 h1 h2
    rw[pz (by simp;omega),pz (by simp;omega)]
    exact⟨congrArg (a:: ·) ih.1,ih.2⟩
theorem F6: ∀{r:List Int} {x y z:Int},Up r→x≤y→y<z→CA (jP r [x,z,y]) (jP r [z,x,y])
 | [],x,y,z,_,h1,h2=>by
  refine⟨?_,.inl ?_⟩
  ·simp[jP,fO,h2,show x<z by omega,show¬z<x by omega,show¬y<x by omega]
  ·simp[jP,fO,h2,show x<z by omega,show¬z<x by omega,show¬y<x by omega]
 |a::r,x,y,z,h,h1,h2=>by
  have h':=List.pairwise_cons.1 h
  by_cases c:z<a
  ·rw[nE,nE,gh (show x<a by omega),gh c]
   simp only
   rw[fF (r:=r) (show x≤z by omega),gh (r:=r) (show x<z by omega)]
   simp only
   rw[fF h1,fF h1]
   cases r with
   |nil=>simp[fO,h2,CA]
   |cons b r=>
    have hb:=h'.1 b (List.mem_cons_self ..)
    rw[gh (show z<b by omega),gh (show y<b by omega)]
    simp only
    rw[gh h2]
    exact⟨rfl,.inr (Tri.a c hb)⟩
  ·by_cases c2:x<a
   ·rw[nE,nE,gh c2,fF (show a≤z by omega)]
    simp only
    rw[gh c2,fF (show x≤z by omega)]
    simp only
    rw[fF h1]
    refine⟨rfl,?_⟩
    simp only
    rcases me r z with o|⟨b,o1,o2,o3⟩
    ·rw[o];exact .inl rfl
    ·rw[o1]
     obtain⟨d,d1,d2,d3⟩:=CR (y8 z h'.2) h2 (yd r z)
     rw[d1]
     refine .inr (Tri.b ?_ (by omega))
     rcases me (fO r z).1 y with p|⟨q,p1,p2,p3⟩
     ·rw[p]at d1;simp at d1
     ·rw[p1]at d1
      have:q=d:=by simpa using d1
      subst this
      rcases xg r z q p3 with e|e
      ·omega
      ·exact h'.1 q e
   ·have ih:=F6 h'.2 h1 h2
    rw[pz (by simp;omega),pz (by simp;omega)]
    exact⟨congrArg (a:: ·) ih.1,ih.2⟩
theorem Fb{r u v:List Int}(h:Up r)(t:Tri u v):CA (jP r u) (jP r v):=by
 obtain⟨x,y,z,⟨h1,h2,rfl,rfl⟩|⟨h1,h2,rfl,rfl⟩⟩:=t
 ·exact F1 h h1 h2
 ·exact F6 h h1 h2
theorem D8(a x:Int)(r:List Int):fst (a::r) x=if x<a then 0 else fst r x+1:=by
 unfold fst
 rw[List.findIdx_cons]
 by_cases c:x<a
 ·rw[if_pos c,decide_eq_true c];rfl
 ·rw[if_neg c,decide_eq_false c];rfl
theorem AO: ∀(r:List Int) (x:Int),fO r x=if fst r x<r.length then(r.set (fst r x) x,[r.getD (fst r x) 0])else(r++ [x],[])
 | [],x=>rfl
 |a::r,x=>by
  rw[D8]
  by_cases c:x<a
  ·rw[gh c,if_pos c,if_pos (by simp)];rfl
  ·rw[fF (by omega),if_neg c,AO r x]
   by_cases d:fst r x<r.length
   ·rw[if_pos d,if_pos (by simpa using d)];rfl
   ·rw[if_neg d,if_neg (by simpa using d)];rfl
theorem zM(r:List Int)(rs:List (List Int))(x:Int):(dG (r::rs) x).1=(fO r x).1::pq (fO r x).2 rs:=by
 rw[jD,AO]
 by_cases c:fst r x<r.length
 ·rw[if_pos c,if_pos c];rfl
 ·rw[if_neg c,if_neg c];rfl
theorem ug: ∀(w r:List Int) (rs:List (List Int)),pq w (r::rs)=(jP r w).1::pq (jP r w).2 rs
 | [],_,_=>rfl
 |x::w,r,rs=>by
  show pq w (dG (r::rs) x).1=_
  rw[zM,ug w]
  simp only[jP]
  rw[n5]
theorem Fx{u v:List Int}(t:Tri u v):pq u []=pq v []:=by
 obtain⟨x,y,z,⟨h1,h2,rfl,rfl⟩|⟨h1,h2,rfl,rfl⟩⟩:=t
 ·simp[pq,dG,List.findIdx_cons,h1,show¬z<y by omega,show¬z<x by omega]
 ·simp[pq,dG,List.findIdx_cons,h2,show x<z by omega,show¬z<x by omega,show¬y<x by omega]
theorem Ck: ∀{P:List (List Int)} {u v:List Int},(∀r∈P,Up r)→Tri u v→pq u P=pq v P
 | [],_,_,_,t=>Fx t
 |r::rs,u,v,h,t=>by
  rw[ug,ug]
  obtain⟨a,b|b⟩:=Fb (h r (List.mem_cons_self ..)) t
  ·rw[a,b]
  ·rw[a,Ck (fun q hq=>h q (List.mem_cons_of_mem _ hq)) b]
inductive Kn : List Int → List Int → Prop
  | refl (w) : Kn w w
  | symm {v w} : Kn v w → Kn w v
  | trans {u v w} : Kn u v → Kn v w → Kn u w
  | tri {u v} (a b) : Tri u v → Kn (a ++ u ++ b) (a ++ v ++ b)
theorem Kn.ctx{u v:List Int}(c d:List Int)(h:Kn u v):Kn (c++u++d) (c++v++d):=by
 induction h with
 |refl w=>exact .refl _
 |symm _ ih=>exact .symm ih
 |trans _ _ h1 h2=>exact .trans h1 h2
 |tri a b t=>
  have:=Kn.tri (c++a) (b++d) t
  simp only[List.append_assoc]at this⊢
  exact this
theorem Kn.left{u v:List Int}(c:List Int)(h:Kn u v):Kn (c++u) (c++v):=by
 have:=h.ctx c []
 simpa using this
theorem Kn.right{u v:List Int}(d:List Int)(h:Kn u v):Kn (u++d) (v++d):=by
 have:=h.ctx [] d
 simpa using this
theorem Kn.cons{u v:List Int}(c:Int)(h:Kn u v):Kn (c::u) (c::v):=h.left [c]
theorem Kn.of{u v:List Int}(t:Tri u v):Kn u v:=by
 have:=Kn.tri [] [] t
 simpa using this
theorem Kn.app{u v u' v':List Int}(h:Kn u u')(g:Kn v v'):Kn (u++v) (u'++v'):=(h.right v).trans (g.left u')
theorem Cr: ∀{P:List (List Int)} (x:Int),(∀r∈P,Up r)→ ∀r∈(dG P x).1,Up r
 | [],x,_=>fun r hr=>by
  have:r= [x]:=by simpa[dG]using hr
  rw[this];exact List.pairwise_singleton ..
 |q::P,x,h=>by
  rw[zM]
  intro r hr
  have hP: ∀r∈P,Up r:=fun r hr=>h r (List.mem_cons_of_mem _ hr)
  rcases List.mem_cons.1 hr with e|e
  ·rw[e];exact y8 x (h q (List.mem_cons_self ..))
  ·rcases me q x with o|⟨b,o,_,_⟩
   ·rw[o]at e;exact hP r e
   ·rw[o]at e;exact Cr b hP r e
theorem CQ: ∀{w:List Int} {P:List (List Int)},(∀r∈P,Up r)→ ∀r∈pq w P,Up r
 | [],_,h=>h
 |x::w,P,h=>show∀r∈pq w (dG P x).1,Up r from CQ (Cr x h)
theorem Kn.ins{u v:List Int}(h:Kn u v): ∀{P:List (List Int)},(∀r∈P,Up r)→pq u P=pq v P:=by
 induction h with
 |refl w=>intro P _;rfl
 |symm _ ih=>intro P hP;exact(ih hP).symm
 |trans _ _ h1 h2=>intro P hP;rw[h1 hP,h2 hP]
 |tri a b t=>
  intro P hP
  rw[n5,n5,n5,n5,Ck (CQ hP) t]
end Go.Am.Pu
end
section
/- Rows and slides keep words related. Plain words. -/
namespace Go.Am.Pu
def Gn(q:List Int)(g:List (List Int))(i c r:Nat):List Int:=
 if r=i then((g.getD r []).take c).drop (q.getD r 0).toNat++(g.getD r []).drop (c+1)else(g.getD r []).drop (q.getD r 0).toNat
end Go.Am.Pu
end
section
/- The rectification is the tableau of the word. Plain words. -/
namespace Go.Am.Pu
end Go.Am.Pu
end
section
/- Slides outwards: what holds on the way, what they leave; slides in and out undo each other. Plain words. -/
namespace Go.Am.Pu
theorem kQ{p:List Int}(hp:bm p=true)(r:Nat):0≤p.getD r 0∧p.getD r 0≤9:=by
 have:=cQ hp r
 rwa [ca]at this
theorem se{p:List Int}(hp:bm p=true){r:Nat}(hr:r<p.length):1≤p.getD r 0:=by
 rw[al hr];exact((aY hp).1 _ (List.getElem_mem hr)).1
theorem Fa{p q:List Int}(hp:bm p=true)(hq:bm q=true)(h: ∀r,p.getD r 0=q.getD r 0):p=q:=by
 have hl:p.length=q.length:=by
  rcases Nat.lt_trichotomy p.length q.length with c|c|c
  ·have:=se hq c
   rw[←h,aQ (Nat.le_refl _)]at this;omega
  ·exact c
  ·have:=se hp c
   rw[h,aQ (Nat.le_refl _)]at this;omega
 exact wP hl fun x _=>h x
theorem rA: ∀{a b:List Int},(∀i,a.getD i 0≤b.getD i 0)→dg a≤dg b∧ ∀j,a.getD j 0<b.getD j 0→dg a<dg b
 | [],[],_=>⟨Int.le_refl _,fun j h=>by simp at h⟩
 | [],y::b,h=>by
  have h0:=h 0
  obtain⟨i1,i2⟩:=rA (a:= []) (b:=b) fun i=>by have:=h (i+1);simpa using this
  simp only[List.getD_nil,List.getD_cons_zero]at h0
  simp only[dg]at*
  refine⟨by omega,fun j hj=> ?_⟩
  cases j with
  |zero=>simp at hj;omega
  |succ j=>have:=i2 j (by simpa using hj);omega
 |x::a,[],h=>by
  have h0:=h 0
  obtain⟨i1,i2⟩:=rA (a:=a) (b:= []) fun i=>by have:=h (i+1);simpa using this
  simp only[List.getD_nil,List.getD_cons_zero]at h0
  simp only[dg]at*
  refine⟨by omega,fun j hj=> ?_⟩
  cases j with
  |zero=>simp at hj;omega
  |succ j=>have:=i2 j (by simpa using hj);omega
 |x::a,y::b,h=>by
  have h0:=h 0
  obtain⟨i1,i2⟩:=rA (a:=a) (b:=b) fun i=>by have:=h (i+1);simpa using this
  simp only[List.getD_cons_zero]at h0
  simp only[dg]at*
  refine⟨by omega,fun j hj=> ?_⟩
  cases j with
  |zero=>simp at hj;omega
  |succ j=>have:=i2 j (by simpa using hj);omega
theorem E3{q:List Int}{i:Nat}: ∀r,(if(i:Int)=q.length then q++ [0]else q).getD r 0=q.getD r 0:=fun r=>by
 split
 ·by_cases hr:r<q.length
  ·rw[lx hr]
  ·rw[mI (by omega),aQ (xs:=q) (by omega)]
   cases r-q.length<;>rfl
 ·rfl
theorem Dl{q:List Int}{i:Nat}(hq:bm q=true)(hi:i≤q.length)(hm:i=0∨q.getD i 0+1≤q.getD (i-1) 0)(hs:dg q+1≤9): ∃o,gM q i=(o,true):=by
 have hlen:i<(if(i:Int)=q.length then q++ [0]else q).length:=by
  split
  ·rw[List.length_append,List.length_singleton];omega
  ·omega
 have hsum:dg (if(i:Int)=q.length then q++ [0]else q)=dg q:=by
  split
  ·rw[Ai];simp[dg]
  ·rfl
 have hg:=E3 (q:=q) (i:=i)
 unfold gM
 rw[if_pos ⟨hq,by omega,by omega⟩]
 simp only[Int.toNat_natCast]
 generalize hw:(if(i:Int)=q.length then q++ [0]else q)=w at*
 have hset: ∀r,(w.set i (w.getD i 0+1)).getD r 0=if r=i then q.getD i 0+1 else q.getD r 0:=fun r=>by
  rw[j5 _ hlen,hg]
  by_cases e:r=i
  ·rw[if_pos e,if_pos e]
  ·rw[if_neg e,if_neg e,hg]
 have hpart:bm (w.set i (w.getD i 0+1))=true:=by
  have hle:dg q≤8:=by omega
  have h1: ∀r,q.getD r 0≤8:=fun r=>by
   have h0:=(kQ hq r).1
   by_cases hr:r<q.length
   ·have:=rA (a:=List.replicate (r+1) 0|>.set r (q.getD r 0)) (b:=q) fun i=>by
     rw[j5 _ (by simp)]
     by_cases e:i=r
     ·rw[if_pos e,e];exact Int.le_refl _
     ·rw[if_neg e]
      have:(List.replicate (r+1) (0:Int)).getD i 0=0:=by
       by_cases hi:i<r+1
       ·rw[al (by simpa using hi)];simp
       ·rw[aQ (by simp;omega)]
      rw[this];exact(kQ hq i).1
    have h2:=this.1
    rw[qw _ _ _ (by simp)]at h2
    have h3: ∀n,dg (List.replicate n 0)=0:=fun n=>by
     induction n with
     |zero=>rfl
     |succ n ih=>rw[List.replicate_succ];simp[dg,ih]
    have h4:(List.replicate (r+1) (0:Int)).getD r 0=0:=by rw[al (by simp)];simp
    rw[h3,h4]at h2
    omega
   ·rw[aQ (by omega)];omega
  refine kV _ _ _ (fun x hx=> ?_) (fun _=> ?_) (fun r _=> ?_) ?_
  ·obtain⟨r,hr,rfl⟩:=List.getElem_of_mem hx
   rw[←al hr 0,hset]
   by_cases e:r=i
   ·rw[if_pos e]
    have:=(kQ hq i).1
    omega
   ·rw[if_neg e]
    rw[List.length_set]at hr
    refine se hq ?_
    rw[←hw]at hr
    split at hr
    ·rw[List.length_append,List.length_singleton]at hr;omega
    ·exact hr
  ·rw[hset]
   have:=h1 0
   have:=h1 i
   split<;>omega
  ·rw[hset,hset]
   have:=fH hq r
   by_cases e:r=i
   ·subst e
    rw[if_neg (by omega),if_pos rfl];omega
   ·rw[if_neg e]
    by_cases e2:r+1=i
    ·subst e2
     rw[if_pos rfl]
     rcases hm with hm|hm
     ·omega
     ·simpa using hm
    ·rw[if_neg e2];exact this
  ·rw[qw _ _ _ hlen,hg,hsum];omega
 rw[if_pos hpart]
 exact⟨_,rfl⟩
theorem EN{p q:List Int}{n:Nat}(hp:bm p=true)(h:gM p n=(q,true)):aB q n=p∧q.getD (n+1) 0<q.getD n 0:=by
 obtain⟨b1,b2,b3,b4,b5⟩:=lz h
 have hc:q.getD (n+1) 0<q.getD n 0:=by
  rw[b4,b4,if_neg (by omega),if_pos rfl]
  have:=fH hp n
  omega
 refine⟨Fa (oj b5 b2 hc) hp fun r=> ?_,hc⟩
 rw[kS b5 b2 hc,b4,b4,if_pos rfl]
 by_cases e:r=n
 ·rw[if_pos e,e];omega
 ·rw[if_neg e,if_neg e]
theorem Sl.up{q:List Int}{g:List (List Int)}{i c:Nat}(h:Sl q g (i+1) c)(hi:Inn q g)(hu:cel g i c≠0)(hl:leftOf g (i+1) c≤cel g i c):Sl q (fb g (i+1) c (cel g i c)) i c:=by
 obtain⟨b1,b2⟩:=nX hu
 have hq:q.getD i 0≤c:=Int.not_lt.1 fun hlt=>hu (hi i c hlt)
 have hqm:=h.qm i
 have hun:=h.num i c hq b2 (by omega)
 have e0:=iN (cel g i c) h.hi h.hc
 have en: ∀r x,¬(r=i+1∧x=c)→cel (fb g (i+1) c (cel g i c)) r x=cel g r x:=fun r x hh=>gU _ hh
 have hll:=h.lm i
 refine⟨h.q0,h.qm,fun r=> ?_,?_,?_,hq,fun r x=> ?_,fun r x h1 h2 h3=> ?_,fun r x h1 h2 h3 h4=> ?_,fun r x h1 h2 h3 h4=> ?_,fun x h1 h2 h3=> ?_,fun r h1 h2 h3=> ?_⟩
 ·rw[bp,bp];exact h.lm r
 ·rw[dy];exact b1
 ·rw[bp];exact b2
 ·by_cases e:r=i+1∧x=c
  ·rw[e.1,e.2,e0];exact h.pos _ _
  ·rw[en r x e];exact h.pos _ _
 ·rw[bp]at h2
  by_cases e:r=i+1∧x=c
  ·rw[e.1,e.2,e0];exact hun
  ·rw[en r x e];exact h.num r x h1 h2 e
 ·rw[bp]at h2
  by_cases e:r=i+1∧x=c
  ·obtain⟨rfl,rfl⟩:=e
   rw[e0,en _ _ (by omega)]
   have h5:=h.row i x hq (by omega) (by omega) (by omega)
   have h6:=h.col i (x+1) (by omega) h2 (by omega) (by omega)
   omega
  ·rw[en r x e]
   by_cases e':r=i+1∧x+1=c
   ·obtain⟨rfl,rfl⟩:=e'
    rw[e0]
    unfold leftOf at hl
    rw[if_neg (by omega),show x+1-1=x by omega]at hl
    exact hl
   ·rw[en r (x+1) e'];exact h.row r x h1 h2 e e'
 ·rw[bp]at h2
  by_cases e:r=i+1∧x=c
  ·obtain⟨rfl,rfl⟩:=e
   rw[e0,en _ _ (by omega)]
   exact h.colH i rfl hq h2
  ·rw[en r x e]
   by_cases e':r+1=i+1∧x=c
   ·exact(h3 ⟨by omega,e'.2⟩).elim
   ·rw[en (r+1) x e']
    exact h.col r x h1 h2 e e'
 ·rw[bp]at h3
  rw[en _ _ (by omega),en _ _ (by omega)]
  subst h1
  have h5:=h.row i x h2 (by omega) (by omega) (by omega)
  have h6:=h.row i (x+1) (by omega) h3 (by omega) (by omega)
  omega
 ·rw[bp]at h3
  subst h1
  rw[en _ _ (by omega),e0]
  exact h.col r c h2 b2 (by omega) (by omega)
theorem Sl.left{q:List Int}{g:List (List Int)}{i c:Nat}(h:Sl q g i (c+1))(hi:Inn q g)(hv:cel g i c≠0)(hu:l6 g i (c+1)<cel g i c):Sl q (fb g i (c+1) (cel g i c)) i c:=by
 obtain⟨b1,b2⟩:=nX hv
 have hq:q.getD i 0≤c:=Int.not_lt.1 fun hlt=>hv (hi i c hlt)
 have hqm:=h.qm i
 have hvn:=h.num i c hq b2 (by omega)
 have e0:=iN (cel g i c) h.hi h.hc
 have en: ∀r x,¬(r=i∧x=c+1)→cel (fb g i (c+1) (cel g i c)) r x=cel g r x:=fun r x hh=>gU _ hh
 have hll:=h.lm i
 refine⟨h.q0,h.qm,fun r=> ?_,?_,?_,hq,fun r x=> ?_,fun r x h1 h2 h3=> ?_,fun r x h1 h2 h3 h4=> ?_,fun r x h1 h2 h3 h4=> ?_,fun x h1 h2 h3=> ?_,fun r h1 h2 h3=> ?_⟩
 ·rw[bp,bp];exact h.lm r
 ·rw[dy];exact b1
 ·rw[bp];exact b2
 ·by_cases e:r=i∧x=c+1
  ·rw[e.1,e.2,e0];exact h.pos _ _
  ·rw[en r x e];exact h.pos _ _
 ·rw[bp]at h2
  by_cases e:r=i∧x=c+1
  ·rw[e.1,e.2,e0];exact hvn
  ·rw[en r x e];exact h.num r x h1 h2 e
 ·rw[bp]at h2
  by_cases e:r=i∧x=c+1
  ·obtain⟨rfl,rfl⟩:=e
   rw[e0,en _ _ (by omega)]
   exact h.Gn c rfl hq h2
  ·rw[en r x e]
   by_cases e':r=i∧x+1=c+1
   ·exact(h3 ⟨e'.1,by omega⟩).elim
   ·rw[en r (x+1) e'];exact h.row r x h1 h2 e e'
 ·rw[bp]at h2
  by_cases e:r=i∧x=c+1
  ·obtain⟨rfl,rfl⟩:=e
   rw[e0,en _ _ (by omega)]
   have h5:=h.col r c hq (by omega) (by omega) (by omega)
   have h6:=h.row (r+1) c (by omega) h2 (by omega) (by omega)
   omega
  ·rw[en r x e]
   by_cases e':r+1=i∧x=c+1
   ·obtain⟨rfl,rfl⟩:=e'
    rw[e0]
    unfold l6 at hu
    rw[if_neg (by omega),show r+1-1=r by omega]at hu
    exact hu
   ·rw[en (r+1) x e']
    exact h.col r x h1 h2 e e'
 ·rw[bp]at h3
  subst h1
  rw[en _ _ (by omega),e0]
  exact h.row i x h2 b2 (by omega) (by omega)
 ·rw[bp]at h3
  rw[en _ _ (by omega),en _ _ (by omega)]
  subst h1
  have h5:=h.col r c h2 b2 (by omega) (by omega)
  have h6:=h.col (r+1) c hq h3 (by omega) (by omega)
  omega
end Go.Am.Pu
end
section
/- What a slide outwards leaves is a tableau; slides in and out undo each other. Plain words. -/
namespace Go.Am.Pu
theorem C0{q o:List Int}{g:List (List Int)}(hq:bm q=true)(ho:bm o=true)(hin: ∀r,q.getD r 0≤o.getD r 0)(hl: ∀r,r<o.length→((g.getD r []).length:Int)=o.getD r 0)
  (num: ∀r x:Nat,r<o.length→q.getD r 0≤x→(x:Int)<o.getD r 0→1≤cel g r x∧cel g r x≤9)
  (row: ∀r x:Nat,r<o.length→q.getD r 0≤x→(x:Int)+1<o.getD r 0→cel g r x≤cel g r (x+1))
  (col: ∀r x:Nat,r+1<o.length→q.getD r 0≤x→(x:Int)<o.getD (r+1) 0→cel g r x<cel g (r+1) x):
  dM (q,cI q g o.length)=true∧outer (q,cI q g o.length)=o:=by
 have q0:=fun r=>(kQ hq r).1
 generalize hR:cI q g o.length=R
 have hRl:R.length=o.length:=by rw[←hR,eR]
 have cell: ∀{r k:Nat},r<R.length→k<(R.getD r []).length→((q.getD r 0).toNat+k:Int)<o.getD r 0∧(R.getD r []).getD k 0=cel g r ((q.getD r 0).toNat+k):=by
  intro r k hr hk
  subst hR
  rw[jb (by omega)]at hk⊢
  rw[List.length_drop]at hk
  have:=hl r (by omega)
  refine⟨by omega,?_⟩
  rw[gZ];rfl
 have zh: ∀{r:Nat},r<R.length→o.getD r 0=q.getD r 0+((R.getD r []).length:Int):=by
  intro r hr
  subst hR
  rw[jb (by omega),List.length_drop]
  have:=hl r (by omega)
  have:=hin r
  have:=q0 r
  omega
 have hout:outer (q,R)=o:=by
  refine List.ext_getElem (by rw[bD];exact hRl) fun r h1 h2=> ?_
  rw[←al h1 0,←al h2 0]
  have h3:r<R.length:=by omega
  have:=fC q R 0 r h3
  rw[Nat.zero_add]at this
  unfold outer
  rw[this]
  exact(zh h3).symm
 refine⟨?_,hout⟩
 have hlen:q.length≤R.length:=by
  refine Nat.le_of_not_lt fun hlt=> ?_
  have a:=se hq hlt
  have b:=hin R.length
  rw[aQ (xs:=o) (by omega)]at b
  omega
 have om:=fH ho
 have qm:=fH hq
 simp only[dM,dA,ct,Bool.and_eq_true,decide_eq_true_eq]
 rw[hout]
 refine⟨⟨hq,hlen,hq,ho,by omega,?_⟩,?_⟩
 ·rw[dm]
  intro r _
  exact decide_eq_true (hin r)
 ·rw[dm]
  intro r hr
  rw[dm]
  intro k hk
  have hqr:=q0 r
  obtain⟨c1,c4⟩:=cell hr hk
  have hnum:=num r ((q.getD r 0).toNat+k) (by omega) (by omega) (by omega)
  simp only[fQ,within,Bool.and_eq_true,Bool.or_eq_true,decide_eq_true_eq]
  rw[c4]
  refine⟨hnum,?_,?_⟩
  ·cases k with
   |zero=>exact .inl rfl
   |succ k=>
    obtain⟨d1,d4⟩:=cell hr (show k<(R.getD r []).length by omega)
    right
    rw[show k+1-1=k from rfl,d4]
    exact row r ((q.getD r 0).toNat+k) (by omega) (by omega) (by omega)
  ·cases r with
   |zero=>exact .inl rfl
   |succ r=>
    right
    have hr':r<R.length:=by omega
    have em:((r+1:Nat):Int)-1=(r:Int):=by omega
    rw[em,jA hr']
    have hqr:=q0 r
    have hqm:=qm r
    have hrl:=zh hr'
    have hom:=om r
    simp only
    by_cases e:q.getD (r+1) 0+(k:Int)<q.getD r 0
    ·rw[mG (by omega)];omega
    ·obtain⟨y,hy⟩: ∃y:Nat,q.getD (r+1) 0+(k:Int)-q.getD r 0=y:=⟨(q.getD (r+1) 0+(k:Int)-q.getD r 0).toNat,by omega⟩
     rw[hy,ca]
     obtain⟨d1,d4⟩:=cell hr' (show y<(R.getD r []).length by omega)
     have ey:(q.getD r 0).toNat+y=(q.getD (r+1) 0).toNat+k:=by omega
     rw[d4,ey]
     exact col r _ (by omega) (by omega) (by omega)
section
variable {t : Tab} {n : Nat} {p : List Int}
def uo(t:Tab)(n:Nat)(p:List Int):List (List Int)×(Nat×Nat):=fE 18 (eU t n) n (p.getD n 0-1).toNat
structure FF (t : Tab) (n : Nat) (p : List Int) (g : List (List Int)) (i c : Nat) (q : List Int) : Prop where
  sl : Sl t.1 g i c
  inn : Inn t.1 g
  len : g.length = p.length
  row : ∀ r, ((g.getD r []).length : Int) = p.getD r 0
  l0 : leftOf g i c = 0
  u0 : l6 g i c = 0
  add : gM t.1 i = (q, true)
  qi : q.getD i 0 = c + 1
  qr : ∀ r, q.getD r 0 = if r = i then (c : Int) + 1 else t.1.getD r 0
  qp : bm q = true
  ins : ∀ r, q.getD r 0 ≤ p.getD r 0
def u3(t:Tab)(n:Nat):Tab×Nat:=
 let p:=(gM (outer t) n).1
 let s:=uo t n p
 let q:=(gM t.1 s.2.1).1
 ((q,cI q s.1 p.length),s.2.1)
theorem FF.tab{g:List (List Int)}{i c:Nat}{q:List Int}(E:FF t n p g i c q)(hp:gM (outer t) n=(p,true)):dM (q,cI q g p.length)=true∧outer (q,cI q g p.length)=p:=by
 obtain⟨b1,b2,b3,b4,b5⟩:=lz hp
 have hq:=E.sl.hq
 have old: ∀r x:Nat,q.getD r 0≤x→t.1.getD r 0≤x∧ ¬(r=i∧x=c):=fun r x hx=>by
  rw[E.qr]at hx
  by_cases e:r=i
  ·rw[if_pos e]at hx
   rw[e]
   exact⟨by omega,by omega⟩
  ·rw[if_neg e]at hx;exact⟨hx,fun e'=>e e'.1⟩
 refine C0 E.qp b5 E.ins (fun r _=>E.row r) (fun r x _ h1 h2=> ?_) (fun r x _ h1 h2=> ?_) (fun r x _ h1 h2=> ?_)
 ·have:=E.row r
  exact E.sl.num r x (old r x h1).1 (by omega) (old r x h1).2
 ·have:=E.row r
  exact E.sl.row r x (old r x h1).1 (by omega) (old r x h1).2 (by have:=(old r (x+1) (by omega)).2;exact this)
 ·have:=E.row (r+1)
  have hm:=fH E.qp r
  exact E.sl.col r x (old r x h1).1 (by omega) (old r x h1).2 (by have:=(old (r+1) x (by omega)).2;exact this)
theorem FF.eq{q:List Int}(E:FF t n p (uo t n p).1 (uo t n p).2.1 (uo t n p).2.2 q)(hp:gM (outer t) n=(p,true)):u3 t n=((q,cI q (uo t n p).1 p.length),(uo t n p).2.1):=by
 unfold u3
 rw[hp]
 simp only[E.add]
end
section
variable {t : Tab} {n : Nat}
end
end Go.Am.Pu
end
section
/- Words of tableaux; the rows of a slide outwards. Plain words. -/
namespace Go.Am.Pu
def ig(a n m:Nat)(t:Tab):Prop:=t.1.length≤a∧cj n m t.2
theorem ig.tab{a n m:Nat}{t:Tab}(h:ig a n m t)(ha:a≤1048576)(hn:n≤1048576)(hm:m≤1048576):t.1.length≤1048576∧t.2.length≤1048576∧ ∀x∈t.2,x.length≤1048576:=
 ⟨Nat.le_trans h.1 ha,Nat.le_trans h.2.1 hn,fun x hx=>Nat.le_trans (h.2.2 x hx) hm⟩
end Go.Am.Pu
end
section
/- Partitions that are drawn; chains of partitions. Plain words. -/
namespace Go.Am.Pu
def EF(n:Nat)(m:Int)(x:List Int):Prop:=oh n x∧(∀s:Int,0≤s→s+n≤9→gB x m s=true)∧dg x=n
theorem zY: ∀(x:List Int) {m m' s:Int},m≤m'→gB x m s=true→gB x m' s=true
 | [],_,_,_,_,_=>rfl
 |y::x,m,m',s,h,h1=>by
  simp only[gB,Bool.and_eq_true,decide_eq_true_eq]at h1⊢
  exact⟨h1.1,by omega,h1.2.2⟩
end Go.Am.Pu
end
section
/- Plain laws: tableaux side by side; a number's copies. -/
namespace Go.Am.Pu
open Go Go.Am
attribute [local instance] D.real
end Go.Am.Pu
end
section
/- Plain laws: boxes that lead on to an outer partition; chains. -/
namespace Go.Am.Pu
open Go Go.Am
attribute [local instance] D.real
theorem qI{p q:List Int}(h:ct p q=true)(i:Nat):p.getD i 0≤q.getD i 0:=by
 rw[nx]at h
 simp only[Bool.and_eq_true]at h
 rcases Nat.lt_or_ge i p.length with hi|hi
 ·have:=dm.1 h.2.2 i hi
  simpa using this
 ·rw[aQ hi];exact(kQ h.2.1 i).1
theorem mA{p q:List Int}(h:ct p q=true):bm p=true∧bm q=true:=by
 rw[nx]at h
 simp only[Bool.and_eq_true]at h
 exact⟨h.1,h.2.1⟩
theorem mB{p q:List Int}(hp:bm p=true)(hq:bm q=true)(h: ∀i,p.getD i 0≤q.getD i 0):ct p q=true:=by
 rw[nx,hp,hq]
 simp only[Bool.true_and]
 exact dm.2 fun i _=>decide_eq_true (h i)
theorem sum_add{p o:List Int}{r:Nat}(hp:bm p=true)(h:gM p r=(o,true)):dg o=dg p+1:=by
 obtain⟨_,b2,_,_,b5⟩:=lz h
 obtain⟨e,hc⟩:=EN hp h
 have:=AI b5 b2 hc
 rw[e]at this
 omega
theorem Dm{P:Nat→Prop} [DecidablePred P]: ∀(n:Nat),P n→ ∃m,P m∧ ∀i,i<m→ ¬P i:=by
 intro n
 induction n using Nat.strongRecOn with
 |_ n ih=>
  intro h
  by_cases hm: ∃m,m<n∧P m
  ·obtain⟨m,h1,h2⟩:=hm;exact ih m h1 h2
  ·exact⟨n,h,fun i hi hP=>hm ⟨i,hi,hP⟩⟩
theorem FM{p q:List Int}(h:ct p q=true)(hs:dg p<dg q): ∃(r:Nat) (o:List Int),r≤p.length∧gM p r=(o,true)∧ct o q=true:=by
 obtain⟨hp,hq⟩:=mA h
 have hle:=qI h
 have hex: ∃i,p.getD i 0<q.getD i 0:=by
  refine Classical.byContradiction fun hn=> ?_
  have: ∀i,q.getD i 0≤p.getD i 0:=fun i=>Int.not_lt.1 fun hlt=>hn ⟨i,hlt⟩
  have:=(rA this).1
  omega
 obtain⟨i,hi⟩:=hex
 obtain⟨r,hr,hmin⟩:=Dm (P:=fun i=>p.getD i 0<q.getD i 0) i hi
 have hrl:r≤p.length:=by
  refine Nat.le_of_not_lt fun hlt=> ?_
  have h1:=hmin p.length hlt
  have h2:p.getD p.length 0=0:=aQ (Nat.le_refl _) 0
  have h3:=Aj hq p.length (r-p.length)
  rw[show p.length+(r-p.length)=r by omega]at h3
  have h4:=(kQ hp r).1
  omega
 have hsq:=(aY hq).2.1
 obtain⟨o,ho⟩:=Dl hp hrl (by
  rcases Nat.eq_zero_or_pos r with h0|h0
  ·exact .inl h0
  ·right
   have h1:=hmin (r-1) (by omega)
   have h2:=fH hq (r-1)
   rw[show r-1+1=r by omega]at h2
   omega) (by omega)
 refine⟨r,o,hrl,ho,?_⟩
 obtain⟨_,_,_,b4,b5⟩:=lz ho
 refine mB b5 hq fun i=> ?_
 rw[b4]
 split
 ·next e=>subst e;omega
 ·exact hle i
def Ch(c:List (List Int)):Prop:=1≤c.length∧c.length≤10∧ ∀x∈c,oh 9 x
theorem fL{p:List Int}(h:bm p=true):oh 9 p:=⟨(aY h).2.2.1,(aY h).1⟩
def jf(c:List (List Int)):List Int:=c.getD (c.length-1) []
theorem D1(c:List (List Int))(o:List Int):jf (c++ [o])=o:=by
 unfold jf
 rw[List.length_append,List.length_singleton,Nat.add_sub_cancel,List.getD_eq_getElem?_getD,List.getElem?_append_right (Nat.le_refl _),Nat.sub_self]
 rfl
def fct:Nat→Nat
 |0=>1
 |n+1=>(n+1)*fct n
theorem E4{d:Nat}(h:d≤9):1≤fct d∧fct d≤362880:=by
 have: ∀d,d<10→1≤fct d∧fct d≤362880:=by decide
 exact this d (by omega)
theorem xu(w:List Int)(r:Nat):dg (w.take (r+1))=dg (w.take r)+w.getD r 0:=by
 rcases Nat.lt_or_ge r w.length with h|h
 ·rw[take_succ h 0,Ai];simp[dg]
 ·rw[List.take_of_length_le (by omega),List.take_of_length_le (by omega),aQ h];simp
end Go.Am.Pu
end
