/- Plain laws of lists, partitions, shapes and tableaux; no program in sight. -/
import Derived.Test.YtlfpegcoaebmkaaAmP
set_option linter.unusedSimpArgs false
set_option linter.unusedVariables false
set_option linter.unnecessarySimpa false
set_option linter.unusedSectionVars false
section
/- Rules for loops over data: a loop that looks at all, a loop that folds. -/
namespace Go.Am.Pu
open Go.Am
theorem w64{n:Int}(h1: -9223372036854775808≤n)(h2:n≤9223372036854775807):IntKind.i64.wrap n=n:=Go.Am.w64 h1 h2
theorem mN{R:Type}(L:Nat→Nat→Option R)(n:Nat)(p:Nat→Bool)(bad FO:Option R)
  (hs: ∀j i,i<n→L (j+1) i=if p i=true then L j (i+1)else bad) (he: ∀j,L (j+1) n=FO):
  ∀(m j i:Nat),i+m=n→m<j→L j i=if(List.range' i m).all p=true then FO else bad
 |m,0,i,_,h=>by omega
 |0,j+1,i,h,_=>by
  have:i=n:=by omega
  subst this
  rw[he];rfl
 |m+1,j+1,i,h,hj=>by
  rw[hs j i (by omega),mN L n p bad FO hs he m j (i+1) (by omega) (by omega),List.range'_succ,List.all_cons]
  cases p i
  ·rw[if_neg (by simp),Bool.false_and,if_neg (by simp)]
  ·rw[if_pos rfl,Bool.true_and]
theorem eE{p:Nat→Bool}{n:Nat}:(List.range' 0 n).all p=true↔ ∀i,i<n→p i=true:=by
 simp[List.all_eq_true,List.mem_range'_1]
theorem aj{α:Type}{xs:List α}{i:Nat}(h:i<xs.length)(d:α):xs.getD i d=xs[i]:=by
 simp only[List.getD_eq_getElem?_getD,List.getElem?_eq_getElem h,Option.getD_some]
theorem cu{α:Type}{xs:List α}{i:Nat}(h:xs.length≤i)(d:α):xs.getD i d=d:=by
 simp only[List.getD_eq_getElem?_getD,List.getElem?_eq_none h,Option.getD_none]
theorem drop_cons{α:Type}{xs:List α}{i:Nat}(h:i<xs.length)(d:α):xs.drop i=xs.getD i d::xs.drop (i+1):=by
 rw[aj h,List.drop_eq_getElem_cons h]
theorem take_succ{α:Type}{xs:List α}{i:Nat}(h:i<xs.length)(d:α):xs.take (i+1)=xs.take i++ [xs.getD i d]:=by
 rw[aj h,List.take_succ_eq_append_getElem h]
end Go.Am.Pu
end
section
/- Marking memory and looking whether the marks are held. -/
namespace Go.Am.Pu
def held:List Int→Int→Int
 | [],q=>q
 |x::xs,q=>if x=q then held xs (q+1)else-1
def AH:List (List Int)→Nat
 | []=>0
 |x::xs=>x.length+AH xs
theorem Aj: ∀(xs:List (List Int)) (n:Nat),(∀x∈xs,x.length≤n)→AH xs≤xs.length*n
 | [],n,_=>by simp[AH]
 |x::xs,n,h=>by
  have h1:=h x (by simp)
  have h2:=Aj xs n fun y hy=>h y (by simp[hy])
  simp only[AH,List.length_cons,Nat.succ_mul]
  omega
end Go.Am.Pu
end
section
/- Partitions, shapes and tableaux as plain words. -/
namespace Go.Am.Pu
def within(x lo hi:Int):Bool:=decide (lo≤x)&&decide (x≤hi)
def atI(p:List Int)(i:Int):Int:=if i<0 then 0 else p.getD i.toNat 0
theorem eH(p:List Int)(i:Nat):atI p (i:Int)=p.getD i 0:=by simp[atI];omega
theorem qd{p:List Int}{i:Int}(h:i<0):atI p i=0:=by simp[atI,h]
theorem BY{p:List Int}{i:Int}(h:(p.length:Int)≤i):atI p i=0:=by
 unfold atI
 split
 ·rfl
 ·exact cu (by omega) 0
def fS:List Int→Int→Int→Bool
 | [],_,_=>true
 |x::xs,prev,s=>decide (1≤x)&&(decide (x≤prev)&&(decide (s+x≤9)&&fS xs x (s+x)))
def cx(p:List Int):Bool:=fS p 9 0
def dA:List Int→Int
 | []=>0
 |x::xs=>x+dA xs
theorem uN: ∀(p:List Int) (prev s:Int),fS p prev s=true→(∀x∈p,1≤x∧x≤prev)∧(p≠ []→s+dA p≤9)∧(p.length:Int)≤dA p
 | [],prev,s,_=>⟨fun x h=>(by cases h),fun h=>absurd rfl h,(by simp[dA])⟩
 |x::xs,prev,s,h=>by
  simp only[fS,Bool.and_eq_true,decide_eq_true_eq]at h
  obtain⟨h1,h2,h3,h4⟩:=h
  obtain⟨k1,k2,k3⟩:=uN xs x (s+x) h4
  refine⟨fun y hy=> ?_,fun _=> ?_,?_⟩
  ·rcases List.mem_cons.1 hy with rfl|hy
   ·exact⟨h1,h2⟩
   ·have:=k1 y hy;omega
  ·simp only[dA]
   by_cases e:xs= []
   ·subst e;simp[dA];omega
   ·have:=k2 e;omega
  ·simp only[dA,List.length_cons];omega
theorem dn{p:List Int}(h:cx p=true):(∀x∈p,1≤x∧x≤9)∧dA p≤9∧p.length≤9∧(p.length:Int)≤dA p:=by
 obtain⟨h1,h2,h3⟩:=uN p 9 0 h
 have:dA p≤9:=by
  by_cases e:p= []
  ·subst e;simp[dA]
  ·have:=h2 e;omega
 exact⟨h1,this,by omega,h3⟩
theorem iH{p:List Int}(h:cx p=true)(i:Int):0≤atI p i∧atI p i≤9:=by
 unfold atI
 split
 ·omega
 ·by_cases hl:i.toNat<p.length
  ·rw[aj hl]
   have:=(dn h).1 _ (List.getElem_mem hl)
   omega
  ·rw[cu (by omega)];omega
def dV(q p:List Int):Bool:=cx q&&(cx p&&(decide (q.length≤p.length)&&(List.range' 0 q.length).all fun i=>decide (q.getD i 0≤p.getD i 0)))
theorem Cw{q p:List Int}(hq:cx q=true)(h:(List.range' 0 q.length).all (fun i=>decide (q.getD i 0≤p.getD i 0))=true):q.length≤p.length:=by
 rw[eE]at h
 refine Nat.le_of_not_lt fun hlt=> ?_
 have h1:=h p.length hlt
 rw[decide_eq_true_eq,cu (Nat.le_refl _),aj hlt]at h1
 have:=(dn hq).1 _ (List.getElem_mem hlt)
 omega
theorem A0{q p:List Int}:dV q p=(cx q&&(cx p&&(List.range' 0 q.length).all fun i=>decide (q.getD i 0≤p.getD i 0))):=by
 unfold dV
 cases hq:cx q with
 |false=>rfl
 |true=>
  cases hp:cx p with
  |false=>rfl
  |true=>
   simp only[Bool.true_and]
   cases ha:(List.range' 0 q.length).all fun i=>decide (q.getD i 0≤p.getD i 0)with
   |false=>simp
   |true=>simp[Cw hq ha]
def fE(inner:List Int):Nat→List (List Int)→List Int
 |_,[]=> []
 |i,r::rs=>(inner.getD i 0+r.length)::fE inner (i+1) rs
theorem ly(inner:List Int): ∀(rs:List (List Int)) (i:Nat),(fE inner i rs).length=rs.length
 | [],_=>rfl
 |_::rs,i=>by simp[fE,ly inner rs]
theorem fU(inner:List Int): ∀(rs:List (List Int)) (i q:Nat),q<rs.length→(fE inner i rs).getD q 0=inner.getD (i+q) 0+(rs.getD q []).length
 | [],i,q,h=>by simp at h
 |r::rs,i,0,_=>by simp[fE]
 |r::rs,i,q+1,h=>by
  have:=fU inner rs (i+1) q (by simpa using h)
  simp only[fE,List.getD_cons_succ]
  rw[this]
  have e:i+1+q=i+(q+1):=by omega
  rw[e]
abbrev Tab:=List Int×List (List Int)
def outer(t:Tab):List Int:=fE t.1 0 t.2
def dB(t:Tab):Bool:=cx t.1&&(decide (t.1.length≤t.2.length)&&dV t.1 (outer t))
def shapeOf(t:Tab):(List Int×List Int)×Bool:=if dB t=true then((outer t,t.1),true)else(([],[]),false)
theorem Bu{t:Tab}(h:dB t=true):t.2.length≤9:=by
 simp only[dB,dV,Bool.and_eq_true]at h
 have:=(dn h.2.2.2.1).2.2.1
 rw[outer,ly]at this
 exact this
def entry(t:Tab)(r c:Int):Int:=if r<0 then 0 else if(t.2.length:Int)≤r then 0 else atI (t.2.getD r.toNat []) (c-atI t.1 r)
theorem ml{t:Tab}{r:Nat}(h:r<t.2.length)(c:Int):entry t r c=atI (t.2.getD r []) (c-t.1.getD r 0):=by
 unfold entry
 rw[if_neg (by omega),if_neg (by omega),eH]
 rfl
theorem Eg{t:Tab}{r c:Int}(h:r<0):entry t r c=0:=by unfold entry;rw[if_pos h]
theorem zV{t:Tab}{r q:Nat}(h:r<t.2.length):entry t r (t.1.getD r 0+q)=(t.2.getD r []).getD q 0:=by
 rw[ml h]
 have e:t.1.getD r 0+(q:Int)-t.1.getD r 0=q:=by omega
 rw[e,eH]
theorem Cj{t:Tab}{r q:Nat}(h:r<t.2.length):entry t r (t.1.getD r 0+q-1)=if q=0 then 0 else(t.2.getD r []).getD (q-1) 0:=by
 rw[ml h]
 by_cases e:q=0
 ·subst e
  rw[if_pos rfl,qd (by omega)]
 ·rw[if_neg e]
  have e:t.1.getD r 0+(q:Int)-1-t.1.getD r 0=((q-1:Nat):Int):=by omega
  rw[e,eH]
def g6(t:Tab)(i k:Nat):Bool:=within ((t.2.getD i []).getD k 0) 1 9&&((decide (k=0)||decide ((t.2.getD i []).getD (k-1) 0≤(t.2.getD i []).getD k 0))&&
 (decide (i=0)||decide (entry t ((i:Int)-1) (t.1.getD i 0+k)<(t.2.getD i []).getD k 0)))
def iK(t:Tab):Bool:=dB t&&(List.range' 0 t.2.length).all fun i=>(List.range' 0 (t.2.getD i []).length).all fun k=>g6 t i k
def aP(t:Tab):Bool:=iK t&&decide (t.1.length=0)
theorem kL{t:Tab}(h:iK t=true):dB t=true:=by
 simp only[iK,Bool.and_eq_true]at h;exact h.1
theorem qw(inner:List Int): ∀(rs:List (List Int)) (i:Nat),(∀q,i≤q→inner.getD q 0=0)→dA (fE inner i rs)=rs.flatten.length
 | [],i,_=>rfl
 |r::rs,i,h=>by
  simp only[fE,dA,List.flatten_cons,List.length_append]
  rw[qw inner rs (i+1) (fun q hq=>h q (by omega)),h i (Nat.le_refl _)]
  omega
theorem gQ{t:Tab}(h:aP t=true):t.2.flatten.length≤9:=by
 simp only[aP,Bool.and_eq_true,decide_eq_true_eq]at h
 have hs:=kL h.1
 simp only[dB,dV,Bool.and_eq_true]at hs
 have h9:=(dn hs.2.2.2.1).2.1
 have:t.1= []:=List.eq_nil_of_length_eq_zero h.2
 rw[outer,qw t.1 t.2 0 (fun q _=>by rw[this];rfl)]at h9
 omega
def aC:List (List Int)→Int→List (List Int)×Nat
 | [],x=>([[x]],0)
 |r::rs,x=>if r.findIdx (fun n=>decide (x<n))<r.length
   then(r.set (r.findIdx fun n=>decide (x<n)) x::(aC rs (r.getD (r.findIdx fun n=>decide (x<n)) 0)).1,(aC rs (r.getD (r.findIdx fun n=>decide (x<n)) 0)).2+1)
   else((r++ [x])::rs,0)
def gC(t:Tab):Prop:=t.1.length≤1048576∧t.2.length≤1048576∧ ∀x∈t.2,x.length≤1048576
theorem gC.nil:gC ([],[]):=⟨by simp,by simp,fun x h=>by cases h⟩
theorem wu: ∀{rs:List (List Int)} {r:List Int},r∈rs→r.length≤rs.flatten.length
 |q::rs,r,h=>by
  simp only[List.flatten_cons,List.length_append]
  rcases List.mem_cons.1 h with rfl|h
  ·omega
  ·have:=wu h;omega
theorem findIdx_le{p:Int→Bool}{r:List Int}{i:Nat}(hlt:i<r.length)(h:p (r.getD i 0)=true):r.findIdx p≤i:=
 Nat.le_of_not_lt fun h'=>by
  have:=List.not_of_lt_findIdx h'
  rw[aj hlt]at h
  rw[h]at this;cases this
theorem rf{p:Int→Bool}{r:List Int}(h:r.findIdx p<r.length):p (r.getD (r.findIdx p) 0)=true:=by
 rw[aj h];exact List.findIdx_getElem
theorem xX{α:Type}{xs:List α}{i:Nat}(h:i<xs.length)(x:α):xs.set i x=xs.take i++x::xs.drop (i+1):=by
 rw[List.set_eq_take_append_cons_drop,if_pos h]
theorem q9{α:Type}{xs:List α}{i:Nat}(h:i<xs.length)(x:α):(xs.set i x).take (i+1)=xs.take i++ [x]:=by
 have h':i<(xs.set i x).length:=by rw[List.length_set];exact h
 rw[take_succ h' x,List.take_set_of_le (Nat.le_refl _),aj h',List.getElem_set_self]
theorem qT{α:Type}{xs:List α}{i:Nat}(x:α):(xs.set i x).drop (i+1)=xs.drop (i+1):=by
 rw[List.drop_set_of_lt (by omega)]
end Go.Am.Pu
end
section
/- Standard tableaux, weights, descents: plain words. -/
namespace Go.Am.Pu
theorem rR{α R:Type}(r:List α)(d:α)(p:α→Bool)(L:Nat→Nat→Option R)(hit:Nat→Option R)(miss:Option R)
  (hs: ∀j i,i<r.length→L (j+1) i=if p (r.getD i d)=true then hit i else L j (i+1)) (he: ∀j,L (j+1) r.length=miss):
  ∀(m j i:Nat),i+m=r.length→m<j→i≤r.findIdx p→L j i=if r.findIdx p<r.length then hit (r.findIdx p)else miss
 |m,0,i,_,hj,_=>by omega
 |0,j+1,i,hm,_,hi=>by
  have e:i=r.length:=by omega
  rw[if_neg (by omega),e,he]
 |m+1,j+1,i,hm,hj,hi=>by
  have hlt:i<r.length:=by omega
  rw[hs j i hlt]
  by_cases c:p (r.getD i d)=true
  ·have e:r.findIdx p=i:=Nat.le_antisymm (Nat.le_of_not_lt fun h'=>by
    have:=List.not_of_lt_findIdx h'
    rw[aj hlt]at c
    rw[c]at this;cases this) hi
   rw[if_pos c,e,if_pos hlt]
  ·rw[if_neg c]
   refine rR r d p L hit miss hs he m j (i+1) (by omega) (by omega) ?_
   refine Nat.succ_le_of_lt (Nat.lt_of_le_of_ne hi fun e=>c ?_)
   have hlt':r.findIdx p<r.length:=by omega
   have:=List.findIdx_getElem (p:=p) (xs:=r) (w:=hlt')
   rw[←aj hlt' d,←e]at this
   exact this
def zX{α:Type}(p:α→Bool)(r:List α):Int:=if r.findIdx p<r.length then(r.findIdx p:Int)else-1
theorem zG{α:Type}(p:α→Bool)(r:List α):decide (0≤zX p r)=r.any p:=by
 unfold zX
 by_cases h:r.findIdx p<r.length
 ·rw[if_pos h,List.any_eq_true.2 ⟨_,List.getElem_mem h,List.findIdx_getElem⟩]
  simp
 ·rw[if_neg h]
  have:r.any p=false:=by
   rw[List.any_eq_false]
   intro x hx hp
   exact h (List.findIdx_lt_length_of_exists ⟨x,hx,hp⟩)
  rw[this];rfl
theorem F7{α:Type}(p:α→Bool)(r:List α):r.any p=decide (r.findIdx p<r.length):=by
 rw[←zG]
 unfold zX
 by_cases h:r.findIdx p<r.length<;>simp[h]
def has(l:List Int)(x:Int):Bool:=l.any fun y=>decide (x=y)
theorem qv{l:List Int}{x:Int}:has l x=true↔x∈l:=by
 simp[has,List.any_eq_true]
def kZ(l:List Int):Bool:=(List.range' 0 l.length).all fun i=>has l ((i:Int)+1)
theorem vi: ∀(R l:List Int),R.Nodup→(∀x∈R,x∈l)→R.length≤l.length
 | [],l,_,_=>by simp
 |x::R,l,hn,h=>by
  rw[List.nodup_cons]at hn
  have hx:=h x (by simp)
  have:=vi R (l.erase x) hn.2 fun y hy=>(List.mem_erase_of_ne fun(e:y=x)=>hn.1 (e▸hy)).2 (h y (by simp[hy]))
  rw[List.length_erase_of_mem hx]at this
  have:0<l.length:=List.length_pos_of_mem hx
  simp only[List.length_cons]
  omega
def nE(n:Nat):List Int:=(List.range n).map fun(i:Nat)=>(i:Int)+1
theorem gk{n:Nat}{x:Int}:x∈nE n↔1≤x∧x≤n:=by
 simp only[nE,List.mem_map,List.mem_range]
 constructor
 ·rintro⟨i,h,rfl⟩;omega
 ·rintro⟨h1,h2⟩;exact⟨(x-1).toNat,by omega,by omega⟩
theorem mq(n:Nat):(nE n).Nodup:=by
 unfold nE
 refine List.Pairwise.map _ (fun(a b:Nat) (h:a≠b)=> ?_) List.nodup_range
 intro e
 exact h (by omega)
theorem wo(n:Nat):(nE n).length=n:=by simp[nE]
theorem kp{l:List Int}:kZ l=true↔ ∀x∈nE l.length,x∈l:=by
 unfold kZ
 rw[eE]
 constructor
 ·intro h x hx
  rw[gk]at hx
  have:=h (x-1).toNat (by omega)
  rw[qv]at this
  have e:(((x-1).toNat:Nat):Int)+1=x:=by omega
  rw[e]at this;exact this
 ·intro h i hi
  rw[qv]
  exact h _ (gk.2 (by omega))
theorem wk{l:List Int}(h1: ∀x∈l,1≤x):kZ l=true↔l.Nodup∧ ∀x∈l,x≤l.length:=by
 rw[kp]
 constructor
 ·intro h
  refine⟨?_,fun x hx=> ?_⟩
  ·
   refine Classical.byContradiction fun hn=> ?_
   have: ∃x,x∈l∧x∈l.erase x:=by
    have key: ∀l:List Int,¬l.Nodup→ ∃x,x∈l∧x∈l.erase x:=by
     intro l
     induction l with
     |nil=>intro h;exact absurd List.nodup_nil h
     |cons a l ih=>
      intro h
      by_cases ha:a∈l
      ·exact⟨a,by simp,by simpa using ha⟩
      ·have: ¬l.Nodup:=fun hl=>h (List.nodup_cons.2 ⟨ha,hl⟩)
       obtain⟨x,h1,h2⟩:=ih this
       refine⟨x,by simp[h1],?_⟩
       have hne:a≠x:=fun e=>ha (e▸h1)
       rw[List.erase_cons_tail (by simpa using hne)]
       exact List.mem_cons_of_mem _ h2
    exact key l hn
   obtain⟨x,hx,hx2⟩:=this
   have:=vi (nE l.length) (l.erase x) (mq _) fun y hy=>by
    by_cases e:y=x
    ·rw[e];exact hx2
    ·exact(List.mem_erase_of_ne e).2 (h y hy)
   rw[wo,List.length_erase_of_mem hx]at this
   have:0<l.length:=List.length_pos_of_mem hx
   omega
  ·refine Int.not_lt.1 fun hlt=> ?_
   have:=vi (nE l.length) (l.erase x) (mq _) fun y hy=>by
    have hy':=gk.1 hy
    exact(List.mem_erase_of_ne (by omega)).2 (h y hy)
   rw[wo,List.length_erase_of_mem hx]at this
   have:0<l.length:=List.length_pos_of_mem hx
   omega
 ·rintro⟨hn,hb⟩ x hx
  refine Classical.byContradiction fun hxl=> ?_
  have:=vi (x::l) (nE l.length) (List.nodup_cons.2 ⟨hxl,hn⟩) fun y hy=>by
   rcases List.mem_cons.1 hy with rfl|hy
   ·exact hx
   ·exact gk.2 ⟨h1 y hy,hb y hy⟩
  rw[wo,List.length_cons]at this
  omega
def lT(n:Int):List Int→List Int→Bool
 |_,[]=>true
 |seen,x::xs=>decide (x≤n)&&(!has seen x&&lT n (seen++ [x]) xs)
theorem uq(n:Int): ∀(xs seen:List Int),lT n seen xs=true↔(∀x∈xs,x≤n)∧xs.Nodup∧ ∀x∈xs,x∉seen
 | [],seen=>by simp[lT]
 |x::xs,seen=>by
  simp only[lT,Bool.and_eq_true,decide_eq_true_eq,uq n xs,Bool.not_eq_true',List.nodup_cons]
  have hh:has seen x=false↔x∉seen:=by rw[←qv];simp
  rw[hh]
  constructor
  ·rintro⟨h1,h2,h3,h4,h5⟩
   refine⟨fun y hy=> ?_,⟨fun hx=>h5 x hx (by simp),h4⟩,fun y hy=> ?_⟩
   ·rcases List.mem_cons.1 hy with rfl|hy
    ·exact h1
    ·exact h3 y hy
   ·rcases List.mem_cons.1 hy with rfl|hy
    ·exact h2
    ·exact fun h=>h5 y hy (by simp[h])
  ·rintro⟨h1,⟨h2,h3⟩,h4⟩
   refine⟨h1 x (by simp),h4 x (by simp),fun y hy=>h1 y (by simp[hy]),h3,fun y hy h=> ?_⟩
   rcases List.mem_append.1 h with h|h
   ·exact h4 y (by simp[hy]) h
   ·simp only[List.mem_singleton]at h;exact h2 (h▸hy)
theorem BT{l:List Int}(h1: ∀x∈l,1≤x):lT l.length [] l=kZ l:=by
 have a:=uq l.length l []
 have b:=wk h1
 cases h:lT l.length [] l with
 |true=>
  have:=a.1 h
  exact(b.2 ⟨this.2.1,this.1⟩).symm
 |false=>
  cases h':kZ l with
  |false=>rfl
  |true=>
   have:=b.1 h'
   rw[a.2 ⟨this.2,this.1,fun _ _ h=>by cases h⟩]at h
   cases h
theorem oY{t:Tab}(h:iK t=true): ∀x∈t.2.flatten,1≤x∧x≤9:=by
 intro x hx
 simp only[iK,Bool.and_eq_true]at h
 obtain⟨r,hr,hxr⟩:=List.mem_flatten.1 hx
 obtain⟨i,hi,e⟩:=List.mem_iff_getElem.1 hr
 obtain⟨q,hq,e2⟩:=List.mem_iff_getElem.1 hxr
 have h1:=eE.1 h.2 i hi
 rw[aj hi,e]at h1
 have h2:=eE.1 h1 q hq
 simp only[g6,within,Bool.and_eq_true,decide_eq_true_eq]at h2
 rw[aj hi,e,aj hq,e2]at h2
 exact h2.1
theorem sH(inner:List Int)(h: ∀q,0≤inner.getD q 0): ∀(rs:List (List Int)) (i:Nat),(rs.flatten.length:Int)≤dA (fE inner i rs)
 | [],i=>by simp[fE,dA]
 |r::rs,i=>by
  have:=sH inner h rs (i+1)
  have:=h i
  simp only[fE,dA,List.flatten_cons,List.length_append]
  omega
theorem EJ{t:Tab}(h:iK t=true):t.2.flatten.length≤9:=by
 have hs:=kL h
 simp only[dB,dV,Bool.and_eq_true]at hs
 have h9:=(dn hs.2.2.2.1).2.1
 have:=sH t.1 (fun q=>by
  have:=(iH hs.1 q).1
  rw[eH]at this;exact this) t.2 0
 unfold outer at h9
 omega
def ep(t:Tab):Bool:=iK t&&kZ t.2.flatten
def rowOf(t:Tab)(n:Int):Int:=zX (fun r=>has r n) t.2
theorem jS: ∀(w:List Int),(∀x∈w,0≤x)→0≤dA w
 | [],_=>by simp[dA]
 |x::xs,h=>by
  have:=jS xs fun y hy=>h y (by simp[hy])
  have:=h x (by simp)
  simp only[dA];omega
theorem y5{w:List Int}(h: ∀x∈w,0≤x∧x≤9):dA w≤9*w.length:=by
 induction w with
 |nil=>simp[dA]
 |cons x w ih=>
  have:=ih fun y hy=>h y (by simp[hy])
  have:=h x (by simp)
  simp only[dA,List.length_cons]
  omega
end Go.Am.Pu
end
section
/- Plain laws of draws, and of boxes. -/
namespace Go.Am.Pu
open Go Go.Am
attribute [local instance] D.real
theorem zw(a:Int):0≤D.andI .i64 a 255∧D.andI .i64 a 255≤255:=by
 have h:(BitVec.ofInt 64 a&&&BitVec.ofInt 64 255).toNat≤255:=by
  rw[BitVec.toNat_and]
  exact Nat.le_trans Nat.and_le_right (by decide)
 have e:D.andI .i64 a 255=(((BitVec.ofInt 64 a&&&BitVec.ofInt 64 255).toNat:Nat):Int):=by
  show IntKind.i64.wrap (((BitVec.ofInt 64 a&&&BitVec.ofInt 64 255).toNat:Nat):Int)=_
  rw[w64 (by omega) (by omega)]
 rw[e]
 omega
theorem vt{α:Type}(a b:Int)(x y:Option α):D.test (D.lt a b) x y=if a<b then x else y:=by
 show(if decide (a<b)=true then x else y)=_
 simp only[decide_eq_true_eq]
def zB:Nat→Nat
 |0=>1
 |n+1=>2^n
def CI(n:Nat):Nat→Nat
 |0=>0
 |p+1=>zB (n-(p+1))+CI n p
theorem Gs{n p:Nat}(hn:n≤9)(h1:1≤n)(hp:p≤n):CI n p≤zB n:=by
 have key: ∀n<10,∀p<10,1≤n→p≤n→CI n p≤zB n:=by decide
 exact key n (by omega) p (by omega) h1 hp
theorem CT{n:Nat}(hn:n≤9):zB n≤256:=by
 have key: ∀n<10,zB n≤256:=by decide
 exact key n (by omega)
def xq(n:Nat)(x:List Int):Prop:=x.length≤n∧ ∀y∈x,1≤y∧y≤9
def oG (p : List Int) (r : Int) : List Int × Bool :=
  if cx p = true ∧ 0 ≤ r ∧ r ≤ p.length then
    (let q := if r = p.length then p ++ [0] else p
     let o := q.set r.toNat (q.getD r.toNat 0 + 1)
     if cx o = true then (o, true) else ([], false))
  else ([], false)
end Go.Am.Pu
end
section
/- Steps over equations: what a word comes to, told by what must hold of it. -/
namespace Go.Am.Pu
open Go Go.Am
attribute [local instance] D.real
section
variable {α β : Type}
def Ok(x:Option α)(Q:α→Prop):Prop:= ∃y,x=some y∧Q y
theorem Ok.ret{y:α}{Q:α→Prop}(h:Q y):Ok (some y) Q:=⟨y,rfl,h⟩
theorem Ok.mono{x:Option α}{P Q:α→Prop}(h:Ok x P)(g: ∀y,P y→Q y):Ok x Q:=
 let⟨y,e,hp⟩:=h
 ⟨y,e,g y hp⟩
theorem Ok.bnd{x:Option α}{f:α→Option β}{P:α→Prop}{Q:β→Prop}(h:Ok x P)(g: ∀y,P y→Ok (f y) Q):Ok (D.bnd x f) Q:=by
 obtain⟨y,e,hp⟩:=h
 rw[e]
 exact g y hp
theorem Ok.oZ{x:Option α}{y:α}{f:α→Option β}{Q:β→Prop}(h:x=some y)(g:Ok (f y) Q):Ok (D.bnd x f) Q:=by
 rw[h]
 exact g
theorem Ok.t{p:Prop} [Decidable p]{x y:Option α}{Q:α→Prop}(h1:p→Ok x Q)(h2: ¬p→Ok y Q):Ok (D.test (decide p) x y) Q:=by
 show Ok (if decide p=true then x else y) Q
 by_cases h:p
 ·rw[if_pos (decide_eq_true h)];exact h1 h
 ·rw[if_neg (by rw[decide_eq_false h];simp)];exact h2 h
theorem Ok.tb{b:Bool}{x y:Option α}{Q:α→Prop}(h1:b=true→Ok x Q)(h2:b=false→Ok y Q):Ok (D.test b x y) Q:=by
 cases b
 ·exact h2 rfl
 ·exact h1 rfl
theorem Ok.tn{b:Bool}{x y:Option α}{Q:α→Prop}(h1:b=false→Ok x Q)(h2:b=true→Ok y Q):Ok (D.test (!b) x y) Q:=by
 cases b
 ·exact h1 rfl
 ·exact h2 rfl
theorem Ok.g{p:Prop} [Decidable p]{x y:Option α}{Q:α→Prop}(h:p)(g:Ok x Q):Ok (D.test (decide p) x y) Q:=Ok.t (fun _=>g) (fun h'=>absurd h h')
theorem Ok.no{p:Prop} [Decidable p]{x y:Option α}{Q:α→Prop}(h: ¬p)(g:Ok y Q):Ok (D.test (decide p) x y) Q:=Ok.t (fun h'=>absurd h' h) (fun _=>g)
theorem Ok.some{x:Option α}{Q:α→Prop}(h:Ok x Q): ∃y,x=Option.some y:=let⟨y,e,_⟩:=h;⟨y,e⟩
end
def cy(n m:Nat)(rs:List (List Int)):Prop:=rs.length≤n∧ ∀r∈rs,r.length≤m
theorem cy.at{n m:Nat}{rs:List (List Int)}(h:cy n m rs)(i:Nat):(rs.getD i []).length≤m:=by
 by_cases hi:i<rs.length
 ·rw[aj hi];exact h.2 _ (List.getElem_mem hi)
 ·rw[cu (by omega)];simp
theorem cy.set{n m:Nat}{rs:List (List Int)}(h:cy n m rs)(i:Nat){r:List Int}(hr:r.length≤m):cy n m (rs.set i r):=by
 refine⟨by rw[List.length_set];exact h.1,fun x hx=> ?_⟩
 rcases List.mem_or_eq_of_mem_set hx with h'|rfl
 ·exact h.2 x h'
 ·exact hr
theorem cy.mono{n m n' m':Nat}{rs:List (List Int)}(h:cy n m rs)(hn:n≤n')(hm:m≤m'):cy n' m' rs:=
 ⟨Nat.le_trans h.1 hn,fun x hx=>Nat.le_trans (h.2 x hx) hm⟩
theorem cy.app{n m:Nat}{rs:List (List Int)}(h:cy n m rs){r:List Int}(hr:r.length≤m):cy (n+1) m (rs++ [r]):=by
 refine⟨by rw[List.length_append];simp;exact h.1,fun x hx=> ?_⟩
 rcases List.mem_append.1 hx with h'|h'
 ·exact h.2 x h'
 ·simp only[List.mem_singleton]at h';subst h';exact hr
theorem Cb(p:List Int)(r:Int):(oG p r).1.length≤p.length+1:=by
 unfold oG
 split
 ·simp only
  generalize hq:(if r=(p.length:Int)then p++ [0]else p)=q
  have hl:q.length≤p.length+1:=by
   rw[←hq]
   split
   ·simp
   ·omega
  split
  ·rw[List.length_set];exact hl
  ·simp
 ·simp
end Go.Am.Pu
end
section
/- Corners; a number taken out of rows. Plain words. -/
namespace Go.Am.Pu
theorem ug: ∀{p:List Int} {prev s:Int},fS p prev s=true→ ∀i,i+1<p.length→p.getD (i+1) 0≤p.getD i 0
 | [],_,_,_,i,h=>by simp at h
 | [x],_,_,_,i,h=>by simp at h
 |x::y::xs,prev,s,hp,i,h=>by
  simp only[fS,Bool.and_eq_true,decide_eq_true_eq]at hp
  cases i with
  |zero=>simpa using hp.2.2.2.2.1
  |succ i=>
   have h2:fS (y::xs) x (s+x)=true:=by
    simp only[fS,Bool.and_eq_true,decide_eq_true_eq]
    exact hp.2.2.2
   have:=ug h2 i (by simpa using h)
   simpa using this
def dY(r:List Int)(y:Int):Nat→Option Nat
 |0=>none
 |i+1=>if r.getD i 0<y then some i else dY r y i
theorem lG{r:List Int}{y:Int}: ∀{m q:Nat},dY r y m=some q→q<m∧r.getD q 0<y
 |0,q,h=>by simp[dY]at h
 |m+1,q,h=>by
  unfold dY at h
  split at h
  ·next hc=>injection h with h;subst h;exact⟨by omega,hc⟩
  ·have:=lG h;exact⟨by omega,this.2⟩
theorem qj{r:List Int}{y:Int}: ∀{m i:Nat},i<m→r.getD i 0<y→ ∃q,dY r y m=some q
 |0,i,h,_=>by omega
 |m+1,i,h,hi=>by
  unfold dY
  split
  ·exact⟨_,rfl⟩
  ·next hc=>
   have:i≠m:=fun e=>hc (e▸hi)
   exact qj (by omega) hi
def eW:Nat→List (List Int)→Int→List (List Int)×Int
 |0,rs,y=>(rs,y)
 |r+1,rs,y=>match dY (rs.getD r []) y (rs.getD r []).length with
  |some q=>eW r (rs.set r ((rs.getD r []).set q y)) ((rs.getD r []).getD q 0)
  |none=>eW r rs y
def Er:Nat→List (List Int)→Int→Prop
 |0,_,_=>True
 |r+1,rs,y=> ∃q,dY (rs.getD r []) y (rs.getD r []).length=some q∧Er r (rs.set r ((rs.getD r []).set q y)) ((rs.getD r []).getD q 0)
theorem getD_set_ne{α:Type}{xs:List α}{i j:Nat}(h:j≠i)(x d:α):(xs.set j x).getD i d=xs.getD i d:=by
 simp only[List.getD_eq_getElem?_getD,List.getElem?_set]
 rw[if_neg h]
theorem C1: ∀(r:Nat) (rs:List (List Int)) (y:Int),(∀i,i+1<r→(rs.getD (i+1) []).length≤(rs.getD i []).length∧ ∀q,q<(rs.getD (i+1) []).length→(rs.getD i []).getD q 0<(rs.getD (i+1) []).getD q 0)→
  (∀i,i+1=r→ ∃q,q<(rs.getD i []).length∧(rs.getD i []).getD q 0<y)→Er r rs y
 |0,_,_,_,_=>trivial
 |r+1,rs,y,h,he=>by
  obtain⟨q0,h1,h2⟩:=he r rfl
  obtain⟨q,hq⟩:=qj h1 h2
  obtain⟨q1,q2⟩:=lG hq
  refine⟨q,hq,C1 r _ _ (fun i hi=> ?_) (fun i hi=> ?_)⟩
  ·rw[getD_set_ne (by omega),getD_set_ne (by omega)]
   exact h i (by omega)
  ·subst hi
   rw[getD_set_ne (by omega)]
   obtain⟨k1,k2⟩:=h i (by omega)
   exact⟨q,by omega,k2 q q1⟩
theorem rz{n m:Nat}: ∀(r:Nat) (rs:List (List Int)) (y:Int),cy n m rs→cy n m (eW r rs y).1
 |0,_,_,h=>h
 |r+1,rs,y,h=>by
  unfold eW
  split
  ·exact rz r _ _ (h.set r (by rw[List.length_set];exact h.at r))
  ·exact rz r rs y h
def bM (rs : List (List Int)) (row : Nat) : List (List Int) × Int :=
  ((if (rs.getD row []).length = 1 then (eW row (rs.set row ((rs.getD row []).take ((rs.getD row []).length - 1))) ((rs.getD row []).getD ((rs.getD row []).length - 1) 0)).1.take row
    else (eW row (rs.set row ((rs.getD row []).take ((rs.getD row []).length - 1))) ((rs.getD row []).getD ((rs.getD row []).length - 1) 0)).1),
   (eW row (rs.set row ((rs.getD row []).take ((rs.getD row []).length - 1))) ((rs.getD row []).getD ((rs.getD row []).length - 1) 0)).2)
theorem yY{n m:Nat}{rs:List (List Int)}(h:cy n m rs)(row:Nat):cy n m (bM rs row).1:=by
 have h1:=rz row (rs.set row ((rs.getD row []).take ((rs.getD row []).length-1))) ((rs.getD row []).getD ((rs.getD row []).length-1) 0) (h.set row (by rw[List.length_take];have:=h.at row;omega))
 unfold bM
 simp only
 split
 ·exact⟨by rw[List.length_take];have:=h1.1;omega,fun x hx=>h1.2 x (List.mem_of_mem_take hx)⟩
 ·exact h1
theorem cn{t:Tab}(h:aP t=true):t.1= []:=by
 simp only[aP,Bool.and_eq_true,decide_eq_true_eq]at h
 exact List.eq_nil_of_length_eq_zero h.2
theorem fX{t:Tab}(h:aP t=true){i:Nat}(hi:i<t.2.length):(outer t).getD i 0=(t.2.getD i []).length:=by
 have e:=fU t.1 t.2 0 i hi
 rw[cn h]at e
 unfold outer
 rw[cn h,e]
 simp
theorem iS{t:Tab}(h:aP t=true):cx (outer t)=true:=by
 simp only[aP,Bool.and_eq_true]at h
 have hs:=kL h.1
 simp only[dB,dV,Bool.and_eq_true]at hs
 exact hs.2.2.2.1
theorem cN(t:Tab):(outer t).length=t.2.length:=by unfold outer;rw[ly]
theorem dt{t:Tab}(h:aP t=true):cy 9 9 t.2:=by
 have h9:=gQ h
 have hl:=(dn (iS h)).2.2.1
 rw[cN]at hl
 exact⟨hl,fun r hr=>by have:=wu hr;omega⟩
theorem iX{t:Tab}(h:aP t=true): ∀i,i+1<t.2.length→(t.2.getD (i+1) []).length≤(t.2.getD i []).length∧ ∀q,q<(t.2.getD (i+1) []).length→(t.2.getD i []).getD q 0<(t.2.getD (i+1) []).getD q 0:=by
 intro i hi
 have hm:=ug (show fS (outer t) 9 0=true from iS h) i (by rw[cN];exact hi)
 rw[fX h hi,fX h (by omega)]at hm
 have hl:(t.2.getD (i+1) []).length≤(t.2.getD i []).length:=by omega
 refine⟨hl,fun q hq=> ?_⟩
 have ht:=h
 simp only[aP,Bool.and_eq_true]at ht
 have ht:=ht.1
 simp only[iK,Bool.and_eq_true]at ht
 have h1:=eE.1 (eE.1 ht.2 (i+1) hi) q hq
 simp only[g6,Bool.and_eq_true,Bool.or_eq_true,decide_eq_true_eq]at h1
 have h2:=h1.2.2.resolve_left (by omega)
 rw[cn h]at h2
 have e:((i+1:Nat):Int)-1=(i:Int):=by omega
 have e2:([]:List Int).getD (i+1) 0+(q:Int)=([]:List Int).getD i 0+(q:Int):=by simp
 rw[e,e2]at h2
 have ee:entry t (i:Int) (([]:List Int).getD i 0+(q:Int))=(t.2.getD i []).getD q 0:=by
  have:=zV (t:=t) (r:=i) (q:=q) (by omega)
  rw[cn h]at this
  exact this
 rw[ee]at h2
 exact h2
end Go.Am.Pu
end
section
/- Rows with noughts in front; a box taken from a partition. Plain words. -/
namespace Go.Am.Pu
def jr(t:Tab):List (List Int):=(List.range' 0 t.2.length).map fun i=>List.replicate (t.1.getD i 0).toNat 0++t.2.getD i []
def bq(p:List Int)(n:Nat):List Int:=if p.getD n 0-1=0 then p.take n else p.set n (p.getD n 0-1)
theorem Ao(p:List Int)(n:Nat):(bq p n).length≤p.length:=by
 unfold bq
 split
 ·rw[List.length_take];omega
 ·rw[List.length_set];exact Nat.le_refl _
end Go.Am.Pu
end
section
/- A slide: the hole goes right or down until nothing is there. Plain words. -/
namespace Go.Am.Pu
def cel(g:List (List Int))(r c:Nat):Int:=(g.getD r []).getD c 0
def lI(g:List (List Int))(r c:Nat)(v:Int):List (List Int):=g.set r ((g.getD r []).set c v)
theorem zh{g:List (List Int)}{r c:Nat}(h:cel g r c≠0):r<g.length∧c<(g.getD r []).length:=by
 unfold cel at h
 by_cases h1:r<g.length
 ·refine⟨h1,?_⟩
  by_cases h2:c<(g.getD r []).length
  ·exact h2
  ·exact absurd (cu (by omega) 0) h
 ·rw[cu (xs:=g) (by omega)]at h
  simp at h
theorem ja(g:List (List Int))(r c:Nat)(v:Int):(lI g r c v).length=g.length:=by unfold lI;rw[List.length_set]
theorem cG(g:List (List Int))(r c:Nat)(v:Int)(q:Nat):((lI g r c v).getD q []).length=(g.getD q []).length:=by
 unfold lI
 by_cases e:q=r
 ·subst e
  by_cases h:q<g.length
  ·rw[aj (by rw[List.length_set];exact h),List.getElem_set_self,List.length_set]
  ·rw[cu (by rw[List.length_set];omega),cu (by omega)]
 ·rw[getD_set_ne (Ne.symm e)]
theorem lf{g:List (List Int)}{r c:Nat}(v:Int)(h1:r<g.length)(h2:c<(g.getD r []).length):cel (lI g r c v) r c=v:=by
 unfold cel lI
 rw[aj (xs:=g.set r _) (by rw[List.length_set];exact h1),List.getElem_set_self,aj (by rw[List.length_set];exact h2),List.getElem_set_self]
theorem jE{g:List (List Int)}{r c q x:Nat}(v:Int)(h: ¬(q=r∧x=c)):cel (lI g r c v) q x=cel g q x:=by
 unfold cel lI
 by_cases e:q=r
 ·subst e
  have hx:x≠c:=fun e=>h ⟨rfl,e⟩
  by_cases hl:q<g.length
  ·rw[aj (xs:=g.set q _) (by rw[List.length_set];exact hl),List.getElem_set_self,getD_set_ne (Ne.symm hx)]
  ·rw[cu (xs:=g.set q _) (by rw[List.length_set];omega),cu (xs:=g) (by omega)]
 ·rw[getD_set_ne (Ne.symm e)]
structure Sl (q : List Int) (g : List (List Int)) (i c : Nat) : Prop where
  q0 : ∀ r, 0 ≤ q.getD r 0
  qm : ∀ r, q.getD (r + 1) 0 ≤ q.getD r 0
  lm : ∀ r, (g.getD (r + 1) []).length ≤ (g.getD r []).length
  hi : i < g.length
  hc : c < (g.getD i []).length
  hq : q.getD i 0 ≤ c
  pos : ∀ r x, 0 ≤ cel g r x
  num : ∀ r x : Nat, q.getD r 0 ≤ x → x < (g.getD r []).length → ¬ (r = i ∧ x = c) → 1 ≤ cel g r x ∧ cel g r x ≤ 9
  row : ∀ r x : Nat, q.getD r 0 ≤ x → x + 1 < (g.getD r []).length → ¬ (r = i ∧ x = c) → ¬ (r = i ∧ x + 1 = c) → cel g r x ≤ cel g r (x + 1)
  col : ∀ r x : Nat, q.getD r 0 ≤ x → x < (g.getD (r + 1) []).length → ¬ (r = i ∧ x = c) → ¬ (r + 1 = i ∧ x = c) → cel g r x < cel g (r + 1) x
  HS : ∀ x : Nat, x + 1 = c → q.getD i 0 ≤ x → c + 1 < (g.getD i []).length → cel g i x ≤ cel g i (c + 1)
  colH : ∀ r : Nat, r + 1 = i → q.getD r 0 ≤ c → c < (g.getD (i + 1) []).length → cel g r c < cel g (i + 1) c
theorem Sl.right{q:List Int}{g:List (List Int)}{i c:Nat}(h:Sl q g i c)(hr:cel g i (c+1)≠0)(hb: ¬(0<cel g (i+1) c∧cel g (i+1) c≤cel g i (c+1))):
  Sl q (lI g i c (cel g i (c+1))) i (c+1):=by
 obtain⟨b1,b2⟩:=zh hr
 have hq:=h.hq
 have hrn:=h.num i (c+1) (by omega) b2 (by omega)
 have e0:=lf (cel g i (c+1)) h.hi h.hc
 have en: ∀r x,¬(r=i∧x=c)→cel (lI g i c (cel g i (c+1))) r x=cel g r x:=fun r x hh=>jE _ hh
 refine⟨h.q0,h.qm,fun r=> ?_,?_,?_,by omega,fun r x=> ?_,fun r x h1 h2 h3=> ?_,fun r x h1 h2 h3 h4=> ?_,fun r x h1 h2 h3 h4=> ?_,fun x h1 h2 h3=> ?_,fun r h1 h2 h3=> ?_⟩
 ·rw[cG,cG];exact h.lm r
 ·rw[ja];exact b1
 ·rw[cG];exact b2
 ·by_cases e:r=i∧x=c
  ·rw[e.1,e.2,e0];exact h.pos _ _
  ·rw[en r x e];exact h.pos _ _
 ·rw[cG]at h2
  by_cases e:r=i∧x=c
  ·rw[e.1,e.2,e0];exact hrn
  ·rw[en r x e];exact h.num r x h1 h2 e
 ·rw[cG]at h2
  by_cases e:r=i∧x=c
  ·exact(h4 ⟨e.1,by omega⟩).elim
  ·rw[en r x e]
   by_cases e':r=i∧x+1=c
   ·obtain⟨rfl,rfl⟩:=e'
    rw[e0]
    exact h.HS x rfl h1 b2
   ·rw[en r (x+1) e'];exact h.row r x h1 h2 e e'
 ·rw[cG]at h2
  by_cases e:r=i∧x=c
  ·obtain⟨rfl,rfl⟩:=e
   rw[e0,en _ _ (by omega)]
   have hqm:=h.qm r
   have h5:=(h.num (r+1) x (by omega) h2 (by omega)).1
   omega
  ·rw[en r x e]
   by_cases e':r+1=i∧x=c
   ·obtain⟨rfl,rfl⟩:=e'
    rw[e0]
    have hl:=h.lm r
    have h5:=h.row r x h1 (by omega) (by omega) (by omega)
    have h6:=h.col r (x+1) (by omega) b2 (by omega) (by omega)
    omega
   ·rw[en (r+1) x e']
    exact h.col r x h1 h2 e e'
 ·rw[cG]at h3
  have:x=c:=by omega
  subst this
  rw[e0,en _ _ (by omega)]
  exact h.row i (x+1) (by omega) h3 (by omega) (by omega)
 ·rw[cG]at h3
  rw[en _ _ (by omega),en _ _ (by omega)]
  subst h1
  have h5:=h.col r (c+1) h2 (by omega) (by omega) (by omega)
  have h6:=h.col (r+1) (c+1) (by omega) h3 (by omega) (by omega)
  omega
end Go.Am.Pu
end
section
/- A slide's end and its start. Plain words. -/
namespace Go.Am.Pu
theorem mH{p:List Int}(hp:cx p=true)(r:Nat):p.getD (r+1) 0≤p.getD r 0:=by
 by_cases h:r+1<p.length
 ·exact ug hp r h
 ·rw[cu (by omega)]
  have:=(iH hp r).1
  rw[eH]at this
  exact this
theorem wS{p:List Int}{n:Nat}(hp:cx p=true)(hn:n<p.length)(hc:p.getD (n+1) 0<p.getD n 0)(r:Nat):(bq p n).getD r 0=if r=n then p.getD n 0-1 else p.getD r 0:=by
 unfold bq
 by_cases h:p.getD n 0-1=0
 ·rw[if_pos h]
  have h0:=(iH hp (n+1:Nat)).1
  rw[eH]at h0
  have hl:p.length≤n+1:=by
   refine Nat.le_of_not_lt fun hlt=> ?_
   have:=(dn hp).1 _ (List.getElem_mem hlt)
   rw[←aj hlt 0]at this
   omega
  by_cases e:r=n
  ·subst e
   rw[if_pos rfl,h,cu (by rw[List.length_take];omega)]
  ·rw[if_neg e]
   by_cases e2:r<n
   ·rw[aj (by rw[List.length_take];omega),List.getElem_take,aj (by omega)]
   ·rw[cu (by rw[List.length_take];omega),cu (by omega)]
 ·rw[if_neg h]
  by_cases e:r=n
  ·subst e
   rw[if_pos rfl,aj (by rw[List.length_set];exact hn),List.getElem_set_self]
  ·rw[if_neg e,getD_set_ne (Ne.symm e)]
structure JV (t : Tab) : Prop where
  q0 : ∀ r, 0 ≤ t.1.getD r 0
  qm : ∀ r, t.1.getD (r + 1) 0 ≤ t.1.getD r 0
  lm : ∀ r, ((jr t).getD (r + 1) []).length ≤ ((jr t).getD r []).length
  num : ∀ r x : Nat, t.1.getD r 0 ≤ x → x < ((jr t).getD r []).length → 1 ≤ cel (jr t) r x ∧ cel (jr t) r x ≤ 9
  row : ∀ r x : Nat, t.1.getD r 0 ≤ x → x + 1 < ((jr t).getD r []).length → cel (jr t) r x ≤ cel (jr t) r (x + 1)
  col : ∀ r x : Nat, t.1.getD r 0 ≤ x → x < ((jr t).getD (r + 1) []).length → cel (jr t) r x < cel (jr t) (r + 1) x
end Go.Am.Pu
end
section
/- A tableau cell by cell; a slide's start. Plain words. -/
namespace Go.Am.Pu
theorem yr{t:Tab}(h:iK t=true):cx t.1=true∧cx (outer t)=true∧t.1.length≤t.2.length∧(∀i k,i<t.2.length→k<(t.2.getD i []).length→g6 t i k=true):=by
 simp only[iK,dB,dV,Bool.and_eq_true,decide_eq_true_eq]at h
 obtain⟨⟨h1,h2,h3,h4,h5⟩,h6⟩:=h
 refine⟨h1,h4,h2,fun i k hi hk=> ?_⟩
 rw[eE]at h6
 have:=h6 i hi
 rw[eE]at this
 exact this k hk
end Go.Am.Pu
end
section
/- A partition less a box; the tableau that a slide leaves. Plain words. -/
namespace Go.Am.Pu
theorem oL: ∀(p:List Int) (prev s:Int),(∀x∈p,1≤x)→(0<p.length→p.getD 0 0≤prev)→(∀i,i+1<p.length→p.getD (i+1) 0≤p.getD i 0)→s+dA p≤9→fS p prev s=true
 | [],_,_,_,_,_,_=>rfl
 |x::xs,prev,s,h1,h2,h3,h4=>by
  have hs: ∀(l:List Int),(∀y∈l,1≤y)→0≤dA l:=by
   intro l
   induction l with
   |nil=>intro _;simp[dA]
   |cons y l ih=>
    intro h
    have a:=h y List.mem_cons_self
    have b:=ih (fun z hz=>h z (List.mem_cons_of_mem _ hz))
    simp only[dA];omega
  have hx:=h1 x List.mem_cons_self
  have hxs:=hs xs (fun z hz=>h1 z (List.mem_cons_of_mem _ hz))
  have h2':=h2 (by simp)
  simp only[List.getD_cons_zero]at h2'
  simp only[dA]at h4
  have ih:=oL xs x (s+x) (fun z hz=>h1 z (List.mem_cons_of_mem _ hz)) (fun hl=>by have:=h3 0 (by simpa using hl);simpa using this) (fun i hi=>by have:=h3 (i+1) (by simpa using hi);simpa using this) (by omega)
  simp only[fS,Bool.and_eq_true,decide_eq_true_eq]
  exact⟨hx,h2',by omega,ih⟩
theorem vQ: ∀(p:List Int) (n:Nat) (v:Int),n<p.length→dA (p.set n v)=dA p-p.getD n 0+v
 | [],n,v,h=>by simp at h
 |x::xs,0,v,_=>by simp[dA];omega
 |x::xs,n+1,v,h=>by
  have:=vQ xs n v (by simpa using h)
  simp only[List.set_cons_succ,dA,List.getD_cons_succ,this]
  omega
theorem zv: ∀(p:List Int) (n:Nat),p.length=n+1→dA (p.take n)=dA p-p.getD n 0
 | [],n,h=>by simp at h
 | [x],0,_=>by simp[dA]
 |x::xs,n+1,h=>by
  have:=zv xs n (by simpa using h)
  simp only[List.take_succ_cons,dA,List.getD_cons_succ,this]
  omega
 |x::y::xs,0,h=>by simp at h
theorem yL{p:List Int}{n:Nat}(hp:cx p=true)(hc:p.getD (n+1) 0<p.getD n 0)(h:p.getD n 0-1=0):p.length≤n+1:=by
 have h0:=(iH hp (n+1:Nat)).1
 rw[eH]at h0
 refine Nat.le_of_not_lt fun hlt=> ?_
 have:=(dn hp).1 _ (List.getElem_mem hlt)
 rw[←aj hlt 0]at this
 omega
theorem Aw{p:List Int}{n:Nat}(hp:cx p=true)(hn:n<p.length)(hc:p.getD (n+1) 0<p.getD n 0){i:Nat}(hi:i<(bq p n).length):1≤(bq p n).getD i 0:=by
 rw[wS hp hn hc]
 have hl:=Ao p n
 have h1: ∀i,i<p.length→1≤p.getD i 0:=fun i hi=>by
  rw[aj hi]
  exact((dn hp).1 _ (List.getElem_mem hi)).1
 by_cases h:p.getD n 0-1=0
 ·unfold bq at hi
  rw[if_pos h,List.length_take]at hi
  rw[if_neg (by omega)]
  exact h1 i (by omega)
 ·have a:=h1 n hn
  have b:=h1 i (by omega)
  split<;>omega
theorem tu{p:List Int}{n:Nat}(hp:cx p=true)(hn:n<p.length)(hc:p.getD (n+1) 0<p.getD n 0):cx (bq p n)=true:=by
 have hs:=dn hp
 have hg:=wS hp hn hc
 have hpn:1≤p.getD n 0:=by
  rw[aj hn]
  exact(hs.1 _ (List.getElem_mem hn)).1
 refine oL _ _ _ (fun x hx=> ?_) (fun _=> ?_) (fun i _=> ?_) ?_
 ·obtain⟨i,hi,rfl⟩:=List.getElem_of_mem hx
  rw[←aj hi 0]
  exact Aw hp hn hc hi
 ·rw[hg]
  have: ∀i,p.getD i 0≤9:=fun i=>by
   have:=(iH hp i).2
   rw[eH]at this
   exact this
  have a:=this 0
  have b:=this n
  split<;>omega
 ·rw[hg,hg]
  have:=mH hp i
  by_cases e:i=n
  ·subst e
   rw[if_neg (by omega),if_pos rfl];omega
  ·rw[if_neg e]
   by_cases e2:i+1=n
   ·subst e2;rw[if_pos rfl];omega
   ·rw[if_neg e2];exact this
 ·have h9:=hs.2.1
  unfold bq
  split
  ·next h=>
   have hl:=yL hp hc h
   rw[zv p n (by omega)]
   omega
  ·rw[vQ p n _ hn]
   omega
def dO(q:List Int)(g:List (List Int))(n:Nat):List (List Int):=(List.range' 0 n).map fun r=>(g.getD r []).drop (q.getD r 0).toNat
theorem jx(q:List Int)(g:List (List Int))(n:Nat):(dO q g n).length=n:=by simp[dO]
theorem kW{q:List Int}{g:List (List Int)}{n r:Nat}(h:r<n):(dO q g n).getD r []=(g.getD r []).drop (q.getD r 0).toNat:=by
 rw[aj (by rw[jx];exact h)]
 simp[dO]
def pS(g:List (List Int))(i c:Nat):List (List Int):=g.set i ((g.getD i []).take c)
end Go.Am.Pu
namespace Go.Am.Pu
end Go.Am.Pu
end
section
/- What a slide leaves. Plain words. -/
namespace Go.Am.Pu
theorem C6{g:List (List Int)}{i c r:Nat}(hi:i<g.length):(pS g i c).getD r []=if r=i then(g.getD i []).take c else g.getD r []:=by
 unfold pS
 by_cases e:r=i
 ·subst e
  rw[if_pos rfl,aj (by rw[List.length_set];exact hi),List.getElem_set_self]
 ·rw[if_neg e,getD_set_ne (Ne.symm e)]
theorem oC(g:List (List Int))(i c:Nat):(pS g i c).length=g.length:=by unfold pS;rw[List.length_set]
theorem F5{g:List (List Int)}{i c r x:Nat}(hi:i<g.length)(hx:x<((pS g i c).getD r []).length):cel (pS g i c) r x=cel g r x:=by
 unfold cel
 rw[C6 hi]at hx⊢
 by_cases e:r=i
 ·subst e
  rw[if_pos rfl]at hx⊢
  rw[List.length_take]at hx
  rw[aj (by rw[List.length_take];exact hx),List.getElem_take]
  exact(aj (by omega) 0).symm
 ·rw[if_neg e]
structure AR (t : Tab) (n : Nat) (g : List (List Int)) (i c : Nat) : Prop where
  sl : Sl (bq t.1 n) g i c
  len : g.length = t.2.length
  row : ∀ r, (g.getD r []).length = ((jr t).getD r []).length
  hi : i < (outer t).length
  end_ : (outer t).getD i 0 = c + 1
  cor : (outer t).getD (i + 1) 0 < (outer t).getD i 0
  cutl : ∀ r, (((pS g i c).getD r []).length : Int) = (bq (outer t) i).getD r 0
  ins : ∀ r, (bq t.1 n).getD r 0 ≤ (bq (outer t) i).getD r 0
  rows : cy 9 9 (pS g i c)
end Go.Am.Pu
end
section
/- The square that the reference slides in. Plain words. -/
namespace Go.Am.Pu
structure Sq (s g : List (List Int)) (i c : Nat) : Prop where
  len : s.length = 11
  row : ∀ r, r < 11 → (s.getD r []).length = 11
  at_ : ∀ r x, r < 11 → x < 11 → ¬ (r = i ∧ x = c) → cel s r x = cel g r x
  hole : cel s i c = 0
theorem Sq.step{s g:List (List Int)}{i c i' c':Nat}(h:Sq s g i c)(hi:i<g.length)(hc:c<(g.getD i []).length)(h1:i<11)(h2:c<11)(h3:i'<11)(h4:c'<11)(hne: ¬(i'=i∧c'=c))(v:Int):
  Sq (lI (lI s i c v) i' c' 0) (lI g i c v) i' c':=by
 refine⟨by rw[ja,ja];exact h.len,fun r hr=>by rw[cG,cG];exact h.row r hr,fun r x hr hx hn=> ?_,?_⟩
 ·rw[jE _ hn]
  by_cases e:r=i∧x=c
  ·obtain⟨rfl,rfl⟩:=e
   rw[lf _ (by rw[h.len];exact h1) (by rw[h.row _ h1];exact h2),lf _ hi hc]
  ·rw[jE _ e,jE _ e];exact h.at_ r x hr hx e
 ·rw[lf _ (by rw[ja,h.len];exact h3) (by rw[cG,h.row _ h3];exact h4)]
end Go.Am.Pu
end
section
/- What a slide leaves is a tableau. Plain words. -/
namespace Go.Am.Pu
theorem yI{α:Type}(l:List α)(a x:Nat)(d:α):(l.drop a).getD x d=l.getD (a+x) d:=by
 simp[List.getD_eq_getElem?_getD,List.getElem?_drop]
section
variable {t : Tab} {n : Nat} {g : List (List Int)} {i c : Nat}
theorem AR.cell(E:AR t n g i c){r k:Nat}(hr:r<(bq (outer t) i).length)
  (hk:k<((dO (bq t.1 n) (pS g i c) (bq (outer t) i).length).getD r []).length):
  ((bq t.1 n).getD r 0).toNat+k<(g.getD r []).length∧((((bq t.1 n).getD r 0).toNat+k:Nat):Int)<(bq (outer t) i).getD r 0∧ ¬(r=i∧((bq t.1 n).getD r 0).toNat+k=c)∧
   ((dO (bq t.1 n) (pS g i c) (bq (outer t) i).length).getD r []).getD k 0=cel g r (((bq t.1 n).getD r 0).toNat+k):=by
 have hq:=E.sl.q0 r
 rw[kW hr]at hk⊢
 rw[List.length_drop]at hk
 have hx:((bq t.1 n).getD r 0).toNat+k<((pS g i c).getD r []).length:=by omega
 have hl:=E.cutl r
 have hcut:=C6 (c:=c) (r:=r) E.sl.hi
 refine⟨?_,by omega,fun e=> ?_,?_⟩
 ·rw[hcut]at hx
  by_cases e:r=i
  ·subst e;rw[if_pos rfl,List.length_take]at hx;omega
  ·rw[if_neg e]at hx;exact hx
 ·rw[hcut,if_pos e.1,List.length_take]at hx
  omega
 ·rw[yI]
  exact F5 E.sl.hi hx
theorem AR.Ar(E:AR t n g i c){r:Nat}(hr:r<(bq (outer t) i).length):
  (bq (outer t) i).getD r 0=(bq t.1 n).getD r 0+(((dO (bq t.1 n) (pS g i c) (bq (outer t) i).length).getD r []).length:Int):=by
 have hq:=E.sl.q0 r
 have hi:=E.ins r
 have hl:=E.cutl r
 rw[kW hr,List.length_drop]
 omega
theorem AR.tab(E:AR t n g i c)(h:iK t=true)(hn:n<t.1.length)(hc:t.1.getD (n+1) 0<t.1.getD n 0):
  iK (bq t.1 n,dO (bq t.1 n) (pS g i c) (bq (outer t) i).length)=true:=by
 obtain⟨hp,ho,hl,_⟩:=yr h
 have hqp:=tu hp hn hc
 have hop:=tu ho E.hi E.cor
 generalize hR:dO (bq t.1 n) (pS g i c) (bq (outer t) i).length=R
 have hRl:R.length=(bq (outer t) i).length:=by rw[←hR,jx]
 have cell: ∀{r k:Nat},r<R.length→k<(R.getD r []).length→((bq t.1 n).getD r 0).toNat+k<(g.getD r []).length∧((((bq t.1 n).getD r 0).toNat+k:Nat):Int)<(bq (outer t) i).getD r 0∧ ¬(r=i∧((bq t.1 n).getD r 0).toNat+k=c)∧(R.getD r []).getD k 0=cel g r (((bq t.1 n).getD r 0).toNat+k):=by
  intro r k hr hk
  subst hR
  exact E.cell (by omega) hk
 have Ar: ∀{r:Nat},r<R.length→(bq (outer t) i).getD r 0=(bq t.1 n).getD r 0+((R.getD r []).length:Int):=by
  intro r hr
  subst hR
  exact E.Ar (by omega)
 have q0:=E.sl.q0
 have hout:outer (bq t.1 n,R)=bq (outer t) i:=by
  refine List.ext_getElem (by rw[cN];exact hRl) fun r h1 h2=> ?_
  rw[←aj h1 0,←aj h2 0]
  have h3:r<R.length:=by omega
  have:=fU (bq t.1 n) R 0 r h3
  rw[Nat.zero_add]at this
  unfold outer
  rw[this]
  exact(Ar h3).symm
 have hlen:(bq t.1 n).length≤R.length:=by
  refine Nat.le_of_not_lt fun hlt=> ?_
  have a:=Aw hp hn hc hlt
  have b:=E.ins R.length
  rw[cu (xs:=bq (outer t) i) (by omega)]at b
  omega
 have om:=mH hop
 simp only[iK,dB,dV,Bool.and_eq_true,decide_eq_true_eq]
 rw[hout]
 refine⟨⟨hqp,hlen,hqp,hop,by omega,?_⟩,?_⟩
 ·rw[eE]
  intro r _
  exact decide_eq_true (E.ins r)
 ·rw[eE]
  intro r hr
  rw[eE]
  intro k hk
  have hq:=q0 r
  obtain⟨c1,c2,c3,c4⟩:=cell hr hk
  have hx:(bq t.1 n).getD r 0≤((((bq t.1 n).getD r 0).toNat+k:Nat):Int):=by omega
  have hnum:=E.sl.num r _ hx c1 c3
  simp only[g6,within,Bool.and_eq_true,Bool.or_eq_true,decide_eq_true_eq]
  rw[c4]
  refine⟨hnum,?_,?_⟩
  ·cases k with
   |zero=>exact .inl rfl
   |succ k=>
    obtain⟨d1,d2,d3,d4⟩:=cell hr (show k<(R.getD r []).length by omega)
    right
    rw[show k+1-1=k from rfl,d4]
    exact E.sl.row r (((bq t.1 n).getD r 0).toNat+k) (by omega) (by omega) d3 (by omega)
  ·cases r with
   |zero=>exact .inl rfl
   |succ r=>
    right
    have hr':r<R.length:=by omega
    have em:((r+1:Nat):Int)-1=(r:Int):=by omega
    rw[em,ml hr']
    have hqr:=q0 r
    have hrl:=Ar hr'
    have hom:=om r
    simp only
    by_cases e:(bq t.1 n).getD (r+1) 0+(k:Int)<(bq t.1 n).getD r 0
    ·rw[qd (by omega)];omega
    ·obtain⟨y,hy⟩: ∃y:Nat,(bq t.1 n).getD (r+1) 0+(k:Int)-(bq t.1 n).getD r 0=y:=⟨((bq t.1 n).getD (r+1) 0+(k:Int)-(bq t.1 n).getD r 0).toNat,by omega⟩
     rw[hy,eH]
     obtain⟨d1,d2,d3,d4⟩:=cell hr' (show y<(R.getD r []).length by omega)
     have ey:((bq t.1 n).getD r 0).toNat+y=((bq t.1 n).getD (r+1) 0).toNat+k:=by omega
     rw[d4,ey]
     rw[ey]at d3
     exact E.sl.col r _ (by omega) c1 d3 c3
end
theorem E8{p:List Int}{n:Nat}(hp:cx p=true)(hn:n<p.length)(hc:p.getD (n+1) 0<p.getD n 0):dA (bq p n)=dA p-1:=by
 unfold bq
 split
 ·next h=>
  have hl:=yL hp hc h
  rw[zv p n (by omega)]
  omega
 ·rw[vQ p n _ hn]
  omega
end Go.Am.Pu
namespace Go.Am.Pu
end Go.Am.Pu
end
section
/- Taking the least number out of a plain tableau; evacuation. Plain words. -/
namespace Go.Am.Pu
theorem AR.out{t:Tab}{n:Nat}{g:List (List Int)}{i c:Nat}(E:AR t n g i c):
  outer (bq t.1 n,dO (bq t.1 n) (pS g i c) (bq (outer t) i).length)=bq (outer t) i:=by
 refine List.ext_getElem (by rw[cN];exact jx _ _ _) fun r h1 h2=> ?_
 rw[←aj h1 0,←aj h2 0]
 have h3:r<(dO (bq t.1 n) (pS g i c) (bq (outer t) i).length).length:=by rw[jx];exact h2
 have:=fU (bq t.1 n) (dO (bq t.1 n) (pS g i c) (bq (outer t) i).length) 0 r h3
 rw[Nat.zero_add]at this
 exact this.trans (E.Ar h2).symm
theorem oz{t:Tab}(h:aP t=true){r:Nat}(hr:r<t.2.length):1≤(t.2.getD r []).length:=by
 have hl:=fX h hr
 have hp:=(dn (iS h)).1 ((outer t)[r]'(by rw[cN];exact hr)) (List.getElem_mem _)
 rw[aj (by rw[cN];exact hr)]at hl
 omega
theorem tC{t:Tab}(h:aP t=true):dA (outer t)=t.2.flatten.length:=by
 unfold outer
 exact qw t.1 t.2 0 fun q _=>by rw[cn h];rfl
end Go.Am.Pu
end
section
/- Promotion. Plain words. -/
namespace Go.Am.Pu
def Small(rs:List (List Int)):Prop:= ∀i q,-100≤(rs.getD i []).getD q 0∧(rs.getD i []).getD q 0≤100
end Go.Am.Pu
end
section
/- Slides undone. Plain words. -/
namespace Go.Am.Pu
def leftOf(g:List (List Int))(i c:Nat):Int:=if c=0 then 0 else cel g i (c-1)
def Bl(g:List (List Int))(i c:Nat):Int:=if i=0 then 0 else cel g (i-1) c
def ue:Nat→List (List Int)→Nat→Nat→List (List Int)×(Nat×Nat)
 |0,g,i,c=>(g,(i,c))
 |m+1,g,i,c=>if leftOf g i c=0∧Bl g i c=0 then(g,(i,c))
  else if leftOf g i c≤Bl g i c then ue m (lI g i c (Bl g i c)) (i-1) c
  else ue m (lI g i c (leftOf g i c)) i (c-1)
structure Ag (f : Int → Int) (g h : List (List Int)) (i c : Nat) : Prop where
  len : h.length = g.length
  row : ∀ r, (h.getD r []).length = (g.getD r []).length
  at_ : ∀ r x, ¬ (r = i ∧ x = c) → cel h r x = f (cel g r x)
def Inn(q:List Int)(g:List (List Int)):Prop:= ∀r x:Nat,(x:Int)<q.getD r 0→cel g r x=0
theorem Inn.step{q:List Int}{g:List (List Int)}{i c:Nat}(h:Inn q g)(hq:q.getD i 0≤c)(v:Int):Inn q (lI g i c v):=by
 intro r x hx
 by_cases e:r=i∧x=c
 ·obtain⟨rfl,rfl⟩:=e;omega
 ·rw[jE _ e];exact h r x hx
theorem Ag.right{f:Int→Int}{q:List Int}{g h:List (List Int)}{i c:Nat}(hs:Sl q g i c)(hi:Inn q g)(hf: ∀a b x y,cel g a b<cel g x y→f (cel g a b)<f (cel g x y))(f0:f 0=0)
  (hr:cel g i (c+1)≠0) (ha:Ag f (lI g i c (cel g i (c+1))) h i (c+1)):
  ∃h',Ag f g h' i c∧ ∀m,ue (m+1) h i (c+1)=ue m h' i c:=by
 obtain⟨b1,b2⟩:=zh hr
 have f0': ∀a b,cel g a b=0→f (cel g a b)=0:=fun a b e=>by rw[e];exact f0
 have hl:leftOf h i (c+1)=f (cel g i (c+1)):=by
  unfold leftOf
  rw[if_neg (by omega),show c+1-1=c by omega,ha.at_ i c (by omega),lf _ hs.hi hs.hc]
 have hpos:0<f (cel g i (c+1)):=by
  have hp:=hs.pos i (c+1)
  have e:cel g g.length 0=0:=by unfold cel;rw[cu (Nat.le_refl _)];rfl
  have:=hf g.length 0 i (c+1) (by omega)
  rw[e,f0]at this
  exact this
 have hu:Bl h i (c+1)<f (cel g i (c+1)):=by
  unfold Bl
  by_cases e:i=0
  ·rw[if_pos e];exact hpos
  ·rw[if_neg e,ha.at_ _ _ (by omega),jE _ (by omega)]
   by_cases hq:q.getD (i-1) 0≤((c+1:Nat):Int)
   ·have hc:=hs.col (i-1) (c+1) hq (by rw[show i-1+1=i by omega];exact b2) (by omega) (by omega)
    rw[show i-1+1=i by omega]at hc
    exact hf _ _ _ _ hc
   ·rw[f0' _ _ (hi (i-1) (c+1) (by omega))];exact hpos
 have hhi:i<h.length:=by rw[ha.len,ja];exact b1
 have hhc:c+1<(h.getD i []).length:=by rw[ha.row,cG];exact b2
 refine⟨lI h i (c+1) (leftOf h i (c+1)),⟨by rw[ja,ha.len,ja],fun r=>by rw[cG,ha.row,cG],fun r x hn=> ?_⟩,fun m=> ?_⟩
 ·by_cases e:r=i∧x=c+1
  ·obtain⟨rfl,rfl⟩:=e
   rw[lf _ hhi hhc,hl]
  ·rw[jE _ e,ha.at_ r x e,jE _ hn]
 ·conv=>lhs;unfold ue
  rw[if_neg (by omega),if_neg (by omega)]
  rfl
def Occ(q:List Int)(v:Int)(g:List (List Int))(i c:Nat):Prop:= ∃r x:Nat,¬(r=i∧x=c)∧x<(g.getD r []).length∧q.getD r 0≤x∧cel g r x=v
theorem Occ.step{q:List Int}{v:Int}{g:List (List Int)}{i c a b:Nat}(h:Occ q v g i c)(hi:i<g.length)(hc:c<(g.getD i []).length)(hq:q.getD i 0≤c)(hne: ¬(a=i∧b=c)):Occ q v (lI g i c (cel g a b)) a b:=by
 obtain⟨r,x,h1,h2,h3,h4⟩:=h
 by_cases e:r=a∧x=b
 ·obtain⟨rfl,rfl⟩:=e
  exact⟨i,c,fun e=>hne ⟨e.1.symm,e.2.symm⟩,by rw[cG];exact hc,hq,by rw[lf _ hi hc];exact h4⟩
 ·exact⟨r,x,e,by rw[cG];exact h2,h3,by rw[jE _ h1];exact h4⟩
end Go.Am.Pu
end
section
/- Promotion of a standard tableau is standard, of the same shape, and can be undone. Plain words. -/
namespace Go.Am.Pu
theorem pA{t:Tab}(h0:t.1= [])(hp:cx (outer t)=true)(hn: ∀r x,r<t.2.length→x<(t.2.getD r []).length→1≤cel t.2 r x∧cel t.2 r x≤9)
  (hr: ∀r x,r<t.2.length→x+1<(t.2.getD r []).length→cel t.2 r x≤cel t.2 r (x+1)) (hc: ∀r x,r+1<t.2.length→x<(t.2.getD (r+1) []).length→cel t.2 r x<cel t.2 (r+1) x):aP t=true:=by
 simp only[aP,iK,dB,dV,Bool.and_eq_true,decide_eq_true_eq,h0]
 refine⟨⟨⟨rfl,by simp,rfl,hp,by simp,?_⟩,?_⟩,rfl⟩
 ·rw[eE]
  intro i hi
  simp at hi
 ·rw[eE]
  intro r hr'
  rw[eE]
  intro k hk
  simp only[g6,within,Bool.and_eq_true,Bool.or_eq_true,decide_eq_true_eq]
  refine⟨hn r k hr' hk,?_,?_⟩
  ·by_cases e:k=0
   ·exact .inl e
   ·right
    have:=hr r (k-1) hr' (by omega)
    rw[show k-1+1=k by omega]at this
    exact this
  ·by_cases e:r=0
   ·exact .inl e
   ·right
    have:=hc (r-1) k (by omega) (by rw[show r-1+1=r by omega];exact hk)
    rw[show r-1+1=r by omega]at this
    rw[show(r:Int)-1=((r-1:Nat):Int) by omega,ml (by omega),h0]
    simp only[List.getD_nil]
    rw[show(0:Int)+(k:Int)-0=(k:Int) by omega,eH]
    exact this
theorem eV{t:Tab}(h:aP t=true):(∀r x,r<t.2.length→x<(t.2.getD r []).length→1≤cel t.2 r x∧cel t.2 r x≤9)∧(∀r x,r<t.2.length→x+1<(t.2.getD r []).length→cel t.2 r x≤cel t.2 r (x+1)):=by
 have h':=h
 simp only[aP,Bool.and_eq_true]at h'
 obtain⟨_,_,_,hc⟩:=yr h'.1
 refine⟨fun r x hr hx=> ?_,fun r x hr hx=> ?_⟩
 ·have:=hc r x hr hx
  simp only[g6,within,Bool.and_eq_true,decide_eq_true_eq]at this
  exact this.1
 ·have:=hc r (x+1) hr hx
  simp only[g6,within,Bool.and_eq_true,Bool.or_eq_true,decide_eq_true_eq]at this
  exact this.2.1.resolve_left (by omega)
theorem gz{rs:List (List Int)}{r x:Nat}(hr:r<rs.length)(hx:x<(rs.getD r []).length):cel rs r x∈rs.flatten:=by
 refine List.mem_flatten.2 ⟨rs.getD r [],by rw[aj hr];exact List.getElem_mem hr,?_⟩
 unfold cel
 rw[aj hx]
 exact List.getElem_mem hx
theorem k9{rs:List (List Int)}{v:Int}(h:v∈rs.flatten): ∃r x,r<rs.length∧x<(rs.getD r []).length∧cel rs r x=v:=by
 obtain⟨l,hl,hv⟩:=List.mem_flatten.1 h
 obtain⟨r,hr,rfl⟩:=List.getElem_of_mem hl
 obtain⟨x,hx,rfl⟩:=List.getElem_of_mem hv
 have e:=aj hr ([]:List Int)
 refine⟨r,x,hr,by rw[e];exact hx,?_⟩
 unfold cel
 rw[e,aj hx]
theorem fH{t:Tab}(h:aP t=true)(hs:ep t=true):t.2.flatten.Nodup∧(∀x∈t.2.flatten,1≤x∧x≤t.2.flatten.length):=by
 simp only[ep,Bool.and_eq_true]at hs
 have h1:=oY hs.1
 obtain⟨a,b⟩:=(wk fun x hx=>(h1 x hx).1).1 hs.2
 exact⟨a,fun x hx=>⟨(h1 x hx).1,b x hx⟩⟩
end Go.Am.Pu
end
section
/- Promotion keeps shapes and standardness. Plain words. -/
namespace Go.Am.Pu
section
variable {t : Tab}
theorem nx{a b:Tab}(ha:a.1= [])(hb:b.1= [])(hl:a.2.length=b.2.length)(hr: ∀r,(a.2.getD r []).length=(b.2.getD r []).length):outer a=outer b:=by
 refine List.ext_getElem (by rw[cN,cN];exact hl) fun r h1 h2=> ?_
 rw[cN]at h1 h2
 have e1:=fU a.1 a.2 0 r h1
 have e2:=fU b.1 b.2 0 r h2
 rw[←aj (by rw[cN];exact h1) 0,←aj (by rw[cN];exact h2) 0]
 unfold outer
 rw[e1,e2,ha,hb,hr]
theorem mj{xs ys:List Int}{x:Nat}(h:x<xs.length):(xs++ys).getD x 0=xs.getD x 0:=by
 simp only[List.getD_eq_getElem?_getD,List.getElem?_append_left h]
theorem pW{xs ys:List Int}{x:Nat}(h:xs.length≤x):(xs++ys).getD x 0=ys.getD (x-xs.length) 0:=by
 simp only[List.getD_eq_getElem?_getD,List.getElem?_append_right h]
end
end Go.Am.Pu
end
section
/- Promotion undone: it is one to one. Plain words. -/
namespace Go.Am.Pu
def FW(t:Tab)(n:Nat):List (List Int):=
 (if n=t.2.length then jr t++ [[]]else jr t).set n ((if n=t.2.length then jr t++ [[]]else jr t).getD n []++ [0])
section
variable {t : Tab}
end
end Go.Am.Pu
end
section
/- Orbits of promotion come back. Plain words. -/
namespace Go.Am.Pu
structure Good (t : Tab) : Prop where
  pl : aP t = true
  st : ep t = true
  ne : t.2.flatten.length ≠ 0
end Go.Am.Pu
end
section
/- A slide outwards, as the program has it; demotion. Plain words. -/
namespace Go.Am.Pu
theorem Es{p q:List Int}{n:Nat}(h:oG p n=(q,true)):n≤p.length∧n<q.length∧q.length≤p.length+1∧(∀r,q.getD r 0=if r=n then p.getD n 0+1 else p.getD r 0)∧cx q=true:=by
 have hl:=Cb p n
 rw[h]at hl
 unfold oG at h
 by_cases hc:cx p=true∧(0:Int)≤n∧(n:Int)≤p.length
 ·rw[if_pos hc]at h
  have hn:n≤p.length:=by omega
  generalize hw:(if(n:Int)=p.length then p++ [0]else p)=w at h
  have hb: ∀r,w.getD r 0=p.getD r 0:=fun r=>by
   rw[←hw]
   split
   ·by_cases hr:r<p.length
    ·rw[mj hr]
    ·rw[pW (by omega),cu (xs:=p) (by omega)]
     cases r-p.length<;>rfl
   ·rfl
  have hwl:n<w.length:=by
   rw[←hw]
   split
   ·rw[List.length_append,List.length_singleton];omega
   ·omega
  simp only[Int.toNat_natCast]at h
  by_cases hp:cx (w.set n (w.getD n 0+1))=true
  ·rw[if_pos hp]at h
   have h1:=congrArg Prod.fst h
   simp only at h1
   subst h1
   refine⟨hn,by rw[List.length_set];exact hwl,hl,fun r=> ?_,hp⟩
   by_cases e:r=n
   ·subst e
    rw[if_pos rfl,aj (by rw[List.length_set];exact hwl),List.getElem_set_self,hb]
   ·rw[if_neg e,getD_set_ne (Ne.symm e),hb]
  ·rw[if_neg hp]at h
   have h2:=congrArg Prod.snd h
   simp at h2
 ·rw[if_neg hc]at h
  have h2:=congrArg Prod.snd h
  simp at h2
section
variable {u : Tab}
end
end Go.Am.Pu
end
section
/- The last promotion of an orbit; orbits' sizes. Plain words. -/
namespace Go.Am.Pu
theorem El{t:Tab}(h:aP t=true)(hn:t.2.flatten.length=0):t=([],[]):=by
 refine Prod.ext (cn h) ?_
 refine List.eq_nil_of_length_eq_zero (Nat.eq_zero_of_not_pos fun hp=> ?_)
 have:=oz h hp
 have hl:=gz hp (show 0<(t.2.getD 0 []).length by omega)
 rw[List.eq_nil_of_length_eq_zero hn]at hl
 simp at hl
def Dd(t:Tab):Prop:=t.1= []∧cy 10 10 t.2
theorem Dd.ok{t:Tab}(h:Dd t):gC t:=⟨by rw[h.1];simp,by have:=h.2.1;omega,fun r hr=>by have:=h.2.2 r hr;omega⟩
theorem Dd.size{t:Tab}(h:Dd t):AH t.2≤100:=by
 have a:=Aj t.2 10 h.2.2
 have b:=h.2.1
 omega
section
attribute [local instance] D.real
variable {α β : Type} {x y v : Option α}
theorem bE{x:Option β}{z:β}{f:β→Option α}(h:x=some z)(g:f z=v):D.bnd x f=v:=by rw[h];exact g
theorem tN(g:x=v):D.test (D.no true) y x=v:=g
theorem tY(g:x=v):D.test true x y=v:=g
theorem tF(g:y=v):D.test false x y=v:=g
theorem tM(g:y=v):D.test (D.no false) y x=v:=g
theorem tG{p:Prop} [Decidable p](h:p)(g:x=v):D.test (decide p) x y=v:=by
 show(if decide p=true then x else y)=v
 rw[if_pos (decide_eq_true h)];exact g
theorem tX{p:Prop} [Decidable p](h: ¬p)(g:y=v):D.test (decide p) x y=v:=by
 show(if decide p=true then x else y)=v
 rw[decide_eq_false h];exact g
theorem tE{a b:Int}(h:a=b)(g:x=v):D.test (D.no (D.eq a b)) y x=v:=by
 show(if(!decide (a=b))=true then y else x)=v
 rw[decide_eq_true h];exact g
theorem tB{b:Bool}(g:x=v):D.test (D.no (D.eqB b b)) y x=v:=by
 show(if(!(b==b))=true then y else x)=v
 rw[beq_self_eq_true];exact g
end
end Go.Am.Pu
end
section
/- The rewriting rules of the plain laws, in one. -/
namespace Go.Am.Pu
open Go Go.Am
attribute [local instance] D.real
theorem sss:type_of% @nI∧type_of% @nk∧type_of% @jZ∧type_of% @kD∧type_of% @kB∧type_of% @cm∧type_of% @cH∧type_of% @cD∧type_of% @eN∧type_of% @gm∧type_of% @fx∧type_of% @gU∧type_of% @gY∧type_of% @iY∧type_of% @bZ∧type_of% @de∧type_of% @gd∧type_of% @mO∧type_of% @mP∧type_of% @kC∧type_of% @kE∧type_of% @cQ∧type_of% @w64∧type_of% @Int.toNat_natCast∧type_of% @decide_eq_true_eq∧type_of% @Int.ofNat_lt∧type_of% @Int.ofNat_le∧type_of% @Int.natCast_nonneg∧type_of% @decide_true∧type_of% @decide_false∧type_of% @Bool.not_true∧type_of% @Bool.not_false∧type_of% @Bool.false_eq_true∧type_of% @Bool.not_eq_true∧type_of% @Bool.true_and∧type_of% @Bool.and_true∧type_of% @Bool.false_and∧type_of% @Bool.and_false:=
 ⟨@nI,@nk,@jZ,@kD,@kB,@cm,@cH,@cD,@eN,@gm,@fx,@gU,@gY,@iY,@bZ,@de,@gd,@mO,@mP,@kC,@kE,@cQ,@w64,@Int.toNat_natCast,@decide_eq_true_eq,@Int.ofNat_lt,@Int.ofNat_le,@Int.natCast_nonneg,@decide_true,@decide_false,@Bool.not_true,@Bool.not_false,@Bool.false_eq_true,@Bool.not_eq_true,@Bool.true_and,@Bool.and_true,@Bool.false_and,@Bool.and_false⟩
end Go.Am.Pu
end
section
/- Cells taken out of plain tableaux, one behind another. Plain words. -/
namespace Go.Am.Pu
def q8(rs:List (List Int)):Prop:= ∀i,i+1<rs.length→(rs.getD (i+1) []).length≤(rs.getD i []).length∧ ∀q,q<(rs.getD (i+1) []).length→(rs.getD i []).getD q 0<(rs.getD (i+1) []).getD q 0
theorem rI{r:List Int}{y:Int}: ∀{m q:Nat},dY r y m=some q→ ∀c,q<c→c<m→y≤r.getD c 0
 |0,q,h,_,_,_=>by simp[dY]at h
 |m+1,q,h,c,h1,h2=>by
  unfold dY at h
  split at h
  ·next hc=>injection h with h;omega
  ·next hc=>
   by_cases e:c=m
   ·subst e;omega
   ·exact rI h c h1 (by omega)
theorem uc: ∀(r:Nat) (rs:List (List Int)) (y:Int),(eW r rs y).1.length=rs.length∧ ∀i,((eW r rs y).1.getD i []).length=(rs.getD i []).length
 |0,_,_=>⟨rfl,fun _=>rfl⟩
 |r+1,rs,y=>by
  unfold eW
  split
  ·next q hq=>
   obtain⟨a,b⟩:=uc r (rs.set r ((rs.getD r []).set q y)) ((rs.getD r []).getD q 0)
   refine⟨by rw[a,List.length_set],fun i=> ?_⟩
   rw[b]
   by_cases e:i=r
   ·subst e
    by_cases h:i<rs.length
    ·rw[aj (by rw[List.length_set];exact h),List.getElem_set_self,List.length_set]
    ·rw[cu (by rw[List.length_set];omega),cu (xs:=rs) (by omega)]
   ·rw[getD_set_ne (Ne.symm e)]
  ·exact uc r rs y
theorem yM: ∀(r:Nat) (rs:List (List Int)) (y:Int) (q:Nat),r<rs.length→(∀i,i+1<r→(rs.getD (i+1) []).length≤(rs.getD i []).length∧ ∀q,q<(rs.getD (i+1) []).length→(rs.getD i []).getD q 0<(rs.getD (i+1) []).getD q 0)→
  (∀i,r≤i→i+1<rs.length→(rs.getD (i+1) []).length≤(rs.getD i []).length∧ ∀q,q<(rs.getD (i+1) []).length→(rs.getD i []).getD q 0<(rs.getD (i+1) []).getD q 0)→
  (∀i,i+1=r→(rs.getD r []).length≤(rs.getD i []).length∧q<(rs.getD i []).length∧(rs.getD i []).getD q 0<y∧(∀c,c<(rs.getD r []).length→c≠q→(rs.getD i []).getD c 0<(rs.getD r []).getD c 0)∧(∀c,q≤c→c<(rs.getD r []).length→y<(rs.getD r []).getD c 0))→
  q8 (eW r rs y).1
 |0,rs,y,q,hr,_,hB,_=>fun i hi=>hB i (Nat.zero_le _) hi
 |r+1,rs,y,q,hr,hA,hB,hI=>by
  obtain⟨i1,i2,i3,i4,i5⟩:=hI r rfl
  obtain⟨q0,hq0⟩:=qj i2 i3
  have hmax:=rI hq0
  obtain⟨k1,k2⟩:=lG hq0
  have hqq:q≤q0:=Nat.le_of_not_lt fun hlt=>by
   have:=hmax q hlt i2
   omega
  unfold eW
  rw[hq0]
  have hrow:(rs.set r ((rs.getD r []).set q0 y)).getD r []=(rs.getD r []).set q0 y:=by
   rw[aj (by rw[List.length_set];omega),List.getElem_set_self]
  have hne: ∀i,i≠r→(rs.set r ((rs.getD r []).set q0 y)).getD i []=rs.getD i []:=fun i h=>getD_set_ne (Ne.symm h) _ _
  have hset: ∀c,c≠q0→((rs.getD r []).set q0 y).getD c 0=(rs.getD r []).getD c 0:=fun c h=>getD_set_ne (Ne.symm h) _ _
  have hself:((rs.getD r []).set q0 y).getD q0 0=y:=by rw[aj (by rw[List.length_set];exact k1),List.getElem_set_self]
  refine yM r _ _ q0 (by rw[List.length_set];omega) (fun i hi=> ?_) (fun i hi hl=> ?_) (fun i hi=> ?_)
  ·rw[hne _ (by omega),hne _ (by omega)]
   exact hA i (by omega)
  ·rw[List.length_set]at hl
   by_cases e:i=r
   ·subst e
    rw[hne (i+1) (by omega),hrow,List.length_set]
    refine⟨i1,fun c hc=> ?_⟩
    by_cases e2:c=q0
    ·subst e2;rw[hself];exact i5 c hqq hc
    ·rw[hset c e2]
     by_cases e3:c=q
     ·subst e3
      have:=i5 c (Nat.le_refl _) hc
      omega
     ·exact i4 c hc e3
   ·rw[hne (i+1) (by omega),hne i e]
    exact hB i (by omega) hl
  ·subst hi
   obtain⟨a1,a2⟩:=hA i (by omega)
   rw[hrow,hne i (by omega),List.length_set]
   refine⟨a1,by omega,a2 q0 k1,fun c hc e=> ?_,fun c h1 h2=> ?_⟩
   ·rw[hset c e];exact a2 c hc
   ·by_cases e:c=q0
    ·subst e;rw[hself];exact k2
    ·rw[hset c e]
     have:=hmax c (by omega) h2
     omega
def cw(rs:List (List Int))(r:Nat):List (List Int):=
 if(rs.getD r []).length=1 then(rs.set r ((rs.getD r []).take ((rs.getD r []).length-1))).take r else rs.set r ((rs.getD r []).take ((rs.getD r []).length-1))
def cR(a b:List (List Int)):Prop:=a.length=b.length∧ ∀i,(a.getD i []).length=(b.getD i []).length
theorem hO{α:Type}{l:List α}{n i:Nat}(h:i<n)(d:α):(l.take n).getD i d=l.getD i d:=by
 simp only[List.getD_eq_getElem?_getD,List.getElem?_take,if_pos h]
theorem yh{a b:List (List Int)}(h:cR a b)(n:Nat):cR (a.take n) (b.take n):=by
 refine⟨by rw[List.length_take,List.length_take,h.1],fun i=> ?_⟩
 by_cases hi:i<n
 ·rw[hO hi,hO hi];exact h.2 i
 ·rw[cu (xs:=a.take n) (by rw[List.length_take];omega),cu (xs:=b.take n) (by rw[List.length_take];omega)]
theorem yW(rs:List (List Int))(r:Nat):cR (bM rs r).1 (cw rs r):=by
 have a:=uc r (rs.set r ((rs.getD r []).take ((rs.getD r []).length-1))) ((rs.getD r []).getD ((rs.getD r []).length-1) 0)
 unfold bM cw
 simp only
 split
 ·exact yh a r
 ·exact a
theorem zU{a b:List (List Int)}(h:cR a b)(r:Nat):cR (cw a r) (cw b r):=by
 have hs:cR (a.set r ((a.getD r []).take ((a.getD r []).length-1))) (b.set r ((b.getD r []).take ((b.getD r []).length-1))):=by
  refine⟨by rw[List.length_set,List.length_set,h.1],fun i=> ?_⟩
  by_cases e:i=r
  ·subst e
   by_cases hi:i<a.length
   ·rw[aj (xs:=a.set _ _) (by rw[List.length_set];exact hi),List.getElem_set_self,aj (xs:=b.set _ _) (by rw[List.length_set,←h.1];exact hi),List.getElem_set_self,List.length_take,List.length_take,h.2 i]
   ·rw[cu (xs:=a.set _ _) (by rw[List.length_set];omega),cu (xs:=b.set _ _) (by rw[List.length_set,←h.1];omega)]
  ·rw[getD_set_ne (Ne.symm e),getD_set_ne (Ne.symm e)];exact h.2 i
 unfold cw
 rw[h.2 r]
 split
 ·rw[←h.2 r];rw[h.2 r]at*;exact yh hs r
 ·rw[h.2 r]at hs;exact hs
theorem cR.trans{a b c:List (List Int)}(h:cR a b)(h':cR b c):cR a c:=⟨h.1.trans h'.1,fun i=>(h.2 i).trans (h'.2 i)⟩
theorem Fw{rs:List (List Int)}(h:q8 rs)(n:Nat):q8 (rs.take n):=by
 intro i hi
 rw[List.length_take]at hi
 rw[hO (by omega),hO (by omega)]
 exact h i (by omega)
theorem An{rs:List (List Int)}{r:Nat}(h:q8 rs)(hr:r<rs.length)(hl:1≤(rs.getD r []).length)(hc:(rs.getD (r+1) []).length<(rs.getD r []).length):q8 (bM rs r).1:=by
 have hrow:(rs.set r ((rs.getD r []).take ((rs.getD r []).length-1))).getD r []=(rs.getD r []).take ((rs.getD r []).length-1):=by
  rw[aj (by rw[List.length_set];exact hr),List.getElem_set_self]
 have hne: ∀i,i≠r→(rs.set r ((rs.getD r []).take ((rs.getD r []).length-1))).getD i []=rs.getD i []:=fun i h=>getD_set_ne (Ne.symm h) _ _
 have key:q8 (eW r (rs.set r ((rs.getD r []).take ((rs.getD r []).length-1))) ((rs.getD r []).getD ((rs.getD r []).length-1) 0)).1:=by
  refine yM r _ _ ((rs.getD r []).length-1) (by rw[List.length_set];exact hr) (fun i hi=> ?_) (fun i hi hil=> ?_) (fun i hi=> ?_)
  ·rw[hne _ (by omega),hne _ (by omega)];exact h i (by omega)
  ·rw[List.length_set]at hil
   by_cases e:i=r
   ·subst e
    rw[hne (i+1) (by omega),hrow,List.length_take]
    refine⟨by omega,fun c hc'=> ?_⟩
    rw[hO (by omega)]
    exact(h i hil).2 c hc'
   ·rw[hne (i+1) (by omega),hne i e];exact h i hil
  ·subst hi
   obtain⟨a1,a2⟩:=h i hr
   rw[hrow,hne i (by omega),List.length_take]
   refine⟨by omega,by omega,a2 _ (by omega),fun c h1 h2=> ?_,fun c h1 h2=>by omega⟩
   rw[hO (by omega)]
   exact a2 c (by omega)
 unfold bM
 simp only
 split
 ·exact Fw key r
 ·exact key
end Go.Am.Pu
end
section
/- The greatest number of a standard tableau, and the tableau without it; a pair of tableaux unrolled. Plain words. -/
namespace Go.Am.Pu
section
variable {t : Tab}
theorem nP(h:aP t=true)(hs:ep t=true){a b x y:Nat}(ha:a<t.2.length)(hx:x<(t.2.getD a []).length)(hb:b<t.2.length)(hy:y<(t.2.getD b []).length)(e:cel t.2 a x=cel t.2 b y):a=b∧x=y:=by
 have nd:=(fH h hs).1
 rw[List.Nodup,List.pairwise_flatten]at nd
 have mem: ∀{r z:Nat},r<t.2.length→(hz:z<(t.2.getD r []).length)→cel t.2 r z∈t.2.getD r []:=fun{r z} _ hz=>by
  unfold cel
  rw[aj hz]
  exact List.getElem_mem hz
 have ab: ∀{a b x y:Nat},a<b→a<t.2.length→x<(t.2.getD a []).length→b<t.2.length→y<(t.2.getD b []).length→cel t.2 a x≠cel t.2 b y:=fun{a b x y} hab ha hx hb hy=>by
  have:=List.pairwise_iff_getElem.1 nd.2 a b ha hb hab
  exact this _ (by rw[←aj ha []];exact mem ha hx) _ (by rw[←aj hb []];exact mem hb hy)
 have e1:a=b:=by
  rcases Nat.lt_trichotomy a b with hl|hl|hl
  ·exact absurd e (ab hl ha hx hb hy)
  ·exact hl
  ·exact absurd e.symm (ab hl hb hy ha hx)
 subst e1
 refine⟨rfl,?_⟩
 have n2:=nd.1 _ (by rw[aj ha];exact List.getElem_mem ha:t.2.getD a []∈t.2)
 unfold cel at e
 rw[aj hx,aj hy]at e
 rcases Nat.lt_trichotomy x y with hl|hl|hl
 ·exact absurd e (List.pairwise_iff_getElem.1 n2 x y hx hy hl)
 ·exact hl
 ·exact absurd e.symm (List.pairwise_iff_getElem.1 n2 y x hy hx hl)
theorem jd(h:aP t=true)(hs:ep t=true){a x:Nat}{v:Int}(ha:a<t.2.length)(hx:x<(t.2.getD a []).length)(e:cel t.2 a x=v):rowOf t v=a:=by
 have hf:t.2.findIdx (fun r=>has r v)=a:=by
  rw[List.findIdx_eq ha]
  refine⟨?_,fun j hj=> ?_⟩
  ·rw[←aj ha [],qv,←e]
   unfold cel
   rw[aj hx]
   exact List.getElem_mem hx
  ·rw[Bool.eq_false_iff]
   intro hc
   rw[qv]at hc
   obtain⟨y,hy,e2⟩:=List.getElem_of_mem hc
   have hjl:j<t.2.length:=by omega
   have hy':y<(t.2.getD j []).length:=by rw[aj hjl];exact hy
   have e3:cel t.2 j y=v:=by
    unfold cel
    rw[aj hy']
    simp only[aj hjl]
    exact e2
   have:=nP h hs hjl hy' ha hx (by rw[e,e3])
   omega
 unfold rowOf zX
 rw[hf,if_pos ha]
theorem E7(h:aP t=true)(hs:ep t=true)(hn:t.2.flatten.length≠0): ∃a:Nat,a<t.2.length∧1≤(t.2.getD a []).length∧cel t.2 a ((t.2.getD a []).length-1)=t.2.flatten.length∧(t.2.getD (a+1) []).length<(t.2.getD a []).length∧rowOf t t.2.flatten.length=a:=by
 have ho:kZ t.2.flatten=true:=by
  have:=hs
  simp only[ep,Bool.and_eq_true]at this
  exact this.2
 obtain⟨a,x,ha,hx,e⟩:=k9 (kp.1 ho t.2.flatten.length (gk.2 (by omega)))
 have hb:=(fH h hs).2
 obtain⟨c1,c2⟩:=eV h
 have hx1:x+1=(t.2.getD a []).length:=by
  refine Nat.le_antisymm hx (Nat.le_of_not_lt fun hlt=> ?_)
  have k1:=c2 a x ha hlt
  have k2:=(hb _ (gz ha hlt)).2
  have:=nP h hs ha hx ha hlt (by omega)
  omega
 have hbel:(t.2.getD (a+1) []).length≤x:=by
  refine Nat.le_of_not_lt fun hlt=> ?_
  have ha1:a+1<t.2.length:=Nat.lt_of_not_le fun hle=>by rw[cu hle]at hlt;simp at hlt
  have k1:=(iX h a ha1).2 x hlt
  have k2:=(hb _ (gz ha1 hlt)).2
  unfold cel at e k2
  omega
 refine⟨a,ha,by omega,by rw[show(t.2.getD a []).length-1=x by omega];exact e,by omega,jd h hs ha hx e⟩
theorem n7{rs:List (List Int)}{a:Nat}(ha:a<rs.length)(hc:(rs.getD (a+1) []).length<(rs.getD a []).length)(hp: ∀r,r<rs.length→1≤(rs.getD r []).length)(r:Nat):(cw rs a).getD r []=if r=a then(rs.getD a []).take ((rs.getD a []).length-1)else rs.getD r []:=by
 have hset:(rs.set a ((rs.getD a []).take ((rs.getD a []).length-1))).getD r []=if r=a then(rs.getD a []).take ((rs.getD a []).length-1)else rs.getD r []:=by
  by_cases e:r=a
  ·subst e;rw[if_pos rfl,aj (by rw[List.length_set];exact ha),List.getElem_set_self]
  ·rw[if_neg e,getD_set_ne (Ne.symm e)]
 unfold cw
 split
 ·next h1=>
  by_cases hr:r<a
  ·rw[hO hr,hset]
  ·rw[cu (by rw[List.length_take];omega)]
   by_cases e:r=a
   ·subst e;rw[if_pos rfl,h1];rfl
   ·rw[if_neg e]
    have hlast:rs.length≤a+1:=Nat.le_of_not_lt fun hlt=>by
     have:=hp (a+1) hlt
     omega
    rw[cu (by omega)]
 ·exact hset
theorem ri{rs:List (List Int)}{a:Nat}(ha:a<rs.length):(cw rs a).length=if(rs.getD a []).length=1 then a else rs.length:=by
 unfold cw
 split
 ·rw[List.length_take,List.length_set];omega
 ·rw[List.length_set]
theorem FR(h:aP t=true)(hs:ep t=true){a:Nat}(hn:t.2.flatten.length≠0)(ha:a<t.2.length)(h1:1≤(t.2.getD a []).length)(htop:cel t.2 a ((t.2.getD a []).length-1)=t.2.flatten.length)(hc:(t.2.getD (a+1) []).length<(t.2.getD a []).length):
  aP (([],cw t.2 a):Tab)=true∧ep (([],cw t.2 a):Tab)=true∧(cw t.2 a).flatten.length+1=t.2.flatten.length∧ ∀v,1≤v→v<(t.2.flatten.length:Int)→rowOf ([],cw t.2 a) v=rowOf t v:=by
 have hpos:=fun r (hr:r<t.2.length)=>oz h hr
 have hrow:=n7 ha hc hpos
 have hlen:=ri ha
 obtain⟨c1,c2⟩:=eV h
 have c3:=iX h
 have hcorner:(outer t).getD (a+1) 0<(outer t).getD a 0:=by
  rw[fX h ha]
  by_cases e:a+1<t.2.length
  ·rw[fX h e];omega
  ·rw[cu (by rw[cN];omega)];omega
 have hal:a<(outer t).length:=by rw[cN];exact ha
 have hout:outer (([],cw t.2 a):Tab)=bq (outer t) a:=by
  have hdl:(bq (outer t) a).length=(cw t.2 a).length:=by
   rw[hlen]
   unfold bq
   rw[fX h ha]
   by_cases e:(t.2.getD a []).length=1
   ·rw[if_pos (by omega),if_pos e,List.length_take,cN];omega
   ·rw[if_neg (by omega),if_neg e,List.length_set,cN]
  refine List.ext_getElem (by rw[cN,hdl]) fun r k1 k2=> ?_
  rw[←aj k1 0,←aj k2 0,wS (iS h) hal hcorner]
  have k3:r<(cw t.2 a).length:=by rw[cN]at k1;exact k1
  have:=fU [] (cw t.2 a) 0 r k3
  unfold outer at this⊢
  rw[this,hrow]
  have hrl:r<t.2.length:=by
   rw[hlen]at k3
   split at k3<;>omega
  have po:=fX h hrl
  have pa:=fX h ha
  unfold outer at po pa
  by_cases e:r=a
  ·subst e
   rw[if_pos rfl,if_pos rfl,List.length_take,pa]
   simp only[List.getD_nil]
   omega
  ·rw[if_neg e,if_neg e,po]
   simp only[List.getD_nil]
   omega
 have hcel: ∀{r x:Nat},x<((cw t.2 a).getD r []).length→x<(t.2.getD r []).length∧cel (cw t.2 a) r x=cel t.2 r x:=fun{r x} hx=>by
  unfold cel
  rw[hrow]at hx⊢
  by_cases e:r=a
  ·subst e
   rw[if_pos rfl,List.length_take]at hx
   rw[if_pos rfl,hO (by omega)]
   exact⟨by omega,rfl⟩
  ·rw[if_neg e]at hx⊢
   exact⟨hx,rfl⟩
 have hrl: ∀{r:Nat},r<(cw t.2 a).length→r<t.2.length:=fun{r} hr=>by
  rw[hlen]at hr
  split at hr<;>omega
 have hin: ∀{r x:Nat},x<(t.2.getD r []).length→ ¬(r=a∧x+1=(t.2.getD a []).length)→x<((cw t.2 a).getD r []).length:=fun{r x} hx hne=>by
  rw[hrow]
  by_cases e:r=a
  ·subst e
   rw[if_pos rfl,List.length_take]
   have: ¬x+1=(t.2.getD r []).length:=fun e=>hne ⟨rfl,e⟩
   omega
  ·rw[if_neg e];exact hx
 have hpl:aP (([],cw t.2 a):Tab)=true:=by
  refine pA rfl (by rw[hout];exact tu (iS h) hal hcorner) (fun r x hr hx=> ?_) (fun r x hr hx=> ?_) (fun r x hr hx=> ?_)
  ·obtain⟨k1,k2⟩:=hcel hx
   rw[k2];exact c1 r x (hrl hr) k1
  ·obtain⟨k1,k2⟩:=hcel hx
   obtain⟨_,k4⟩:=hcel (show x<((cw t.2 a).getD r []).length from Nat.lt_of_succ_lt hx)
   rw[k2,k4];exact c2 r x (hrl hr) k1
  ·obtain⟨k1,k2⟩:=hcel hx
   have hr1:=hrl hr
   obtain⟨d1,d2⟩:=c3 r hr1
   have hxr:x<((cw t.2 a).getD r []).length:=by
    refine hin (by omega) fun e=> ?_
    rw[e.1]at k1
    omega
   obtain⟨_,k4⟩:=hcel hxr
   rw[k2,k4]
   exact d2 x k1
 have hfl:(cw t.2 a).flatten.length+1=t.2.flatten.length:=by
  have e1:=tC hpl
  rw[hout,E8 (iS h) hal hcorner,tC h]at e1
  simp only at e1
  omega
 have ho:kZ t.2.flatten=true:=by
  have:=hs
  simp only[ep,Bool.and_eq_true]at this
  exact this.2
 have hcells: ∀v,1≤v→v<(t.2.flatten.length:Int)→ ∃r x,r<(cw t.2 a).length∧x<((cw t.2 a).getD r []).length∧cel (cw t.2 a) r x=v∧r<t.2.length∧x<(t.2.getD r []).length∧cel t.2 r x=v:=by
  intro v v1 v2
  obtain⟨r,x,hr,hx,e⟩:=k9 (kp.1 ho v (gk.2 (by omega)))
  have hx':x<((cw t.2 a).getD r []).length:=by
   refine hin hx fun e2=> ?_
   rw[e2.1,show x=(t.2.getD a []).length-1 by omega,htop]at e
   omega
  exact⟨r,x,Nat.lt_of_not_le fun hle=>by rw[cu hle]at hx';simp at hx',hx',by rw[(hcel hx').2];exact e,hr,hx,e⟩
 have hst:ep (([],cw t.2 a):Tab)=true:=by
  have hp':=hpl
  simp only[aP,Bool.and_eq_true]at hp'
  simp only[ep,Bool.and_eq_true]
  refine⟨hp'.1,kp.2 fun v hv=> ?_⟩
  rw[gk]at hv
  obtain⟨r,x,q1,q2,q3,_⟩:=hcells v hv.1 (by omega)
  rw[←q3]
  exact gz q1 q2
 refine⟨hpl,hst,hfl,fun v v1 v2=> ?_⟩
 obtain⟨r,x,q1,q2,q3,q4,q5,q6⟩:=hcells v v1 v2
 rw[jd h hs q4 q5 q6,jd hpl hst q1 q2 q3]
end
def wop(q:Tab):Nat→List (List Int)→List Int
 |0,_=> []
 |k+1,P=>wop q k (bM P (rowOf q ((k+1:Nat):Int)).toNat).1++ [(bM P (rowOf q ((k+1:Nat):Int)).toNat).2]
theorem oB(q:Tab): ∀(k:Nat) (P:List (List Int)),(wop q k P).length=k
 |0,_=>rfl
 |k+1,P=>by simp[wop,oB q k]
structure Unr (q : Tab) (k : Nat) (P Q : List (List Int)) : Prop where
  pl : aP (([], Q) : Tab) = true
  st : ep (([], Q) : Tab) = true
  fl : Q.flatten.length = k
  col : q8 P
  same : cR P Q
  p9 : cy 9 9 P
  row : ∀ v, 1 ≤ v → v ≤ (k : Int) → rowOf ([], Q) v = rowOf q v
theorem Unr.step{q:Tab}{k:Nat}{P Q:List (List Int)}(h:Unr q (k+1) P Q): ∃a:Nat,rowOf q ((k+1:Nat):Int)=a∧a<Q.length∧1≤(Q.getD a []).length∧cel Q a ((Q.getD a []).length-1)=(k+1:Nat)∧(Q.getD (a+1) []).length<(Q.getD a []).length∧Unr q k (bM P a).1 (cw Q a):=by
 have hfl:(([],Q):Tab).2.flatten.length=k+1:=h.fl
 obtain⟨a,a1,a2,a3,a4,a5⟩:=E7 h.pl h.st (by omega)
 obtain⟨b1,b2,b3,b4⟩:=FR h.pl h.st (by omega) a1 a2 a3 a4
 simp only at a1 a2 a3 a4 b3
 have hP1:a<P.length:=by rw[h.same.1];exact a1
 refine⟨a,?_,a1,a2,by rw[a3,h.fl],a4,⟨b1,b2,by have:=h.fl;omega,An h.col hP1 (by rw[h.same.2];exact a2) (by rw[h.same.2,h.same.2];exact a4),(yW P a).trans (zU h.same a),yY h.p9 a,fun v v1 v2=> ?_⟩⟩
 ·rw[←h.row _ (by omega) (Int.le_refl _),←a5,hfl]
 ·rw[b4 v v1 (by rw[hfl];omega)]
  exact h.row v v1 (by omega)
end Go.Am.Pu
namespace Go.Am.Pu
def prs(q:Tab):Nat→List (List Int)→List (Int×Int)
 |0,_=> []
 |k+1,P=>(((k+1:Nat):Int),(bM P (rowOf q ((k+1:Nat):Int)).toNat).2)::prs q k (bM P (rowOf q ((k+1:Nat):Int)).toNat).1
theorem ER{rs:List (List Int)}(h:q8 rs){n:Nat}(hn:n<rs.length)(hl:1≤(rs.getD n []).length):Er n (rs.set n ((rs.getD n []).take ((rs.getD n []).length-1))) ((rs.getD n []).getD ((rs.getD n []).length-1) 0):=by
 refine C1 n _ _ (fun i hi=> ?_) (fun i hi=> ?_)
 ·rw[getD_set_ne (by omega),getD_set_ne (by omega)]
  exact h i (by omega)
 ·subst hi
  rw[getD_set_ne (by omega)]
  obtain⟨k1,k2⟩:=h i hn
  exact⟨(rs.getD (i+1) []).length-1,by omega,k2 _ (by omega)⟩
theorem pY{p q:Tab}(hp:aP p=true)(hq:aP q=true)(hs:ep q=true)(ho:outer p=outer q):Unr q q.2.flatten.length p.2 q.2:=by
 have e:(([],q.2):Tab)=q:=Prod.ext (cn hq).symm rfl
 have hl:p.2.length=q.2.length:=by rw[←cN,←cN,ho]
 refine⟨by rw[e];exact hq,by rw[e];exact hs,rfl,iX hp,⟨hl,fun i=> ?_⟩,dt hp,fun v _ _=>by rw[e]⟩
 by_cases hi:i<p.2.length
 ·have a:=fX hp hi
  have b:=fX hq (show i<q.2.length by omega)
  rw[ho]at a
  omega
 ·rw[cu (xs:=p.2) (by omega),cu (xs:=q.2) (by omega)]
def oF(p q:Tab):List Int×Bool:=if aP p=true∧aP q=true∧ep q=true∧outer p=outer q then(wop q q.2.flatten.length p.2,true)else([],false)
end Go.Am.Pu
end
section
/- Insertion keeps tableaux; where the new cells lie; a tableau from its word. Plain words. -/
namespace Go.Am.Pu
def n6(r:List Int):Prop:= ∀i,i+1<r.length→r.getD i 0≤r.getD (i+1) 0
theorem n6.le{r:List Int}(h:n6 r): ∀(d i:Nat),i+d<r.length→r.getD i 0≤r.getD (i+d) 0
 |0,i,_=>Int.le_refl _
 |d+1,i,hi=>by
  have a:=n6.le h d i (by omega)
  have b:=h (i+d) (by omega)
  rw[show i+(d+1)=i+d+1 by omega]
  omega
theorem n6.mono{r:List Int}(h:n6 r){i j:Nat}(hij:i≤j)(hj:j<r.length):r.getD i 0≤r.getD j 0:=by
 have:=h.le (j-i) i (by omega)
 rw[show i+(j-i)=j by omega]at this
 exact this
def fst(r:List Int)(x:Int):Nat:=r.findIdx fun n=>decide (x<n)
theorem rL{r:List Int}{x:Int}:fst r x≤r.length:=List.findIdx_le_length
theorem nr{r:List Int}{x:Int}(h:fst r x<r.length):x<r.getD (fst r x) 0:=by
 have:=rf (p:=fun n=>decide (x<n)) h
 exact of_decide_eq_true this
theorem jN{r:List Int}{x:Int}{i:Nat}(h:i<fst r x):r.getD i 0≤x:=by
 have h1:i<r.length:=Nat.lt_of_lt_of_le h rL
 have h2:=List.not_of_lt_findIdx h
 rw[aj h1]
 exact Int.not_lt.1 (of_decide_eq_false h2)
theorem fst_eq{r:List Int}{x:Int}{i:Nat}(h1:i<r.length)(h2:x<r.getD i 0)(h3: ∀j,j<i→r.getD j 0≤x):fst r x=i:=by
 rcases Nat.lt_trichotomy (fst r x) i with h|h|h
 ·have a:=nr (Nat.lt_trans h h1)
  have b:=h3 _ h
  omega
 ·exact h
 ·have:=jN h
  omega
theorem wW{r:List Int}{x:Int}(h: ∀j,j<r.length→r.getD j 0≤x):fst r x=r.length:=by
 refine Nat.le_antisymm rL (Nat.le_of_not_lt fun hlt=> ?_)
 have a:=nr hlt
 have b:=h _ hlt
 omega
theorem ca(r:List Int)(rs:List (List Int))(x:Int):aC (r::rs) x=if fst r x<r.length then(r.set (fst r x) x::(aC rs (r.getD (fst r x) 0)).1,(aC rs (r.getD (fst r x) 0)).2+1)else((r++ [x])::rs,0):=rfl
def Hw(r:List Int):List (List Int)→Prop
 | []=>True
 |s::_=>s.length≤r.length∧ ∀q,q<s.length→r.getD q 0<s.getD q 0
def SSR:List (List Int)→Prop
 | []=>True
 |r::rs=>0<r.length∧n6 r∧Hw r rs∧SSR rs
theorem fN{r:List Int}{i:Nat}(x:Int)(h:i<r.length)(q:Nat):(r.set i x).getD q 0=if q=i then x else r.getD q 0:=by
 by_cases e:q=i
 ·subst e;rw[if_pos rfl,aj (by rw[List.length_set];exact h),List.getElem_set_self]
 ·rw[if_neg e,getD_set_ne (Ne.symm e)]
theorem iz{r:List Int}(x:Int)(q:Nat):(r++ [x]).getD q 0=if q=r.length then x else r.getD q 0:=by
 by_cases h:q<r.length
 ·rw[mj h,if_neg (by omega)]
 ·rw[pW (by omega)]
  by_cases e:q=r.length
  ·rw[if_pos e,e,Nat.sub_self];rfl
  ·rw[if_neg e,cu (by simp;omega),cu (by omega)]
theorem Gu{r:List Int}{x:Int}(h:n6 r)(hf:fst r x<r.length):n6 (r.set (fst r x) x):=by
 intro i hi
 rw[List.length_set]at hi
 rw[fN x hf,fN x hf]
 have h0:=h i hi
 by_cases e1:i=fst r x
 ·rw[if_pos e1,if_neg (by omega)]
  have:=nr hf
  rw[←e1]at this
  omega
 ·rw[if_neg e1]
  by_cases e2:i+1=fst r x
  ·rw[if_pos e2];exact jN (by omega)
  ·rw[if_neg e2];exact h0
theorem GO{r:List Int}{x:Int}(h:n6 r)(hf: ¬fst r x<r.length):n6 (r++ [x]):=by
 intro i hi
 rw[List.length_append,List.length_singleton]at hi
 rw[iz,iz,if_neg (by omega)]
 by_cases e:i+1=r.length
 ·rw[if_pos e]
  have:= @rL r x
  exact jN (by omega)
 ·rw[if_neg e];exact h i (by omega)
theorem Fg{r:List Int}{x:Int}{rs:List (List Int)}(h:n6 r)(hf:fst r x<r.length)(ho:Hw r rs):Hw (r.set (fst r x) x) (aC rs (r.getD (fst r x) 0)).1:=by
 have hy:=nr hf
 have hle: ∀q,q<r.length→(r.set (fst r x) x).getD q 0≤r.getD q 0:=fun q hq=>by
  rw[fN x hf]
  split
  ·next e=>rw[e];omega
  ·exact Int.le_refl _
 have hlow: ∀p,p≤fst r x→(r.set (fst r x) x).getD p 0<r.getD (fst r x) 0:=fun p hp=>by
  rw[fN x hf]
  split
  ·exact hy
  ·have:=jN (r:=r) (x:=x) (i:=p) (by omega)
   omega
 cases rs with
 |nil=>
  show([r.getD (fst r x) 0]:List Int).length≤_∧_
  refine⟨by rw[List.length_set];simp;omega,fun q hq=> ?_⟩
  have e:q=0:=by simp at hq;exact hq
  subst e
  exact hlow 0 (by omega)
 |cons s rs=>
  obtain⟨o1,o2⟩:=ho
  have hp:fst s (r.getD (fst r x) 0)≤fst r x:=by
   refine Nat.le_of_not_lt fun hlt=> ?_
   have hs:fst r x<s.length:=Nat.lt_of_lt_of_le hlt rL
   have a:=jN hlt
   have b:=o2 _ hs
   omega
  rw[ca]
  by_cases c:fst s (r.getD (fst r x) 0)<s.length
  ·rw[if_pos c]
   refine⟨by rw[List.length_set,List.length_set];exact o1,fun q hq=> ?_⟩
   rw[List.length_set]at hq
   rw[fN (r:=s) _ c]
   split
   ·next e=>rw[e];exact hlow _ hp
   ·have a:=hle q (by omega)
    have b:=o2 q hq
    omega
  ·rw[if_neg c]
   have hsl:fst s (r.getD (fst r x) 0)=s.length:=Nat.le_antisymm rL (Nat.le_of_not_lt c)
   refine⟨by rw[List.length_set,List.length_append,List.length_singleton];omega,fun q hq=> ?_⟩
   rw[List.length_append,List.length_singleton]at hq
   rw[iz]
   split
   ·next e=>rw[e];exact hlow _ (by omega)
   ·have a:=hle q (by omega)
    have b:=o2 q (by omega)
    omega
theorem vw: ∀(rs:List (List Int)) (x:Int),SSR rs→SSR (aC rs x).1
 | [],x,_=>⟨by simp,fun i hi=>by simp at hi,trivial,trivial⟩
 |r::rs,x,h=>by
  obtain⟨h1,h2,h3,h4⟩:=h
  rw[ca]
  split
  ·next c=>exact⟨by rw[List.length_set];exact h1,Gu h2 c,Fg h2 c h3,vw rs _ h4⟩
  ·next c=>
   refine⟨by simp,GO h2 c,?_,h4⟩
   cases rs with
   |nil=>trivial
   |cons s rs=>
    obtain⟨o1,o2⟩:=h3
    refine⟨by rw[List.length_append];omega,fun q hq=> ?_⟩
    rw[iz,if_neg (by omega)]
    exact o2 q hq
theorem Dm: ∀(rs:List (List Int)) (x y:Int),SSR rs→x≤y→(aC (aC rs x).1 y).2≤(aC rs x).2
 | [],x,y,_,hxy=>by
  show(aC ([x]:: []) y).2≤0
  rw[ca,if_neg]
  ·exact Nat.le_refl _
  ·intro hlt
   have:=nr hlt
   have e:fst [x] y=0:=by simp at hlt;exact hlt
   rw[e]at this
   have:y<x:=this
   omega
 |r::rs,x,y,h,hxy=>by
  obtain⟨h1,h2,h3,h4⟩:=h
  rw[ca]
  by_cases c:fst r x<r.length
  ·rw[if_pos c]
   simp only
   rw[ca]
   by_cases c2:fst (r.set (fst r x) x) y<(r.set (fst r x) x).length
   ·rw[if_pos c2]
    simp only
    have hgt:fst r x<fst (r.set (fst r x) x) y:=by
     refine Nat.lt_of_not_le fun hle=> ?_
     have a:=nr c2
     rw[fN x c]at a
     split at a
     ·omega
     ·next e=>
      have:=jN (r:=r) (x:=x) (i:=fst (r.set (fst r x) x) y) (by omega)
      omega
    have hl:=c2
    rw[List.length_set]at hl
    have hv:(r.set (fst r x) x).getD (fst (r.set (fst r x) x) y) 0=r.getD (fst (r.set (fst r x) x) y) 0:=by rw[fN x c,if_neg (by omega)]
    rw[hv]
    have:=Dm rs (r.getD (fst r x) 0) (r.getD (fst (r.set (fst r x) x) y) 0) h4 (h2.mono (by omega) hl)
    omega
   ·rw[if_neg c2];exact Nat.zero_le _
  ·rw[if_neg c]
   simp only
   rw[ca,if_neg]
   ·exact Nat.le_refl _
   ·rw[wW (fun j hj=> ?_)]
    ·exact Nat.lt_irrefl _
    ·rw[iz]
     split
     ·exact hxy
     ·rw[List.length_append,List.length_singleton]at hj
      have:= @rL r x
      have:=jN (r:=r) (x:=x) (i:=j) (by omega)
      omega
theorem DB: ∀(rs:List (List Int)) (x y:Int),SSR rs→y<x→(aC rs x).2<(aC (aC rs x).1 y).2
 | [],x,y,_,hxy=>by
  show 0<(aC ([x]:: []) y).2
  rw[ca,if_pos]
  ·exact Nat.succ_pos _
  ·rw[fst_eq (i:=0) (by simp) hxy (fun j hj=>by omega)];simp
 |r::rs,x,y,h,hxy=>by
  obtain⟨h1,h2,h3,h4⟩:=h
  rw[ca]
  by_cases c:fst r x<r.length
  ·rw[if_pos c]
   simp only
   rw[ca]
   have hle:fst (r.set (fst r x) x) y≤fst r x:=by
    refine Nat.le_of_not_lt fun hlt=> ?_
    have:=jN hlt
    rw[fN x c,if_pos rfl]at this
    omega
   have c2:fst (r.set (fst r x) x) y<(r.set (fst r x) x).length:=by rw[List.length_set];omega
   rw[if_pos c2]
   simp only
   have hv:(r.set (fst r x) x).getD (fst (r.set (fst r x) x) y) 0<r.getD (fst r x) 0:=by
    have hb:=nr c
    rw[fN x c]
    split
    ·exact hb
    ·have:=jN (r:=r) (x:=x) (i:=fst (r.set (fst r x) x) y) (by omega)
     omega
   have:=DB rs (r.getD (fst r x) 0) _ h4 hv
   omega
  ·rw[if_neg c]
   simp only
   rw[ca,if_pos]
   ·exact Nat.succ_pos _
   ·have hle:fst (r++ [x]) y≤r.length:=by
     refine Nat.le_of_not_lt fun hlt=> ?_
     have:=jN hlt
     rw[iz,if_pos rfl]at this
     omega
    rw[List.length_append,List.length_singleton];omega
end Go.Am.Pu
end
section
/- Plain tableaux, row by row; a tableau from its word; words inserted. Plain words. -/
namespace Go.Am.Pu
theorem sD: ∀{rs:List (List Int)},SSR rs→ ∀r,r<rs.length→0<(rs.getD r []).length∧n6 (rs.getD r [])
 |r::rs,h,0,_=>⟨h.1,h.2.1⟩
 |r::rs,h,q+1,hq=>sD h.2.2.2 q (by simpa using hq)
theorem qA: ∀{rs:List (List Int)},SSR rs→q8 rs
 | [],_,i,hi=>by simp at hi
 | [r],_,i,hi=>by simp at hi
 |r::s::rs,h,0,_=>h.2.2.1
 |r::s::rs,h,i+1,hi=>qA h.2.2.2 i (by simpa using hi)
theorem p0: ∀{rs:List (List Int)},(∀r,r<rs.length→0<(rs.getD r []).length∧n6 (rs.getD r []))→q8 rs→SSR rs
 | [],_,_=>trivial
 |r::rs,h1,h2=>by
  refine⟨(h1 0 (by simp)).1,(h1 0 (by simp)).2,?_,p0 (fun q hq=>h1 (q+1) (by simpa using hq)) (fun i hi=>h2 (i+1) (by simpa using hi))⟩
  cases rs with
  |nil=>trivial
  |cons s rs=>exact h2 0 (by simp)
theorem lW{t:Tab}(h:aP t=true):SSR t.2:=by
 refine p0 (fun r hr=>⟨oz h hr,fun i hi=> ?_⟩) (iX h)
 exact(eV h).2 r i hr hi
theorem qD(rs:List (List Int)){i:Nat}(h:i<rs.length):(outer (([],rs):Tab)).getD i 0=(rs.getD i []).length:=by
 have:=fU [] rs 0 i h
 unfold outer
 rw[this]
 simp
theorem og{rs:List (List Int)}(h:SSR rs)(hn: ∀x∈rs.flatten,1≤x∧x≤9)(h9:rs.flatten.length≤9):aP (([],rs):Tab)=true:=by
 have hr:=fun r hr=>sD h r hr
 have hc:=qA h
 have hrl: ∀r,r<rs.length→(rs.getD r []).length≤9:=fun r h1=>by
  have:=wu (rs:=rs) (r:=rs.getD r []) (by rw[aj h1];exact List.getElem_mem h1)
  omega
 refine pA rfl ?_ (fun r x h1 h2=>hn _ (gz h1 h2)) (fun r x h1 h2=>(hr r h1).2 x h2) (fun r x h1 h2=>(hc r h1).2 x h2)
 have hs:dA (outer (([],rs):Tab))=rs.flatten.length:=qw [] rs 0 fun q _=>by simp
 refine oL _ 9 0 (fun x hx=> ?_) (fun h0=> ?_) (fun i hi=> ?_) (by omega)
 ·obtain⟨i,hi,rfl⟩:=List.getElem_of_mem hx
  have hi':i<rs.length:=by rw[cN]at hi;exact hi
  rw[←aj hi 0,qD rs hi']
  have:=(hr i hi').1
  omega
 ·have h0':0<rs.length:=by rw[cN]at h0;exact h0
  rw[qD rs h0']
  have:=hrl 0 h0'
  omega
 ·have hi':i+1<rs.length:=by rw[cN]at hi;exact hi
  rw[qD rs hi',qD rs (by omega)]
  have:=(hc i hi').1
  omega
theorem lX: ∀(rs:List (List Int)) (x z:Int),z∈(aC rs x).1.flatten→z=x∨z∈rs.flatten
 | [],x,z,h=>by simp[aC]at h;exact .inl h
 |r::rs,x,z,h=>by
  rw[ca]at h
  split at h
  ·next c=>
   simp only[List.flatten_cons,List.mem_append]at h⊢
   rcases h with h|h
   ·rcases List.mem_or_eq_of_mem_set h with h|h
    ·exact .inr (.inl h)
    ·exact .inl h
   ·rcases lX rs _ z h with h|h
    ·right;left
     rw[h,aj c]
     exact List.getElem_mem c
    ·exact .inr (.inr h)
  ·simp only[List.flatten_cons,List.mem_append,List.mem_singleton]at h⊢
   rcases h with(h|h)|h
   ·exact .inr (.inl h)
   ·exact .inl h
   ·exact .inr (.inr h)
theorem zP: ∀(rs:List (List Int)) (x:Int),(aC rs x).1.flatten.length=rs.flatten.length+1
 | [],x=>by simp[aC]
 |r::rs,x=>by
  rw[ca]
  split
  ·have:=zP rs (r.getD (fst r x) 0)
   simp only[List.flatten_cons,List.length_append,List.length_set]
   omega
  ·simp only[List.flatten_cons,List.length_append,List.length_singleton]
   omega
theorem n9: ∀(rs:List (List Int)) (x:Int),(aC rs x).2≤rs.length∧((aC rs x).1.length=if(aC rs x).2=rs.length then rs.length+1 else rs.length)∧ ∀i,((aC rs x).1.getD i []).length=if i=(aC rs x).2 then(rs.getD i []).length+1 else(rs.getD i []).length
 | [],x=>by
  refine⟨Nat.le_refl _,rfl,fun i=> ?_⟩
  cases i with
  |zero=>rfl
  |succ i=>simp[aC]
 |r::rs,x=>by
  rw[ca]
  split
  ·next c=>
   obtain⟨a,b,d⟩:=n9 rs (r.getD (fst r x) 0)
   refine⟨by simp only[List.length_cons];omega,?_,fun i=> ?_⟩
   ·simp only[List.length_cons,b,Nat.add_right_cancel_iff]
    split<;>rfl
   ·cases i with
    |zero=>simp
    |succ i=>
     have:=d i
     simp only[Nat.add_right_cancel_iff]
     exact this
  ·refine⟨Nat.zero_le _,by simp,fun i=> ?_⟩
   cases i with
   |zero=>simp
   |succ i=>simp
def dx:List Int→List (List Int)→List (List Int)
 | [],P=>P
 |x::w,P=>dx w (aC P x).1
theorem j7: ∀(v w:List Int) (P:List (List Int)),dx (v++w) P=dx w (dx v P)
 | [],_,_=>rfl
 |x::v,w,P=>j7 v w _
end Go.Am.Pu
end
section
/- The recording tableau is standard, and its descents are the word's. Plain words. -/
namespace Go.Am.Pu
def eF(Q:List (List Int))(a:Nat)(v:Int):List (List Int):=if a=Q.length then Q++ [[v]]else Q.set a (Q.getD a []++ [v])
theorem qn{Q:List (List Int)}{a:Nat}(v:Int)(ha:a≤Q.length)(i:Nat):(eF Q a v).getD i []=if i=a then Q.getD a []++ [v]else Q.getD i []:=by
 unfold eF
 by_cases e:a=Q.length
 ·rw[if_pos e]
  by_cases h:i<Q.length
  ·rw[if_neg (by omega)]
   simp only[List.getD_eq_getElem?_getD,List.getElem?_append_left h]
  ·by_cases e2:i=a
   ·rw[if_pos e2,e2,e,cu (xs:=Q) (Nat.le_refl _)]
    simp
   ·rw[if_neg e2,cu (xs:=Q) (by omega),cu (by rw[List.length_append,List.length_singleton];omega)]
 ·rw[if_neg e]
  by_cases e2:i=a
  ·subst e2;rw[if_pos rfl,aj (by rw[List.length_set];omega),List.getElem_set_self]
  ·rw[if_neg e2,getD_set_ne (Ne.symm e2)]
theorem qy{Q:List (List Int)}{a:Nat}(v:Int):(eF Q a v).length=if a=Q.length then Q.length+1 else Q.length:=by
 unfold eF
 split
 ·rw[List.length_append,List.length_singleton]
 ·rw[List.length_set]
theorem Ce{Q:List (List Int)}{a:Nat}(v:Int)(ha:a≤Q.length):(eF Q a v).flatten.length=Q.flatten.length+1:=by
 unfold eF
 split
 ·simp
 ·next e=>
  have: ∀(Q:List (List Int)) (a:Nat),a<Q.length→(Q.set a (Q.getD a []++ [v])).flatten.length=Q.flatten.length+1:=by
   intro Q
   induction Q with
   |nil=>intro a h;simp at h
   |cons r rs ih=>
    intro a h
    cases a with
    |zero=>simp;omega
    |succ a=>
     have:=ih a (by simpa using h)
     simp only[List.set_cons_succ,List.getD_cons_succ,List.flatten_cons,List.length_append,this]
     omega
  exact this Q a (by omega)
theorem F9{Q P:List (List Int)}{a k:Nat}(hp:aP (([],Q):Tab)=true)(hs:ep (([],Q):Tab)=true)(hk:Q.flatten.length=k)(h9:k+1≤9)(hP:SSR P)(ha:a≤Q.length)(hPl:P.length=if a=Q.length then Q.length+1 else Q.length)
  (hl: ∀i,(P.getD i []).length=if i=a then(Q.getD i []).length+1 else(Q.getD i []).length):
  aP (([],eF Q a ((k+1:Nat):Int)):Tab)=true∧ep (([],eF Q a ((k+1:Nat):Int)):Tab)=true∧(eF Q a ((k+1:Nat):Int)).flatten.length=k+1∧cR P (eF Q a ((k+1:Nat):Int))∧
   rowOf ([],eF Q a ((k+1:Nat):Int)) ((k+1:Nat):Int)=a∧ ∀v,1≤v→v≤(k:Int)→rowOf ([],eF Q a ((k+1:Nat):Int)) v=rowOf ([],Q) v:=by
 have hget:=qn ((k+1:Nat):Int) ha
 have hlen:= @qy Q a ((k+1:Nat):Int)
 have hfl:=Ce ((k+1:Nat):Int) ha
 generalize hN:eF Q a ((k+1:Nat):Int)=N at*
 have hNl: ∀i,(N.getD i []).length=if i=a then(Q.getD i []).length+1 else(Q.getD i []).length:=fun i=>by
  rw[hget]
  split
  ·next e=>rw[e,List.length_append,List.length_singleton]
  ·rfl
 have hsame:cR P N:=⟨by rw[hPl,hlen],fun i=>by rw[hl,hNl]⟩
 have hcel: ∀r x,cel N r x=if r=a∧x=(Q.getD a []).length then((k+1:Nat):Int)else cel Q r x:=fun r x=>by
  unfold cel
  rw[hget]
  by_cases e:r=a
  ·subst e
   rw[if_pos rfl,iz]
   by_cases e2:x=(Q.getD r []).length
   ·rw[if_pos e2,if_pos ⟨rfl,e2⟩]
   ·rw[if_neg e2,if_neg (fun h=>e2 h.2)]
  ·rw[if_neg e,if_neg (fun h=>e h.1)]
 have hb:=(fH hp hs).2
 simp only at hb
 rw[hk]at hb
 have hQ: ∀{r x:Nat},x<(Q.getD r []).length→1≤cel Q r x∧cel Q r x≤(k:Int):=fun{r x} hx=>by
  have hr:r<Q.length:=Nat.lt_of_not_le fun hle=>by rw[cu hle]at hx;simp at hx
  exact hb _ (gz hr hx)
 obtain⟨q1,q2⟩:=eV hp
 have q3:=iX hp
 simp only at q2 q3
 have pc:=qA hP
 have pr:=fun r hr=>sD hP r hr
 have hqlen: ∀i,(Q.getD (i+1) []).length≤(Q.getD i []).length:=fun i=>by
  by_cases h:i+1<Q.length
  ·exact(q3 i h).1
  ·rw[cu (by omega)];exact Nat.zero_le _
 have hssr:SSR N:=by
  refine p0 (fun r hr=>⟨?_,fun x hx=> ?_⟩) (fun i hi=> ?_)
  ·rw[←hsame.2];exact(pr r (by rw[hsame.1];exact hr)).1
  ·have e1:=hcel r x
   have e2:=hcel r (x+1)
   unfold cel at e1 e2
   rw[e1,e2]
   rw[hNl]at hx
   have hxQ:x<(Q.getD r []).length:=by
    split at hx<;>omega
   rw[if_neg (fun h=>by rw[h.1]at hxQ;omega)]
   have hv:=hQ hxQ
   unfold cel at hv
   by_cases e:r=a∧x+1=(Q.getD a []).length
   ·rw[if_pos e];omega
   ·rw[if_neg e]
    have hx1:x+1<(Q.getD r []).length:=by
     split at hx
     ·next e3=>
      have: ¬x+1=(Q.getD a []).length:=fun h=>e ⟨e3,h⟩
      rw[←e3]at this
      omega
     ·exact hx
    have hr:r<Q.length:=Nat.lt_of_not_le fun hle=>by rw[cu hle]at hx1;simp at hx1
    exact q2 r x hr hx1
  ·obtain⟨c1,c2⟩:=pc i (by rw[hsame.1];exact hi)
   rw[hsame.2,hsame.2]at c1
   refine⟨c1,fun x hx=> ?_⟩
   have e1:=hcel i x
   have e2:=hcel (i+1) x
   unfold cel at e1 e2
   rw[e1,e2]
   rw[hNl]at hx
   have hxi:x<(N.getD i []).length:=by
    have:=hNl (i+1)
    omega
   rw[hNl]at hxi
   by_cases e:i+1=a∧x=(Q.getD a []).length
   ·rw[if_pos e,if_neg (fun h=>by omega)]
    have hxQ:x<(Q.getD i []).length:=by rw[if_neg (by omega)]at hxi;exact hxi
    have hv:=hQ hxQ
    unfold cel at hv
    omega
   ·rw[if_neg e]
    have hx1:x<(Q.getD (i+1) []).length:=by
     split at hx
     ·next e3=>
      have: ¬x=(Q.getD a []).length:=fun h=>e ⟨e3,h⟩
      rw[←e3]at this
      omega
     ·exact hx
    have hxQ:x<(Q.getD i []).length:=Nat.lt_of_lt_of_le hx1 (hqlen i)
    rw[if_neg (fun h=>by rw[h.1]at hxQ;omega)]
    have hr:i+1<Q.length:=Nat.lt_of_not_le fun hle=>by rw[cu hle]at hx1;simp at hx1
    exact(q3 i hr).2 x hx1
 have hflk:N.flatten.length=k+1:=by omega
 have hmem: ∀z∈N.flatten,1≤z∧z≤9:=fun z hz=>by
  obtain⟨r,x,hr,hx,e⟩:=k9 hz
  rw[←e,hcel]
  split
  ·omega
  ·next hc=>
   rw[hNl]at hx
   have hxQ:x<(Q.getD r []).length:=by
    split at hx
    ·next e3=>
     have: ¬x=(Q.getD a []).length:=fun h=>hc ⟨e3,h⟩
     rw[←e3]at this
     omega
    ·exact hx
   have:=hQ hxQ
   omega
 have hpl:=og hssr hmem (by omega)
 have haN:a<N.length:=by
  rw[hlen]
  split<;>omega
 have hxN:(Q.getD a []).length<(N.getD a []).length:=by rw[hNl,if_pos rfl];omega
 have hnew:cel N a (Q.getD a []).length=((k+1:Nat):Int):=by rw[hcel,if_pos ⟨rfl,rfl⟩]
 have hold: ∀{r x:Nat},x<(Q.getD r []).length→r<N.length∧x<(N.getD r []).length∧cel N r x=cel Q r x:=fun{r x} hx=>by
  have hx':x<(N.getD r []).length:=by
   rw[hNl]
   split<;>omega
  refine⟨Nat.lt_of_not_le fun hle=>by rw[cu hle]at hx';simp at hx',hx',?_⟩
  rw[hcel,if_neg (fun h=>by rw[h.1]at hx;omega)]
 have ho:kZ Q.flatten=true:=by
  have:=hs
  simp only[ep,Bool.and_eq_true]at this
  exact this.2
 have hst:ep (([],N):Tab)=true:=by
  have hp':=hpl
  simp only[aP,Bool.and_eq_true]at hp'
  simp only[ep,Bool.and_eq_true]
  refine⟨hp'.1,kp.2 fun v hv=> ?_⟩
  rw[hflk,gk]at hv
  by_cases e:v=((k+1:Nat):Int)
  ·rw[e,←hnew];exact gz haN hxN
  ·obtain⟨r,x,hr,hx,e2⟩:=k9 (kp.1 ho v (gk.2 (by omega)))
   obtain⟨d1,d2,d3⟩:=hold hx
   rw[←e2,←d3]
   exact gz d1 d2
 refine⟨hpl,hst,hflk,hsame,jd hpl hst haN hxN hnew,fun v v1 v2=> ?_⟩
 obtain⟨r,x,hr,hx,e2⟩:=k9 (kp.1 ho v (gk.2 (by omega)))
 obtain⟨d1,d2,d3⟩:=hold hx
 rw[jd hpl hst d1 d2 (by rw[d3];exact e2),jd hp hs hr hx e2]
def eO:List Int→List (List Int)→List (List Int)→Nat→List (List Int)
 | [],_,Q,_=>Q
 |x::w,P,Q,k=>eO w (aC P x).1 (eF Q (aC P x).2 ((k+1:Nat):Int)) (k+1)
def m9:List Int→List (List Int)→List Nat
 | [],_=> []
 |x::w,P=>(aC P x).2::m9 w (aC P x).1
structure Ins (P Q : List (List Int)) (k : Nat) : Prop where
  ssr : SSR P
  num : ∀ x ∈ P.flatten, 1 ≤ x ∧ x ≤ 9
  fl : P.flatten.length = k
  pl : aP (([], Q) : Tab) = true
  st : ep (([], Q) : Tab) = true
  qf : Q.flatten.length = k
  same : cR P Q
theorem Ins.step{P Q:List (List Int)}{k:Nat}{x:Int}(h:Ins P Q k)(hx:1≤x∧x≤9)(h9:k+1≤9):
  Ins (aC P x).1 (eF Q (aC P x).2 ((k+1:Nat):Int)) (k+1)∧rowOf ([],eF Q (aC P x).2 ((k+1:Nat):Int)) ((k+1:Nat):Int)=((aC P x).2:Nat)∧ ∀v,1≤v→v≤(k:Int)→rowOf ([],eF Q (aC P x).2 ((k+1:Nat):Int)) v=rowOf ([],Q) v:=by
 obtain⟨a,b,c⟩:=n9 P x
 have hs:=vw P x h.ssr
 obtain⟨d1,d2,d3,d4,d5,d6⟩:=F9 (a:=(aC P x).2) h.pl h.st h.qf h9 hs (by rw[←h.same.1];exact a) (by rw[←h.same.1];exact b) (fun i=>by rw[←h.same.2];exact c i)
 refine⟨⟨hs,fun z hz=> ?_,by rw[zP,h.fl],d1,d2,d3,d4⟩,d5,d6⟩
 rcases lX P x z hz with e|e
 ·rw[e];exact hx
 ·exact h.num z e
theorem Ins.nil:Ins [] [] 0:=⟨trivial,fun x hx=>by simp at hx,rfl,rfl,rfl,rfl,⟨rfl,fun _=>rfl⟩⟩
theorem Ins.word: ∀(w:List Int) {P Q:List (List Int)} {k:Nat},Ins P Q k→(∀x∈w,1≤x∧x≤9)→k+w.length≤9→
  Ins (dx w P) (eO w P Q k) (k+w.length)∧(∀v,1≤v→v≤(k:Int)→rowOf ([],eO w P Q k) v=rowOf ([],Q) v)∧ ∀i,i<w.length→rowOf ([],eO w P Q k) ((k+i+1:Nat):Int)=((m9 w P).getD i 0:Nat)
 | [],P,Q,k,h,_,_=>⟨h,fun _ _ _=>rfl,fun i hi=>by simp at hi⟩
 |x::w,P,Q,k,h,hx,hl=>by
  simp only[List.length_cons]at hl
  obtain⟨a,b,c⟩:=h.step (hx x (List.mem_cons_self ..)) (by omega)
  obtain⟨d,e,f⟩:=Ins.word w a (fun z hz=>hx z (List.mem_cons_of_mem _ hz)) (by omega)
  refine⟨by rw[List.length_cons,show k+(w.length+1)=k+1+w.length by omega];exact d,fun v v1 v2=> ?_,fun i hi=> ?_⟩
  ·show rowOf ([],eO w _ _ (k+1)) v=_
   rw[e v v1 (by omega)]
   exact c v v1 v2
  ·show rowOf ([],eO w _ _ (k+1)) _=_
   cases i with
   |zero=>
    have:=e ((k+1:Nat):Int) (by omega) (Int.le_refl _)
    rw[Nat.add_zero,this,b]
    rfl
   |succ i=>
    have:=f i (by simpa using hi)
    rw[show k+1+i+1=k+(i+1)+1 by omega]at this
    exact this
theorem rh: ∀(w:List Int) (P:List (List Int)),SSR P→ ∀i,i+1<w.length→((m9 w P).getD i 0<(m9 w P).getD (i+1) 0↔w.getD (i+1) 0<w.getD i 0)
 | [],P,_,i,hi=>by simp at hi
 | [x],P,_,i,hi=>by simp at hi
 |x::y::w,P,h,0,_=>by
  show(aC P x).2<(aC (aC P x).1 y).2↔y<x
  constructor
  ·intro hlt
   refine Int.not_le.1 fun hle=> ?_
   have:=Dm P x y h hle
   omega
  ·exact DB P x y h
 |x::y::w,P,h,i+1,hi=>rh (y::w) (aC P x).1 (vw P x h) i (by simpa using hi)
end Go.Am.Pu
end
section
/- Words, and what inserting makes of them. Plain words. -/
namespace Go.Am.Pu
def isWord(w:List Int):Bool:=decide (w.length≤9)&&w.all fun n=>within n 1 9
theorem pL{w:List Int}(h:isWord w=true):w.length≤9∧ ∀x∈w,1≤x∧x≤9:=by
 simp only[isWord,Bool.and_eq_true,decide_eq_true_eq,List.all_eq_true,within]at h
 exact⟨h.1,fun x hx=>h.2 x hx⟩
def mF(w:List Int):Tab×Bool:=if isWord w=true then(([],eO w [] [] 0),true)else(([],[]),false)
theorem pM{w:List Int}(h:isWord w=true):Ins (dx w []) (eO w [] [] 0) w.length∧ ∀i,i<w.length→rowOf ([],eO w [] [] 0) ((i+1:Nat):Int)=((m9 w []).getD i 0:Nat):=by
 obtain⟨h1,h2⟩:=pL h
 obtain⟨a,_,c⟩:=Ins.word w Ins.nil h2 (by omega)
 rw[Nat.zero_add]at a
 refine⟨a,fun i hi=> ?_⟩
 have:=c i hi
 rw[Nat.zero_add]at this
 exact this
theorem tL{P Q:List (List Int)}{k:Nat}(h:Ins P Q k)(h9:k≤9):aP (([],P):Tab)=true:=og h.ssr h.num (by rw[h.fl];exact h9)
theorem w6{w:List Int}(h:isWord w=true):aP (mF w).1=true∧ep (mF w).1=true∧(mF w).1.2.flatten.length=w.length:=by
 unfold mF
 rw[if_pos h]
 have a:=(pM h).1
 exact⟨a.pl,a.st,a.qf⟩
theorem DE{t:Tab}(h:aP t=true):gC t:=by
 have hr:=dt h
 exact⟨by rw[cn h];simp,by have:=hr.1;omega,fun r hm=>by have:=hr.2 r hm;omega⟩
end Go.Am.Pu
end
section
/- Standardizing a tableau: the cells numbered by number and column. Plain words. -/
namespace Go.Am.Pu
def fB(Q:List (List Int))(v:Int)(c r:Nat)(s:Nat×List (List Int)):Nat×List (List Int):=
 if c<(Q.getD r []).length∧cel Q r c=v then(s.1+1,lI s.2 r c ((s.1+1:Nat):Int))else s
def lQ(Q:List (List Int))(v:Int)(c:Nat):Nat→Nat→Nat×List (List Int)→Nat×List (List Int)
 |0,_,s=>s
 |m+1,r,s=>lQ Q v c m (r+1) (fB Q v c r s)
def oO(Q:List (List Int))(v:Int):Nat→Nat→Nat×List (List Int)→Nat×List (List Int)
 |0,_,s=>s
 |m+1,c,s=>oO Q v m (c+1) (lQ Q v c Q.length 0 s)
def qQ(Q:List (List Int)):Nat→Int→Nat×List (List Int)→Nat×List (List Int)
 |0,_,s=>s
 |m+1,v,s=>qQ Q m (v+1) (oO Q v 9 0 s)
def iw(Q:List (List Int)):List (List Int):=(qQ Q 9 1 (0,Q)).2
structure Num (Q : List (List Int)) (D : Nat → Nat → Prop) (s : Nat × List (List Int)) (F : List Int) : Prop where
  same : cR s.2 Q
  len : F.length = s.1
  val : ∀ r x, r < Q.length → x < (Q.getD r []).length → D r x → ∃ k, k < s.1 ∧ cel s.2 r x = ((k + 1 : Nat) : Int) ∧ F.getD k 0 = cel Q r x
  inj : ∀ r x r' x', r < Q.length → x < (Q.getD r []).length → D r x → r' < Q.length → x' < (Q.getD r' []).length → D r' x' → cel s.2 r x = cel s.2 r' x' → r = r' ∧ x = x'
  all : ∀ k, k < s.1 → ∃ r x, r < Q.length ∧ x < (Q.getD r []).length ∧ D r x ∧ cel s.2 r x = ((k + 1 : Nat) : Int)
  lex : ∀ r x r' x', r < Q.length → x < (Q.getD r []).length → D r x → r' < Q.length → x' < (Q.getD r' []).length → D r' x' → cel s.2 r x < cel s.2 r' x' → cel Q r x < cel Q r' x' ∨ (cel Q r x = cel Q r' x' ∧ x ≤ x')
theorem Num.congr{Q:List (List Int)}{D D':Nat→Nat→Prop}{s:Nat×List (List Int)}{F:List Int}(h:Num Q D s F)(e: ∀r x,r<Q.length→x<(Q.getD r []).length→(D r x↔D' r x)):Num Q D' s F:=
 ⟨h.same,h.len,fun r x a b d=>h.val r x a b ((e r x a b).2 d),fun r x r' x' a b d a' b' d'=>h.inj r x r' x' a b ((e r x a b).2 d) a' b' ((e r' x' a' b').2 d'),
  fun k hk=>by obtain⟨r,x,a,b,d,q⟩:=h.all k hk;exact⟨r,x,a,b,(e r x a b).1 d,q⟩,fun r x r' x' a b d a' b' d'=>h.lex r x r' x' a b ((e r x a b).2 d) a' b' ((e r' x' a' b').2 d')⟩
def Dn(Q:List (List Int))(v:Int)(c r:Nat)(a i:Nat):Prop:=cel Q a i<v∨(cel Q a i=v∧(i<c∨(i=c∧a<r)))
theorem Num.step{Q:List (List Int)}{v:Int}{c r:Nat}{s:Nat×List (List Int)}{F:List Int}(h:Num Q (Dn Q v c r) s F)(hr:r<Q.length): ∃F',Num Q (Dn Q v c (r+1)) (fB Q v c r s) F':=by
 unfold fB
 split
 ·next hc=>
  obtain⟨hc,hv⟩:=hc
  have hnd: ¬Dn Q v c r r c:=by unfold Dn;omega
  have hsr:r<s.2.length:=by rw[h.same.1];exact hr
  have hsc:c<(s.2.getD r []).length:=by rw[h.same.2];exact hc
  have new: ∀a i,Dn Q v c (r+1) a i→(a=r∧i=c)∨(¬(a=r∧i=c)∧Dn Q v c r a i):=fun a i d=>by
   by_cases e:a=r∧i=c
   ·exact .inl e
   ·refine .inr ⟨e,?_⟩
    unfold Dn at d⊢
    omega
  have at1:=lf (g:=s.2) (r:=r) (c:=c) ((s.1+1:Nat):Int) hsr hsc
  have ne1: ∀a i,¬(a=r∧i=c)→cel (lI s.2 r c ((s.1+1:Nat):Int)) a i=cel s.2 a i:=fun a i e=>jE _ e
  refine⟨F++ [v],⟨⟨by rw[ja];exact h.same.1,fun i=>by rw[cG];exact h.same.2 i⟩,by rw[List.length_append,List.length_singleton,h.len],?_,?_,?_,?_⟩⟩
  ·intro a i ha hi d
   rcases new a i d with⟨rfl,rfl⟩|⟨e,d'⟩
   ·refine⟨s.1,by simp only;omega,at1,?_⟩
    rw[hv,←h.len,List.getD_eq_getElem?_getD]
    simp
   ·obtain⟨k,k1,k2,k3⟩:=h.val a i ha hi d'
    refine⟨k,by simp only;omega,by rw[ne1 a i e];exact k2,?_⟩
    rw[←k3,List.getD_eq_getElem?_getD,List.getD_eq_getElem?_getD,List.getElem?_append_left (by rw[h.len];exact k1)]
  ·intro a i b j ha hi d hb hj d' e
   rcases new a i d with⟨rfl,rfl⟩|⟨ea,da⟩
   ·rcases new b j d' with⟨rfl,rfl⟩|⟨eb,db⟩
    ·exact⟨rfl,rfl⟩
    ·obtain⟨k,k1,k2,_⟩:=h.val b j hb hj db
     simp only at e
     rw[at1,ne1 b j eb,k2]at e
     omega
   ·rcases new b j d' with⟨rfl,rfl⟩|⟨eb,db⟩
    ·obtain⟨k,k1,k2,_⟩:=h.val a i ha hi da
     simp only at e
     rw[at1,ne1 a i ea,k2]at e
     omega
    ·simp only at e
     rw[ne1 a i ea,ne1 b j eb]at e
     exact h.inj a i b j ha hi da hb hj db e
  ·intro k hk
   simp only at hk
   by_cases ek:k=s.1
   ·subst ek
    exact⟨r,c,hr,hc,by unfold Dn;omega,at1⟩
   ·obtain⟨a,i,ha,hi,d,e⟩:=h.all k (by omega)
    have hne: ¬(a=r∧i=c):=fun q=>by rw[q.1,q.2]at d;exact hnd d
    exact⟨a,i,ha,hi,by unfold Dn at d⊢;omega,by simp only;rw[ne1 a i hne];exact e⟩
  ·intro a i b j ha hi d hb hj d' e
   simp only at e
   rcases new a i d with⟨rfl,rfl⟩|⟨ea,da⟩
   ·rcases new b j d' with⟨rfl,rfl⟩|⟨eb,db⟩
    ·omega
    ·obtain⟨k,k1,k2,_⟩:=h.val b j hb hj db
     rw[at1,ne1 b j eb,k2]at e
     omega
   ·rcases new b j d' with⟨rfl,rfl⟩|⟨eb,db⟩
    ·unfold Dn at da
     omega
    ·rw[ne1 a i ea,ne1 b j eb]at e
     exact h.lex a i b j ha hi da hb hj db e
 ·next hc=>
  refine⟨F,h.congr fun a i ha hi=> ?_⟩
  unfold Dn
  constructor
  ·intro d;omega
  ·intro d
   by_cases e:a=r∧i=c
   ·obtain⟨rfl,rfl⟩:=e
    have:cel Q a i≠v:=fun q=>hc ⟨hi,q⟩
    omega
   ·omega
theorem Num.lQ{Q:List (List Int)}{v:Int}{c:Nat}: ∀(m r:Nat) {s:Nat×List (List Int)} {F:List Int},r+m=Q.length→Num Q (Dn Q v c r) s F→ ∃F',Num Q (Dn Q v (c+1) 0) (Pu.lQ Q v c m r s) F'
 |0,r,s,F,e,h=>⟨F,h.congr fun a i ha hi=>by unfold Dn;omega⟩
 |m+1,r,s,F,e,h=>by
  obtain⟨F',h'⟩:=h.step (by omega)
  exact Num.lQ m (r+1) (by omega) h'
theorem Num.oO{Q:List (List Int)}{v:Int}(h9:cy 9 9 Q): ∀(m c:Nat) {s:Nat×List (List Int)} {F:List Int},c+m=9→Num Q (Dn Q v c 0) s F→ ∃F',Num Q (Dn Q (v+1) 0 0) (Pu.oO Q v m c s) F'
 |0,c,s,F,e,h=>⟨F,h.congr fun a i ha hi=>by have:=h9.at a;unfold Dn;omega⟩
 |m+1,c,s,F,e,h=>by
  obtain⟨F',h'⟩:=Num.lQ Q.length 0 (by omega) h
  exact Num.oO h9 m (c+1) (by omega) h'
theorem Num.qQ{Q:List (List Int)}(h9:cy 9 9 Q): ∀(m:Nat) (v:Int) {s:Nat×List (List Int)} {F:List Int},Num Q (Dn Q v 0 0) s F→ ∃F',Num Q (Dn Q (v+m) 0 0) (Pu.qQ Q m v s) F'
 |0,v,s,F,h=>⟨F,by rw[show v+((0:Nat):Int)=v by omega];exact h⟩
 |m+1,v,s,F,h=>by
  obtain⟨F',h'⟩:=Num.oO h9 9 0 (by omega) h
  obtain⟨F2,h2⟩:=Num.qQ h9 m (v+1) h'
  refine⟨F2,?_⟩
  rw[show v+((m+1:Nat):Int)=v+1+m by omega]
  exact h2
structure lP (Q X : List (List Int)) (f : Int → Int) : Prop where
  same : cR X Q
  val : ∀ r x, r < X.length → x < (X.getD r []).length → cel Q r x = f (cel X r x)
  lex : ∀ r x r' x', r < X.length → x < (X.getD r []).length → r' < X.length → x' < (X.getD r' []).length → cel X r x < cel X r' x' → cel Q r x < cel Q r' x' ∨ (cel Q r x = cel Q r' x' ∧ x < x')
theorem AQ{X:List (List Int)}(h: ∀r x r' x',r<X.length→x<(X.getD r []).length→r'<X.length→x'<(X.getD r' []).length→cel X r x=cel X r' x'→r=r'∧x=x'):X.flatten.Nodup:=by
 rw[List.Nodup,List.pairwise_flatten]
 constructor
 ·intro l hl
  obtain⟨r,hr,rfl⟩:=List.getElem_of_mem hl
  rw[List.pairwise_iff_getElem]
  intro i j hi hj hij e
  have e1:=aj hr ([]:List Int)
  have:=(h r i r j hr (by rw[e1];exact hi) hr (by rw[e1];exact hj) (by unfold cel;rw[e1,aj hi,aj hj];exact e)).2
  omega
 ·rw[List.pairwise_iff_getElem]
  intro r r' hr hr' hrr x hx y hy e
  obtain⟨i,hi,rfl⟩:=List.getElem_of_mem hx
  obtain⟨j,hj,rfl⟩:=List.getElem_of_mem hy
  have e1:=aj hr ([]:List Int)
  have e2:=aj hr' ([]:List Int)
  have:=(h r i r' j hr (by rw[e1];exact hi) hr' (by rw[e2];exact hj) (by unfold cel;rw[e1,e2,aj hi,aj hj];exact e)).1
  omega
theorem yT{t:Tab}(h:aP t=true){x:Nat}: ∀(d r:Nat),r+d+1<t.2.length→x<(t.2.getD (r+d+1) []).length→cel t.2 r x<cel t.2 (r+d+1) x
 |0,r,hr,hx=>(iX h r hr).2 x hx
 |d+1,r,hr,hx=>by
  have h1:=(iX h (r+d+1) hr)
  have h2:=yT h d r (by omega) (Nat.lt_of_lt_of_le hx h1.1)
  exact Int.lt_trans h2 (h1.2 x hx)
theorem Gr{t:Tab}(h:aP t=true){a b x:Nat}(ha:a<t.2.length)(hxa:x<(t.2.getD a []).length)(hb:b<t.2.length)(hxb:x<(t.2.getD b []).length)(e:cel t.2 a x=cel t.2 b x):a=b:=by
 rcases Nat.lt_trichotomy a b with hl|hl|hl
 ·obtain⟨d,rfl⟩: ∃d,b=a+d+1:=⟨b-a-1,by omega⟩
  have:=yT h (x:=x) d a hb hxb
  omega
 ·exact hl
 ·obtain⟨d,rfl⟩: ∃d,a=b+d+1:=⟨a-b-1,by omega⟩
  have:=yT h (x:=x) d b ha hxa
  omega
theorem Fa{Q:List (List Int)}(h:aP ([],Q)=true): ∃F,Num Q (fun _ _=>True) (qQ Q 9 1 (0,Q)) F:=by
 obtain⟨c1,_⟩:=eV h
 have h0:Num Q (Dn Q 1 0 0) (0,Q) []:=by
  have no: ∀r x,r<Q.length→x<(Q.getD r []).length→ ¬Dn Q 1 0 0 r x:=fun r x a b d=>by
   have:=(c1 r x a b).1
   simp only at this
   unfold Dn at d
   omega
  refine⟨⟨rfl,fun _=>rfl⟩,rfl,fun r x a b d=>absurd d (no r x a b),fun r x _ _ a b d=>absurd d (no r x a b),fun k hk=>absurd hk (Nat.not_lt_zero k),fun r x _ _ a b d=>absurd d (no r x a b)⟩
 obtain⟨F,hF⟩:=Num.qQ (show cy 9 9 Q from dt h) 9 1 h0
 refine⟨F,hF.congr fun r x a b=>⟨fun _=>trivial,fun _=> ?_⟩⟩
 have:cel Q r x≤9:=(c1 r x a b).2
 have e:(1:Int)+((9:Nat):Int)=10:=by omega
 rw[e]
 exact .inl (by omega)
theorem Cm{Q:List (List Int)}{s:Nat×List (List Int)}{F:List Int}(h:Num Q (fun _ _=>True) s F):s.2.flatten.Nodup∧s.2.flatten.length=s.1∧(∀v,v∈s.2.flatten↔v∈nE s.1):=by
 have cell: ∀{r x},r<s.2.length→x<(s.2.getD r []).length→r<Q.length∧x<(Q.getD r []).length:=fun{r x} a b=>⟨by rw[←h.same.1];exact a,by rw[←h.same.2];exact b⟩
 have nd:s.2.flatten.Nodup:=AQ fun r x r' x' a b c d e=>by
  obtain⟨a1,b1⟩:=cell a b
  obtain⟨c1,d1⟩:=cell c d
  exact h.inj r x r' x' a1 b1 trivial c1 d1 trivial e
 have mem: ∀v,v∈s.2.flatten↔v∈nE s.1:=fun v=>by
  constructor
  ·intro hv
   obtain⟨r,x,a,b,rfl⟩:=k9 hv
   obtain⟨a1,b1⟩:=cell a b
   obtain⟨k,k1,k2,_⟩:=h.val r x a1 b1 trivial
   rw[k2,gk]
   omega
  ·intro hv
   rw[gk]at hv
   obtain⟨r,x,a,b,_,e⟩:=h.all (v-1).toNat (by omega)
   have e':v=cel s.2 r x:=by rw[e];omega
   rw[e']
   exact gz (by rw[h.same.1];exact a) (by rw[h.same.2];exact b)
 refine⟨nd,?_,mem⟩
 have:=((List.perm_ext_iff_of_nodup nd (mq s.1)).2 mem).length_eq
 rw[this]
 simp[nE]
theorem jc: ∀{A B:List (List Int)},cR A B→A.flatten.length=B.flatten.length
 | [],[],_=>rfl
 | [],b::B,h=>by have:=h.1;simp at this
 |a::A,[],h=>by have:=h.1;simp at this
 |a::A,b::B,h=>by
  have h0:=h.2 0
  have hs:cR A B:=⟨by have:=h.1;simpa using this,fun i=>by have:=h.2 (i+1);simpa using this⟩
  have:=jc hs
  simp at h0
  simp[h0,this]
theorem vT{Q:List (List Int)}(h:aP ([],Q)=true): ∃F:List Int,aP ([],iw Q)=true∧ep ([],iw Q)=true∧lP Q (iw Q) (fun v=>F.getD (v-1).toNat 0)∧F.Perm Q.flatten∧F.Pairwise (· ≤ ·)∧F.length=Q.flatten.length:=by
 obtain⟨F,hF⟩:=Fa h
 refine⟨F,?_⟩
 unfold iw
 generalize qQ Q 9 1 (0,Q)=s at hF
 obtain⟨n1,n2,n3⟩:=Cm hF
 have hfl:=jc hF.same
 have h9:Q.flatten.length≤9:=gQ h
 obtain⟨c1,c2⟩:=eV h
 have c3:=iX h
 simp only at c1 c2 c3
 have cell: ∀{r x},r<s.2.length→x<(s.2.getD r []).length→r<Q.length∧x<(Q.getD r []).length:=fun{r x} a b=>⟨by rw[←hF.same.1];exact a,by rw[←hF.same.2];exact b⟩
 have val: ∀{r x},r<s.2.length→x<(s.2.getD r []).length→ ∃k,k<s.1∧cel s.2 r x=((k+1:Nat):Int)∧F.getD k 0=cel Q r x:=fun{r x} a b=>hF.val r x (cell a b).1 (cell a b).2 trivial
 have inj: ∀{r x r' x'},r<s.2.length→x<(s.2.getD r []).length→r'<s.2.length→x'<(s.2.getD r' []).length→cel s.2 r x=cel s.2 r' x'→r=r'∧x=x':=fun{r x r' x'} a b c d e=>hF.inj r x r' x' (cell a b).1 (cell a b).2 trivial (cell c d).1 (cell c d).2 trivial e
 have lex: ∀{r x r' x'},r<s.2.length→x<(s.2.getD r []).length→r'<s.2.length→x'<(s.2.getD r' []).length→cel s.2 r x<cel s.2 r' x'→cel Q r x<cel Q r' x'∨(cel Q r x=cel Q r' x'∧x≤x'):=fun{r x r' x'} a b c d e=>hF.lex r x r' x' (cell a b).1 (cell a b).2 trivial (cell c d).1 (cell c d).2 trivial e
 have hout:outer (([],s.2):Tab)=outer (([],Q):Tab):=nx rfl rfl hF.same.1 hF.same.2
 have hpl:aP (([],s.2):Tab)=true:=by
  refine pA rfl (by rw[hout];exact iS h) (fun r x a b=> ?_) (fun r x a b=> ?_) (fun r x a b=> ?_)
  ·obtain⟨k,k1,k2,_⟩:=val a b
   simp only
   rw[k2]
   omega
  ·simp only at a b⊢
   refine Int.not_lt.1 fun hlt=> ?_
   have hx:x<(s.2.getD r []).length:=by omega
   have h1:=c2 r x (cell a b).1 (by have:=(cell a b).2;omega)
   rcases lex a b a hx hlt with q|q
   ·omega
   ·omega
  ·simp only at a b⊢
   have hra:r<s.2.length:=by omega
   have h1:=c3 r (by rw[←hF.same.1];exact a)
   have hbr:x<(s.2.getD r []).length:=by
    have:=(cell a b).2
    rw[hF.same.2]
    omega
   have h2:=h1.2 x (cell a b).2
   refine Int.not_le.1 fun hle=> ?_
   by_cases e:cel s.2 (r+1) x=cel s.2 r x
   ·have:=(inj a b hra hbr e).1
    omega
   ·have hl:=lex a b hra hbr (by omega)
    unfold cel at hl
    omega
 have hst:ep (([],s.2):Tab)=true:=by
  have h':=hpl
  simp only[aP,Bool.and_eq_true]at h'
  simp only[ep,Bool.and_eq_true]
  refine⟨h'.1,?_⟩
  rw[kp]
  intro v hv
  rw[n2]at hv
  exact(n3 v).2 hv
 have hperm:s.2.flatten.Perm (nE s.1):=(List.perm_ext_iff_of_nodup n1 (mq s.1)).2 n3
 have hmap: ∀(A B:List (List Int)) (f:Int→Int),cR A B→(∀r x,r<A.length→x<(A.getD r []).length→cel B r x=f (cel A r x))→B.flatten=A.flatten.map f:=by
  intro A
  induction A with
  |nil=>intro B f hs _;cases B with
   |nil=>rfl
   |cons b B=>have:=hs.1;simp at this
  |cons a A ih=>
   intro B f hs hv
   cases B with
   |nil=>have:=hs.1;simp at this
   |cons b B=>
    have h0:=hs.2 0
    simp only[List.getD_cons_zero]at h0
    have hs':cR A B:=⟨by have:=hs.1;simpa using this,fun i=>by have:=hs.2 (i+1);simpa using this⟩
    have:=ih B f hs' fun r x hr hx=>by
     have:=hv (r+1) x (by simpa using hr) (by simpa using hx)
     unfold cel at this⊢
     simpa using this
    have eb:b=a.map f:=by
     refine List.ext_getElem (by simp[h0]) fun x h1 h2=> ?_
     have hxa:x<a.length:=by omega
     have:=hv 0 x (by simp) (by simpa using hxa)
     unfold cel at this
     simp only[List.getD_cons_zero]at this
     rw[aj h1,aj hxa]at this
     rw[this,List.getElem_map]
    rw[List.flatten_cons,List.flatten_cons,List.map_append,this,eb]
 have hvf: ∀r x,r<s.2.length→x<(s.2.getD r []).length→cel Q r x=F.getD (cel s.2 r x-1).toNat 0:=fun r x a b=>by
  obtain⟨k,k1,k2,k3⟩:=val a b
  rw[k2,←k3]
  congr 1
  omega
 have hQf:=hmap s.2 Q (fun v=>F.getD (v-1).toNat 0) hF.same hvf
 have hF2:(nE s.1).map (fun v=>F.getD (v-1).toNat 0)=F:=by
  refine List.ext_getElem (by simp[nE,hF.len]) fun i h1 h2=> ?_
  simp only[nE,List.getElem_map,List.getElem_range]
  rw[←aj h2 0]
  congr 1
  omega
 have hP:F.Perm Q.flatten:=by
  have:=(hperm.map (fun v=>F.getD (v-1).toNat 0)).symm
  rw[hF2,←hQf]at this
  exact this
 refine⟨hpl,hst,⟨hF.same,hvf,fun r x r' x' a b c d e=> ?_⟩,hP,?_,by rw[hF.len];omega⟩
 ·rcases lex a b c d e with q|q
  ·exact .inl q
  ·refine .inr ⟨q.1,Nat.lt_of_le_of_ne q.2 fun hx=> ?_⟩
   subst hx
   have:=Gr h (cell a b).1 (cell a b).2 (cell c d).1 (cell c d).2 q.1
   subst this
   omega
 ·rw[List.pairwise_iff_getElem]
  intro i j hi hj hij
  obtain⟨r,x,a,b,_,e⟩:=hF.all i (by rw[←hF.len];exact hi)
  obtain⟨r',x',a',b',_,e'⟩:=hF.all j (by rw[←hF.len];exact hj)
  have q1:=hvf r x (by rw[hF.same.1];exact a) (by rw[hF.same.2];exact b)
  have q2:=hvf r' x' (by rw[hF.same.1];exact a') (by rw[hF.same.2];exact b')
  rw[e,show(((i+1:Nat):Int)-1).toNat=i by omega,aj hi]at q1
  rw[e',show(((j+1:Nat):Int)-1).toNat=j by omega,aj hj]at q2
  rw[←q1,←q2]
  have:=hF.lex r x r' x' a b trivial a' b' trivial (by rw[e,e'];omega)
  omega
end Go.Am.Pu
end
section
/- A pair of tableaux unrolled, the second one semistandard; sorting; the matrix of a pair. Plain words. -/
namespace Go.Am.Pu
def vd(R:Int→Prop)(rs:List (List Int)):Prop:= ∀r∈rs,∀v∈r,R v
theorem vd.at{R:Int→Prop}{rs:List (List Int)}(h:vd R rs){r x:Nat}(hr:r<rs.length)(hx:x<(rs.getD r []).length):R ((rs.getD r []).getD x 0):=by
 rw[aj hx]
 exact h (rs.getD r []) (by rw[aj hr];exact List.getElem_mem hr) _ (List.getElem_mem hx)
theorem vd.set{R:Int→Prop}{rs:List (List Int)}(h:vd R rs)(i:Nat){r:List Int}(hr: ∀v∈r,R v):vd R (rs.set i r):=fun y hy=>by
 rcases List.mem_or_eq_of_mem_set hy with h'|rfl
 ·exact h y h'
 ·exact hr
theorem vd.row{R:Int→Prop}{rs:List (List Int)}(h:vd R rs)(i:Nat): ∀v∈rs.getD i [],R v:=by
 by_cases hi:i<rs.length
 ·exact h _ (by rw[aj hi];exact List.getElem_mem hi)
 ·rw[cu (by omega)];simp
theorem tv{R:Int→Prop}: ∀(r:Nat) (rs:List (List Int)) (y:Int),vd R rs→R y→vd R (eW r rs y).1∧R (eW r rs y).2
 |0,rs,y,h,hy=>⟨h,hy⟩
 |r+1,rs,y,h,hy=>by
  unfold eW
  split
  ·next q hq=>
   have q1:=(lG hq).1
   refine tv r _ _ (h.set r fun v hv=> ?_) (h.row r _ (by rw[aj q1];exact List.getElem_mem q1))
   rcases List.mem_or_eq_of_mem_set hv with h'|rfl
   ·exact h.row r v h'
   ·exact hy
  ·exact tv r rs y h hy
theorem Bj{R:Int→Prop}{rs:List (List Int)}(h:vd R rs){a:Nat}(h1:1≤(rs.getD a []).length):vd R (bM rs a).1∧R (bM rs a).2:=by
 have hlt:(rs.getD a []).length-1<(rs.getD a []).length:=by omega
 have hg:=tv a (rs.set a ((rs.getD a []).take ((rs.getD a []).length-1))) ((rs.getD a []).getD ((rs.getD a []).length-1) 0) (h.set a fun v hv=>h.row a v (List.mem_of_mem_take hv)) (h.row a _ (by rw[aj hlt];exact List.getElem_mem hlt))
 unfold bM
 refine⟨?_,hg.2⟩
 simp only
 split
 ·exact fun r hr=>hg.1 r (List.mem_of_mem_take hr)
 ·exact hg.1
theorem Unr.top{q:Tab}{m:Nat}{P X:List (List Int)}(h:Unr q (m+1) P X){a:Nat}(ha:a<X.length)(htop:cel X a ((X.getD a []).length-1)=((m+1:Nat):Int)):
  (∀r,r<X.length→1≤(X.getD r []).length)∧(∀r,r<X.length→r≠a→cel X r ((X.getD r []).length-1)<((m+1:Nat):Int)):=by
 have hp:=fun r hr=>oz h.pl (r:=r) hr
 refine⟨hp,fun r hr hne=> ?_⟩
 have h1:=hp r hr
 have h2:=hp a ha
 simp only at h1 h2
 have hb:=((fH h.pl h.st).2 _ (gz (rs:=X) hr (show(X.getD r []).length-1<(X.getD r []).length by omega))).2
 have hf:=h.fl
 simp only at hb
 rw[hf]at hb
 have hx:cel X r ((X.getD r []).length-1)≠((m+1:Nat):Int):=fun e=>hne (nP h.pl h.st (a:=r) (b:=a) (x:=(X.getD r []).length-1) (y:=(X.getD a []).length-1) hr (show _<(X.getD r []).length by omega) ha (show _<(X.getD a []).length by omega) (by rw[htop];exact e)).1
 omega
theorem Ej{n m:Nat}{A B:List (List Int)}(h:cy n m A)(s:cR A B):cy n m B:=by
 refine⟨by rw[←s.1];exact h.1,fun x hx=> ?_⟩
 obtain⟨i,hi,rfl⟩:=List.getElem_of_mem hx
 have:=h.at i
 rw[s.2 i,aj hi]at this
 exact this
theorem lP.cut{Q X:List (List Int)}{f:Int→Int}(s:lP Q X f){a:Nat}(ha:a<X.length)(hc:(X.getD (a+1) []).length<(X.getD a []).length)(hp: ∀r,r<X.length→1≤(X.getD r []).length):lP (cw Q a) (cw X a) f:=by
 have hq: ∀r,r<Q.length→1≤(Q.getD r []).length:=fun r hr=>by rw[←s.same.2];exact hp r (by rw[s.same.1];exact hr)
 have rX:=n7 ha hc hp
 have rQ:=n7 (rs:=Q) (a:=a) (by rw[←s.same.1];exact ha) (by rw[←s.same.2,←s.same.2];exact hc) hq
 have old: ∀{r x},r<(cw X a).length→x<((cw X a).getD r []).length→r<X.length∧x<(X.getD r []).length∧cel (cw X a) r x=cel X r x∧cel (cw Q a) r x=cel Q r x:=fun{r x} hr hx=>by
  have hl:=ri (rs:=X) ha
  have hr':r<X.length:=by rw[hl]at hr;split at hr<;>omega
  have e1:=rX r
  have e2:=rQ r
  unfold cel
  by_cases e:r=a
  ·rw[if_pos e]at e1 e2
   rw[e1]at hx
   rw[List.length_take]at hx
   subst e
   refine⟨hr',by omega,by rw[e1,hO (by omega)],?_⟩
   rw[e2,hO (by have:=s.same.2 r;omega)]
  ·rw[if_neg e]at e1 e2
   rw[e1]at hx
   exact⟨hr',hx,by rw[e1],by rw[e2]⟩
 refine⟨zU s.same a,fun r x hr hx=> ?_,fun r x r' x' hr hx hr' hx' hlt=> ?_⟩
 ·obtain⟨o1,o2,o3,o4⟩:=old hr hx
  rw[o3,o4]
  exact s.val r x o1 o2
 ·obtain⟨o1,o2,o3,o4⟩:=old hr hx
  obtain⟨p1,p2,p3,p4⟩:=old hr' hx'
  rw[o3,p3]at hlt
  rw[o4,p4]
  exact s.lex r x r' x' o1 o2 p1 p2 hlt
theorem lP.step{q:Tab}{m:Nat}{P X Q:List (List Int)}{f:Int→Int}(s:lP Q X f)(h:Unr q (m+1) P X):
  ∃a:Nat,rowOf q ((m+1:Nat):Int)=a∧a<Q.length∧1≤(Q.getD a []).length∧(Q.getD a []).getD ((Q.getD a []).length-1) 0=f ((m+1:Nat):Int)∧(∀r,r<Q.length→1≤(Q.getD r []).length)∧
   (∀r,r<Q.length→r≠a→(Q.getD r []).getD ((Q.getD r []).length-1) 0<f ((m+1:Nat):Int)∨((Q.getD r []).getD ((Q.getD r []).length-1) 0=f ((m+1:Nat):Int)∧(Q.getD r []).length<(Q.getD a []).length))∧
   cy 9 9 Q∧a<P.length∧1≤(P.getD a []).length∧Unr q m (bM P a).1 (cw X a)∧lP (cw Q a) (cw X a) f:=by
 obtain⟨a,a1,a2,a3,a4,a5,a6⟩:=h.step
 obtain⟨t1,t2⟩:=h.top a2 a4
 have v0:=s.val a ((X.getD a []).length-1) a2 (by omega)
 rw[a4]at v0
 unfold cel at v0
 rw[s.same.2]at v0
 refine⟨a,a1,by rw[←s.same.1];exact a2,by rw[←s.same.2];exact a3,v0,fun r hr=>by rw[←s.same.2];exact t1 r (by rw[s.same.1];exact hr),fun r hr hne=> ?_,Ej (dt h.pl) s.same,
  by rw[h.same.1];exact a2,by rw[h.same.2];exact a3,a6,s.cut a2 a5 t1⟩
 have hr':r<X.length:=by rw[s.same.1];exact hr
 have u1:=t1 r hr'
 have hl:=s.lex r ((X.getD r []).length-1) a ((X.getD a []).length-1) hr' (by omega) a2 (by omega) (by rw[a4];exact t2 r hr' hne)
 have v:=s.val a ((X.getD a []).length-1) a2 (by omega)
 rw[v,a4]at hl
 unfold cel at hl
 rw[s.same.2 r,s.same.2 a]at hl
 have e1:=s.same.2 r
 rcases hl with hl|hl
 ·exact .inl hl
 ·exact .inr ⟨hl.1,by omega⟩
def prf(q:Tab)(f:Int→Int)(k:Nat)(P:List (List Int)):List (Int×Int):=(prs q k P).map fun p=>(f p.1,p.2)
theorem De(q:Tab)(F:List Int): ∀(k:Nat) (P:List (List Int)),k≤F.length→(prf q (fun v=>F.getD (v-1).toNat 0) k P).reverse=(F.take k).zip (wop q k P)
 |0,P,_=>by simp[prf,prs,wop]
 |k+1,P,hk=>by
  have ih:=De q F k (bM P (rowOf q ((k+1:Nat):Int)).toNat).1 (by omega)
  have e:prf q (fun v=>F.getD (v-1).toNat 0) (k+1) P=(F.getD k 0,(bM P (rowOf q ((k+1:Nat):Int)).toNat).2)::prf q (fun v=>F.getD (v-1).toNat 0) k (bM P (rowOf q ((k+1:Nat):Int)).toNat).1:=by
   unfold prf
   rw[show prs q (k+1) P=(((k+1:Nat):Int),(bM P (rowOf q ((k+1:Nat):Int)).toNat).2)::prs q k (bM P (rowOf q ((k+1:Nat):Int)).toNat).1 from rfl,List.map_cons]
   simp only
   rw[show((((k+1:Nat):Int))-1).toNat=k by omega]
  rw[e,List.reverse_cons,ih,take_succ (show k<F.length by omega) 0]
  rw[show wop q (k+1) P=wop q k (bM P (rowOf q ((k+1:Nat):Int)).toNat).1++ [(bM P (rowOf q ((k+1:Nat):Int)).toNat).2]from rfl]
  rw[List.zip_append (by rw[oB,List.length_take];omega)]
  rfl
theorem y8{q:Tab}{R:Int→Prop}: ∀(k:Nat) (P X:List (List Int)),Unr q k P X→vd R P→ ∀v∈wop q k P,R v
 |0,P,X,_,_,v,hv=>by cases hv
 |k+1,P,X,h,hR,v,hv=>by
  obtain⟨a,a1,a2,a3,a4,a5,a6⟩:=h.step
  obtain⟨t1,t2⟩:=Bj hR (show 1≤(P.getD a []).length by rw[h.same.2];exact a3)
  unfold wop at hv
  rw[a1,Int.toNat_natCast]at hv
  rcases List.mem_append.1 hv with h'|h'
  ·exact y8 k _ _ a6 t1 v h'
  ·rw[List.mem_singleton]at h'
   rw[h']
   exact t2
def lZ(l:List Int)(x:Int):Nat→Nat
 |0=>0
 |i+1=>if x<l.getD i 0 then lZ l x i else i+1
def uZ(l:List Int)(x:Int):List Int:=l.take (lZ l x l.length)++ [x]++l.drop (lZ l x l.length)
def mE(l:List Int):List Int:=l.foldl uZ []
theorem yS(l:List Int)(x:Int): ∀m,lZ l x m≤m
 |0=>Nat.le_refl _
 |m+1=>by
        unfold lZ;split;·exact Nat.le_succ_of_le (yS l x m)
        ·exact Nat.le_refl _
theorem Dx(l:List Int)(x:Int): ∀m i,lZ l x m≤i→i<m→x<l.getD i 0
 |0,i,_,h=>absurd h (Nat.not_lt_zero i)
 |m+1,i,h,hi=>by
  unfold lZ at h
  split at h
  ·next c=>
   by_cases e:i=m
   ·rw[e];exact c
   ·exact Dx l x m i h (by omega)
  ·omega
theorem AJ(l:List Int)(x:Int): ∀m,lZ l x m≠0→l.getD (lZ l x m-1) 0≤x
 |0,h=>absurd rfl h
 |m+1,h=>by
  unfold lZ at h⊢
  split
  ·next c=>rw[if_pos c]at h;exact AJ l x m h
  ·next c=>exact Int.not_lt.1 c
theorem xU(l:List Int)(x:Int):(uZ l x).Perm (x::l):=by
 unfold uZ
 have:= @List.perm_middle _ x (l.take (lZ l x l.length)) (l.drop (lZ l x l.length))
 rw[List.take_append_drop]at this
 rw[List.append_assoc]
 exact this
theorem Bn{l:List Int}(h:l.Pairwise (· ≤ ·))(x:Int):(uZ l x).Pairwise (· ≤ ·):=by
 have hp:=yS l x l.length
 have hg:=Dx l x l.length
 have hl:=AJ l x l.length
 rw[List.pairwise_iff_getElem]at h
 unfold uZ
 generalize lZ l x l.length=p at*
 have low: ∀v∈l.take p,v≤x:=fun v hv=>by
  obtain⟨i,hi,rfl⟩:=List.getElem_of_mem hv
  rw[List.length_take]at hi
  rw[List.getElem_take]
  have h0:=hl (by omega)
  have hp1:p-1<l.length:=by omega
  rw[aj hp1]at h0
  by_cases e:i=p-1
  ·subst e;exact h0
  ·exact Int.le_trans (h i (p-1) (by omega) hp1 (by omega)) h0
 have high: ∀v∈l.drop p,x≤v:=fun v hv=>by
  obtain⟨i,hi,rfl⟩:=List.getElem_of_mem hv
  rw[List.length_drop]at hi
  rw[List.getElem_drop]
  have h0:=hg (p+i) (by omega) (by omega)
  rw[aj (show p+i<l.length by omega)]at h0
  omega
 have hs:l.Pairwise (· ≤ ·):=List.pairwise_iff_getElem.2 h
 rw[List.append_assoc,List.pairwise_append]
 refine⟨hs.sublist (List.take_sublist _ _),?_,fun v hv w hw=> ?_⟩
 ·rw[List.singleton_append,List.pairwise_cons]
  exact⟨high,hs.sublist (List.drop_sublist _ _)⟩
 ·rcases List.mem_append.1 hw with h'|h'
  ·rw[List.mem_singleton]at h';rw[h'];exact low v hv
  ·exact Int.le_trans (low v hv) (high w h')
theorem uQ: ∀(l acc:List Int),acc.Pairwise (· ≤ ·)→(l.foldl uZ acc).Pairwise (· ≤ ·)∧(l.foldl uZ acc).Perm (acc++l)
 | [],acc,h=>⟨h,by simp⟩
 |x::l,acc,h=>by
  obtain⟨h1,h2⟩:=uQ l (uZ acc x) (Bn h x)
  refine⟨h1,h2.trans ?_⟩
  have:=(xU acc x).append_right l
  exact this.trans (List.perm_middle (a:=x) (l₁:=acc) (l₂:=l)).symm
theorem wq{l F:List Int}(hp:F.Perm l)(hs:F.Pairwise (· ≤ ·)):mE l=F:=by
 obtain⟨h1,h2⟩:=uQ l [] List.Pairwise.nil
 rw[List.nil_append]at h2
 exact List.Perm.eq_of_pairwise (fun a b _ _ h h'=>Int.le_antisymm h h') h1 hs (h2.trans hp.symm)
def nQ:Int→List Int→Int
 |m,[]=>m
 |m,x::l=>nQ (max m x) l
theorem vA: ∀(l:List Int) (m b:Int),nQ m l≤b↔m≤b∧ ∀x∈l,x≤b
 | [],m,b=>by simp[nQ]
 |x::l,m,b=>by
  unfold nQ
  rw[vA l]
  constructor
  ·rintro⟨h1,h2⟩
   refine⟨by omega,fun y hy=> ?_⟩
   rcases List.mem_cons.1 hy with rfl|hy
   ·omega
   ·exact h2 y hy
  ·rintro⟨h1,h2⟩
   have:=h2 x (List.mem_cons_self ..)
   exact⟨by omega,fun y hy=>h2 y (List.mem_cons_of_mem _ hy)⟩
def uh(M:List (List Int))(p:Int×Int):List (List Int):=M.set (p.1-1).toNat ((M.getD (p.1-1).toNat []).set (p.2-1).toNat ((M.getD (p.1-1).toNat []).getD (p.2-1).toNat 0+1))
def uf(M:List (List Int))(l:List (Int×Int)):List (List Int):=l.foldl uh M
def jV(r c:Nat):List (List Int):=List.replicate r (List.replicate c 0)
structure sL (r c : Nat) (b : Int) (M : List (List Int)) : Prop where
  len : M.length = r
  row : ∀ i, i < r → (M.getD i []).length = c
  sm : ∀ x ∈ M, ∀ v ∈ x, 0 ≤ v ∧ v ≤ b
theorem mB(r c:Nat):sL r c 0 (jV r c):=by
 refine⟨by simp[jV],fun i hi=> ?_,fun x hx v hv=> ?_⟩
 ·unfold jV
  rw[aj (by simpa using hi)]
  simp
 ·unfold jV at hx
  rw[List.eq_of_mem_replicate hx]at hv
  rw[List.eq_of_mem_replicate hv]
  omega
theorem vj{r c:Nat}{b:Int}{M:List (List Int)}(h:sL r c b M){p:Int×Int}(h1:1≤p.1)(h2:p.1≤r)(h3:1≤p.2)(h4:p.2≤c):sL r c (b+1) (uh M p):=by
 have hi:(p.1-1).toNat<M.length:=by rw[h.len];omega
 have hr:=h.row (p.1-1).toNat (by omega)
 have hj:(p.2-1).toNat<(M.getD (p.1-1).toNat []).length:=by rw[hr];omega
 have hv:=h.sm (M.getD (p.1-1).toNat []) (by rw[aj hi];exact List.getElem_mem hi) _ (by rw[aj hj];exact List.getElem_mem hj:(M.getD (p.1-1).toNat []).getD (p.2-1).toNat 0∈M.getD (p.1-1).toNat [])
 unfold uh
 refine⟨by rw[List.length_set];exact h.len,fun i hi'=> ?_,fun x hx v hv'=> ?_⟩
 ·by_cases e:i=(p.1-1).toNat
  ·subst e
   rw[aj (by rw[List.length_set];exact hi),List.getElem_set_self,List.length_set]
   exact hr
  ·rw[getD_set_ne (Ne.symm e)]
   exact h.row i hi'
 ·rcases List.mem_or_eq_of_mem_set hx with h'|rfl
  ·have:=h.sm x h' v hv'
   omega
  ·rcases List.mem_or_eq_of_mem_set hv' with h'|rfl
   ·have:=h.sm _ (by rw[aj hi];exact List.getElem_mem hi:M.getD (p.1-1).toNat []∈M) v h'
    omega
   ·omega
theorem vp{r c:Nat}: ∀(l:List (Int×Int)) (M:List (List Int)) (b:Int),sL r c b M→(∀p∈l,1≤p.1∧p.1≤r∧1≤p.2∧p.2≤c)→sL r c (b+l.length) (uf M l)
 | [],M,b,h,_=>by simpa[uf]using h
 |p::l,M,b,h,hp=>by
  have hq:=hp p (List.mem_cons_self ..)
  have:=vp l (uh M p) (b+1) (vj h hq.1 hq.2.1 hq.2.2.1 hq.2.2.2) fun p' h'=>hp p' (List.mem_cons_of_mem _ h')
  rw[List.length_cons,show b+((l.length+1:Nat):Int)=b+1+l.length by omega]
  exact this
theorem yc{r c:Nat}{b:Int}{M:List (List Int)}(h:sL r c b M)(hb:b≤1000000)(hr:r≤9)(hc:c≤9){p:Int×Int}(h1:1≤p.1)(h2:p.1≤r)(h3:1≤p.2)(h4:p.2≤c):
  0≤p.1-1∧(p.1-1).toNat<M.length∧0≤p.2-1∧(p.2-1).toNat<(M.getD (p.1-1).toNat []).length∧IntKind.i64.wrap (p.1-1)=p.1-1∧IntKind.i64.wrap (p.2-1)=p.2-1∧
   IntKind.i64.wrap ((M.getD (p.1-1).toNat []).getD (p.2-1).toNat 0+1)=(M.getD (p.1-1).toNat []).getD (p.2-1).toNat 0+1:=by
 have hi:(p.1-1).toNat<M.length:=by rw[h.len];omega
 have hrw:=h.row (p.1-1).toNat (by omega)
 have hj:(p.2-1).toNat<(M.getD (p.1-1).toNat []).length:=by rw[hrw];omega
 have hv:=h.sm (M.getD (p.1-1).toNat []) (by rw[aj hi];exact List.getElem_mem hi) _ (by rw[aj hj];exact List.getElem_mem hj:(M.getD (p.1-1).toNat []).getD (p.2-1).toNat 0∈M.getD (p.1-1).toNat [])
 exact⟨by omega,hi,by omega,hj,w64 (by omega) (by omega),w64 (by omega) (by omega),w64 (by omega) (by omega)⟩
theorem zW{a b:List Int}{i:Nat}(ha:i<a.length)(hb:i<b.length):(a.zip b).drop i=(a.getD i 0,b.getD i 0)::(a.zip b).drop (i+1):=by
 have hl:i<(a.zip b).length:=by rw[List.length_zip];omega
 rw[drop_cons hl (0,0),aj hl,List.getElem_zip,aj ha,aj hb]
def cX(p q:Tab)(r c:Int):List (List Int)×Bool:=
 if aP p=true∧aP q=true∧outer p=outer q∧(1≤r∧r≤9)∧(1≤c∧c≤9)∧nQ 0 q.2.flatten≤r∧nQ 0 p.2.flatten≤c then
  (uf (jV r.toNat c.toNat) ((mE q.2.flatten).zip (wop ([],iw q.2) q.2.flatten.length p.2)),true)
 else([],false)
theorem sr{p q:Tab}(hp:aP p=true)(hq:aP q=true)(ho:outer p=outer q){R C:Int}(hr:nQ 0 q.2.flatten≤R)(hc:nQ 0 p.2.flatten≤C):
  aP ([],iw q.2)=true∧ep ([],iw q.2)=true∧outer p=outer (([],iw q.2):Tab)∧(iw q.2).flatten.length=q.2.flatten.length∧(mE q.2.flatten).length=q.2.flatten.length∧
   lP q.2 (iw q.2) (fun v=>(mE q.2.flatten).getD (v-1).toNat 0)∧ ∀x∈(mE q.2.flatten).zip (wop ([],iw q.2) q.2.flatten.length p.2),1≤x.1∧x.1≤R∧1≤x.2∧x.2≤C:=by
 have e:(([],q.2):Tab)=q:=Prod.ext (cn hq).symm rfl
 obtain⟨F,f1,f2,f3,f4,f5,f6⟩:=vT (Q:=q.2) (by rw[e];exact hq)
 have hs:=wq f4 f5
 rw[hs]
 have hout:outer p=outer (([],iw q.2):Tab):=ho.trans (nx (cn hq) rfl f3.same.1.symm fun r=>(f3.same.2 r).symm)
 have hfl:=jc f3.same
 have ent: ∀{t:Tab},aP t=true→ ∀v∈t.2.flatten,1≤v:=fun{t} h v hv=>by
  obtain⟨r,x,a,b,rfl⟩:=k9 hv
  exact((eV h).1 r x a b).1
 have hu:=pY hp f1 f2 hout
 simp only at hu
 rw[hfl]at hu
 refine⟨f1,f2,hout,hfl,f6,f3,fun x hx=> ?_⟩
 obtain⟨a,b⟩:=x
 have m1:=(List.of_mem_zip hx).1
 have m2:=(List.of_mem_zip hx).2
 have q1:=f4.mem_iff.1 m1
 have hw:=y8 (R:=fun v=>1≤v∧v≤C) _ _ _ hu (fun r hr v hv=>by
  have hm:v∈p.2.flatten:=List.mem_flatten.2 ⟨r,hr,hv⟩
  exact⟨ent hp v hm,((vA _ _ _).1 hc).2 v hm⟩) b m2
 exact⟨ent hq a q1,((vA _ _ _).1 hr).2 a q1,hw.1,hw.2⟩
theorem u7{p q:Tab}{r c:Int}:(cX p q r c).1.length≤9∧ ∀x∈(cX p q r c).1,x.length≤9:=by
 unfold cX
 split
 ·next h=>
  obtain⟨hp,hq,ho,hr,hc,h1,h2⟩:=h
  obtain⟨_,_,_,_,_,_,hx⟩:=sr hp hq ho h1 h2
  have:=vp (r:=r.toNat) (c:=c.toNat) _ (jV r.toNat c.toNat) 0 (mB _ _) fun x m=>by
   have:=hx x m
   omega
  refine⟨by simp only;rw[this.len];omega,fun x hx=> ?_⟩
  obtain⟨i,hi,rfl⟩:=List.getElem_of_mem hx
  have h3:=this.row i (by rw[←this.len];exact hi)
  rw[aj hi]at h3
  simp only at h3⊢
  omega
 ·simp
end Go.Am.Pu
end
section
/- Standardizing any tableau: its cells in the order of number and column. Plain words. -/
namespace Go.Am.Pu
def Fb(t:Tab)(r:Nat):List (Int×Int×Int):=(List.range (t.2.getD r []).length).map fun x=>(cel t.2 r x,t.1.getD r 0+x,(r:Int))
def cellsOf(t:Tab):List (Int×Int×Int):=((List.range t.2.length).map (Fb t)).flatten
def KLt(a b:Int×Int×Int):Prop:=a.1<b.1∨(a.1=b.1∧a.2.1<b.2.1)
end Go.Am.Pu
end
section
/- Sorting cells by insertion, as the library does. Plain words. -/
namespace Go.Am.Pu
instance(a b:Int×Int×Int):Decidable (KLt a b):=by unfold KLt;infer_instance
end Go.Am.Pu
end
section
/- All standard tableaux of given rows, found by taking out the greatest number. Plain words. -/
namespace Go.Am.Pu
def iG(ls:List Nat)(a:Nat):List Nat:=if ls.getD a 0=1 then ls.take a else ls.set a (ls.getD a 0-1)
theorem zu{α:Type}{d:α}{A B:List α}(hl:A.length=B.length)(h: ∀i,i<A.length→A.getD i d=B.getD i d):A=B:=by
 refine List.ext_getElem hl fun i h1 h2=> ?_
 have:=h i h1
 rw[aj h1,aj h2]at this
 exact this
theorem Gk{rs:List (List Int)}{a:Nat}{v:Int}(ha:a<rs.length)(hc:(rs.getD (a+1) []).length<(rs.getD a []).length)(hp: ∀r,r<rs.length→1≤(rs.getD r []).length)(hv:cel rs a ((rs.getD a []).length-1)=v):eF (cw rs a) a v=rs:=by
 have hr:=n7 ha hc hp
 have hl:=ri (rs:=rs) ha
 have hpa:=hp a ha
 have lastRow:(rs.getD a []).length=1→a+1=rs.length:=fun h1=>by
  refine Nat.le_antisymm ha (Nat.le_of_not_lt fun hlt=> ?_)
  have:=hp (a+1) hlt
  omega
 have hal:a≤(cw rs a).length:=by rw[hl];split<;>omega
 refine zu (d:= []) ?_ fun i hi=> ?_
 ·have:= @qy (cw rs a) a v
  rw[this,hl]
  by_cases h1:(rs.getD a []).length=1
  ·have:=lastRow h1
   rw[if_pos h1,if_pos rfl]
   omega
  ·rw[if_neg h1,if_neg (by omega)]
 ·rw[qn v hal i]
  by_cases ei:i=a
  ·subst ei
   rw[if_pos rfl,hr i,if_pos rfl]
   have hlt:(rs.getD i []).length-1<(rs.getD i []).length:=by omega
   have h2:=take_succ hlt 0
   unfold cel at hv
   rw[hv,show(rs.getD i []).length-1+1=(rs.getD i []).length by omega,List.take_length]at h2
   exact h2.symm
  ·rw[if_neg ei,hr i,if_neg ei]
end Go.Am.Pu
end
section
/- Promotion of a rectangle comes back after as many steps as there are cells (reckoned over all of them). Plain words. -/
namespace Go.Am.Pu
end Go.Am.Pu
end
section
/- The length of an orbit divides every number of steps that come back. Plain words. -/
namespace Go.Am.Pu
end Go.Am.Pu
end
section
/- Knuth's relations: insertion does not tell related words apart, and a row and a number are related to what an insertion makes of them. Plain words. -/
namespace Go.Am.Pu
abbrev Up(r:List Int):Prop:=r.Pairwise (· ≤ ·)
def fm:List Int→Int→List Int×List Int
 | [],x=>([x],[])
 |a::r,x=>if x<a then(x::r,[a])else(a::(fm r x).1,(fm r x).2)
theorem fG{a x:Int}{r:List Int}(h:x<a):fm (a::r) x=(x::r,[a]):=by unfold fm;rw[if_pos h]
theorem eZ{a x:Int}{r:List Int}(h:a≤x):fm (a::r) x=(a::(fm r x).1,(fm r x).2):=by
 conv=>lhs;unfold fm
 rw[if_neg (by omega)]
theorem xu: ∀(r:List Int) (x z:Int),z∈(fm r x).1→z=x∨z∈r
 | [],x,z,h=>by simp only[fm,List.mem_singleton]at h;exact .inl h
 |a::r,x,z,h=>by
  by_cases c:x<a
  ·rw[fG c]at h
   rcases List.mem_cons.1 h with h|h
   ·exact .inl h
   ·exact .inr (List.mem_cons_of_mem _ h)
  ·rw[eZ (by omega)]at h
   rcases List.mem_cons.1 h with h|h
   ·exact .inr (by rw[h];exact List.mem_cons_self ..)
   ·rcases xu r x z h with h|h
    ·exact .inl h
    ·exact .inr (List.mem_cons_of_mem _ h)
theorem zm: ∀{r:List Int} (x:Int),Up r→Up (fm r x).1
 | [],x,_=>List.pairwise_singleton ..
 |a::r,x,h=>by
  have h':=List.pairwise_cons.1 h
  by_cases c:x<a
  ·rw[fG c]
   exact List.pairwise_cons.2 ⟨fun z hz=>by have:=h'.1 z hz;omega,h'.2⟩
  ·rw[eZ (by omega)]
   refine List.pairwise_cons.2 ⟨fun z hz=> ?_,zm x h'.2⟩
   rcases xu r x z hz with e|e
   ·omega
   ·exact h'.1 z e
theorem lx: ∀(r:List Int) (x:Int),(fm r x).2= []∨ ∃b,(fm r x).2= [b]∧x<b∧b∈r
 | [],x=> .inl rfl
 |a::r,x=>by
  by_cases c:x<a
  ·rw[fG c];exact .inr ⟨a,rfl,c,List.mem_cons_self ..⟩
  ·rw[eZ (by omega)]
   rcases lx r x with h|⟨b,h1,h2,h3⟩
   ·exact .inl h
   ·exact .inr ⟨b,h1,h2,List.mem_cons_of_mem _ h3⟩
theorem C8: ∀{r:List Int} {y z:Int},Up r→y≤z→((fm r y).2= []→(fm (fm r y).1 z).2= [])∧ ∀p q,(fm r y).2= [p]→(fm (fm r y).1 z).2= [q]→p≤q
 | [],y,z,_,hz=>by
  refine⟨fun _=> ?_,fun p q h=>by simp[fm]at h⟩
  show(fm [y] z).2= []
  rw[eZ hz];rfl
 |a::r,y,z,h,hz=>by
  have h':=List.pairwise_cons.1 h
  by_cases c:y<a
  ·rw[fG c]
   refine⟨fun e=>by simp at e,fun p q e1 e2=> ?_⟩
   rw[eZ hz]at e2
   rcases lx r z with o|⟨b,o1,_,o3⟩
   ·simp only at e2;rw[o]at e2;simp at e2
   ·simp only at e2
    rw[o1]at e2
    simp only[List.cons.injEq,and_true]at e1 e2
    have:=h'.1 b o3
    omega
  ·rw[eZ (show a≤y by omega)]
   show((fm r y).2= []→(fm (a::(fm r y).1) z).2= [])∧ ∀p q,(fm r y).2= [p]→(fm (a::(fm r y).1) z).2= [q]→p≤q
   rw[eZ (show a≤z by omega)]
   exact C8 h'.2 hz
theorem C9: ∀{r:List Int} {y z:Int},Up r→y<z→z∈r→ ∃c,(fm r y).2= [c]∧y<c∧c≤z
 | [],_,_,_,_,hm=>by simp at hm
 |a::r,y,z,h,hz,hm=>by
  have h':=List.pairwise_cons.1 h
  by_cases c:y<a
  ·rw[fG c]
   refine⟨a,rfl,c,?_⟩
   rcases List.mem_cons.1 hm with e|e
   ·omega
   ·exact h'.1 z e
  ·rw[eZ (by omega)]
   rcases List.mem_cons.1 hm with e|e
   ·omega
   ·exact C9 h'.2 hz e
theorem yN: ∀(r:List Int) (x:Int),x∈(fm r x).1
 | [],x=>List.mem_singleton.2 rfl
 |a::r,x=>by
  by_cases c:x<a
  ·rw[fG c];exact List.mem_cons_self ..
  ·rw[eZ (by omega)];exact List.mem_cons_of_mem _ (yN r x)
def Tri(u v:List Int):Prop:= ∃x y z:Int,(x<y∧y≤z∧u= [y,z,x]∧v= [y,x,z])∨(x≤y∧y<z∧u= [x,z,y]∧v= [z,x,y])
theorem Tri.a{x y z:Int}(h1:x<y)(h2:y≤z):Tri [y,z,x] [y,x,z]:=⟨x,y,z,.inl ⟨h1,h2,rfl,rfl⟩⟩
theorem Tri.b{x y z:Int}(h1:x≤y)(h2:y<z):Tri [x,z,y] [z,x,y]:=⟨x,y,z,.inr ⟨h1,h2,rfl,rfl⟩⟩
def jm:List Int→List Int→List Int×List Int
 |r,[]=>(r,[])
 |r,x::w=>((jm (fm r x).1 w).1,(fm r x).2++(jm (fm r x).1 w).2)
def Di(p q:List Int×List Int):Prop:=p.1=q.1∧(p.2=q.2∨Tri p.2 q.2)
theorem pk{a:Int}: ∀{w r:List Int},(∀x∈w,a≤x)→jm (a::r) w=(a::(jm r w).1,(jm r w).2)
 | [],_,_=>rfl
 |x::w,r,h=>by
  show((jm (fm (a::r) x).1 w).1,(fm (a::r) x).2++(jm (fm (a::r) x).1 w).2)=_
  rw[eZ (h x (List.mem_cons_self ..))]
  simp only
  rw[pk fun y hy=>h y (List.mem_cons_of_mem _ hy)]
  rfl
theorem mY(r:List Int)(x y z:Int):jm r [x,y,z]=((fm (fm (fm r x).1 y).1 z).1,(fm r x).2++((fm (fm r x).1 y).2++(fm (fm (fm r x).1 y).1 z).2)):=by
 simp[jm]
theorem G3: ∀{r:List Int} {x y z:Int},Up r→x<y→y≤z→Di (jm r [y,z,x]) (jm r [y,x,z])
 | [],x,y,z,_,h1,h2=>by
  refine⟨?_,.inl ?_⟩
  ·simp[jm,fm,h1,show¬z<y by omega,show¬z<x by omega]
  ·simp[jm,fm,h1,show¬z<y by omega,show¬z<x by omega]
 |a::r,x,y,z,h,h1,h2=>by
  have h':=List.pairwise_cons.1 h
  by_cases c:y<a
  ·rw[mY,mY,fG c]
   simp only
   rw[eZ (r:=r) h2,fG (r:=r) h1]
   simp only
   rw[fG h1,eZ (show x≤z by omega)]
   refine⟨rfl,?_⟩
   rcases lx r z with o|⟨b,o1,o2,o3⟩
   ·simp only;rw[o];exact .inl rfl
   ·simp only;rw[o1]
    exact .inr (Tri.a c (h'.1 b o3))
  ·by_cases c2:x<a
   ·rw[mY,mY,eZ (show a≤y by omega)]
    simp only
    rw[eZ (show a≤z by omega),fG c2]
    simp only
    rw[fG c2,eZ (show x≤z by omega)]
    refine⟨rfl,?_⟩
    simp only
    obtain⟨e1,e2⟩:=C8 h'.2 h2
    rcases lx r y with o|⟨b,o1,o2,o3⟩
    ·rw[o,e1 o];exact .inl rfl
    ·rcases lx (fm r y).1 z with p|⟨d,p1,p2,p3⟩
     ·rw[p,o1];exact .inl rfl
     ·rw[o1,p1]
      exact .inr (Tri.a (by omega) (e2 _ _ o1 p1))
   ·have ih:=G3 h'.2 h1 h2
    rw[pk (by simp;omega),pk (by simp;omega)]
    exact⟨congrArg (a:: ·) ih.1,ih.2⟩
theorem GZ: ∀{r:List Int} {x y z:Int},Up r→x≤y→y<z→Di (jm r [x,z,y]) (jm r [z,x,y])
 | [],x,y,z,_,h1,h2=>by
  refine⟨?_,.inl ?_⟩
  ·simp[jm,fm,h2,show x<z by omega,show¬z<x by omega,show¬y<x by omega]
  ·simp[jm,fm,h2,show x<z by omega,show¬z<x by omega,show¬y<x by omega]
 |a::r,x,y,z,h,h1,h2=>by
  have h':=List.pairwise_cons.1 h
  by_cases c:z<a
  ·rw[mY,mY,fG (show x<a by omega),fG c]
   simp only
   rw[eZ (r:=r) (show x≤z by omega),fG (r:=r) (show x<z by omega)]
   simp only
   rw[eZ h1,eZ h1]
   cases r with
   |nil=>simp[fm,h2,Di]
   |cons b r=>
    have hb:=h'.1 b (List.mem_cons_self ..)
    rw[fG (show z<b by omega),fG (show y<b by omega)]
    simp only
    rw[fG h2]
    exact⟨rfl,.inr (Tri.a c hb)⟩
  ·by_cases c2:x<a
   ·rw[mY,mY,fG c2,eZ (show a≤z by omega)]
    simp only
    rw[fG c2,eZ (show x≤z by omega)]
    simp only
    rw[eZ h1]
    refine⟨rfl,?_⟩
    simp only
    rcases lx r z with o|⟨b,o1,o2,o3⟩
    ·rw[o];exact .inl rfl
    ·rw[o1]
     obtain⟨d,d1,d2,d3⟩:=C9 (zm z h'.2) h2 (yN r z)
     rw[d1]
     refine .inr (Tri.b ?_ (by omega))
     rcases lx (fm r z).1 y with p|⟨q,p1,p2,p3⟩
     ·rw[p]at d1;simp at d1
     ·rw[p1]at d1
      have:q=d:=by simpa using d1
      subst this
      rcases xu r z q p3 with e|e
      ·omega
      ·exact h'.1 q e
   ·have ih:=GZ h'.2 h1 h2
    rw[pk (by simp;omega),pk (by simp;omega)]
    exact⟨congrArg (a:: ·) ih.1,ih.2⟩
theorem GP{r u v:List Int}(h:Up r)(t:Tri u v):Di (jm r u) (jm r v):=by
 obtain⟨x,y,z,⟨h1,h2,rfl,rfl⟩|⟨h1,h2,rfl,rfl⟩⟩:=t
 ·exact G3 h h1 h2
 ·exact GZ h h1 h2
theorem FP(a x:Int)(r:List Int):fst (a::r) x=if x<a then 0 else fst r x+1:=by
 unfold fst
 rw[List.findIdx_cons]
 by_cases c:x<a
 ·rw[if_pos c,decide_eq_true c];rfl
 ·rw[if_neg c,decide_eq_false c];rfl
theorem zM: ∀(r:List Int) (x:Int),fm r x=if fst r x<r.length then(r.set (fst r x) x,[r.getD (fst r x) 0])else(r++ [x],[])
 | [],x=>rfl
 |a::r,x=>by
  rw[FP]
  by_cases c:x<a
  ·rw[fG c,if_pos c,if_pos (by simp)];rfl
  ·rw[eZ (by omega),if_neg c,zM r x]
   by_cases d:fst r x<r.length
   ·rw[if_pos d,if_pos (by simpa using d)];rfl
   ·rw[if_neg d,if_neg (by simpa using d)];rfl
theorem AD(r:List Int)(rs:List (List Int))(x:Int):(aC (r::rs) x).1=(fm r x).1::dx (fm r x).2 rs:=by
 rw[ca,zM]
 by_cases c:fst r x<r.length
 ·rw[if_pos c,if_pos c];rfl
 ·rw[if_neg c,if_neg c];rfl
theorem tV: ∀(w r:List Int) (rs:List (List Int)),dx w (r::rs)=(jm r w).1::dx (jm r w).2 rs
 | [],_,_=>rfl
 |x::w,r,rs=>by
  show dx w (aC (r::rs) x).1=_
  rw[AD,tV w]
  simp only[jm]
  rw[j7]
theorem GH{u v:List Int}(t:Tri u v):dx u []=dx v []:=by
 obtain⟨x,y,z,⟨h1,h2,rfl,rfl⟩|⟨h1,h2,rfl,rfl⟩⟩:=t
 ·simp[dx,aC,List.findIdx_cons,h1,show¬z<y by omega,show¬z<x by omega]
 ·simp[dx,aC,List.findIdx_cons,h2,show x<z by omega,show¬z<x by omega,show¬y<x by omega]
theorem CY: ∀{P:List (List Int)} {u v:List Int},(∀r∈P,Up r)→Tri u v→dx u P=dx v P
 | [],_,_,_,t=>GH t
 |r::rs,u,v,h,t=>by
  rw[tV,tV]
  obtain⟨a,b|b⟩:=GP (h r (List.mem_cons_self ..)) t
  ·rw[a,b]
  ·rw[a,CY (fun q hq=>h q (List.mem_cons_of_mem _ hq)) b]
inductive Kn : List Int → List Int → Prop
  | refl (w) : Kn w w
  | symm {v w} : Kn v w → Kn w v
  | trans {u v w} : Kn u v → Kn v w → Kn u w
  | tri {u v} (a b) : Tri u v → Kn (a ++ u ++ b) (a ++ v ++ b)
theorem Kn.ctx{u v:List Int}(c d:List Int)(h:Kn u v):Kn (c++u++d) (c++v++d):=by
 induction h with
 |refl w=>exact .refl _
 |symm _ ih=>exact .symm ih
 |trans _ _ h1 h2=>exact .trans h1 h2
 |tri a b t=>
  have:=Kn.tri (c++a) (b++d) t
  simp only[List.append_assoc]at this⊢
  exact this
theorem Kn.left{u v:List Int}(c:List Int)(h:Kn u v):Kn (c++u) (c++v):=by
 have:=h.ctx c []
 simpa using this
theorem Kn.right{u v:List Int}(d:List Int)(h:Kn u v):Kn (u++d) (v++d):=by
 have:=h.ctx [] d
 simpa using this
theorem Kn.cons{u v:List Int}(c:Int)(h:Kn u v):Kn (c::u) (c::v):=h.left [c]
theorem Kn.of{u v:List Int}(t:Tri u v):Kn u v:=by
 have:=Kn.tri [] [] t
 simpa using this
theorem Kn.app{u v u' v':List Int}(h:Kn u u')(g:Kn v v'):Kn (u++v) (u'++v'):=(h.right v).trans (g.left u')
theorem DD: ∀{P:List (List Int)} (x:Int),(∀r∈P,Up r)→ ∀r∈(aC P x).1,Up r
 | [],x,_=>fun r hr=>by
  have:r= [x]:=by simpa[aC]using hr
  rw[this];exact List.pairwise_singleton ..
 |q::P,x,h=>by
  rw[AD]
  intro r hr
  have hP: ∀r∈P,Up r:=fun r hr=>h r (List.mem_cons_of_mem _ hr)
  rcases List.mem_cons.1 hr with e|e
  ·rw[e];exact zm x (h q (List.mem_cons_self ..))
  ·rcases lx q x with o|⟨b,o,_,_⟩
   ·rw[o]at e;exact hP r e
   ·rw[o]at e;exact DD b hP r e
theorem C5: ∀{w:List Int} {P:List (List Int)},(∀r∈P,Up r)→ ∀r∈dx w P,Up r
 | [],_,h=>h
 |x::w,P,h=>show∀r∈dx w (aC P x).1,Up r from C5 (DD x h)
theorem Kn.ins{u v:List Int}(h:Kn u v): ∀{P:List (List Int)},(∀r∈P,Up r)→dx u P=dx v P:=by
 induction h with
 |refl w=>intro P _;rfl
 |symm _ ih=>intro P hP;exact(ih hP).symm
 |trans _ _ h1 h2=>intro P hP;rw[h1 hP,h2 hP]
 |tri a b t=>
  intro P hP
  rw[j7,j7,j7,j7,CY (C5 hP) t]
end Go.Am.Pu
end
section
/- Rows and slides keep words related. Plain words. -/
namespace Go.Am.Pu
def HS(q:List Int)(g:List (List Int))(i c r:Nat):List Int:=
 if r=i then((g.getD r []).take c).drop (q.getD r 0).toNat++(g.getD r []).drop (c+1)else(g.getD r []).drop (q.getD r 0).toNat
end Go.Am.Pu
end
section
/- The rectification is the tableau of the word. Plain words. -/
namespace Go.Am.Pu
end Go.Am.Pu
end
section
/- Slides outwards: what holds on the way, what they leave; slides in and out undo each other. Plain words. -/
namespace Go.Am.Pu
theorem F3{p:List Int}(hp:cx p=true)(r:Nat):0≤p.getD r 0∧p.getD r 0≤9:=by
 have:=iH hp r
 rwa [eH]at this
theorem Fi{p:List Int}(hp:cx p=true){r:Nat}(hr:r<p.length):1≤p.getD r 0:=by
 rw[aj hr];exact((dn hp).1 _ (List.getElem_mem hr)).1
theorem Sl.up{q:List Int}{g:List (List Int)}{i c:Nat}(h:Sl q g (i+1) c)(hi:Inn q g)(hu:cel g i c≠0)(hl:leftOf g (i+1) c≤cel g i c):Sl q (lI g (i+1) c (cel g i c)) i c:=by
 obtain⟨b1,b2⟩:=zh hu
 have hq:q.getD i 0≤c:=Int.not_lt.1 fun hlt=>hu (hi i c hlt)
 have hqm:=h.qm i
 have hun:=h.num i c hq b2 (by omega)
 have e0:=lf (cel g i c) h.hi h.hc
 have en: ∀r x,¬(r=i+1∧x=c)→cel (lI g (i+1) c (cel g i c)) r x=cel g r x:=fun r x hh=>jE _ hh
 have hll:=h.lm i
 refine⟨h.q0,h.qm,fun r=> ?_,?_,?_,hq,fun r x=> ?_,fun r x h1 h2 h3=> ?_,fun r x h1 h2 h3 h4=> ?_,fun r x h1 h2 h3 h4=> ?_,fun x h1 h2 h3=> ?_,fun r h1 h2 h3=> ?_⟩
 ·rw[cG,cG];exact h.lm r
 ·rw[ja];exact b1
 ·rw[cG];exact b2
 ·by_cases e:r=i+1∧x=c
  ·rw[e.1,e.2,e0];exact h.pos _ _
  ·rw[en r x e];exact h.pos _ _
 ·rw[cG]at h2
  by_cases e:r=i+1∧x=c
  ·rw[e.1,e.2,e0];exact hun
  ·rw[en r x e];exact h.num r x h1 h2 e
 ·rw[cG]at h2
  by_cases e:r=i+1∧x=c
  ·obtain⟨rfl,rfl⟩:=e
   rw[e0,en _ _ (by omega)]
   have h5:=h.row i x hq (by omega) (by omega) (by omega)
   have h6:=h.col i (x+1) (by omega) h2 (by omega) (by omega)
   omega
  ·rw[en r x e]
   by_cases e':r=i+1∧x+1=c
   ·obtain⟨rfl,rfl⟩:=e'
    rw[e0]
    unfold leftOf at hl
    rw[if_neg (by omega),show x+1-1=x by omega]at hl
    exact hl
   ·rw[en r (x+1) e'];exact h.row r x h1 h2 e e'
 ·rw[cG]at h2
  by_cases e:r=i+1∧x=c
  ·obtain⟨rfl,rfl⟩:=e
   rw[e0,en _ _ (by omega)]
   exact h.colH i rfl hq h2
  ·rw[en r x e]
   by_cases e':r+1=i+1∧x=c
   ·exact(h3 ⟨by omega,e'.2⟩).elim
   ·rw[en (r+1) x e']
    exact h.col r x h1 h2 e e'
 ·rw[cG]at h3
  rw[en _ _ (by omega),en _ _ (by omega)]
  subst h1
  have h5:=h.row i x h2 (by omega) (by omega) (by omega)
  have h6:=h.row i (x+1) (by omega) h3 (by omega) (by omega)
  omega
 ·rw[cG]at h3
  subst h1
  rw[en _ _ (by omega),e0]
  exact h.col r c h2 b2 (by omega) (by omega)
theorem Sl.left{q:List Int}{g:List (List Int)}{i c:Nat}(h:Sl q g i (c+1))(hi:Inn q g)(hv:cel g i c≠0)(hu:Bl g i (c+1)<cel g i c):Sl q (lI g i (c+1) (cel g i c)) i c:=by
 obtain⟨b1,b2⟩:=zh hv
 have hq:q.getD i 0≤c:=Int.not_lt.1 fun hlt=>hv (hi i c hlt)
 have hqm:=h.qm i
 have hvn:=h.num i c hq b2 (by omega)
 have e0:=lf (cel g i c) h.hi h.hc
 have en: ∀r x,¬(r=i∧x=c+1)→cel (lI g i (c+1) (cel g i c)) r x=cel g r x:=fun r x hh=>jE _ hh
 have hll:=h.lm i
 refine⟨h.q0,h.qm,fun r=> ?_,?_,?_,hq,fun r x=> ?_,fun r x h1 h2 h3=> ?_,fun r x h1 h2 h3 h4=> ?_,fun r x h1 h2 h3 h4=> ?_,fun x h1 h2 h3=> ?_,fun r h1 h2 h3=> ?_⟩
 ·rw[cG,cG];exact h.lm r
 ·rw[ja];exact b1
 ·rw[cG];exact b2
 ·by_cases e:r=i∧x=c+1
  ·rw[e.1,e.2,e0];exact h.pos _ _
  ·rw[en r x e];exact h.pos _ _
 ·rw[cG]at h2
  by_cases e:r=i∧x=c+1
  ·rw[e.1,e.2,e0];exact hvn
  ·rw[en r x e];exact h.num r x h1 h2 e
 ·rw[cG]at h2
  by_cases e:r=i∧x=c+1
  ·obtain⟨rfl,rfl⟩:=e
   rw[e0,en _ _ (by omega)]
   exact h.HS c rfl hq h2
  ·rw[en r x e]
   by_cases e':r=i∧x+1=c+1
   ·exact(h3 ⟨e'.1,by omega⟩).elim
   ·rw[en r (x+1) e'];exact h.row r x h1 h2 e e'
 ·rw[cG]at h2
  by_cases e:r=i∧x=c+1
  ·obtain⟨rfl,rfl⟩:=e
   rw[e0,en _ _ (by omega)]
   have h5:=h.col r c hq (by omega) (by omega) (by omega)
   have h6:=h.row (r+1) c (by omega) h2 (by omega) (by omega)
   omega
  ·rw[en r x e]
   by_cases e':r+1=i∧x=c+1
   ·obtain⟨rfl,rfl⟩:=e'
    rw[e0]
    unfold Bl at hu
    rw[if_neg (by omega),show r+1-1=r by omega]at hu
    exact hu
   ·rw[en (r+1) x e']
    exact h.col r x h1 h2 e e'
 ·rw[cG]at h3
  subst h1
  rw[en _ _ (by omega),e0]
  exact h.row i x h2 b2 (by omega) (by omega)
 ·rw[cG]at h3
  rw[en _ _ (by omega),en _ _ (by omega)]
  subst h1
  have h5:=h.col r c h2 b2 (by omega) (by omega)
  have h6:=h.col (r+1) c hq h3 (by omega) (by omega)
  omega
end Go.Am.Pu
end
section
/- What a slide outwards leaves is a tableau; slides in and out undo each other. Plain words. -/
namespace Go.Am.Pu
theorem DI{q o:List Int}{g:List (List Int)}(hq:cx q=true)(ho:cx o=true)(hin: ∀r,q.getD r 0≤o.getD r 0)(hl: ∀r,r<o.length→((g.getD r []).length:Int)=o.getD r 0)
  (num: ∀r x:Nat,r<o.length→q.getD r 0≤x→(x:Int)<o.getD r 0→1≤cel g r x∧cel g r x≤9)
  (row: ∀r x:Nat,r<o.length→q.getD r 0≤x→(x:Int)+1<o.getD r 0→cel g r x≤cel g r (x+1))
  (col: ∀r x:Nat,r+1<o.length→q.getD r 0≤x→(x:Int)<o.getD (r+1) 0→cel g r x<cel g (r+1) x):
  iK (q,dO q g o.length)=true∧outer (q,dO q g o.length)=o:=by
 have q0:=fun r=>(F3 hq r).1
 generalize hR:dO q g o.length=R
 have hRl:R.length=o.length:=by rw[←hR,jx]
 have cell: ∀{r k:Nat},r<R.length→k<(R.getD r []).length→((q.getD r 0).toNat+k:Int)<o.getD r 0∧(R.getD r []).getD k 0=cel g r ((q.getD r 0).toNat+k):=by
  intro r k hr hk
  subst hR
  rw[kW (by omega)]at hk⊢
  rw[List.length_drop]at hk
  have:=hl r (by omega)
  refine⟨by omega,?_⟩
  rw[yI];rfl
 have Ar: ∀{r:Nat},r<R.length→o.getD r 0=q.getD r 0+((R.getD r []).length:Int):=by
  intro r hr
  subst hR
  rw[kW (by omega),List.length_drop]
  have:=hl r (by omega)
  have:=hin r
  have:=q0 r
  omega
 have hout:outer (q,R)=o:=by
  refine List.ext_getElem (by rw[cN];exact hRl) fun r h1 h2=> ?_
  rw[←aj h1 0,←aj h2 0]
  have h3:r<R.length:=by omega
  have:=fU q R 0 r h3
  rw[Nat.zero_add]at this
  unfold outer
  rw[this]
  exact(Ar h3).symm
 refine⟨?_,hout⟩
 have hlen:q.length≤R.length:=by
  refine Nat.le_of_not_lt fun hlt=> ?_
  have a:=Fi hq hlt
  have b:=hin R.length
  rw[cu (xs:=o) (by omega)]at b
  omega
 have om:=mH ho
 have qm:=mH hq
 simp only[iK,dB,dV,Bool.and_eq_true,decide_eq_true_eq]
 rw[hout]
 refine⟨⟨hq,hlen,hq,ho,by omega,?_⟩,?_⟩
 ·rw[eE]
  intro r _
  exact decide_eq_true (hin r)
 ·rw[eE]
  intro r hr
  rw[eE]
  intro k hk
  have hqr:=q0 r
  obtain⟨c1,c4⟩:=cell hr hk
  have hnum:=num r ((q.getD r 0).toNat+k) (by omega) (by omega) (by omega)
  simp only[g6,within,Bool.and_eq_true,Bool.or_eq_true,decide_eq_true_eq]
  rw[c4]
  refine⟨hnum,?_,?_⟩
  ·cases k with
   |zero=>exact .inl rfl
   |succ k=>
    obtain⟨d1,d4⟩:=cell hr (show k<(R.getD r []).length by omega)
    right
    rw[show k+1-1=k from rfl,d4]
    exact row r ((q.getD r 0).toNat+k) (by omega) (by omega) (by omega)
  ·cases r with
   |zero=>exact .inl rfl
   |succ r=>
    right
    have hr':r<R.length:=by omega
    have em:((r+1:Nat):Int)-1=(r:Int):=by omega
    rw[em,ml hr']
    have hqr:=q0 r
    have hqm:=qm r
    have hrl:=Ar hr'
    have hom:=om r
    simp only
    by_cases e:q.getD (r+1) 0+(k:Int)<q.getD r 0
    ·rw[qd (by omega)];omega
    ·obtain⟨y,hy⟩: ∃y:Nat,q.getD (r+1) 0+(k:Int)-q.getD r 0=y:=⟨(q.getD (r+1) 0+(k:Int)-q.getD r 0).toNat,by omega⟩
     rw[hy,eH]
     obtain⟨d1,d4⟩:=cell hr' (show y<(R.getD r []).length by omega)
     have ey:(q.getD r 0).toNat+y=(q.getD (r+1) 0).toNat+k:=by omega
     rw[d4,ey]
     exact col r _ (by omega) (by omega) (by omega)
section
variable {t : Tab} {n : Nat} {p : List Int}
def tj(t:Tab)(n:Nat)(p:List Int):List (List Int)×(Nat×Nat):=ue 18 (FW t n) n (p.getD n 0-1).toNat
structure GK (t : Tab) (n : Nat) (p : List Int) (g : List (List Int)) (i c : Nat) (q : List Int) : Prop where
  sl : Sl t.1 g i c
  inn : Inn t.1 g
  len : g.length = p.length
  row : ∀ r, ((g.getD r []).length : Int) = p.getD r 0
  l0 : leftOf g i c = 0
  u0 : Bl g i c = 0
  add : oG t.1 i = (q, true)
  qi : q.getD i 0 = c + 1
  qr : ∀ r, q.getD r 0 = if r = i then (c : Int) + 1 else t.1.getD r 0
  qp : cx q = true
  ins : ∀ r, q.getD r 0 ≤ p.getD r 0
def uv(t:Tab)(n:Nat):Tab×Nat:=
 let p:=(oG (outer t) n).1
 let s:=tj t n p
 let q:=(oG t.1 s.2.1).1
 ((q,dO q s.1 p.length),s.2.1)
theorem GK.tab{g:List (List Int)}{i c:Nat}{q:List Int}(E:GK t n p g i c q)(hp:oG (outer t) n=(p,true)):iK (q,dO q g p.length)=true∧outer (q,dO q g p.length)=p:=by
 obtain⟨b1,b2,b3,b4,b5⟩:=Es hp
 have hq:=E.sl.hq
 have old: ∀r x:Nat,q.getD r 0≤x→t.1.getD r 0≤x∧ ¬(r=i∧x=c):=fun r x hx=>by
  rw[E.qr]at hx
  by_cases e:r=i
  ·rw[if_pos e]at hx
   rw[e]
   exact⟨by omega,by omega⟩
  ·rw[if_neg e]at hx;exact⟨hx,fun e'=>e e'.1⟩
 refine DI E.qp b5 E.ins (fun r _=>E.row r) (fun r x _ h1 h2=> ?_) (fun r x _ h1 h2=> ?_) (fun r x _ h1 h2=> ?_)
 ·have:=E.row r
  exact E.sl.num r x (old r x h1).1 (by omega) (old r x h1).2
 ·have:=E.row r
  exact E.sl.row r x (old r x h1).1 (by omega) (old r x h1).2 (by have:=(old r (x+1) (by omega)).2;exact this)
 ·have:=E.row (r+1)
  have hm:=mH E.qp r
  exact E.sl.col r x (old r x h1).1 (by omega) (old r x h1).2 (by have:=(old (r+1) x (by omega)).2;exact this)
theorem GK.eq{q:List Int}(E:GK t n p (tj t n p).1 (tj t n p).2.1 (tj t n p).2.2 q)(hp:oG (outer t) n=(p,true)):uv t n=((q,dO q (tj t n p).1 p.length),(tj t n p).2.1):=by
 unfold uv
 rw[hp]
 simp only[E.add]
end
section
variable {t : Tab} {n : Nat}
end
end Go.Am.Pu
end
section
/- Words of tableaux; the rows of a slide outwards. Plain words. -/
namespace Go.Am.Pu
def Dt(a n m:Nat)(t:Tab):Prop:=t.1.length≤a∧cy n m t.2
theorem Dt.tab{a n m:Nat}{t:Tab}(h:Dt a n m t)(ha:a≤1048576)(hn:n≤1048576)(hm:m≤1048576):t.1.length≤1048576∧t.2.length≤1048576∧ ∀x∈t.2,x.length≤1048576:=
 ⟨Nat.le_trans h.1 ha,Nat.le_trans h.2.1 hn,fun x hx=>Nat.le_trans (h.2.2 x hx) hm⟩
end Go.Am.Pu
end
section
/- Partitions that are drawn; chains of partitions. Plain words. -/
namespace Go.Am.Pu
def E4(n:Nat)(m:Int)(x:List Int):Prop:=xq n x∧(∀s:Int,0≤s→s+n≤9→fS x m s=true)∧dA x=n
theorem Ak: ∀(x:List Int) {m m' s:Int},m≤m'→fS x m s=true→fS x m' s=true
 | [],_,_,_,_,_=>rfl
 |y::x,m,m',s,h,h1=>by
  simp only[fS,Bool.and_eq_true,decide_eq_true_eq]at h1⊢
  exact⟨h1.1,by omega,h1.2.2⟩
end Go.Am.Pu
end
section
/- Plain laws: tableaux side by side; a number's copies. -/
namespace Go.Am.Pu
open Go Go.Am
attribute [local instance] D.real
theorem Fl{n:Int}(h0:0≤n)(h1:n<18446744073709551616):IntKind.u64.wrap n=n:=by
 show n % 18446744073709551616=n
 exact Int.emod_eq_of_lt h0 h1
theorem E9{n:Nat}(h:n<4294967296):D.shrI .u64 (n:Int) 32=0:=by
 show(n:Int).fdiv (2^32)=0
 rw[Int.fdiv_eq_ediv_of_nonneg _ (by decide)]
 exact Int.ediv_eq_zero_of_lt (by omega) (by omega)
theorem EO{n:Nat}(h:n<4294967296):D.andI .u64 (n:Int) 4294967295=n:=by
 show IntKind.u64.wrap (((BitVec.ofInt 64 (n:Int)&&&BitVec.ofInt 64 4294967295).toNat:Nat):Int)=_
 have e:(BitVec.ofInt 64 (n:Int)&&&BitVec.ofInt 64 4294967295).toNat=n:=by
  rw[BitVec.toNat_and]
  have e1:(BitVec.ofInt 64 (n:Int)).toNat=n:=by
   rw[BitVec.toNat_ofInt]
   omega
  have e2:(BitVec.ofInt 64 4294967295).toNat=2^32-1:=by decide
  rw[e1,e2,Nat.and_two_pow_sub_one_eq_mod]
  exact Nat.mod_eq_of_lt h
 rw[e]
 exact Fl (by omega) (by omega)
end Go.Am.Pu
end
section
/- Plain laws: boxes that lead on to an outer partition; chains. -/
namespace Go.Am.Pu
open Go Go.Am
attribute [local instance] D.real
end Go.Am.Pu
end
section
/- Plain laws: the local rule of insertion; exchanging places and numbers exchanges the two tableaux. -/
namespace Go.Am.Pu
def n8:List (List Int)→Nat→Int→List (List Int)
 | [],_,v=> [[v]]
 |r::rs,0,v=>(r++ [v])::rs
 |r::rs,a+1,v=>r::n8 rs a v
theorem CX: ∀(rs:List (List Int)) (a:Nat) (v:Int),a≤rs.length→eF rs a v=n8 rs a v
 | [],a,v,h=>by
  have:a=0:=by simpa using h
  subst this;rfl
 |r::rs,0,v,_=>by
  unfold eF
  rw[if_neg (by simp)];rfl
 |r::rs,a+1,v,h=>by
  have ih:=CX rs a v (by simpa using h)
  unfold eF at ih⊢
  show _=r::n8 rs a v
  rw[←ih]
  by_cases e:a=rs.length
  ·rw[if_pos (by simp[e]),if_pos e];rfl
  ·rw[if_neg (by simp[e]),if_neg e];rfl
theorem wX: ∀(rs:List (List Int)) (a:Nat) (v:Int),a≤rs.length→ ∀s,((n8 rs a v).getD s []).length=(rs.getD s []).length+if s=a then 1 else 0
 | [],a,v,h,s=>by
  have:a=0:=by simpa using h
  subst this
  cases s<;>simp[n8]
 |r::rs,0,v,_,s=>by cases s<;>simp[n8]
 |r::rs,a+1,v,h,s=>by
  cases s with
  |zero=>simp[n8]
  |succ s=>simpa[n8]using wX rs a v (by simpa using h) s
theorem zl{rs:List (List Int)}{v:Int}(h: ∀z∈rs.flatten,z<v):aC rs v=(n8 rs 0 v,0):=by
 cases rs with
 |nil=>rfl
 |cons r rs=>
  have hr: ∀z∈r,z<v:=fun z hz=>h z (by simp[hz])
  rw[ca,if_neg ?_]
  ·rfl
  ·rw[wW (fun q hq=>by rw[aj hq];have:=hr _ (List.getElem_mem hq);omega)]
   omega
theorem uj: ∀(R:List (List Int)) (r:Nat) (x v:Int),r≤R.length→(∀z∈R.flatten,z<v)→x<v→
  aC (n8 R r v) x=if(aC R x).2=r then(n8 (aC R x).1 (r+1) v,r+1)else(n8 (aC R x).1 r v,(aC R x).2)
 | [],r,x,v,h,_,hx=>by
  have:r=0:=by simpa using h
  subst this
  have e1:aC [] x=([[x]],0):=rfl
  rw[e1,if_pos rfl]
  show aC [[v]] x=_
  have hf:fst [v] x=0:=fst_eq (by simp) (by simpa using hx) (fun j hj=>by omega)
  rw[ca,hf,if_pos (by simp)]
  rfl
 |row::rest,0,x,v,_,hR,hx=>by
  have hrow: ∀z∈row,z<v:=fun z hz=>hR z (by simp[hz])
  have hrest: ∀z∈rest.flatten,z<v:=fun z hz=>hR z (by simp[hz])
  show aC ((row++ [v])::rest) x=_
  rw[ca (row++ [v]),ca row]
  by_cases c:fst row x<row.length
  ·have hf:fst (row++ [v]) x=fst row x:=by
    refine fst_eq (by simp;omega) ?_ (fun q hq=> ?_)
    ·rw[mj c];exact nr c
    ·rw[mj (by omega)];exact jN hq
   rw[hf,if_pos (by simp;omega),if_pos c,mj c,if_neg (by simp)]
   have:(row++ [v]).set (fst row x) x=row.set (fst row x) x++ [v]:=by rw[List.set_append_left _ _ c]
   rw[this];rfl
  ·have he:fst row x=row.length:=by have:= @rL row x;omega
   have hf:fst (row++ [v]) x=row.length:=by
    refine fst_eq (by simp) ?_ (fun q hq=> ?_)
    ·rw[pW (Nat.le_refl _),Nat.sub_self];exact hx
    ·rw[mj hq];exact jN (by omega)
   rw[hf,if_pos (by simp),if_neg c,if_pos rfl,pW (Nat.le_refl _),Nat.sub_self]
   have h1:(row++ [v]).set row.length x=row++ [x]:=by
    rw[List.set_append_right _ _ (Nat.le_refl _),Nat.sub_self];rfl
   have h2:([v]:List Int).getD 0 0=v:=rfl
   rw[h1,h2,zl hrest]
   rfl
 |row::rest,r+1,x,v,h,hR,hx=>by
  have hrow: ∀z∈row,z<v:=fun z hz=>hR z (by simp[hz])
  have hrest: ∀z∈rest.flatten,z<v:=fun z hz=>hR z (by simp[hz])
  show aC (row::n8 rest r v) x=_
  rw[ca row (n8 rest r v),ca row rest]
  by_cases c:fst row x<row.length
  ·rw[if_pos c,if_pos c]
   have hy:row.getD (fst row x) 0<v:=by rw[aj c];exact hrow _ (List.getElem_mem c)
   rw[uj rest r _ v (by simpa using h) hrest hy]
   by_cases e:(aC rest (row.getD (fst row x) 0)).2=r
   ·rw[if_pos e,if_pos (by show(aC rest _).2+1=r+1;rw[e])];rfl
   ·rw[if_neg e,if_neg (by show¬(aC rest _).2+1=r+1;omega)];rfl
  ·rw[if_neg c,if_neg c,if_neg (by simp)];rfl
theorem vh{v:Int}: ∀(w:List Int) (R:List (List Int)),(∀z∈R.flatten,z<v)→(∀z∈w,z<v)→ ∀z∈(dx w R).flatten,z<v
 | [],R,h,_=>h
 |x::w,R,h,hw=>vh w _ (fun z hz=>by
  rcases lX R x z hz with e|e
  ·rw[e];exact hw x (List.mem_cons_self ..)
  ·exact h z e) fun z hz=>hw z (List.mem_cons_of_mem _ hz)
theorem v9{v:Int}: ∀(w:List Int) (R:List (List Int)) (r:Nat),r≤R.length→(∀z∈R.flatten,z<v)→(∀z∈w,z<v)→ ∃r',r'≤(dx w R).length∧dx w (n8 R r v)=n8 (dx w R) r' v
 | [],R,r,h,_,_=>⟨r,h,rfl⟩
 |x::w,R,r,h,hR,hw=>by
  have hx:=hw x (List.mem_cons_self ..)
  obtain⟨a,b,_⟩:=n9 R x
  have hl:=uj R r x v h hR hx
  have hR': ∀z∈(aC R x).1.flatten,z<v:=fun z hz=>by
   rcases lX R x z hz with e|e
   ·rw[e];exact hx
   ·exact hR z e
  show∃r',r'≤(dx w (aC R x).1).length∧dx w (aC (n8 R r v) x).1=n8 (dx w (aC R x).1) r' v
  rw[hl]
  split
  ·next e=>
   refine v9 w _ (r+1) ?_ hR' fun z hz=>hw z (List.mem_cons_of_mem _ hz)
   rw[b];split<;>omega
  ·next e=>
   refine v9 w _ r ?_ hR' fun z hz=>hw z (List.mem_cons_of_mem _ hz)
   rw[b];split<;>omega
theorem wY{v:Int}{u1 u2:List Int}(h1: ∀z∈u1,z<v)(h2: ∀z∈u2,z<v): ∃r,r≤(dx (u1++u2) []).length∧dx (u1++v::u2) []=n8 (dx (u1++u2) []) r v:=by
 rw[j7,j7]
 have hR:=vh (v:=v) u1 [] (fun z hz=>by simp at hz) h1
 show∃r,r≤(dx u2 (dx u1 [])).length∧dx u2 (aC (dx u1 []) v).1=_
 rw[zl hR]
 exact v9 u2 _ 0 (Nat.zero_le _) hR h2
end Go.Am.Pu
end
section
/- Plain laws: places and numbers exchanged: the tableau of the one is the recording of the other. -/
namespace Go.Am.Pu
def wd(L:List (Int×Int)):List Int:=L.map Prod.snd
def shp(w:List Int)(s:Nat):Nat:=((dx w []).getD s []).length
def at1(s r:Nat):Nat:=if s=r then 1 else 0
theorem zC{r a:Nat}(h: ∀s,at1 s r=at1 s a):r=a:=by
 have:=h r
 unfold at1 at this
 rw[if_pos rfl]at this
 split at this
 ·assumption
 ·omega
theorem tD(w:List Int)(x:Int):dx (w++ [x]) []=(aC (dx w []) x).1:=by rw[j7];rfl
theorem rZ(w:List Int)(x:Int)(s:Nat):shp (w++ [x]) s=shp w s+at1 s (aC (dx w []) x).2:=by
 unfold shp at1
 rw[tD,(n9 _ _).2.2]
 split<;>rfl
theorem CW{w:List Int}{v:Int}(h: ∀z∈w,z<v)(s:Nat):shp (w++ [v]) s=shp w s+at1 s 0:=by
 rw[rZ,zl (vh w [] (fun z hz=>by simp at hz) h)]
theorem BC{A B:List Int}{v x:Int}(hA: ∀z∈A,z<v)(hB: ∀z∈B,z<v)(hx:x<v):
  ∃r a,(∀s,shp (A++v::B) s=shp (A++B) s+at1 s r)∧(∀s,shp (A++B++ [x]) s=shp (A++B) s+at1 s a)∧
   ∀s,shp (A++v::B++ [x]) s=shp (A++B) s+at1 s r+if a=r then at1 s (r+1)else at1 s a:=by
 obtain⟨r,h1,h2⟩:=wY hA hB
 have hR: ∀z∈(dx (A++B) []).flatten,z<v:=vh _ [] (fun z hz=>by simp at hz) fun z hz=>by
  rcases List.mem_append.1 hz with h|h
  ·exact hA z h
  ·exact hB z h
 have e1: ∀s,shp (A++v::B) s=shp (A++B) s+at1 s r:=fun s=>by
  unfold shp
  rw[h2,wX _ _ _ h1];rfl
 refine⟨r,(aC (dx (A++B) []) x).2,e1,fun s=>rZ _ _ s,fun s=> ?_⟩
 rw[rZ,e1,h2,uj _ r x v h1 hR hx]
 split<;>rfl
structure Tr (L M : List (Int × Int)) : Prop where
  sl : L.Pairwise fun p q => p.1 < q.1
  sm : M.Pairwise fun p q => p.1 < q.1
  perm : M.Perm (L.map Prod.swap)
theorem Tr.symm{L M:List (Int×Int)}(h:Tr L M):Tr M L:=by
 refine⟨h.sm,h.sl,?_⟩
 have:=(h.perm.map Prod.swap).symm
 rwa [List.map_map,Prod.swap_swap_eq,List.map_id]at this
theorem Tr.len{L M:List (Int×Int)}(h:Tr L M):M.length=L.length:=by simpa using h.perm.length_eq
theorem Tr.mem{L M:List (Int×Int)}(h:Tr L M){p:Int×Int}(hp:p∈L):p.swap∈M:=h.perm.mem_iff.2 (List.mem_map_of_mem hp)
theorem GC{A B:List (Int×Int)}{x:Int×Int}:(A++B).Sublist (A++x::B):=(List.Sublist.refl A).append (List.sublist_cons_self x B)
theorem Tr.cut{L0 A B:List (Int×Int)}{p:Int×Int}(h:Tr (L0++ [p]) (A++p.swap::B)):Tr L0 (A++B):=by
 refine⟨(List.pairwise_append.1 h.sl).1,h.sm.sublist GC,?_⟩
 have h1:(A++p.swap::B).Perm (p.swap::(A++B)):=List.perm_middle
 have h2:((L0++ [p]).map Prod.swap).Perm (p.swap::L0.map Prod.swap):=by
  rw[List.map_append]
  exact List.perm_append_comm
 exact(List.perm_cons _).1 (h1.symm.trans (h.perm.trans h2))
theorem xy{L0:List (Int×Int)}{p:Int×Int}(h:(L0++ [p]).Pairwise fun p q=>p.1<q.1): ∀x∈L0,x.1<p.1:=fun x hx=>(List.pairwise_append.1 h).2.2 x hx p (by simp)
theorem Tr.top{L M0:List (Int×Int)}{q:Int×Int}(h:Tr L (M0++ [q])): ∀x∈L,x≠q.swap→x.2<q.1:=fun x hx hne=>by
 have hm:=h.mem hx
 rcases List.mem_append.1 hm with h1|h1
 ·exact xy h.sm _ h1
 ·simp only[List.mem_singleton]at h1
  exact absurd (by rw[←h1,Prod.swap_swap]) hne
theorem wC(A B:List (Int×Int)):wd (A++B)=wd A++wd B:=List.map_append ..
theorem uu{L:List (Int×Int)}{v:Int}(h: ∀x∈L,x.2<v): ∀z∈wd L,z<v:=fun z hz=>by
 obtain⟨x,hx,rfl⟩:=List.mem_map.1 hz
 exact h x hx
theorem zf{L:List (Int×Int)}(h:L.Pairwise fun p q=>p.1<q.1): ∀{A B:List (Int×Int)} {q:Int×Int},L=A++q::B→ ∀x∈A++B,x≠q:=by
 intro A B q e x hx hxq
 subst e;subst hxq
 have h1:=List.pairwise_append.1 h
 rcases List.mem_append.1 hx with hx|hx
 ·have:=h1.2.2 x hx x (by simp);omega
 ·have:=(List.pairwise_cons.1 h1.2.1).1 x hx;omega
theorem yd: ∀(n:Nat) (L M:List (Int×Int)),L.length=n→Tr L M→ ∀s,shp (wd L) s=shp (wd M) s:=by
 intro n
 induction n using Nat.strongRecOn with
 |_ n ih=>
 intro L M hn h s
 rcases List.eq_nil_or_concat L with e|⟨L0,p,e⟩
 ·subst e
  have:M= []:=List.eq_nil_of_length_eq_zero (by rw[h.len];rfl)
  subst this;rfl
 rcases List.eq_nil_or_concat M with e'|⟨M0,q,e'⟩
 ·subst e'
  have:=h.len
  rw[e]at this
  simp at this
 rw[List.concat_eq_append]at e e'
 subst e;subst e'
 rw[List.length_append,List.length_singleton]at hn
 have hp:=h.mem (show p∈L0++ [p] by simp)
 have hq:=h.symm.mem (show q∈M0++ [q] by simp)
 have t1:=h.top
 have t2:=h.symm.top
 by_cases hpq:p=q.swap
 ·
  have e:q=p.swap:=by rw[hpq,Prod.swap_swap]
  subst e
  have h0:Tr L0 (M0++ []):=Tr.cut (A:=M0) (B:= []) (by simpa using h)
  rw[List.append_nil]at h0
  have hL: ∀z∈wd L0,z<p.2:=uu fun x hx=>by
   have:=t1 x (by simp[hx]) (fun e=>by
    rw[Prod.swap_swap]at e
    have:=xy h.sl x hx
    rw[e]at this;omega)
   exact this
  have hM: ∀z∈wd M0,z<p.1:=uu fun x hx=>by
   have:=t2 x (by simp[hx]) (fun e=>by
    have:=xy h.sm x hx
    rw[e]at this;omega)
   exact this
  have w1:wd (L0++ [p])=wd L0++ [p.2]:=wC ..
  have w2:wd (M0++ [p.swap])=wd M0++ [p.1]:=wC ..
  rw[w1,w2,CW hL,CW hM,ih L0.length (by omega) L0 M0 rfl h0]
 ·have hq0:q.swap∈L0:=by
   rcases List.mem_append.1 hq with hx|hx
   ·exact hx
   ·simp only[List.mem_singleton]at hx;exact absurd hx.symm hpq
  have hp0:p.swap∈M0:=by
   rcases List.mem_append.1 hp with hx|hx
   ·exact hx
   ·simp only[List.mem_singleton]at hx;exact absurd (by rw[←hx,Prod.swap_swap]) hpq
  obtain⟨A,B,rfl⟩:=List.append_of_mem hq0
  obtain⟨C,E,rfl⟩:=List.append_of_mem hp0
  have nA:=zf h.sl (A:=A) (B:=B++ [p]) (q:=q.swap) (by simp)
  have nC:=zf h.sm (A:=C) (B:=E++ [q]) (q:=p.swap) (by simp)
  have bA: ∀x∈A++(B++ [p]),x.2<q.1:=fun x hx=>t1 x (by simp only[List.mem_append,List.mem_cons]at hx⊢;rcases hx with h|h|h<;>simp_all) (nA x hx)
  have bC: ∀x∈C++(E++ [q]),x.2<p.1:=fun x hx=>t2 x (by simp only[List.mem_append,List.mem_cons]at hx⊢;rcases hx with h|h|h<;>simp_all) (nC x hx)
  obtain⟨r,a,r1,r2,r3⟩:=BC (A:=wd A) (B:=wd B) (v:=q.1) (x:=p.2) (uu fun x hx=>bA x (by simp[hx])) (uu fun x hx=>bA x (by simp[hx])) (bA p (by simp))
  obtain⟨r',a',s1,s2,s3⟩:=BC (A:=wd C) (B:=wd E) (v:=p.1) (x:=q.2) (uu fun x hx=>bC x (by simp[hx])) (uu fun x hx=>bC x (by simp[hx])) (bC q (by simp))
  have hlA:(A++q.swap::B).length=(A++B).length+1:=by simp only[List.length_append,List.length_cons];omega
  have hlM:=h.len
  simp only[List.length_append,List.length_cons,List.length_nil]at hn hlM hlA
  have T1:Tr (A++q.swap::B) (C++(E++ [q])):=Tr.cut (by simpa using h)
  have T2:Tr (C++p.swap::E) (A++(B++ [p])):=Tr.cut (by simpa using h.symm)
  have T3:Tr (C++E) (A++B):=Tr.cut (L0:=C++E) (p:=q) (by simpa using T1.symm)
  have i1: ∀s,shp (wd A++q.1::wd B) s=shp (wd C++wd E++ [q.2]) s:=fun s=>by
   have:=ih (A++q.swap::B).length (by simp only[List.length_append,List.length_cons];omega) _ _ rfl T1 s
   simpa[wd]using this
  have i2: ∀s,shp (wd C++p.1::wd E) s=shp (wd A++wd B++ [p.2]) s:=fun s=>by
   have:=ih (C++p.swap::E).length (by simp only[List.length_append,List.length_cons];omega) _ _ rfl T2 s
   simpa[wd]using this
  have i3: ∀s,shp (wd C++wd E) s=shp (wd A++wd B) s:=fun s=>by
   have:=ih (C++E).length (by simp only[List.length_append];omega) _ _ rfl T3 s
   simpa[wd]using this
  have e1:r=a':=zC fun s=>by have:=i1 s;rw[r1,s2,i3]at this;omega
  have e2:r'=a:=zC fun s=>by have:=i2 s;rw[s1,r2,i3]at this;omega
  have g1:=r3 s
  have g2:=s3 s
  have w1:wd (A++q.swap::B++ [p])=wd A++q.1::wd B++ [p.2]:=by simp[wd]
  have w2:wd (C++p.swap::E++ [q])=wd C++p.1::wd E++ [q.2]:=by simp[wd]
  rw[w1,w2,g1,g2,i3]
  subst e1;subst e2
  by_cases c:r'=r
  ·rw[if_pos c,if_pos c.symm,c]
  ·rw[if_neg c,if_neg fun e=>c e.symm];omega
def jo:List (Int×Int)→List (List Int)→List (List Int)→List (List Int)
 | [],_,Q=>Q
 |p::L,P,Q=>jo L (aC P p.2).1 (eF Q (aC P p.2).2 p.1)
theorem yf: ∀(L:List (Int×Int)) (p:Int×Int) (P Q:List (List Int)),jo (L++ [p]) P Q=eF (jo L P Q) (aC (dx (wd L) P) p.2).2 p.1
 | [],_,_,_=>rfl
 |_::L,p,_,_=>yf L p _ _
theorem Gh: ∀(n:Nat) (L M:List (Int×Int)),L.length=n→Tr L M→dx (wd M) []=jo L [] []:=by
 intro n
 induction n with
 |zero=>
  intro L M hn h
  have:L= []:=List.eq_nil_of_length_eq_zero hn
  subst this
  have:M= []:=List.eq_nil_of_length_eq_zero (by rw[h.len];rfl)
  subst this;rfl
 |succ n ih=>
  intro L M hn h
  rcases List.eq_nil_or_concat L with e|⟨L0,p,e⟩
  ·subst e;simp at hn
  rw[List.concat_eq_append]at e
  subst e
  rw[List.length_append,List.length_singleton]at hn
  have hp:=h.mem (show p∈L0++ [p] by simp)
  obtain⟨C,E,rfl⟩:=List.append_of_mem hp
  have h0:Tr L0 (C++E):=Tr.cut h
  have t2:=h.symm.top
  have nC:=zf h.sm (A:=C) (B:=E) (q:=p.swap) rfl
  have bC: ∀x∈C++E,x.2<p.1:=fun x hx=>t2 x (by simp only[List.mem_append,List.mem_cons]at hx⊢;rcases hx with h|h<;>simp_all) (nC x hx)
  obtain⟨r,r1,r2⟩:=wY (v:=p.1) (u1:=wd C) (u2:=wd E) (uu fun x hx=>bC x (by simp[hx])) (uu fun x hx=>bC x (by simp[hx]))
  have ih0:=ih L0 _ (by omega) h0
  rw[wC]at ih0
  have hw:wd (C++p.swap::E)=wd C++p.1::wd E:=by simp[wd]
  have hs: ∀s,shp (wd C++p.1::wd E) s=shp (wd L0) s+at1 s (aC (dx (wd L0) []) p.2).2:=fun s=>by
   rw[←hw,←yd _ _ _ rfl h s,wC]
   exact rZ _ _ _
  have h3: ∀s,shp (wd L0) s=shp (wd C++wd E) s:=fun s=>by rw[yd _ _ _ rfl h0 s,wC]
  have e:r=(aC (dx (wd L0) []) p.2).2:=zC fun s=>by
   have h4:=hs s
   have h5:shp (wd C++p.1::wd E) s=shp (wd C++wd E) s+at1 s r:=by
    unfold shp
    rw[r2,wX _ _ _ r1];rfl
   rw[h5,h3]at h4
   omega
  rw[hw,r2,yf,←e,CX _ _ _ (by rw[←ih0];exact r1),ih0]
end Go.Am.Pu
end
section
/- Plain laws: taking a cell out undoes an insertion. -/
namespace Go.Am.Pu
def upR(r:List Int)(s:List (List Int)×Int):List (List Int)×Int:=match dY r s.2 r.length with
 |some q=>(r.set q s.2::s.1,r.getD q 0)
 |none=>(r::s.1,s.2)
theorem rk: ∀(n:Nat) (x:List Int) (rs:List (List Int)) (y:Int),eW (n+1) (x::rs) y=upR x (eW n rs y)
 |0,x,rs,y=>by
  unfold upR eW
  simp only[List.getD_cons_zero]
  cases dY x y x.length with
  |none=>rfl
  |some q=>rfl
 |n+1,x,rs,y=>by
  unfold eW
  simp only[List.getD_cons_succ]
  cases dY (rs.getD n []) y (rs.getD n []).length with
  |none=>exact rk n x rs y
  |some q=>exact rk n x _ _
def tk:List (List Int)→Nat→List (List Int)×Int
 | [],_=>([],0)
 |r::rs,0=>(if r.length=1 then []else r.take (r.length-1)::rs,r.getD (r.length-1) 0)
 |r::rs,a+1=>upR r (tk rs a)
theorem rA: ∀(rs:List (List Int)) (a:Nat),a<rs.length→bM rs a=tk rs a
 | [],a,h=>by simp at h
 |r::rs,0,_=>by
  unfold bM tk
  simp only[List.getD_cons_zero,eW,List.set_cons_zero,List.take_zero]
 |r::rs,a+1,h=>by
  have ih:=rA rs a (by simpa using h)
  unfold bM at ih⊢
  simp only[List.getD_cons_succ,List.set_cons_succ,rk]
  show _=upR r (tk rs a)
  rw[←ih]
  generalize eW a (rs.set a ((rs.getD a []).take ((rs.getD a []).length-1))) ((rs.getD a []).getD ((rs.getD a []).length-1) 0)=s
  by_cases c:(rs.getD a []).length=1
  ·rw[if_pos c,if_pos c]
   unfold upR
   simp only
   cases dY r s.2 r.length<;>rfl
  ·rw[if_neg c,if_neg c]
structure Tk (rs : List (List Int)) (a : Nat) (R : List (List Int)) (y : Int) : Prop where
  ins : aC R y = (rs, a)
  ssr : SSR R
  pos : ∃ p, p < (rs.getD 0 []).length ∧ y = (rs.getD 0 []).getD p 0 ∧ (R.getD 0 []).length ≤ (rs.getD 0 []).length ∧ (∀ i, i < (R.getD 0 []).length → (rs.getD 0 []).getD i 0 ≤ (R.getD 0 []).getD i 0) ∧
    ∀ i, p ≤ i → i < (R.getD 0 []).length → y < (R.getD 0 []).getD i 0
theorem G6: ∀(rs:List (List Int)) (a:Nat),SSR rs→a<rs.length→(rs.getD (a+1) []).length<(rs.getD a []).length→Tk rs a (tk rs a).1 (tk rs a).2
 | [],a,_,h,_=>by simp at h
 |r::rs,0,hs,_,hc=>by
  obtain⟨h1,h2,h3,h4⟩:=hs
  simp only[List.getD_cons_zero,List.getD_cons_succ]at hc
  by_cases c:r.length=1
  ·have hrs:rs= []:=by
    cases rs with
    |nil=>rfl
    |cons s rs=>simp only[List.getD_cons_zero]at hc;have:=h4.1;omega
   subst hrs
   have e:tk [r] 0=([],r.getD 0 0):=by unfold tk;rw[if_pos c,c]
   rw[e]
   obtain⟨x,rfl⟩: ∃x,r= [x]:=List.length_eq_one_iff.1 c
   exact⟨rfl,trivial,0,by simp,rfl,by simp,fun i hi=>by simp at hi,fun i _ hi=>by simp at hi⟩
  ·have e:tk (r::rs) 0=(r.take (r.length-1)::rs,r.getD (r.length-1) 0):=by unfold tk;rw[if_neg c]
   rw[e]
   have hl:(r.take (r.length-1)).length=r.length-1:=by rw[List.length_take];omega
   have hg: ∀i,i<r.length-1→(r.take (r.length-1)).getD i 0=r.getD i 0:=fun i hi=>by
    simp only[List.getD_eq_getElem?_getD,List.getElem?_take,if_pos hi]
   refine⟨?_,⟨by omega,fun i hi=> ?_,?_,h4⟩,r.length-1,by simp;omega,rfl,by simp,fun i hi=> ?_,fun i hp hi=> ?_⟩
   ·have hf:fst (r.take (r.length-1)) (r.getD (r.length-1) 0)=(r.take (r.length-1)).length:=wW fun j hj=>by
     rw[hl]at hj
     rw[hg j hj];exact h2.mono (by omega) (by omega)
    rw[ca,hf,if_neg (Nat.lt_irrefl _)]
    have:r.take (r.length-1)++ [r.getD (r.length-1) 0]=r:=by
     have h:=take_succ (xs:=r) (i:=r.length-1) (by omega) 0
     rw[show r.length-1+1=r.length by omega,List.take_length]at h
     exact h.symm
    rw[this]
   ·rw[hl]at hi
    rw[hg i (by omega),hg (i+1) (by omega)];exact h2 i (by omega)
   ·cases rs with
    |nil=>trivial
    |cons s rs=>
     simp only[List.getD_cons_zero]at hc
     refine⟨by rw[hl];omega,fun q hq=> ?_⟩
     rw[hg q (by omega)];exact h3.2 q hq
   ·simp only[List.getD_cons_zero]at hi⊢
    rw[hl]at hi
    rw[hg i hi];exact Int.le_refl _
   ·simp only[List.getD_cons_zero]at hi
    omega
 |r::rs,a+1,hs,h,hc=>by
  obtain⟨h1,h2,h3,h4⟩:=hs
  simp only[List.getD_cons_succ]at hc
  obtain⟨k1,k2,p,p1,p2,p3,p4,p5⟩:=G6 rs a h4 (by simpa using h) hc
  have hne:0<rs.length:=by simp at h;omega
  have e:tk (r::rs) (a+1)=upR r (tk rs a):=rfl
  rw[e]
  generalize tk rs a=T at*
  obtain⟨R,y⟩:=T
  simp only at k1 k2 p2 p3 p4 p5
  have hov:(rs.getD 0 []).length≤r.length∧ ∀q,q<(rs.getD 0 []).length→r.getD q 0<(rs.getD 0 []).getD q 0:=by
   cases rs with
   |nil=>simp at hne
   |cons s rs=>exact h3
  have hrp:r.getD p 0<y:=by rw[p2];exact hov.2 p p1
  obtain⟨q,hq⟩:=qj (r:=r) (y:=y) (m:=r.length) (i:=p) (by have:=hov.1;omega) hrp
  obtain⟨q1,q2⟩:=lG hq
  have qmax:=fun i (h1:q<i) (h2:i<r.length)=>rI hq i h1 h2
  have hpq:p≤q:=Nat.le_of_not_lt fun hlt=>by have:=qmax p hlt (by have:=hov.1;omega);omega
  have eu:upR r (R,y)=(r.set q y::R,r.getD q 0):=by unfold upR;simp only[hq]
  rw[eu]
  have hset: ∀i,(r.set q y).getD i 0=if i=q then y else r.getD i 0:=fN y q1
  refine⟨?_,⟨by rw[List.length_set];exact h1,fun i hi=> ?_,?_,k2⟩,q,by simpa using q1,rfl,by simp,fun i hi=> ?_,fun i hqi hi=> ?_⟩
  ·have hf:fst (r.set q y) (r.getD q 0)=q:=by
    refine fst_eq (by rw[List.length_set];exact q1) (by rw[hset,if_pos rfl];exact q2) fun j hj=> ?_
    rw[hset,if_neg (by omega)];exact h2.mono (by omega) q1
   rw[ca,hf,if_pos (by rw[List.length_set];exact q1),hset,if_pos rfl,k1,List.set_set]
   have:r.set q (r.getD q 0)=r:=by rw[aj q1,List.set_getElem_self]
   rw[this]
  ·rw[List.length_set]at hi
   rw[hset,hset]
   by_cases e1:i=q
   ·rw[if_pos e1,if_neg (by omega)];exact qmax _ (by omega) hi
   ·rw[if_neg e1]
    by_cases e2:i+1=q
    ·rw[if_pos e2];have:=h2 i hi;rw[e2]at this;omega
    ·rw[if_neg e2];exact h2 i hi
  ·cases R with
   |nil=>trivial
   |cons s' R=>
    simp only[List.getD_cons_zero]at p3 p4 p5
    refine⟨by rw[List.length_set];have:=hov.1;omega,fun i hi=> ?_⟩
    rw[hset]
    split
    ·next e=>exact p5 i (by omega) hi
    ·have:=hov.2 i (by omega);have:=p4 i hi;omega
  ·simp only[List.getD_cons_zero]at hi⊢
   rw[hset]
   split
   ·next e=>rw[e];omega
   ·exact Int.le_refl _
  ·simp only[List.getD_cons_zero]at hi⊢
   rw[List.length_set]at hi
   rw[hset]
   split
   ·exact q2
   ·have:=qmax i (by omega) hi;omega
end Go.Am.Pu
end
section
/- Plain laws: a removed number inserted again; a pair is what its word makes; the inverse of a permutation. -/
namespace Go.Am.Pu
theorem D3{t:Tab}(h:aP t=true): ∀z∈t.2.flatten,1≤z∧z≤9:=by
 have h':=h
 simp only[aP,Bool.and_eq_true]at h'
 exact oY h'.1
theorem xT: ∀(w:List Int) (x:Int) (P Q:List (List Int)) (k:Nat),eO (w++ [x]) P Q k=eF (eO w P Q k) (aC (dx w P) x).2 ((k+w.length+1:Nat):Int)
 | [],_,_,_,_=>rfl
 |y::w,x,P,Q,k=>by
  show eO (w++ [x]) (aC P y).1 (eF Q (aC P y).2 ((k+1:Nat):Int)) (k+1)=_
  rw[xT w x]
  show eF (eO w _ _ (k+1)) (aC (dx w (aC P y).1) x).2 _=eF (eO w _ _ (k+1)) (aC (dx w (aC P y).1) x).2 _
  congr 2
  simp only[List.length_cons]
  omega
theorem AP{q:Tab}: ∀(k:Nat) (P Q:List (List Int)),Unr q k P Q→SSR P→dx (wop q k P) []=P∧eO (wop q k P) [] [] 0=Q
 |0,P,Q,h,hs=>by
  have hQ:Q= []:=by
   have:=El h.pl h.fl
   exact congrArg Prod.snd this
  subst hQ
  have hP:P= []:=List.eq_nil_of_length_eq_zero (by rw[h.same.1];rfl)
  subst hP
  exact⟨rfl,rfl⟩
 |k+1,P,Q,h,hs=>by
  obtain⟨a,a1,a2,a3,a4,a5,a6⟩:=h.step
  have hal:a<P.length:=by rw[h.same.1];exact a2
  have T:=G6 P a hs hal (by rw[h.same.2,h.same.2];exact a5)
  rw[←rA _ _ hal]at T
  obtain⟨i1,i2⟩:=AP k _ _ a6 T.ssr
  have hw:wop q (k+1) P=wop q k (bM P a).1++ [(bM P a).2]:=by
   rw[show wop q (k+1) P=wop q k (bM P (rowOf q ((k+1:Nat):Int)).toNat).1++ [(bM P (rowOf q ((k+1:Nat):Int)).toNat).2]from rfl,a1,Int.toNat_natCast]
  rw[hw,tD,xT,i1,i2,T.ins,Nat.zero_add,oB]
  refine⟨rfl,Gk a2 a5 (fun r hr=> ?_) a4⟩
  exact oz h.pl hr
end Go.Am.Pu
end
section
/- Plain laws: the inverse of a permutation; words that are their own standardization. -/
namespace Go.Am.Pu
section
variable {w : List Int} (h : isWord w = true) (ho : kZ w = true)
include h ho
end
end Go.Am.Pu
end
section
/- Standardization step by step; what the law of the pairs wants, with no program in sight. -/
namespace Go.Am.Pu
set_option linter.unusedSimpArgs false
set_option linter.unusedVariables false
def pc(w:List Int)(i q:Nat):Nat:=((List.range q).filter fun k=>decide (w.getD k 0<w.getD i 0)||(decide (w.getD k 0=w.getD i 0)&&decide (k<i))).length
end Go.Am.Pu
end
section
/- Plain laws: insertion of letters told anew; insertion and recording of pairs in order, with repeats. -/
namespace Go.Am.Pu
set_option linter.unusedVariables false
section
variable {f : Int → Int} (hf : ∀ a b, a ≤ b → f a ≤ f b)
def New(f:Int→Int)(x:Int)(rs:List (List Int)):Prop:= ∀z∈rs.flatten,f z=f x→z<x
def CH(f:Int→Int):List (List Int)→Prop
 | []=>True
 |r::rs=>r.Pairwise (· < ·)∧(∀a∈r,∀b∈rs.flatten,f a=f b→b<a)∧CH f rs
include hf
theorem Gy{r:List Int}{x:Int}(h: ∀z∈r,f z=f x→z<x):fst (r.map f) (f x)=fst r x:=by
 unfold fst
 rw[List.findIdx_map]
 induction r with
 |nil=>rfl
 |cons a r ih=>
  have e:decide (f x<f a)=decide (x<a):=by
   have h1:=h a (List.mem_cons_self ..)
   have h2:=hf x a
   have h3:=hf a x
   by_cases c:x<a
   ·rw[decide_eq_true c,decide_eq_true (by omega)]
   ·rw[decide_eq_false c,decide_eq_false (by have:=h3 (by omega);omega)]
  simp only[List.findIdx_cons,Function.comp,e]
  rw[ih fun z hz=>h z (List.mem_cons_of_mem _ hz)]
theorem y9: ∀(rs:List (List Int)) (x:Int),CH f rs→New f x rs→aC (rs.map (List.map f)) (f x)=((aC rs x).1.map (List.map f),(aC rs x).2)∧CH f (aC rs x).1
 | [],x,_,_=>⟨rfl,by simp[aC,CH]⟩
 |r::rs,x,⟨h1,h2,h3⟩,hn=>by
  have hn1: ∀z∈r,f z=f x→z<x:=fun z hz=>hn z (by rw[List.flatten_cons];exact List.mem_append_left _ hz)
  have hn2: ∀z∈rs.flatten,f z=f x→z<x:=fun z hz=>hn z (by rw[List.flatten_cons];exact List.mem_append_right _ hz)
  have hfs:=Gy hf hn1
  rw[List.map_cons,ca,ca,hfs,List.length_map]
  by_cases c:fst r x<r.length
  ·rw[if_pos c,if_pos c]
   have hy:x<r.getD (fst r x) 0:=nr c
   have hym:r.getD (fst r x) 0∈r:=by rw[aj c];exact List.getElem_mem c
   have hfy:f x<f (r.getD (fst r x) 0):=by
    have a1:=hf x (r.getD (fst r x) 0) (by omega)
    have a2:=hn1 _ hym
    omega
   have e:(r.map f).getD (fst r x) 0=f (r.getD (fst r x) 0):=by rw[aj (by simpa using c),aj c,List.getElem_map]
   obtain⟨i1,i2⟩:=y9 rs (r.getD (fst r x) 0) h3 fun z hz he=>h2 _ hym z hz he.symm
   rw[e,i1]
   refine⟨by simp only[List.map_cons,List.map_set],?_,?_,i2⟩
   ·rw[List.pairwise_iff_getElem]at h1⊢
    intro i j hi hj hij
    rw[List.length_set]at hi hj
    simp only[List.getElem_set]
    have hu:=h1 i j hi hj hij
    by_cases ci:fst r x=i
    ·rw[if_pos ci,if_neg (by omega)]
     subst ci
     rw[aj hi]at hy
     omega
    ·rw[if_neg ci]
     by_cases cj:fst r x=j
     ·rw[if_pos cj]
      have h4:=jN (r:=r) (x:=x) (i:=i) (by omega)
      have h5:=hn1 (r[i]) (List.getElem_mem hi)
      rw[aj hi]at h4
      exact Int.lt_iff_le_and_ne.2 ⟨h4,fun e=>by have:=h5 (by rw[e]);omega⟩
     ·rw[if_neg cj];exact hu
   ·intro a ha b hb he
    obtain⟨i,hi,rfl⟩:=List.getElem_of_mem ha
    rw[List.length_set]at hi
    rw[List.getElem_set]at he⊢
    by_cases ci:fst r x=i
    ·rw[if_pos ci]at he⊢
     rcases lX rs _ b hb with hb|hb
     ·subst hb;omega
     ·exact hn2 b hb he.symm
    ·rw[if_neg ci]at he⊢
     rcases lX rs _ b hb with hb|hb
     ·subst hb
      rw[List.pairwise_iff_getElem]at h1
      rcases Nat.lt_or_ge i (fst r x)with q|q
      ·have h4:=jN (r:=r) (x:=x) q
       rw[aj hi]at h4
       have:=hf _ _ h4
       omega
      ·have:=h1 _ i c hi (by omega)
       rw[aj c];exact this
     ·exact h2 _ (List.getElem_mem hi) b hb he
  ·rw[if_neg c,if_neg c]
   refine⟨by simp only[List.map_cons,List.map_append,List.map_nil],?_,fun a ha b hb he=> ?_,h3⟩
   ·refine List.pairwise_append.2 ⟨h1,List.pairwise_singleton _ _,fun a ha b hb=> ?_⟩
    rw[List.mem_singleton.1 hb]
    obtain⟨i,hi,rfl⟩:=List.getElem_of_mem ha
    have h4:=jN (r:=r) (x:=x) (i:=i) (by omega)
    rw[aj hi]at h4
    have h5:=hn1 _ (List.getElem_mem hi)
    exact Int.lt_iff_le_and_ne.2 ⟨h4,fun e=>by have:=h5 (by rw[e]);omega⟩
   ·rcases List.mem_append.1 ha with ha|ha
    ·exact h2 a ha b hb he
    ·rw[List.mem_singleton.1 ha]at he⊢
     exact hn2 b hb he.symm
theorem BB: ∀(w:List Int) (P:List (List Int)),CH f P→(∀x∈w,New f x P)→w.Pairwise (fun x y=>f x=f y→x<y)→dx (w.map f) (P.map (List.map f))=(dx w P).map (List.map f)∧CH f (dx w P)
 | [],P,h,_,_=>⟨rfl,h⟩
 |x::w,P,h,hn,hp=>by
  obtain⟨p1,p2⟩:=List.pairwise_cons.1 hp
  obtain⟨a,b⟩:=y9 hf P x h (hn x (List.mem_cons_self ..))
  have:=BB w (aC P x).1 b (fun y hy z hz he=>by
   rcases lX P x z hz with e|e
   ·subst e;exact p1 y hy he
   ·exact hn y (List.mem_cons_of_mem _ hy) z e he) p2
  show dx (w.map f) (aC (P.map (List.map f)) (f x)).1=_∧_
  rw[a]
  exact this
omit hf in
theorem yA(g:Int→Int)(Q:List (List Int))(a:Nat)(v:Int):eF (Q.map (List.map g)) a (g v)=(eF Q a v).map (List.map g):=by
 unfold eF
 rw[List.length_map]
 by_cases c:a=Q.length
 ·rw[if_pos c,if_pos c];simp
 ·rw[if_neg c,if_neg c,List.map_set]
  congr 1
  by_cases h:a<Q.length
  ·rw[aj (by simpa using h),aj h];simp
  ·simp[List.getD,List.getElem?_eq_none (show Q.length≤a by omega)]
theorem AX(g:Int→Int): ∀(L:List (Int×Int)) (P Q:List (List Int)),CH f P→(∀x∈wd L,New f x P)→(wd L).Pairwise (fun x y=>f x=f y→x<y)→jo (L.map fun p=>(g p.1,f p.2)) (P.map (List.map f)) (Q.map (List.map g))=(jo L P Q).map (List.map g)
 | [],P,Q,_,_,_=>rfl
 |p::L,P,Q,h,hn,hp=>by
  obtain⟨p1,p2⟩:=List.pairwise_cons.1 (show(p.2::wd L).Pairwise _ from hp)
  obtain⟨a,b⟩:=y9 hf P p.2 h (hn p.2 (List.mem_cons_self ..))
  have:=AX g L (aC P p.2).1 (eF Q (aC P p.2).2 p.1) b (fun y hy z hz he=>by
   rcases lX P p.2 z hz with e|e
   ·subst e;exact p1 y hy he
   ·exact hn y (List.mem_cons_of_mem _ hy) z e he) p2
  show jo (L.map _) (aC (P.map (List.map f)) (f p.2)).1 (eF (Q.map (List.map g)) (aC (P.map (List.map f)) (f p.2)).2 (g p.1))=_
  rw[a,yA]
  exact this
end
def Lex(p q:Int×Int):Prop:=p.1<q.1∨(p.1=q.1∧p.2≤q.2)
theorem Fo{l m:List (Int×Int)}(h:l.Pairwise Lex)(h':m.Pairwise Lex)(p:l.Perm m):l=m:=
 p.eq_of_pairwise (fun a b _ _ h1 h2=>by
  unfold Lex at h1 h2
  exact Prod.ext (by omega) (by omega)) h h'
def cod:Nat→List (Int×Int)→List (Int×Int)
 |_,[]=> []
 |i,p::L=>(100*p.1+i,100*p.2+i)::cod (i+1) L
def dec(v:Int):Int:=v/100
theorem AS: ∀a b:Int,a≤b→dec a≤dec b:=fun a b h=>by unfold dec;omega
theorem qx{a:Int}{i:Nat}(h:i<100):dec (100*a+i)=a:=by unfold dec;omega
theorem DA: ∀(L:List (Int×Int)) (i:Nat),i+L.length≤100→(cod i L).map (fun p=>(dec p.1,dec p.2))=L
 | [],_,_=>rfl
 |p::L,i,h=>by
  simp only[List.length_cons]at h
  simp only[cod,List.map_cons]
  rw[DA L (i+1) (by omega),qx (by omega),qx (by omega)]
theorem zA: ∀(L:List (Int×Int)) (i:Nat) (c:Int×Int),c∈cod i L→ ∃k p,p∈L∧i≤k∧k<i+L.length∧c=(100*p.1+k,100*p.2+k)
 | [],_,c,h=>by cases h
 |p::L,i,c,h=>by
  rcases List.mem_cons.1 h with e|h
  ·exact⟨i,p,List.mem_cons_self ..,Nat.le_refl _,by simp only[List.length_cons];omega,by subst e;rfl⟩
  ·obtain⟨k,q,a,b,d,e⟩:=zA L (i+1) c h
   exact⟨k,q,List.mem_cons_of_mem _ a,by omega,by simp only[List.length_cons];omega,e⟩
def Cd(c d:Int×Int):Prop:=Lex (dec c.1,dec c.2) (dec d.1,dec d.2)∧c.1 % 100<d.1 % 100
theorem FQ: ∀(L:List (Int×Int)) (i:Nat),i+L.length≤100→L.Pairwise Lex→(cod i L).Pairwise Cd
 | [],_,_,_=>List.Pairwise.nil
 |p::L,i,h,hp=>by
  simp only[List.length_cons]at h
  obtain⟨h1,h2⟩:=List.pairwise_cons.1 hp
  refine List.pairwise_cons.2 ⟨fun c hc=> ?_,FQ L (i+1) (by omega) h2⟩
  obtain⟨k,q,a,b,d,e⟩:=zA L (i+1) c hc
  subst e
  have:=h1 q a
  unfold Cd
  simp only
  rw[qx (by omega),qx (by omega),qx (by omega),qx (by omega)]
  exact⟨this,by omega⟩
theorem Ho{α:Type}{R:α→α→Prop}{l:List α}(h:l.Pairwise R){x y:α}(hx:x∈l)(hy:y∈l):x=y∨R x y∨R y x:=by
 obtain⟨i,hi,rfl⟩:=List.getElem_of_mem hx
 obtain⟨j,hj,rfl⟩:=List.getElem_of_mem hy
 rw[List.pairwise_iff_getElem]at h
 rcases Nat.lt_trichotomy i j with q|q|q
 ·exact .inr (.inl (h i j hi hj q))
 ·subst q;exact .inl rfl
 ·exact .inr (.inr (h j i hj hi q))
theorem GM(K:List (Int×Int))(h:(K.map Prod.fst).Nodup): ∃S:List (Int×Int),S.Perm K∧S.Pairwise fun p q=>p.1<q.1:=by
 refine⟨K.mergeSort fun p q=>decide (p.1≤q.1),List.mergeSort_perm _ _,?_⟩
 have h1:=List.pairwise_mergeSort (le:=fun p q:Int×Int=>decide (p.1≤q.1)) (fun a b c h h'=>by simp only[decide_eq_true_eq]at*;omega) (fun a b=>by simp only[Bool.or_eq_true,decide_eq_true_eq];omega) K
 have h2:(K.mergeSort fun p q=>decide (p.1≤q.1)).Pairwise fun p q=>p.1≠q.1:=by
  have:=(((List.mergeSort_perm K fun p q=>decide (p.1≤q.1)).map Prod.fst).nodup_iff).2 h
  exact List.pairwise_map.1 this
 exact(h1.and h2).imp fun⟨a,b⟩=>by simp only[decide_eq_true_eq]at a;omega
theorem Ds{L M:List (Int×Int)}(hl:L.length≤99)(h1:L.Pairwise Lex)(h2:M.Pairwise Lex)(hp:M.Perm (L.map Prod.swap)):dx (wd M) []=jo L [] []:=by
 have hc:=FQ L 0 (by omega) h1
 have hd:=DA L 0 (by omega)
 have hmem: ∀c∈cod 0 L,c.1 % 100=c.2 % 100:=fun c hc=>by
  obtain⟨k,p,a1,a2,a3,rfl⟩:=zA L 0 c hc
  simp only
  omega
 have hlt: ∀{c d:Int×Int},Cd c d→c.1<d.1:=fun{c d} h=>by
  unfold Cd Lex dec at h
  simp only at h
  omega
 have hlk:(cod 0 L).Pairwise fun c d=>dec c.2=dec d.2→c.2<d.2:=hc.imp_of_mem fun{c d} hc hd h e=>by
  have q1:=hmem c hc
  have q2:=hmem d hd
  unfold Cd Lex dec at h
  unfold dec at e
  simp only at h
  omega
 obtain⟨M',m1,m2⟩:=GM ((cod 0 L).map Prod.swap) (by
  rw[List.map_map]
  refine List.pairwise_map.2 (hc.imp_of_mem fun{c d} hc hd h=> ?_)
  have q1:=hmem c hc
  have q2:=hmem d hd
  unfold Cd at h
  simp only[Function.comp,Prod.fst_swap]
  omega)
 have ht:Tr (cod 0 L) M':=⟨hc.imp hlt,m2,m1⟩
 have hs:=Gh _ _ _ rfl ht
 have hm': ∀c∈M',c.swap∈cod 0 L:=fun c hc=>by
  obtain⟨d,hd,rfl⟩:=List.mem_map.1 (m1.mem_iff.1 hc)
  exact hd
 have hlike:M'.Pairwise fun c d=>Lex (dec c.1,dec c.2) (dec d.1,dec d.2)∧(dec c.2=dec d.2→c.2<d.2):=m2.imp_of_mem fun{c d} hcm hdm h=>by
  have q1:=hmem _ (hm' c hcm)
  have q2:=hmem _ (hm' d hdm)
  have tri:=Ho hc (hm' c hcm) (hm' d hdm)
  simp only[Prod.fst_swap,Prod.snd_swap]at q1 q2
  unfold Cd Lex dec at tri
  unfold Lex dec
  simp only[Prod.fst_swap,Prod.snd_swap]at tri⊢
  rcases tri with e|e|e
  ·have:=congrArg Prod.snd e
   simp only[Prod.snd_swap]at this
   omega
  ·omega
  ·omega
 have hM:M'.map (fun c=>(dec c.1,dec c.2))=M:=Fo (List.pairwise_map.2 (hlike.imp fun h=>h.1)) h2 (by
  refine(m1.map _).trans (List.Perm.trans (List.Perm.of_eq ?_) hp.symm)
  conv=>rhs;rw[←hd]
  rw[List.map_map,List.map_map]
  rfl)
 have r1:=(BB AS (wd M') [] trivial (fun x _ z hz=>by cases hz) (List.pairwise_map.2 (hlike.imp fun h=>h.2))).1
 have r2:=AX AS dec (cod 0 L) [] [] trivial (fun x _ z hz=>by cases hz) (List.pairwise_map.2 hlk)
 rw[hd]at r2
 have r3:wd M=(wd M').map dec:=by
  rw[←hM]
  unfold wd
  rw[List.map_map,List.map_map]
  rfl
 rw[r3]
 exact r1.trans ((congrArg _ hs).trans r2.symm)
end Go.Am.Pu
end
section
/- Plain laws: the word of a recorded pair is the word; a recording with repeats, told by standard numbers. -/
namespace Go.Am.Pu
set_option linter.unusedVariables false
theorem yi{r:List Int}{y:Int}: ∀{m q:Nat},q<m→r.getD q 0<y→(∀c,q<c→c<m→y≤r.getD c 0)→dY r y m=some q
 |0,q,h,_,_=>by omega
 |m+1,q,h,h1,h2=>by
  unfold dY
  by_cases e:q=m
  ·subst e;rw[if_pos h1]
  ·rw[if_neg (by have:=h2 m (by omega) (by omega);omega)]
   exact yi (by omega) h1 fun c a b=>h2 c a (by omega)
theorem EY: ∀(rs:List (List Int)) (x:Int),SSR rs→tk (aC rs x).1 (aC rs x).2=(rs,x)
 | [],x,_=>rfl
 |r::rs,x,⟨h1,h2,h3,h4⟩=>by
  rw[ca]
  by_cases c:fst r x<r.length
  ·rw[if_pos c]
   show upR (r.set (fst r x) x) (tk (aC rs (r.getD (fst r x) 0)).1 (aC rs (r.getD (fst r x) 0)).2)=_
   rw[EY rs _ h4]
   have hy:=nr c
   have hl:dY (r.set (fst r x) x) (r.getD (fst r x) 0) (r.set (fst r x) x).length=some (fst r x):=by
    rw[List.length_set]
    refine yi c ?_ fun d a b=> ?_
    ·rw[fN x c,if_pos rfl];exact hy
    ·rw[fN x c,if_neg (by omega)];exact h2.mono (by omega) b
   unfold upR
   simp only
   rw[hl]
   simp only
   rw[List.set_set,fN x c,if_pos rfl,aj c,List.set_getElem_self]
  ·rw[if_neg c]
   show((if(r++ [x]).length=1 then []else(r++ [x]).take ((r++ [x]).length-1)::rs),(r++ [x]).getD ((r++ [x]).length-1) 0)=_
   rw[List.length_append,List.length_singleton,if_neg (by omega),Nat.add_sub_cancel,List.take_left',iz,if_pos rfl]
   rfl
theorem Ae: ∀(w:List Int) (P:List (List Int)),SSR P→SSR (dx w P)
 | [],P,h=>h
 |x::w,P,h=>Ae w _ (vw P x h)
theorem xi: ∀(w:List Int) (x:Int) (P:List (List Int)),m9 (w++ [x]) P=m9 w P++ [(aC (dx w P) x).2]
 | [],_,_=>rfl
 |y::w,x,P=>by
  show _::m9 (w++ [x]) _=_
  rw[xi w x]
  rfl
theorem yJ: ∀(w:List Int) (P:List (List Int)),(m9 w P).length=w.length
 | [],_=>rfl
 |y::w,P=>by simp[m9,yJ w]
theorem A7{q:Tab}: ∀(n:Nat) (w:List Int),w.length=n→(∀i,i<n→rowOf q ((i+1:Nat):Int)=((m9 w []).getD i 0:Nat))→wop q n (dx w [])=w
 |0,w,h,_=>by rw[List.eq_nil_of_length_eq_zero h];rfl
 |n+1,w,h,hr=>by
  rcases List.eq_nil_or_concat w with e|⟨v,x,e⟩
  ·subst e;simp at h
  rw[List.concat_eq_append]at e
  subst e
  rw[List.length_append,List.length_singleton]at h
  rw[xi]at hr
  have hv:v.length=n:=by omega
  have hl:(m9 v []).length=n:=by rw[yJ];exact hv
  have hn:=hr n (by omega)
  rw[show(m9 v []++ [(aC (dx v []) x).2]).getD n 0=(aC (dx v []) x).2 by rw[←hl];simp[List.getD]]at hn
  have hlen:=n9 (dx v []) x
  have ht:bM (aC (dx v []) x).1 (aC (dx v []) x).2=(dx v [],x):=by
   rw[rA _ _ (by have a:=hlen.1;have b:=hlen.2.1;split at b<;>omega)]
   exact EY _ _ (Ae v [] trivial)
  rw[show wop q (n+1) (dx (v++ [x]) [])=wop q n (bM (dx (v++ [x]) []) (rowOf q ((n+1:Nat):Int)).toNat).1++ [(bM (dx (v++ [x]) []) (rowOf q ((n+1:Nat):Int)).toNat).2]from rfl,hn,Int.toNat_natCast,tD,ht]
  rw[A7 n v hv fun i hi=>by
   rw[hr i (by omega)]
   congr 1
   simp[List.getD,List.getElem?_append,hl,hi]]
theorem Dq(f:Int→Int): ∀(L:List (Int×Int)) (P Q:List (List Int)) (k:Nat),(∀i,i<L.length→f ((k+i+1:Nat):Int)=(L.getD i (0,0)).1)→jo L P (Q.map (List.map f))=(eO (wd L) P Q k).map (List.map f)
 | [],_,_,_,_=>rfl
 |p::L,P,Q,k,h=>by
  have h0:=h 0 (Nat.zero_lt_succ _)
  rw[Nat.add_zero]at h0
  simp only[List.getD_cons_zero]at h0
  show jo L (aC P p.2).1 (eF (Q.map (List.map f)) (aC P p.2).2 p.1)=_
  rw[←h0,yA]
  exact Dq f L _ _ (k+1) fun i hi=>by
   have:=h (i+1) (by simpa using hi)
   rw[show k+1+i+1=k+(i+1)+1 by omega,this,List.getD_cons_succ]
theorem pT(f:Int→Int)(S:List (List Int)):cR S (S.map (List.map f)):=⟨by simp,fun i=>by
 by_cases h:i<S.length
 ·rw[aj h,aj (by simpa using h)];simp
 ·simp[List.getD,List.getElem?_eq_none (show S.length≤i by omega)]⟩
theorem vy(f:Int→Int){S:List (List Int)}{r x:Nat}(hr:r<S.length)(hx:x<(S.getD r []).length):cel (S.map (List.map f)) r x=f (cel S r x):=by
 unfold cel
 rw[aj hr]at hx
 rw[aj (show r<(S.map (List.map f)).length by simpa using hr),aj hr,List.getElem_map,aj hx,aj (by simpa using hx),List.getElem_map]
theorem AY{t:Tab}(h:aP t=true){r r' x x':Nat}(hr:r<t.2.length)(hx:x<(t.2.getD r []).length)(hr':r'≤r)(hx':x'≤x):cel t.2 r' x'≤cel t.2 r x∧(r'<r→cel t.2 r' x'<cel t.2 r x):=by
 have hs:=lW h
 have hu:=(sD hs r hr).2
 have h1:cel t.2 r x'≤cel t.2 r x:=hu.mono hx' hx
 by_cases e:r'=r
 ·subst e;exact⟨h1,fun h=>by omega⟩
 ·obtain⟨d,rfl⟩: ∃d,r=r'+d+1:=⟨r-r'-1,by omega⟩
  have:=yT h (x:=x') d r' hr (by omega)
  exact⟨by omega,fun _=>by omega⟩
theorem sJ{t:Tab}(h:aP t=true)(hs:ep t=true){v:Int}(h1:1≤v)(h2:v≤t.2.flatten.length): ∃r x,r<t.2.length∧x<(t.2.getD r []).length∧cel t.2 r x=v:=by
 simp only[ep,Bool.and_eq_true]at hs
 exact k9 (kp.1 hs.2 v (gk.2 ⟨h1,h2⟩))
theorem tJ{X Y:List (List Int)}(h:cR X Y)(he: ∀r x,r<X.length→x<(X.getD r []).length→cel X r x=cel Y r x):X=Y:=by
 refine zu (d:= []) h.1 fun r hr=>zu (d:=0) (h.2 r) fun x hx=>he r x hr hx
theorem Cx{Q X Y:List (List Int)}{f g:Int→Int}(hX:aP ([],X)=true)(sX:ep ([],X)=true)(hY:aP ([],Y)=true)(sY:ep ([],Y)=true)(a:lP Q X f)(b:lP Q Y g):X=Y:=by
 have hXY:cR X Y:=a.same.trans ⟨b.same.1.symm,fun i=>(b.same.2 i).symm⟩
 have hfl:=jc hXY
 have nX:=(eV hX).1
 have nY:=(eV hY).1
 have half: ∀{X Y:List (List Int)} {f g:Int→Int},aP ([],X)=true→ep ([],X)=true→aP ([],Y)=true→ep ([],Y)=true→lP Q X f→lP Q Y g→cR X Y→ ∀v:Nat,
   (∀u:Nat,u<v→ ∀r x,r<X.length→x<(X.getD r []).length→(cel X r x=u↔cel Y r x=u))→ ∀r x,r<X.length→x<(X.getD r []).length→cel X r x=v→cel Y r x=v:=fun{X Y f g} hX sX hY sY a b hs v ih r x hr hx e=>by
  have hrY:r<Y.length:=by rw[←hs.1];exact hr
  have hxY:x<(Y.getD r []).length:=by rw[←hs.2];exact hx
  have c1:=((eV hY).1 r x hrY hxY).1
  simp only at c1
  refine Int.le_antisymm (Int.not_lt.1 fun hgt=> ?_) (Int.not_lt.1 fun hlt=> ?_)
  ·
   have bX:=(fH hX sX).2 _ (gz hr hx)
   have bY:=(fH hY sY).2 _ (gz hrY hxY)
   have hfl:=jc hs
   obtain⟨r',x',q1,q2,q3⟩:=sJ hY sY (v:=(v:Int)) (by simp only at bX;omega) (by simp only at bX⊢;omega)
   simp only at q1 q2 q3
   have hr':r'<X.length:=by rw[hs.1];exact q1
   have hx':x'<(X.getD r' []).length:=by rw[hs.2];exact q2
   have c3:=((eV hX).1 r' x' hr' hx').1
   simp only at c3
   rcases Int.lt_trichotomy (cel X r' x') v with q|q|q
   ·have:=(ih (cel X r' x').toNat (by omega) r' x' hr' hx').1 (by omega)
    omega
   ·obtain⟨e1,e2⟩:=nP hX sX hr hx hr' hx' (by simp only;omega)
    subst e1;subst e2
    omega
   ·have k1:=a.lex r x r' x' hr hx hr' hx' (by omega)
    have k2:=b.lex r' x' r x q1 q2 hrY hxY (by omega)
    omega
  ·have:=(ih (cel Y r x).toNat (by omega) r x hr hx).2 (by omega)
   omega
 have both: ∀v:Nat,∀r x,r<X.length→x<(X.getD r []).length→(cel X r x=v↔cel Y r x=v):=by
  intro v
  induction v using Nat.strongRecOn with
  |_ v ih=>
   intro r x hr hx
   have hr':r<Y.length:=by rw[←hXY.1];exact hr
   have hx':x<(Y.getD r []).length:=by rw[←hXY.2];exact hx
   exact⟨half hX sX hY sY a b hXY v ih r x hr hx,half hY sY hX sX b a ⟨hXY.1.symm,fun i=>(hXY.2 i).symm⟩ v (fun u hu r x hr hx=>(ih u hu r x (by rw[hXY.1];exact hr) (by rw[hXY.2];exact hx)).symm) r x hr' hx'⟩
 refine tJ hXY fun r x hr hx=> ?_
 have:=(nX r x hr hx).1
 simp only at this
 have:=(both (cel X r x).toNat r x hr hx).1 (by omega)
 omega
end Go.Am.Pu
end
section
/- Plain laws: pairs in order and their two tableaux. -/
namespace Go.Am.Pu
set_option linter.unusedVariables false
theorem lex_trans{a b c:Int×Int}(h:Lex a b)(h':Lex b c):Lex a c:=by unfold Lex at*;omega
theorem HR{l:List (Int×Int)}(h: ∀i,i+1<l.length→Lex (l.getD i (0,0)) (l.getD (i+1) (0,0))):l.Pairwise Lex:=by
 have key: ∀d i,i+d+1<l.length→Lex (l.getD i (0,0)) (l.getD (i+d+1) (0,0)):=by
  intro d
  induction d with
  |zero=>intro i hi;exact h i hi
  |succ d ih=>intro i hi;exact lex_trans (ih i (by omega)) (h (i+d+1) hi)
 rw[List.pairwise_iff_getElem]
 intro i j hi hj hij
 have:=key (j-i-1) i (by omega)
 rw[show i+(j-i-1)+1=j by omega,aj hi,aj hj]at this
 exact this
theorem CB: ∀L:List (Int×Int),(L.map Prod.fst).zip (wd L)=L
 | []=>rfl
 |p::L=>by
  show(p.1,p.2)::(L.map Prod.fst).zip (wd L)=_
  rw[CB L]
theorem EV: ∀{a b:List Int},a.length=b.length→wd (a.zip b)=b∧(a.zip b).map Prod.fst=a
 | [],[],_=>⟨rfl,rfl⟩
 | [],b::B,h=>by simp at h
 |a::A,[],h=>by simp at h
 |a::A,b::B,h=>by
  obtain⟨i1,i2⟩:=EV (a:=A) (b:=B) (by simpa using h)
  exact⟨congrArg (b:: ·) i1,congrArg (a:: ·) i2⟩
theorem A4{rs:List (List Int)}(h:SSR rs): ∀d r,r+d<rs.length→(rs.getD (r+d) []).length≤(rs.getD r []).length
 |0,r,_=>Nat.le_refl _
 |d+1,r,hr=>Nat.le_trans (qA h (r+d) hr).1 (A4 h d r (by omega))
def POK(L:List (Int×Int)):Prop:=L.length≤9∧ ∀p∈L,(1≤p.1∧p.1≤9)∧1≤p.2∧p.2≤9
theorem POK.word{L:List (Int×Int)}(h:POK L):isWord (wd L)=true:=by
 unfold isWord within
 simp only[Bool.and_eq_true,decide_eq_true_eq,List.all_eq_true,wd,List.length_map]
 refine⟨h.1,fun x hx=> ?_⟩
 obtain⟨p,hp,rfl⟩:=List.mem_map.1 hx
 exact(h.2 p hp).2
def qI(L:List (Int×Int))(v:Int):Int:=(L.getD (v-1).toNat (0,0)).1
theorem rec_eq(L:List (Int×Int)):jo L [] []=(eO (wd L) [] [] 0).map (List.map (qI L)):=
 Dq (qI L) L [] [] 0 fun i hi=>by
  unfold qI
  rw[show(((0+i+1:Nat):Int)-1).toNat=i by omega]
section
variable {L : List (Int × Int)} (h : POK L) (hl : L.Pairwise Lex)
include h
theorem o9:aP (([],eO (wd L) [] [] 0):Tab)=true∧ep (([],eO (wd L) [] [] 0):Tab)=true∧(eO (wd L) [] [] 0).flatten.length=L.length:=by
 have hw:=h.word
 have:=w6 hw
 unfold mF at this
 rw[if_pos hw]at this
 simpa[wd]using this
theorem g9{r x i:Nat}(hi:i<L.length)(hr:r<(eO (wd L) [] [] 0).length)(hx:x<((eO (wd L) [] [] 0).getD r []).length)(e:cel (eO (wd L) [] [] 0) r x=((i+1:Nat):Int)):(m9 (wd L) []).getD i 0=r:=by
 obtain⟨p1,p2,p3⟩:=o9 h
 have a:=(pM h.word).2 i (by simpa[wd]using hi)
 have b:=jd p1 p2 hr hx e
 omega
theorem FN{i:Nat}(hi:i<L.length):(wd L).getD i 0=(L.getD i (0,0)).2:=by
 unfold wd
 rw[aj (by simpa using hi),aj hi,List.getElem_map]
include hl
theorem y6{i j:Nat}(hij:i<j)(hj:j<L.length):Lex (L.getD i (0,0)) (L.getD j (0,0)):=by
 rw[List.pairwise_iff_getElem]at hl
 rw[aj (by omega),aj hj]
 exact hl i j (by omega) hj hij
theorem zY{i r x r' x':Nat}(hi:i+1<L.length)(e:(L.getD i (0,0)).1=(L.getD (i+1) (0,0)).1)
  (hr:r<(eO (wd L) [] [] 0).length) (hx:x<((eO (wd L) [] [] 0).getD r []).length) (hr':r'<(eO (wd L) [] [] 0).length) (hx':x'<((eO (wd L) [] [] 0).getD r' []).length)
  (c:cel (eO (wd L) [] [] 0) r x=((i+1:Nat):Int)) (c':cel (eO (wd L) [] [] 0) r' x'=((i+1+1:Nat):Int)):x<x':=by
 obtain⟨p1,p2,p3⟩:=o9 h
 have a:=g9 h (by omega) hr hx c
 have b:=g9 h (i:=i+1) hi hr' hx' c'
 have d:=rh (wd L) [] trivial i (by simpa[wd]using hi)
 rw[a,b,FN h (by omega),FN h (by omega)]at d
 have l:=y6 h hl (i:=i) (j:=i+1) (by omega) hi
 unfold Lex at l
 have hle:r'≤r:=by omega
 refine Nat.lt_of_not_le fun hc=> ?_
 have:=(AY p1 (r:=r) (x:=x) (r':=r') (x':=x') hr hx hle hc).1
 simp only at this
 omega
theorem ya: ∀(d i:Nat) {r x r' x':Nat},i+d+1<L.length→(L.getD i (0,0)).1=(L.getD (i+d+1) (0,0)).1→
  r<(eO (wd L) [] [] 0).length→x<((eO (wd L) [] [] 0).getD r []).length→r'<(eO (wd L) [] [] 0).length→x'<((eO (wd L) [] [] 0).getD r' []).length→
  cel (eO (wd L) [] [] 0) r x=((i+1:Nat):Int)→cel (eO (wd L) [] [] 0) r' x'=((i+d+1+1:Nat):Int)→x<x'
 |0,i,r,x,r',x',hi,e,hr,hx,hr',hx',c,c'=>zY h hl hi e hr hx hr' hx' c c'
 |d+1,i,r,x,r',x',hi,e,hr,hx,hr',hx',c,c'=>by
  obtain⟨p1,p2,p3⟩:=o9 h
  have l1:=y6 h hl (i:=i) (j:=i+1) (by omega) (by omega)
  have l2:=y6 h hl (i:=i+1) (j:=i+(d+1)+1) (by omega) hi
  unfold Lex at l1 l2
  obtain⟨s,y,q1,q2,q3⟩:=sJ p1 p2 (v:=((i+1+1:Nat):Int)) (by omega) (by simp only;omega)
  simp only at q1 q2 q3
  have a:=zY h hl (by omega) (by omega) hr hx q1 q2 c q3
  have b:=ya d (i+1) (r:=s) (x:=y) (r':=r') (x':=x') (by omega) (by rw[show i+1+d+1=i+(d+1)+1 by omega];omega) q1 q2 hr' hx' q3 (by rw[show i+1+d+1+1=i+(d+1)+1+1 by omega];exact c')
  omega
theorem CV:lP (jo L [] []) (eO (wd L) [] [] 0) (qI L):=by
 obtain⟨p1,p2,p3⟩:=o9 h
 have hb:=(fH p1 p2).2
 simp only at hb
 rw[rec_eq]
 refine⟨pT _ _,fun r x hr hx=>vy _ hr hx,fun r x r' x' hr hx hr' hx' c=> ?_⟩
 rw[vy _ hr hx,vy _ hr' hx']
 have b1:=hb _ (gz hr hx)
 have b2:=hb _ (gz hr' hx')
 rw[p3]at b1 b2
 unfold qI
 have l:=y6 h hl (i:=(cel (eO (wd L) [] [] 0) r x-1).toNat) (j:=(cel (eO (wd L) [] [] 0) r' x'-1).toNat) (by omega) (by omega)
 unfold Lex at l
 by_cases e:(L.getD (cel (eO (wd L) [] [] 0) r x-1).toNat (0,0)).1=(L.getD (cel (eO (wd L) [] [] 0) r' x'-1).toNat (0,0)).1
 ·refine .inr ⟨e,?_⟩
  have q:(cel (eO (wd L) [] [] 0) r' x'-1).toNat=(cel (eO (wd L) [] [] 0) r x-1).toNat+((cel (eO (wd L) [] [] 0) r' x'-1).toNat-(cel (eO (wd L) [] [] 0) r x-1).toNat-1)+1:=by omega
  refine ya h hl ((cel (eO (wd L) [] [] 0) r' x'-1).toNat-(cel (eO (wd L) [] [] 0) r x-1).toNat-1) (cel (eO (wd L) [] [] 0) r x-1).toNat (by omega) (by rw[←q];exact e) hr hx hr' hx' (by omega) (by omega)
 ·exact .inl (by omega)
theorem qb:aP (([],jo L [] []):Tab)=true∧outer (([],dx (wd L) []):Tab)=outer (([],jo L [] []):Tab)∧aP (([],dx (wd L) []):Tab)=true:=by
 obtain⟨p1,p2,p3⟩:=o9 h
 have s:=CV h hl
 have hi:=(pM h.word).1
 have hb:=(fH p1 p2).2
 simp only at hb
 have hS:=lW p1
 simp only at hS
 have cell: ∀{r x},r<(jo L [] []).length→x<((jo L [] []).getD r []).length→r<(eO (wd L) [] [] 0).length∧x<((eO (wd L) [] [] 0).getD r []).length:=fun{r x} a b=>⟨by rw[s.same.1];exact a,by rw[s.same.2];exact b⟩
 have hfl:=jc s.same
 have hP:aP (([],dx (wd L) []):Tab)=true:=tL hi (by have:=h.1;simpa[wd]using this)
 refine⟨og (p0 (fun r hr=>⟨?_,fun x hx=> ?_⟩) fun r hr=>⟨?_,fun x hx=> ?_⟩) (fun z hz=> ?_) (by rw[←hfl,p3];exact h.1),?_,hP⟩
 ·rw[←s.same.2];exact(sD hS r (by rw[s.same.1];exact hr)).1
 ·obtain⟨a1,a2⟩:=cell hr (by omega:x<_)
  obtain⟨_,b2⟩:=cell hr hx
  have hn:=AY p1 (r:=r) (x:=x+1) (r':=r) (x':=x) a1 b2 (Nat.le_refl _) (by omega)
  simp only at hn
  have hne:cel (eO (wd L) [] [] 0) r x≠cel (eO (wd L) [] [] 0) r (x+1):=fun e=>by
   have:=(nP p1 p2 (a:=r) (b:=r) (x:=x) (y:=x+1) a1 a2 a1 b2 e).2
   omega
  have:=s.lex r x r (x+1) a1 a2 a1 b2 (by omega)
  show cel (jo L [] []) r x≤cel (jo L [] []) r (x+1)
  omega
 ·rw[←s.same.2,←s.same.2];exact(qA hS r (by rw[s.same.1];exact hr)).1
 ·have a1:=cell hr hx
  have hlen:=(qA hS r a1.1).1
  have hn:=(AY p1 (r:=r+1) (x:=x) (r':=r) (x':=x) a1.1 a1.2 (by omega) (Nat.le_refl _)).2 (by omega)
  have:=s.lex r x (r+1) x (by have:=a1.1;omega) (by have:=a1.2;omega) a1.1 a1.2 hn
  show cel (jo L [] []) r x<cel (jo L [] []) (r+1) x
  omega
 ·obtain⟨r,x,a,b,rfl⟩:=k9 hz
  obtain⟨a1,a2⟩:=cell a b
  rw[s.val r x a1 a2]
  have hc:=hb _ (gz a1 a2)
  rw[p3]at hc
  unfold qI
  have hlt:(cel (eO (wd L) [] [] 0) r x-1).toNat<L.length:=by omega
  rw[aj hlt]
  exact(h.2 _ (List.getElem_mem hlt)).1
 ·exact nx rfl rfl (hi.same.1.trans s.same.1) fun r=>(hi.same.2 r).trans (s.same.2 r)
theorem EM:(mE (jo L [] []).flatten).zip (wop ([],iw (jo L [] [])) (jo L [] []).flatten.length (dx (wd L) []))=L:=by
 obtain⟨p1,p2,p3⟩:=o9 h
 have s:=CV h hl
 obtain⟨q1,q2,q3⟩:=qb h hl
 obtain⟨F,f1,f2,f3,f4,f5,f6⟩:=vT q1
 have hu:=Cx f1 f2 p1 p2 f3 s
 have hfl:=jc s.same
 rw[hu,←hfl,p3]
 have hw:=A7 (q:=([],eO (wd L) [] [] 0)) L.length (wd L) (by simp[wd]) fun i hi=>by
  exact(pM h.word).2 i (by simpa[wd]using hi)
 rw[hw]
 have hF:(L.map Prod.fst).Perm (jo L [] []).flatten:=by
  have e:(jo L [] []).flatten=(eO (wd L) [] [] 0).flatten.map (qI L):=by rw[rec_eq,List.map_flatten]
  have hp:(eO (wd L) [] [] 0).flatten.Perm (nE L.length):=(List.perm_ext_iff_of_nodup (fH p1 p2).1 (mq _)).2 fun v=>by
   constructor
   ·intro hv
    have:=(fH p1 p2).2 v hv
    simp only at this
    rw[p3]at this
    exact gk.2 this
   ·intro hv
    rw[gk]at hv
    obtain⟨r,x,a,b,e⟩:=sJ p1 p2 (v:=v) hv.1 (by simp only;omega)
    rw[←e];exact gz a b
  have hm:(nE L.length).map (qI L)=L.map Prod.fst:=by
   unfold nE
   rw[List.map_map]
   apply List.ext_getElem
   ·simp
   ·intro i h1 h2
    simp only[List.getElem_map,List.getElem_range,Function.comp,qI]
    have hi:i<L.length:=by simpa using h1
    rw[show((i:Int)+1-1).toNat=i by omega,aj hi]
  rw[e,←hm]
  exact(hp.map _).symm
 have hs:(L.map Prod.fst).Pairwise (· ≤ ·):=List.pairwise_map.2 (hl.imp fun{a b} h=>by unfold Lex at h;omega)
 rw[wq hF hs,CB]
end
theorem FF{p q:Tab}(hp:aP p=true)(hq:aP q=true)(ho:outer p=outer q):
  ((mE q.2.flatten).zip (wop ([],iw q.2) q.2.flatten.length p.2)).Pairwise Lex∧dx (wd ((mE q.2.flatten).zip (wop ([],iw q.2) q.2.flatten.length p.2))) []=p.2∧jo ((mE q.2.flatten).zip (wop ([],iw q.2) q.2.flatten.length p.2)) [] []=q.2:=by
 have e:(([],q.2):Tab)=q:=Prod.ext (cn hq).symm rfl
 obtain⟨F,f1,f2,f3,f4,f5,f6⟩:=vT (Q:=q.2) (by rw[e];exact hq)
 have hout:outer p=outer (([],iw q.2):Tab):=ho.trans (nx (cn hq) rfl f3.same.1.symm fun r=>(f3.same.2 r).symm)
 have hfl:=jc f3.same
 have hu:=pY hp f1 f2 hout
 simp only at hu
 rw[hfl]at hu
 obtain⟨w1,w2⟩:=AP _ _ _ hu (lW hp)
 rw[wq f4 f5]
 have hlen:F.length=(wop ([],iw q.2) q.2.flatten.length p.2).length:=by rw[oB,f6]
 obtain⟨z1,z2⟩:=EV hlen
 generalize hw:wop ([],iw q.2) q.2.flatten.length p.2=w at*
 have hwl:w.length=q.2.flatten.length:=by rw[←hw,oB]
 have h9:q.2.flatten.length≤9:=gQ hq
 have hget: ∀i,i<w.length→(F.zip w).getD i (0,0)=(F.getD i 0,w.getD i 0):=fun i hi=>by
  have:i<(F.zip w).length:=by rw[List.length_zip];omega
  rw[aj this,List.getElem_zip,aj (by omega),aj hi]
 have hfs: ∀v:Int,qI (F.zip w) v=F.getD (v-1).toNat 0:=fun v=>by
  unfold qI
  by_cases c:(v-1).toNat<w.length
  ·rw[hget _ c]
  ·simp only[List.getD,List.getElem?_eq_none (show F.length≤(v-1).toNat by omega),List.getElem?_eq_none (show(F.zip w).length≤(v-1).toNat by rw[List.length_zip];omega),Option.getD_none]
 have hnum: ∀x∈w,1≤x∧x≤9:=fun x hx=>by
  have hm: ∀v∈w,v∈p.2.flatten:=by
   have:=y8 (R:=fun v=>v∈p.2.flatten) _ _ _ hu fun r hr v hv=>List.mem_flatten.2 ⟨r,hr,hv⟩
   rw[hw]at this
   exact this
  exact D3 hp x (hm x hx)
 have hword:isWord w=true:=by
  unfold isWord within
  simp only[Bool.and_eq_true,decide_eq_true_eq,List.all_eq_true]
  exact⟨by omega,hnum⟩
 have hrow:=(pM hword).2
 rw[w2]at hrow
 refine⟨HR fun i hi=> ?_,by rw[z1];exact w1,?_⟩
 ·rw[List.length_zip]at hi
  rw[hget i (by omega),hget (i+1) (by omega)]
  have hFle:F.getD i 0≤F.getD (i+1) 0:=by
   rw[List.pairwise_iff_getElem]at f5
   rw[aj (by omega),aj (by omega)]
   exact f5 i (i+1) (by omega) (by omega) (by omega)
  unfold Lex
  simp only
  by_cases c:F.getD i 0<F.getD (i+1) 0
  ·exact .inl c
  ·refine .inr ⟨by omega,Int.not_lt.1 fun hlt=> ?_⟩
   have d:=(rh w [] trivial i (by omega)).2 hlt
   have r1:=hrow i (by omega)
   have r2:=hrow (i+1) (by omega)
   obtain⟨r,x,a1,a2,a3⟩:=sJ f1 f2 (v:=((i+1:Nat):Int)) (by omega) (by simp only;omega)
   obtain⟨r',x',b1,b2,b3⟩:=sJ f1 f2 (v:=((i+1+1:Nat):Int)) (by omega) (by simp only;omega)
   simp only at a1 a2 a3 b1 b2 b3
   have t1:=jd f1 f2 (a:=r) (x:=x) a1 a2 a3
   have t2:=jd f1 f2 (a:=r') (x:=x') b1 b2 b3
   have hrr:r<r':=by omega
   have v1:=f3.val r x a1 a2
   have v2:=f3.val r' x' b1 b2
   rw[a3,show(((i+1:Nat):Int)-1).toNat=i by omega]at v1
   rw[b3,show(((i+1+1:Nat):Int)-1).toNat=i+1 by omega]at v2
   have hx:x<x':=by
    have:=f3.lex r x r' x' a1 a2 b1 b2 (by omega)
    omega
   have hS:=lW f1
   simp only at hS
   have hlen':((iw q.2).getD r' []).length≤((iw q.2).getD r []).length:=by
    have:=A4 hS (r'-r) r (by omega)
    rw[show r+(r'-r)=r' by omega]at this
    exact this
   have n1:=(AY f1 (r:=r) (x:=x') (r':=r) (x':=x) a1 (by simp only;omega) (Nat.le_refl _) (by omega)).1
   have n2:=(AY f1 (r:=r') (x:=x') (r':=r) (x':=x') b1 b2 (by omega) (Nat.le_refl _)).2 hrr
   simp only at n1 n2
   have hne:cel (iw q.2) r x≠cel (iw q.2) r x':=fun e=>by
    have:=(nP f1 f2 (a:=r) (b:=r) (x:=x) (y:=x') a1 a2 a1 (by simp only;omega) e).2
    omega
   omega
 ·rw[rec_eq,z1,w2]
  refine tJ ⟨by rw[←(pT _ _).1];exact f3.same.1,fun i=>by rw[←(pT _ _).2];exact f3.same.2 i⟩ fun r x hr hx=> ?_
  have hr':r<(iw q.2).length:=by rw[(pT (qI (F.zip w)) _).1];exact hr
  have hx':x<((iw q.2).getD r []).length:=by rw[(pT (qI (F.zip w)) _).2];exact hx
  rw[vy _ hr' hx',f3.val r x hr' hx',hfs]
end Go.Am.Pu
end
section
/- Plain laws: matrices and their pairs. -/
namespace Go.Am.Pu
set_option linter.unusedVariables false
set_option linter.unusedSimpArgs false
def prR(i:Nat):Nat→List Int→List (Int×Int)
 |_,[]=> []
 |j,n::r=>List.replicate n.toNat (((i+1:Nat):Int),((j+1:Nat):Int))++prR i (j+1) r
def prM:Nat→List (List Int)→List (Int×Int)
 |_,[]=> []
 |i,r::m=>prR i 0 r++prM (i+1) m
def wm(c:Nat)(r:List Int):Bool:=decide (r.length=c)&&(decide (r.length≤9)&&r.all fun n=>within n 0 9)
def cM(m:List (List Int)):Bool:=decide (m.length≤9)&&(m.all (wm (m.getD 0 []).length)&&decide (dA m.flatten≤9))
structure xO (r c : Nat) (m : List (List Int)) : Prop where
  len : m.length = r
  r9 : r ≤ 9
  row : ∀ x ∈ m, x.length = c
  c9 : ∀ x ∈ m, x.length ≤ 9
  num : ∀ x ∈ m, ∀ n ∈ x, 0 ≤ n ∧ n ≤ 9
  sum : dA m.flatten ≤ 9
theorem dq{m:List (List Int)}:cM m=true↔xO m.length (m.getD 0 []).length m:=by
 unfold cM wm within
 simp only[Bool.and_eq_true,decide_eq_true_eq,List.all_eq_true]
 constructor
 ·rintro⟨a,b,c⟩
  exact⟨rfl,a,fun x hx=>(b x hx).1,fun x hx=>(b x hx).2.1,fun x hx=>(b x hx).2.2,c⟩
 ·rintro⟨_,a,b,c,d,e⟩
  exact⟨a,fun x hx=>⟨b x hx,c x hx,d x hx⟩,e⟩
theorem xO.is{r c:Nat}{m:List (List Int)}(h:xO r c m):cM m=true:=by
 rw[dq]
 cases m with
 |nil=>exact⟨rfl,Nat.zero_le _,fun x hx=>(by cases hx),fun x hx=>(by cases hx),fun x hx=>(by cases hx),h.sum⟩
 |cons a m=>
  have:=h.row a (List.mem_cons_self ..)
  exact⟨rfl,by rw[h.len];exact h.r9,fun x hx=>by rw[List.getD_cons_zero,this];exact h.row x hx,h.c9,h.num,h.sum⟩
theorem vm{i:Nat}: ∀(r:List Int) (j:Nat) {p:Int×Int},p∈prR i j r→p.1=((i+1:Nat):Int)∧ ∃b,j≤b∧b<j+r.length∧p.2=((b+1:Nat):Int)
 | [],_,p,h=>by cases h
 |n::r,j,p,h=>by
  rcases List.mem_append.1 h with h|h
  ·rw[List.eq_of_mem_replicate h]
   exact⟨rfl,j,Nat.le_refl _,by simp only[List.length_cons];omega,rfl⟩
  ·obtain⟨a,b,b1,b2,b3⟩:=vm r (j+1) h
   exact⟨a,b,by omega,by simp only[List.length_cons];omega,b3⟩
theorem qo: ∀(m:List (List Int)) (i:Nat) {p:Int×Int},p∈prM i m→ ∃a b,i≤a∧a<i+m.length∧(∃r∈m,b<r.length)∧p=(((a+1:Nat):Int),((b+1:Nat):Int))
 | [],_,p,h=>by cases h
 |r::m,i,p,h=>by
  rcases List.mem_append.1 h with h|h
  ·obtain⟨a,b,b1,b2,b3⟩:=vm r 0 h
   exact⟨i,b,Nat.le_refl _,by simp only[List.length_cons];omega,⟨r,List.mem_cons_self ..,by omega⟩,Prod.ext a b3⟩
  ·obtain⟨a,b,a1,a2,⟨r',b1,b2⟩,e⟩:=qo m (i+1) h
   exact⟨a,b,by omega,by simp only[List.length_cons];omega,⟨r',List.mem_cons_of_mem _ b1,b2⟩,e⟩
theorem C2{i:Nat}: ∀(r:List Int) (j:Nat),(prR i j r).Pairwise Lex
 | [],_=>List.Pairwise.nil
 |n::r,j=>by
  refine List.pairwise_append.2 ⟨List.pairwise_replicate.2 (.inr (.inr ⟨rfl,Int.le_refl _⟩)),C2 r (j+1),fun a ha b hb=> ?_⟩
  rw[List.eq_of_mem_replicate ha]
  obtain⟨h1,c,h2,h3,h4⟩:=vm r (j+1) hb
  unfold Lex
  simp only
  omega
theorem l6: ∀(m:List (List Int)) (i:Nat),(prM i m).Pairwise Lex
 | [],_=>List.Pairwise.nil
 |r::m,i=>by
  refine List.pairwise_append.2 ⟨C2 r 0,l6 m (i+1),fun a ha b hb=> ?_⟩
  obtain⟨h1,_⟩:=vm r 0 ha
  obtain⟨u,v,h2,_,_,h3⟩:=qo m (i+1) hb
  unfold Lex
  rw[h3]
  simp only
  omega
theorem lq: ∀a b:List Int,dA (a++b)=dA a+dA b
 | [],b=>by simp[dA]
 |x::a,b=>by simp only[List.cons_append,dA,lq a b];omega
theorem vk{i:Nat}: ∀(r:List Int) (j:Nat),(∀n∈r,0≤n)→((prR i j r).length:Int)=dA r
 | [],_,_=>rfl
 |n::r,j,h=>by
  have h0:=h n (List.mem_cons_self ..)
  have ih:=vk (i:=i) r (j+1) fun x hx=>h x (List.mem_cons_of_mem _ hx)
  simp only[prR,List.length_append,List.length_replicate,dA]
  omega
theorem sg: ∀(m:List (List Int)) (i:Nat),(∀r∈m,∀n∈r,0≤n)→((prM i m).length:Int)=dA m.flatten
 | [],_,_=>rfl
 |r::m,i,h=>by
  have h0:=vk (i:=i) r 0 (h r (List.mem_cons_self ..))
  have ih:=sg m (i+1) fun x hx=>h x (List.mem_cons_of_mem _ hx)
  simp only[prM,List.length_append,List.flatten_cons,lq]
  omega
theorem xW{i:Nat}: ∀(r:List Int) (j a b:Nat),List.count (((a+1:Nat):Int),((b+1:Nat):Int)) (prR i j r)=if a=i∧j≤b then(r.getD (b-j) 0).toNat else 0
 | [],j,a,b=>by
  by_cases c:a=i∧j≤b
  ·rw[if_pos c];rfl
  ·rw[if_neg c];rfl
 |n::r,j,a,b=>by
  simp only[prR]
  rw[List.count_append,List.count_replicate,xW r (j+1) a b]
  by_cases c:a=i∧j≤b
  ·rw[if_pos c]
   obtain⟨rfl,c2⟩:=c
   by_cases d:b=j
   ·subst d
    rw[if_pos (by simp),if_neg (by omega)]
    simp
   ·rw[if_neg (by simp only[beq_iff_eq,Prod.mk.injEq];omega),if_pos ⟨rfl,by omega⟩,Nat.zero_add]
    rw[show b-j=(b-(j+1))+1 by omega,List.getD_cons_succ]
  ·rw[if_neg c,if_neg (show¬(a=i∧j+1≤b) by omega),if_neg (by simp only[beq_iff_eq,Prod.mk.injEq];omega)]
theorem n0: ∀(m:List (List Int)) (i a b:Nat),List.count (((a+1:Nat):Int),((b+1:Nat):Int)) (prM i m)=if i≤a then((m.getD (a-i) []).getD b 0).toNat else 0
 | [],i,a,b=>by
  by_cases c:i≤a
  ·rw[if_pos c];rfl
  ·rw[if_neg c];rfl
 |r::m,i,a,b=>by
  simp only[prM]
  rw[List.count_append,xW,n0 m (i+1) a b]
  by_cases c:i≤a
  ·rw[if_pos c]
   by_cases d:a=i
   ·subst d
    rw[if_pos ⟨rfl,Nat.zero_le _⟩,if_neg (by omega),Nat.sub_self]
    rfl
   ·rw[if_neg (by omega),if_pos (by omega),Nat.zero_add]
    rw[show a-i=(a-(i+1))+1 by omega,List.getD_cons_succ]
  ·rw[if_neg c,if_neg (show¬(a=i∧0≤b) by omega),if_neg (show¬i+1≤a by omega)]
theorem Ay{l l':List (Int×Int)}(h: ∀p∈l,1≤p.1∧1≤p.2)(h': ∀p∈l',1≤p.1∧1≤p.2)(hc: ∀a b:Nat,List.count (((a+1:Nat):Int),((b+1:Nat):Int)) l=List.count (((a+1:Nat):Int),((b+1:Nat):Int)) l'):l.Perm l':=by
 refine List.perm_iff_count.2 fun x=> ?_
 by_cases c:1≤x.1∧1≤x.2
 ·have:=hc (x.1-1).toNat (x.2-1).toNat
  have e:x=((((x.1-1).toNat+1:Nat):Int),(((x.2-1).toNat+1:Nat):Int)):=Prod.ext (by simp only;omega) (by simp only;omega)
  rw[e]
  exact this
 ·rw[List.count_eq_zero.2 fun hx=>c (h x hx),List.count_eq_zero.2 fun hx=>c (h' x hx)]
theorem yR{m:List (List Int)}: ∀p∈prM 0 m,1≤p.1∧1≤p.2:=fun p hp=>by
 obtain⟨a,b,_,_,_,e⟩:=qo m 0 hp
 rw[e]
 simp only
 omega
theorem xO.pok{r c:Nat}{m:List (List Int)}(h:xO r c m):POK (prM 0 m):=by
 have hl:=sg m 0 fun x hx n hn=>(h.num x hx n hn).1
 have hs:=h.sum
 refine⟨by omega,fun p hp=> ?_⟩
 obtain⟨a,b,_,a2,⟨x,x1,x2⟩,e⟩:=qo m 0 hp
 have h1:=h.len
 have h2:=h.r9
 have h3:=h.c9 x x1
 rw[e]
 simp only
 omega
theorem vR{r c:Nat}: ∀(l:List (Int×Int)) (M:List (List Int)) (b:Int),sL r c b M→(∀p∈l,1≤p.1∧p.1≤r∧1≤p.2∧p.2≤c)→ ∀u v,cel (uf M l) u v=cel M u v+List.count (((u+1:Nat):Int),((v+1:Nat):Int)) l
 | [],M,b,h,_,u,v=>by simp[uf]
 |p::l,M,b,h,hp,u,v=>by
  have hq:=hp p (List.mem_cons_self ..)
  have ih:=vR l (uh M p) (b+1) (vj h hq.1 hq.2.1 hq.2.2.1 hq.2.2.2) (fun p' h'=>hp p' (List.mem_cons_of_mem _ h')) u v
  show cel (uf (uh M p) l) u v=_
  rw[ih]
  have hi:(p.1-1).toNat<M.length:=by rw[h.len];omega
  have hj:(p.2-1).toNat<(M.getD (p.1-1).toNat []).length:=by rw[h.row _ (by omega)];omega
  rw[List.count_cons]
  have e:cel (uh M p) u v=cel M u v+if(p==(((u+1:Nat):Int),((v+1:Nat):Int)))=true then 1 else 0:=by
   unfold cel
   by_cases c1:u=(p.1-1).toNat
   ·subst c1
    have e0:(uh M p).getD (p.1-1).toNat []=(M.getD (p.1-1).toNat []).set (p.2-1).toNat ((M.getD (p.1-1).toNat []).getD (p.2-1).toNat 0+1):=by
     unfold uh
     rw[aj (by rw[List.length_set];exact hi),List.getElem_set_self]
    rw[e0,fN _ hj]
    by_cases c2:v=(p.2-1).toNat
    ·rw[if_pos c2,if_pos (by simp only[beq_iff_eq];exact Prod.ext (by simp only;omega) (by simp only;omega)),c2]
    ·rw[if_neg c2,if_neg (by simp only[beq_iff_eq];intro e;have:=congrArg Prod.snd e;simp only at this;omega),Int.add_zero]
   ·have e0:(uh M p).getD u []=M.getD u []:=by unfold uh;exact getD_set_ne (fun e=>c1 e.symm) _ _
    rw[e0,if_neg (by simp only[beq_iff_eq];intro e;have:=congrArg Prod.fst e;simp only at this;omega),Int.add_zero]
  rw[e]
  split<;>omega
theorem tq(r c u v:Nat):cel (jV r c) u v=0:=by
 have e: ∀n v:Nat,(List.replicate n (0:Int)).getD v 0=0:=fun n v=>by
  simp only[List.getD,List.getElem?_replicate]
  split<;>rfl
 unfold cel jV
 have e2:(List.replicate r (List.replicate c (0:Int))).getD u []=List.replicate (if u<r then c else 0) 0:=by
  simp only[List.getD,List.getElem?_replicate]
  split<;>rfl
 rw[e2]
 exact e _ _
theorem Gx{r c:Nat}{m:List (List Int)}(h:xO r c m):uf (jV r c) (prM 0 m)=m:=by
 have hin: ∀p∈prM 0 m,1≤p.1∧p.1≤r∧1≤p.2∧p.2≤c:=fun p hp=>by
  obtain⟨a,b,_,a2,⟨x,x1,x2⟩,e⟩:=qo m 0 hp
  have h1:=h.len
  have h3:=h.row x x1
  rw[e]
  simp only
  omega
 have ok:=vp (prM 0 m) (jV r c) 0 (mB r c) hin
 have hrow: ∀i,i<r→(m.getD i []).length=c:=fun i hi=>by
  have:i<m.length:=by rw[h.len];exact hi
  rw[aj this];exact h.row _ (List.getElem_mem this)
 refine tJ ⟨by rw[ok.len,h.len],fun i=> ?_⟩ fun u v hu hv=> ?_
 ·by_cases hi:i<r
  ·rw[ok.row i hi,hrow i hi]
  ·simp only[List.getD,List.getElem?_eq_none (show(uf (jV r c) (prM 0 m)).length≤i by rw[ok.len];omega),List.getElem?_eq_none (show m.length≤i by rw[h.len];omega)]
 ·rw[vR _ _ 0 (mB r c) hin,tq,n0,if_pos (Nat.zero_le _),Nat.sub_zero,Int.zero_add]
  have hu':u<m.length:=by rw[h.len,←ok.len];exact hu
  have hv':v<(m.getD u []).length:=by
   have:=ok.len
   rw[hrow u (by omega),←ok.row u (by omega)];exact hv
  have:=h.num (m.getD u []) (by rw[aj hu'];exact List.getElem_mem hu') ((m.getD u []).getD v 0) (by rw[aj hv'];exact List.getElem_mem hv')
  show((((m.getD u []).getD v 0).toNat:Nat):Int)=(m.getD u []).getD v 0
  omega
theorem vO: ∀{l:List Int},(∀x∈l,0≤x)→ ∀x∈l,x≤dA l
 | [],_,x,hx=>by cases hx
 |a::l,h,x,hx=>by
  have h0:=h a (List.mem_cons_self ..)
  have hl: ∀y∈l,0≤y:=fun y hy=>h y (List.mem_cons_of_mem _ hy)
  have hs:0≤dA l:=by
   cases l with
   |nil=>exact Int.le_refl _
   |cons b l'=>
    have:=vO hl b (List.mem_cons_self ..)
    have:=hl b (List.mem_cons_self ..)
    omega
  simp only[dA]
  rcases List.mem_cons.1 hx with rfl|hx
  ·omega
  ·have:=vO hl x hx;omega
theorem GA{r c:Nat}{l:List (Int×Int)}(hr:r≤9)(hc:c≤9)(hl:l.length≤9)(hx:l.Pairwise Lex)(hin: ∀p∈l,1≤p.1∧p.1≤r∧1≤p.2∧p.2≤c):xO r c (uf (jV r c) l)∧prM 0 (uf (jV r c) l)=l:=by
 have ok:=vp l (jV r c) 0 (mB r c) hin
 have get:=vR l (jV r c) 0 (mB r c) hin
 generalize hM:uf (jV r c) l=M at*
 have hrow: ∀x∈M,x.length=c:=fun x hx=>by
  obtain⟨i,hi,rfl⟩:=List.getElem_of_mem hx
  rw[←aj hi []]
  exact ok.row i (by rw[←ok.len];exact hi)
 have hnum: ∀x∈M,∀n∈x,0≤n:=fun x hx n hn=>by
  obtain⟨i,hi,rfl⟩:=List.getElem_of_mem hx
  obtain⟨j,hj,rfl⟩:=List.getElem_of_mem hn
  have:=get i j
  rw[tq]at this
  unfold cel at this
  rw[aj hi,aj hj]at this
  omega
 have hpm:prM 0 M=l:=Fo (l6 M 0) hx (Ay yR (fun p hp=>⟨(hin p hp).1,(hin p hp).2.2.1⟩) fun a b=>by
  rw[n0,if_pos (Nat.zero_le _),Nat.sub_zero]
  have:=get a b
  rw[tq]at this
  unfold cel at this
  rw[this]
  omega)
 have hsum:=sg M 0 hnum
 rw[hpm]at hsum
 refine⟨⟨ok.len,hr,hrow,fun x hx=>by rw[hrow x hx];exact hc,fun x hx n hn=>⟨hnum x hx n hn,?_⟩,by omega⟩,hpm⟩
 have:=vO (l:=M.flatten) (fun y hy=>by
  obtain⟨z,hz,hy⟩:=List.mem_flatten.1 hy
  exact hnum z hz y hy) n (List.mem_flatten.2 ⟨x,hx,hn⟩)
 omega
end Go.Am.Pu
end
section
/- Plain laws: a matrix is told by its two tableaux, and turning it exchanges them. -/
namespace Go.Am.Pu
set_option linter.unusedVariables false
def bN(m:List (List Int)):Tab×(Tab×Bool):=
 if cM m=true then(([],dx (wd (prM 0 m)) []),(([],jo (prM 0 m) [] []),true))else(([],[]),(([],[]),false))
def qk(m:List (List Int)):List Int:=if cM m=true then(prM 0 m).map Prod.fst else []
def kO(m:List (List Int)):List Int:=if cM m=true then wd (prM 0 m)else []
def lR(m:List (List Int)):List (List Int):=(List.range (m.getD 0 []).length).map fun j=>m.map fun r=>r.getD j 0
def dM(m:List (List Int)):List (List Int)×Bool:=if cM m=true∧m.length≠0∧(m.getD 0 []).length≠0 then(lR m,true)else([],false)
theorem DF{l:List Int}{b:Int}(h0:0≤b)(h: ∀x∈l,x≤b):nQ 0 l≤b:=(vA _ _ _).2 ⟨h0,h⟩
theorem A9: ∀(w:List Int) (P:List (List Int)) {z:Int},z∈(dx w P).flatten→z∈w∨z∈P.flatten
 | [],P,z,h=> .inr h
 |x::w,P,z,h=>by
  rcases A9 w _ h with h|h
  ·exact .inl (List.mem_cons_of_mem _ h)
  ·rcases lX P x z h with h|h
   ·exact .inl (by rw[h];exact List.mem_cons_self ..)
   ·exact .inr h
theorem FH{L:List (Int×Int)}(h:POK L){z:Int}(hz:z∈(jo L [] []).flatten): ∃p∈L,z=p.1:=by
 obtain⟨p1,p2,p3⟩:=o9 h
 rw[rec_eq,←List.map_flatten]at hz
 obtain⟨v,hv,rfl⟩:=List.mem_map.1 hz
 have:=(fH p1 p2).2 v hv
 simp only at this
 rw[p3]at this
 have hlt:(v-1).toNat<L.length:=by omega
 unfold qI
 rw[aj hlt]
 exact⟨_,List.getElem_mem hlt,rfl⟩
theorem jX{m:List (List Int)}(h:cM m=true):bN m=(([],dx (wd (prM 0 m)) []),(([],jo (prM 0 m) [] []),true)):=by unfold bN;rw[if_pos h]
theorem Jt{m:List (List Int)}(h:cM m=true)(h0:0<m.length)(h1:0<(m.getD 0 []).length):
  cX (bN m).1 (bN m).2.1 (m.length:Nat) ((m.getD 0 []).length:Nat)=(m,true):=by
 have hm:=dq.1 h
 have hp:=hm.pok
 have hl:=l6 m 0
 obtain⟨a,b,c⟩:=qb hp hl
 have h9:(m.getD 0 []).length≤9:=hm.c9 _ (by rw[aj h0];exact List.getElem_mem h0)
 have hmem: ∀p∈prM 0 m,p.1≤(m.length:Nat)∧p.2≤((m.getD 0 []).length:Nat):=fun p hp=>by
  obtain⟨a,b,_,a2,⟨x,x1,x2⟩,e⟩:=qo m 0 hp
  have:=hm.row x x1
  rw[e]
  simp only
  omega
 have q1:nQ 0 (jo (prM 0 m) [] []).flatten≤(m.length:Nat):=DF (by omega) fun x hx=>by
  obtain⟨p,hp,rfl⟩:=FH hp hx
  exact(hmem p hp).1
 have q2:nQ 0 (dx (wd (prM 0 m)) []).flatten≤((m.getD 0 []).length:Nat):=DF (by omega) fun x hx=>by
  rcases A9 _ _ hx with h|h
  ·obtain⟨p,hp,rfl⟩:=List.mem_map.1 h
   exact(hmem p hp).2
  ·cases h
 rw[jX h]
 unfold cX
 rw[if_pos ⟨c,a,b,⟨by omega,by have:=hm.r9;omega⟩,⟨by omega,by omega⟩,q1,q2⟩]
 simp only[Int.toNat_natCast]
 rw[EM hp hl,Gx hm]
theorem H7{p q:Tab}{r c:Int}(h:(cX p q r c).2=true):bN (cX p q r c).1=(p,(q,true)):=by
 unfold cX at h⊢
 split at h
 ·next g=>
  rw[if_pos g]
  obtain⟨hp,hq,ho,hr,hc,m1,m2⟩:=g
  obtain⟨_,_,_,hfl,hsl,_,hx⟩:=sr hp hq ho m1 m2
  obtain⟨l1,l2,l3⟩:=FF hp hq ho
  have h9:q.2.flatten.length≤9:=gQ hq
  generalize hz:(mE q.2.flatten).zip (wop ([],iw q.2) q.2.flatten.length p.2)=zs at*
  have hlen:zs.length≤9:=by rw[←hz,List.length_zip];omega
  obtain⟨s1,s2⟩:=GA (r:=r.toNat) (c:=c.toNat) (by omega) (by omega) hlen l1 fun x hxm=>by
   have:=hx x hxm
   omega
  simp only
  rw[jX s1.is,s2,l2,l3]
  exact Prod.ext (Prod.ext (cn hp).symm rfl) (Prod.ext (Prod.ext (cn hq).symm rfl) rfl)
 ·cases h
theorem wz(x:Int×Int): ∀l:List (Int×Int),List.count x (l.map Prod.swap)=List.count x.swap l
 | []=>rfl
 |p::l=>by
  rw[List.map_cons,List.count_cons,List.count_cons,wz x l]
  congr 1
  have:(p.swap==x)=(p==x.swap):=by
   rw[Bool.eq_iff_iff,beq_iff_eq,beq_iff_eq]
   constructor
   ·intro e;rw[←e,Prod.swap_swap]
   ·intro e;rw[e,Prod.swap_swap]
  rw[this]
theorem E2{r c:Nat}{m:List (List Int)}(h:xO r c m)(hc:(m.getD 0 []).length=c)(a b:Nat):((lR m).getD b []).getD a 0=(m.getD a []).getD b 0:=by
 unfold lR
 rw[hc]
 by_cases hb:b<c
 ·rw[aj (show b<((List.range c).map _).length by simpa using hb),List.getElem_map,List.getElem_range]
  by_cases ha:a<m.length
  ·rw[aj (show a<(m.map _).length by simpa using ha),List.getElem_map,aj ha]
  ·simp only[List.getD,List.getElem?_eq_none (show(m.map _).length≤a by simpa using ha),List.getElem?_eq_none (show m.length≤a by omega),Option.getD_none,List.getElem?_nil]
 ·have e:(m.getD a []).length≤b:=by
   by_cases ha:a<m.length
   ·have:=h.row (m.getD a []) (by rw[aj ha];exact List.getElem_mem ha)
    omega
   ·simp only[List.getD,List.getElem?_eq_none (show m.length≤a by omega),Option.getD_none,List.length_nil];omega
  have e1:((List.range c).map fun j=>m.map fun r=>r.getD j 0).getD b []= []:=by
   rw[List.getD_eq_getElem?_getD,List.getElem?_eq_none (by simp;omega)];rfl
  rw[e1]
  simp only[List.getD,List.getElem?_nil,Option.getD_none]at e⊢
  rw[List.getElem?_eq_none e];rfl
theorem yp{r c:Nat}{m:List (List Int)}(h:xO r c m)(hc:(m.getD 0 []).length=c):(prM 0 (lR m)).Perm ((prM 0 m).map Prod.swap):=
 Ay yR (fun p hp=>by
  obtain⟨q,hq,rfl⟩:=List.mem_map.1 hp
  have:=yR q hq
  exact⟨this.2,this.1⟩) fun a b=>by
  rw[wz,n0,if_pos (Nat.zero_le _),Nat.sub_zero,E2 h hc b a]
  show _=List.count (((b+1:Nat):Int),((a+1:Nat):Int)) (prM 0 m)
  rw[n0,if_pos (Nat.zero_le _),Nat.sub_zero]
theorem BG{m:List (List Int)}(h:cM m=true)(h0:m.length≠0):cM (lR m)=true:=by
 have hm:=dq.1 h
 have hmem: ∀x∈lR m,∃j,x=m.map fun r=>r.getD j 0:=fun x hx=>by
  obtain⟨j,_,rfl⟩:=List.mem_map.1 hx
  exact⟨j,rfl⟩
 have hnum: ∀x∈lR m,∀n∈x,0≤n∧n≤9:=fun x hx n hn=>by
  obtain⟨j,rfl⟩:=hmem x hx
  obtain⟨r,hr,rfl⟩:=List.mem_map.1 hn
  by_cases c:j<r.length
  ·rw[aj c];exact hm.num r hr _ (List.getElem_mem c)
  ·simp only[List.getD,List.getElem?_eq_none (show r.length≤j by omega),Option.getD_none];omega
 have hl:=(yp hm rfl).length_eq
 rw[List.length_map]at hl
 have l1:=sg m 0 fun x hx n hn=>(hm.num x hx n hn).1
 have l2:=sg (lR m) 0 fun x hx n hn=>(hnum x hx n hn).1
 have h9:(m.getD 0 []).length≤9:=hm.c9 _ (by rw[aj (by omega)];exact List.getElem_mem _)
 have:xO (m.getD 0 []).length m.length (lR m):=⟨by simp[lR],h9,fun x hx=>by
  obtain⟨j,rfl⟩:=hmem x hx
  exact List.length_map ..,fun x hx=>by
  obtain⟨j,rfl⟩:=hmem x hx
  rw[List.length_map];exact hm.r9,hnum,by have:=hm.sum;omega⟩
 exact this.is
theorem Ju{m:List (List Int)}(h:(dM m).2=true):cM m=true∧bN (dM m).1=((bN m).2.1,((bN m).1,true)):=by
 unfold dM at h⊢
 split at h
 ·next g=>
  rw[if_pos g]
  obtain⟨h,h0,h1⟩:=g
  have hm:=dq.1 h
  have ht:=BG h h0
  have hp:=yp hm rfl
  have k1:=hm.pok.1
  have k2:=(dq.1 ht).pok.1
  refine⟨h,?_⟩
  simp only
  rw[jX h,jX ht]
  have e1:=Ds (L:=prM 0 m) (M:=prM 0 (lR m)) (by omega) (l6 _ _) (l6 _ _) hp
  have e2:=Ds (L:=prM 0 (lR m)) (M:=prM 0 m) (by omega) (l6 _ _) (l6 _ _) (by
   have:=(hp.map Prod.swap).symm
   rwa [List.map_map,Prod.swap_swap_eq,List.map_id]at this)
  rw[e1,←e2]
 ·cases h
end Go.Am.Pu
end
section
/- Plain laws: what the functions on matrices make step by step. -/
namespace Go.Am.Pu
set_option linter.unusedVariables false
theorem BL{Q Q':List (List Int)}(h:cR Q Q'){a:Nat}(ha:a≤Q.length)(z z':Int):cR (eF Q a z) (eF Q' a z'):=by
 refine⟨by rw[qy,qy,h.1],fun i=> ?_⟩
 rw[qn z ha,qn z' (by rw[←h.1];exact ha)]
 have h1:=h.2 i
 have h2:=h.2 a
 split
 ·rw[List.length_append,List.length_append,h2];rfl
 ·exact h1
def ur:Int→List Int→Option Int
 |s,[]=>some s
 |s,n::r=>if within n 0 9=true then(if 9<s+n then none else ur (s+n) r)else none
def xw(c:Nat):Int→List (List Int)→Bool
 |_,[]=>true
 |s,r::m=>if r.length=c then(match ur s r with
  |none=>false
  |some s'=>xw c s' m)else false
theorem within_iff{n a b:Int}:within n a b=true↔a≤n∧n≤b:=by simp[within]
theorem wO: ∀(r:List Int) (s:Int),0≤s→s≤9→ur s r=if(r.all fun n=>within n 0 9)=true∧s+dA r≤9 then some (s+dA r)else none
 | [],s,h0,h9=>by
  unfold ur
  rw[if_pos ⟨rfl,by simp only[dA];omega⟩]
  simp[dA]
 |n::r,s,h0,h9=>by
  unfold ur
  by_cases c:within n 0 9=true
  ·have hn:=within_iff.1 c
   rw[if_pos c]
   by_cases d:9<s+n
   ·rw[if_pos d,if_neg]
    rintro⟨a,b⟩
    simp only[List.all_cons,Bool.and_eq_true,List.all_eq_true]at a
    have:=jS r fun x hx=>(within_iff.1 (a.2 x hx)).1
    simp only[dA]at b
    omega
   ·rw[if_neg d,wO r (s+n) (by omega) (by omega)]
    simp only[List.all_cons,c,Bool.true_and,dA,Int.add_assoc]
  ·rw[if_neg c,if_neg]
   rintro⟨a,_⟩
   simp only[List.all_cons,Bool.and_eq_true]at a
   exact c a.1
theorem zK(c:Nat): ∀(m:List (List Int)) (s:Int),0≤s→s≤9→(xw c s m=true↔(∀r∈m,r.length=c∧ ∀n∈r,0≤n∧n≤9)∧s+dA m.flatten≤9)
 | [],s,h0,h9=>by simp[xw,dA];omega
 |r::m,s,h0,h9=>by
  unfold xw
  by_cases d:r.length=c
  ·rw[if_pos d,wO r s h0 h9]
   by_cases e:(r.all fun n=>within n 0 9)=true∧s+dA r≤9
   ·rw[if_pos e]
    have he:=e.1
    simp only[List.all_eq_true]at he
    have hs:=jS r fun x hx=>(within_iff.1 (he x hx)).1
    simp only
    rw[zK c m _ (by omega) e.2,List.flatten_cons,lq]
    constructor
    ·rintro⟨a,b⟩
     refine⟨fun x hx=> ?_,by omega⟩
     rcases List.mem_cons.1 hx with rfl|hx
     ·exact⟨d,fun n hn=>within_iff.1 (he n hn)⟩
     ·exact a x hx
    ·rintro⟨a,b⟩
     exact⟨fun x hx=>a x (List.mem_cons_of_mem _ hx),by omega⟩
   ·rw[if_neg e]
    simp only[Bool.false_eq_true,false_iff]
    rintro⟨a,b⟩
    refine e ⟨?_,?_⟩
    ·simp only[List.all_eq_true]
     exact fun n hn=>within_iff.2 ((a r (List.mem_cons_self ..)).2 n hn)
    ·have:=jS m.flatten fun x hx=>by
      obtain⟨y,hy,hx⟩:=List.mem_flatten.1 hx
      exact((a y (List.mem_cons_of_mem _ hy)).2 x hx).1
     rw[List.flatten_cons,lq]at b
     omega
  ·rw[if_neg d]
   simp only[Bool.false_eq_true,false_iff]
   rintro⟨a,_⟩
   exact d (a r (List.mem_cons_self ..)).1
theorem zF{m:List (List Int)}:cM m=(xw (m.getD 0 []).length 0 m&&(decide (m.length≤9)&&(decide (m.length=0)||decide ((m.getD 0 []).length≤9)))):=by
 rw[Bool.eq_iff_iff,dq]
 simp only[Bool.and_eq_true,Bool.or_eq_true,decide_eq_true_eq]
 rw[zK _ _ _ (Int.le_refl _) (by omega),Int.zero_add]
 constructor
 ·intro h
  refine⟨⟨fun r hr=>⟨h.row r hr,h.num r hr⟩,h.sum⟩,h.r9,?_⟩
  by_cases c:m.length=0
  ·exact .inl c
  ·exact .inr (h.c9 _ (by rw[aj (by omega)];exact List.getElem_mem _))
 ·rintro⟨⟨a,b⟩,c,d⟩
  refine⟨rfl,c,fun x hx=>(a x hx).1,fun x hx=> ?_,fun x hx=>(a x hx).2,b⟩
  rw[(a x hx).1]
  rcases d with d|d
  ·rw[List.eq_nil_of_length_eq_zero d]at hx;cases hx
  ·exact d
theorem gI{m:List (List Int)}(h:cM m=true):m.length≤9∧ ∀x∈m,x.length≤9∧ ∀n∈x,0≤n∧n≤9:=by
 have:=dq.1 h
 exact⟨this.r9,fun x hx=>⟨this.c9 x hx,this.num x hx⟩⟩
def side(b:Bool)(p:Int×Int):Int:=if b=true then p.1 else p.2
def qN(m:List (List Int))(c i:Nat):List (List Int):=(List.range c).map fun j=>(m.take i).map fun r=>r.getD j 0
theorem EA(m:List (List Int)):qN m (m.getD 0 []).length m.length=lR m:=by unfold qN lR;rw[List.take_length]
theorem BR(m:List (List Int))(c:Nat):qN m c 0=List.replicate c []:=by
 unfold qN
 apply List.ext_getElem
 ·simp
 ·intro i h1 h2;simp
def nf(m:List (List Int))(c i j:Nat):List (List Int):=(List.range c).map fun q=>(m.take i).map (fun r=>r.getD q 0)++if q<j then [(m.getD i []).getD q 0]else []
theorem Ct(m:List (List Int))(c i:Nat):nf m c i 0=qN m c i:=by
 unfold nf qN
 simp
theorem D4{m:List (List Int)}{c i:Nat}(hi:i<m.length):nf m c i c=qN m c (i+1):=by
 unfold nf qN
 refine List.map_congr_left fun q hq=> ?_
 rw[if_pos (List.mem_range.1 hq),take_succ hi []]
 simp
theorem md(m:List (List Int))(c i j:Nat):(nf m c i j).length=c:=by simp[nf]
theorem ql{m:List (List Int)}{c i j q:Nat}(h:q<c):(nf m c i j).getD q []=(m.take i).map (fun r=>r.getD q 0)++if q<j then [(m.getD i []).getD q 0]else []:=by
 rw[aj (by rw[md];exact h)]
 simp[nf]
theorem B9{m:List (List Int)}{c i j:Nat}(h:j<c):(nf m c i j).set j ((nf m c i j).getD j []++ [(m.getD i []).getD j 0])=nf m c i (j+1):=by
 refine zu (d:= []) (by rw[List.length_set,md,md]) fun q hq=> ?_
 rw[List.length_set,md]at hq
 rw[ql hq]
 by_cases e:q=j
 ·subst e
  rw[aj (by rw[List.length_set,md];exact hq),List.getElem_set_self,ql hq,if_neg (by omega),if_pos (by omega),List.append_nil]
 ·rw[getD_set_ne (fun h=>e h.symm),ql hq]
  by_cases d:q<j
  ·rw[if_pos d,if_pos (by omega)]
  ·rw[if_neg d,if_neg (by omega)]
theorem zz(m:List (List Int)):gC (bN m).1∧gC (bN m).2.1:=by
 unfold bN
 cases h:cM m with
 |false=>exact⟨gC.nil,gC.nil⟩
 |true=>
  obtain⟨a,b,c⟩:=qb (dq.1 h).pok (l6 m 0)
  exact⟨DE c,DE a⟩
theorem DK(m:List (List Int)):(dM m).1.length≤9∧ ∀x∈(dM m).1,x.length≤9:=by
 unfold dM
 split
 ·next h=>
  have:=gI (BG h.1 h.2.1)
  exact⟨this.1,fun x hx=>(this.2 x hx).1⟩
 ·exact⟨Nat.zero_le _,fun x hx=>by cases hx⟩
theorem EH(m:List (List Int)):(qk m).length≤9∧(kO m).length≤9:=by
 unfold qk kO wd
 cases h:cM m with
 |false=>exact⟨Nat.zero_le _,Nat.zero_le _⟩
 |true=>
  have:=(dq.1 h).pok.1
  rw[if_pos rfl,if_pos rfl,List.length_map,List.length_map]
  exact⟨this,this⟩
end Go.Am.Pu
end
