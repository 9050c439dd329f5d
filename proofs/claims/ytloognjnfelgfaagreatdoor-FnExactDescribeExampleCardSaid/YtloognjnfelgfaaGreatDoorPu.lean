/- Plain laws of lists, partitions, shapes and tableaux; no program in sight. -/
import Derived.Test.YtloognjnfelgfaaGreatDoorAmP
import Derived.Test.YtloognjnfelgfaaGreatDoorAmM
set_option linter.unusedSimpArgs false
set_option linter.unusedVariables false
set_option linter.unnecessarySimpa false
set_option linter.unusedSectionVars false
section
/- Rules for loops over data: a loop that looks at all, a loop that folds. -/
namespace Go.Am.Pu
open Go.Am
theorem w64{n:Int}(h1: -9223372036854775808≤n)(h2:n≤9223372036854775807):IntKind.i64.wrap n=n:=Go.Am.w64 h1 h2
theorem lT{R:Type}(L:Nat→Nat→Option R)(n:Nat)(p:Nat→Bool)(bad Dw:Option R)
  (hs: ∀j i,i<n→L (j+1) i=if p i=true then L j (i+1)else bad) (he: ∀j,L (j+1) n=Dw):
  ∀(m j i:Nat),i+m=n→m<j→L j i=if(List.range' i m).all p=true then Dw else bad
 |m,0,i,_,h=>by omega
 |0,j+1,i,h,_=>by
  have:i=n:=by omega
  subst this
  rw[he];rfl
 |m+1,j+1,i,h,hj=>by
  rw[hs j i (by omega),lT L n p bad Dw hs he m j (i+1) (by omega) (by omega),List.range'_succ,List.all_cons]
  cases p i
  ·rw[if_neg (by simp),Bool.false_and,if_neg (by simp)]
  ·rw[if_pos rfl,Bool.true_and]
theorem fB{p:Nat→Bool}{n:Nat}:(List.range' 0 n).all p=true↔ ∀i,i<n→p i=true:=by
 simp[List.all_eq_true,List.mem_range'_1]
theorem aw{α:Type}{xs:List α}{i:Nat}(h:i<xs.length)(d:α):xs.getD i d=xs[i]:=by
 simp only[List.getD_eq_getElem?_getD,List.getElem?_eq_getElem h,Option.getD_some]
theorem cE{α:Type}{xs:List α}{i:Nat}(h:xs.length≤i)(d:α):xs.getD i d=d:=by
 simp only[List.getD_eq_getElem?_getD,List.getElem?_eq_none h,Option.getD_none]
theorem drop_cons{α:Type}{xs:List α}{i:Nat}(h:i<xs.length)(d:α):xs.drop i=xs.getD i d::xs.drop (i+1):=by
 rw[aw h,List.drop_eq_getElem_cons h]
theorem take_succ{α:Type}{xs:List α}{i:Nat}(h:i<xs.length)(d:α):xs.take (i+1)=xs.take i++ [xs.getD i d]:=by
 rw[aw h,List.take_succ_eq_append_getElem h]
end Go.Am.Pu
end
section
/- Marking memory and looking whether the marks are held. -/
namespace Go.Am.Pu
def held:List Int→Int→Int
 | [],q=>q
 |x::xs,q=>if x=q then held xs (q+1)else-1
def y4:List (List Int)→Nat
 | []=>0
 |x::xs=>x.length+y4 xs
theorem yp: ∀(xs:List (List Int)) (n:Nat),(∀x∈xs,x.length≤n)→y4 xs≤xs.length*n
 | [],n,_=>by simp[y4]
 |x::xs,n,h=>by
  have h1:=h x (by simp)
  have h2:=yp xs n fun y hy=>h y (by simp[hy])
  simp only[y4,List.length_cons,Nat.succ_mul]
  omega
end Go.Am.Pu
end
section
/- Partitions, shapes and tableaux as plain words. -/
namespace Go.Am.Pu
def within(x lo hi:Int):Bool:=decide (lo≤x)&&decide (x≤hi)
def atI(p:List Int)(i:Int):Int:=if i<0 then 0 else p.getD i.toNat 0
theorem fK(p:List Int)(i:Nat):atI p (i:Int)=p.getD i 0:=by simp[atI];omega
theorem tH{p:List Int}{i:Int}(h:i<0):atI p i=0:=by simp[atI,h]
theorem AE{p:List Int}{i:Int}(h:(p.length:Int)≤i):atI p i=0:=by
 unfold atI
 split
 ·rfl
 ·exact cE (by omega) 0
def gO:List Int→Int→Int→Bool
 | [],_,_=>true
 |x::xs,prev,s=>decide (1≤x)&&(decide (x≤prev)&&(decide (s+x≤9)&&gO xs x (s+x)))
def cz(p:List Int):Bool:=gO p 9 0
def gp:List Int→Int
 | []=>0
 |x::xs=>x+gp xs
theorem sM: ∀(p:List Int) (prev s:Int),gO p prev s=true→(∀x∈p,1≤x∧x≤prev)∧(p≠ []→s+gp p≤9)∧(p.length:Int)≤gp p
 | [],prev,s,_=>⟨fun x h=>(by cases h),fun h=>absurd rfl h,(by simp[gp])⟩
 |x::xs,prev,s,h=>by
  simp only[gO,Bool.and_eq_true,decide_eq_true_eq]at h
  obtain⟨h1,h2,h3,h4⟩:=h
  obtain⟨k1,k2,k3⟩:=sM xs x (s+x) h4
  refine⟨fun y hy=> ?_,fun _=> ?_,?_⟩
  ·rcases List.mem_cons.1 hy with rfl|hy
   ·exact⟨h1,h2⟩
   ·have:=k1 y hy;omega
  ·simp only[gp]
   by_cases e:xs= []
   ·subst e;simp[gp];omega
   ·have:=k2 e;omega
  ·simp only[gp,List.length_cons];omega
theorem cL{p:List Int}(h:cz p=true):(∀x∈p,1≤x∧x≤9)∧gp p≤9∧p.length≤9∧(p.length:Int)≤gp p:=by
 obtain⟨h1,h2,h3⟩:=sM p 9 0 h
 have:gp p≤9:=by
  by_cases e:p= []
  ·subst e;simp[gp]
  ·have:=h2 e;omega
 exact⟨h1,this,by omega,h3⟩
theorem fp{p:List Int}(h:cz p=true)(i:Int):0≤atI p i∧atI p i≤9:=by
 unfold atI
 split
 ·omega
 ·by_cases hl:i.toNat<p.length
  ·rw[aw hl]
   have:=(cL h).1 _ (List.getElem_mem hl)
   omega
  ·rw[cE (by omega)];omega
def ep(q p:List Int):Bool:=cz q&&(cz p&&(decide (q.length≤p.length)&&(List.range' 0 q.length).all fun i=>decide (q.getD i 0≤p.getD i 0)))
theorem Ah{q p:List Int}(hq:cz q=true)(h:(List.range' 0 q.length).all (fun i=>decide (q.getD i 0≤p.getD i 0))=true):q.length≤p.length:=by
 rw[fB]at h
 refine Nat.le_of_not_lt fun hlt=> ?_
 have h1:=h p.length hlt
 rw[decide_eq_true_eq,cE (Nat.le_refl _),aw hlt]at h1
 have:=(cL hq).1 _ (List.getElem_mem hlt)
 omega
theorem zp{q p:List Int}:ep q p=(cz q&&(cz p&&(List.range' 0 q.length).all fun i=>decide (q.getD i 0≤p.getD i 0))):=by
 unfold ep
 cases hq:cz q with
 |false=>rfl
 |true=>
  cases hp:cz p with
  |false=>rfl
  |true=>
   simp only[Bool.true_and]
   cases ha:(List.range' 0 q.length).all fun i=>decide (q.getD i 0≤p.getD i 0)with
   |false=>simp
   |true=>simp[Ah hq ha]
def fV(inner:List Int):Nat→List (List Int)→List Int
 |_,[]=> []
 |i,r::rs=>(inner.getD i 0+r.length)::fV inner (i+1) rs
theorem kS(inner:List Int): ∀(rs:List (List Int)) (i:Nat),(fV inner i rs).length=rs.length
 | [],_=>rfl
 |_::rs,i=>by simp[fV,kS inner rs]
theorem iC(inner:List Int): ∀(rs:List (List Int)) (i q:Nat),q<rs.length→(fV inner i rs).getD q 0=inner.getD (i+q) 0+(rs.getD q []).length
 | [],i,q,h=>by simp at h
 |r::rs,i,0,_=>by simp[fV]
 |r::rs,i,q+1,h=>by
  have:=iC inner rs (i+1) q (by simpa using h)
  simp only[fV,List.getD_cons_succ]
  rw[this]
  have e:i+1+q=i+(q+1):=by omega
  rw[e]
abbrev Tab:=List Int×List (List Int)
def outer(t:Tab):List Int:=fV t.1 0 t.2
def dC(t:Tab):Bool:=cz t.1&&(decide (t.1.length≤t.2.length)&&ep t.1 (outer t))
def shapeOf(t:Tab):(List Int×List Int)×Bool:=if dC t=true then((outer t,t.1),true)else(([],[]),false)
theorem yA{t:Tab}(h:dC t=true):t.2.length≤9:=by
 simp only[dC,ep,Bool.and_eq_true]at h
 have:=(cL h.2.2.2.1).2.2.1
 rw[outer,kS]at this
 exact this
def entry(t:Tab)(r c:Int):Int:=if r<0 then 0 else if(t.2.length:Int)≤r then 0 else atI (t.2.getD r.toNat []) (c-atI t.1 r)
theorem sk{t:Tab}{r:Nat}(h:r<t.2.length)(c:Int):entry t r c=atI (t.2.getD r []) (c-t.1.getD r 0):=by
 unfold entry
 rw[if_neg (by omega),if_neg (by omega),fK]
 rfl
theorem BH{t:Tab}{r c:Int}(h:r<0):entry t r c=0:=by unfold entry;rw[if_pos h]
theorem yL{t:Tab}{r q:Nat}(h:r<t.2.length):entry t r (t.1.getD r 0+q)=(t.2.getD r []).getD q 0:=by
 rw[sk h]
 have e:t.1.getD r 0+(q:Int)-t.1.getD r 0=q:=by omega
 rw[e,fK]
theorem Ar{t:Tab}{r q:Nat}(h:r<t.2.length):entry t r (t.1.getD r 0+q-1)=if q=0 then 0 else(t.2.getD r []).getD (q-1) 0:=by
 rw[sk h]
 by_cases e:q=0
 ·subst e
  rw[if_pos rfl,tH (by omega)]
 ·rw[if_neg e]
  have e:t.1.getD r 0+(q:Int)-1-t.1.getD r 0=((q-1:Nat):Int):=by omega
  rw[e,fK]
def gE(t:Tab)(i k:Nat):Bool:=within ((t.2.getD i []).getD k 0) 1 9&&((decide (k=0)||decide ((t.2.getD i []).getD (k-1) 0≤(t.2.getD i []).getD k 0))&&
 (decide (i=0)||decide (entry t ((i:Int)-1) (t.1.getD i 0+k)<(t.2.getD i []).getD k 0)))
def ig(t:Tab):Bool:=dC t&&(List.range' 0 t.2.length).all fun i=>(List.range' 0 (t.2.getD i []).length).all fun k=>gE t i k
def cy(t:Tab):Bool:=ig t&&decide (t.1.length=0)
theorem pb{t:Tab}(h:ig t=true):dC t=true:=by
 simp only[ig,Bool.and_eq_true]at h;exact h.1
theorem oR(inner:List Int): ∀(rs:List (List Int)) (i:Nat),(∀q,i≤q→inner.getD q 0=0)→gp (fV inner i rs)=rs.flatten.length
 | [],i,_=>rfl
 |r::rs,i,h=>by
  simp only[fV,gp,List.flatten_cons,List.length_append]
  rw[oR inner rs (i+1) (fun q hq=>h q (by omega)),h i (Nat.le_refl _)]
  omega
theorem zE{t:Tab}(h:cy t=true):t.2.flatten.length≤9:=by
 simp only[cy,Bool.and_eq_true,decide_eq_true_eq]at h
 have hs:=pb h.1
 simp only[dC,ep,Bool.and_eq_true]at hs
 have h9:=(cL hs.2.2.2.1).2.1
 have:t.1= []:=List.eq_nil_of_length_eq_zero h.2
 rw[outer,oR t.1 t.2 0 (fun q _=>by rw[this];rfl)]at h9
 omega
def bc:List (List Int)→Int→List (List Int)×Nat
 | [],x=>([[x]],0)
 |r::rs,x=>if r.findIdx (fun n=>decide (x<n))<r.length
   then(r.set (r.findIdx fun n=>decide (x<n)) x::(bc rs (r.getD (r.findIdx fun n=>decide (x<n)) 0)).1,(bc rs (r.getD (r.findIdx fun n=>decide (x<n)) 0)).2+1)
   else((r++ [x])::rs,0)
def sO(t:Tab):Prop:=t.1.length≤1048576∧t.2.length≤1048576∧ ∀x∈t.2,x.length≤1048576
theorem sO.nil:sO ([],[]):=⟨by simp,by simp,fun x h=>by cases h⟩
theorem vz: ∀{rs:List (List Int)} {r:List Int},r∈rs→r.length≤rs.flatten.length
 |q::rs,r,h=>by
  simp only[List.flatten_cons,List.length_append]
  rcases List.mem_cons.1 h with rfl|h
  ·omega
  ·have:=vz h;omega
theorem findIdx_le{p:Int→Bool}{r:List Int}{i:Nat}(hlt:i<r.length)(h:p (r.getD i 0)=true):r.findIdx p≤i:=
 Nat.le_of_not_lt fun h'=>by
  have:=List.not_of_lt_findIdx h'
  rw[aw hlt]at h
  rw[h]at this;cases this
theorem qh{p:Int→Bool}{r:List Int}(h:r.findIdx p<r.length):p (r.getD (r.findIdx p) 0)=true:=by
 rw[aw h];exact List.findIdx_getElem
theorem wy{α:Type}{xs:List α}{i:Nat}(h:i<xs.length)(x:α):xs.set i x=xs.take i++x::xs.drop (i+1):=by
 rw[List.set_eq_take_append_cons_drop,if_pos h]
theorem pC{α:Type}{xs:List α}{i:Nat}(h:i<xs.length)(x:α):(xs.set i x).take (i+1)=xs.take i++ [x]:=by
 have h':i<(xs.set i x).length:=by rw[List.length_set];exact h
 rw[take_succ h' x,List.take_set_of_le (Nat.le_refl _),aw h',List.getElem_set_self]
theorem pE{α:Type}{xs:List α}{i:Nat}(x:α):(xs.set i x).drop (i+1)=xs.drop (i+1):=by
 rw[List.drop_set_of_lt (by omega)]
end Go.Am.Pu
end
section
/- Standard tableaux, weights, descents: plain words. -/
namespace Go.Am.Pu
theorem yE{α R:Type}(r:List α)(d:α)(p:α→Bool)(L:Nat→Nat→Option R)(hit:Nat→Option R)(miss:Option R)
  (hs: ∀j i,i<r.length→L (j+1) i=if p (r.getD i d)=true then hit i else L j (i+1)) (he: ∀j,L (j+1) r.length=miss):
  ∀(m j i:Nat),i+m=r.length→m<j→i≤r.findIdx p→L j i=if r.findIdx p<r.length then hit (r.findIdx p)else miss
 |m,0,i,_,hj,_=>by omega
 |0,j+1,i,hm,_,hi=>by
  have e:i=r.length:=by omega
  rw[if_neg (by omega),e,he]
 |m+1,j+1,i,hm,hj,hi=>by
  have hlt:i<r.length:=by omega
  rw[hs j i hlt]
  by_cases c:p (r.getD i d)=true
  ·have e:r.findIdx p=i:=Nat.le_antisymm (Nat.le_of_not_lt fun h'=>by
    have:=List.not_of_lt_findIdx h'
    rw[aw hlt]at c
    rw[c]at this;cases this) hi
   rw[if_pos c,e,if_pos hlt]
  ·rw[if_neg c]
   refine yE r d p L hit miss hs he m j (i+1) (by omega) (by omega) ?_
   refine Nat.succ_le_of_lt (Nat.lt_of_le_of_ne hi fun e=>c ?_)
   have hlt':r.findIdx p<r.length:=by omega
   have:=List.findIdx_getElem (p:=p) (xs:=r) (w:=hlt')
   rw[←aw hlt' d,←e]at this
   exact this
def BR{α:Type}(p:α→Bool)(r:List α):Int:=if r.findIdx p<r.length then(r.findIdx p:Int)else-1
theorem DT{α:Type}(p:α→Bool)(r:List α):decide (0≤BR p r)=r.any p:=by
 unfold BR
 by_cases h:r.findIdx p<r.length
 ·rw[if_pos h,List.any_eq_true.2 ⟨_,List.getElem_mem h,List.findIdx_getElem⟩]
  simp
 ·rw[if_neg h]
  have:r.any p=false:=by
   rw[List.any_eq_false]
   intro x hx hp
   exact h (List.findIdx_lt_length_of_exists ⟨x,hx,hp⟩)
  rw[this];rfl
def has(l:List Int)(x:Int):Bool:=l.any fun y=>decide (x=y)
theorem tQ{l:List Int}{x:Int}:has l x=true↔x∈l:=by
 simp[has,List.any_eq_true]
def mz(l:List Int):Bool:=(List.range' 0 l.length).all fun i=>has l ((i:Int)+1)
theorem tR: ∀(R l:List Int),R.Nodup→(∀x∈R,x∈l)→R.length≤l.length
 | [],l,_,_=>by simp
 |x::R,l,hn,h=>by
  rw[List.nodup_cons]at hn
  have hx:=h x (by simp)
  have:=tR R (l.erase x) hn.2 fun y hy=>(List.mem_erase_of_ne fun(e:y=x)=>hn.1 (e▸hy)).2 (h y (by simp[hy]))
  rw[List.length_erase_of_mem hx]at this
  have:0<l.length:=List.length_pos_of_mem hx
  simp only[List.length_cons]
  omega
def mJ(n:Nat):List Int:=(List.range n).map fun(i:Nat)=>(i:Int)+1
theorem jb{n:Nat}{x:Int}:x∈mJ n↔1≤x∧x≤n:=by
 simp only[mJ,List.mem_map,List.mem_range]
 constructor
 ·rintro⟨i,h,rfl⟩;omega
 ·rintro⟨h1,h2⟩;exact⟨(x-1).toNat,by omega,by omega⟩
theorem uP(n:Nat):(mJ n).Nodup:=by
 unfold mJ
 refine List.Pairwise.map _ (fun(a b:Nat) (h:a≠b)=> ?_) List.nodup_range
 intro e
 exact h (by omega)
theorem mK(n:Nat):(mJ n).length=n:=by simp[mJ]
theorem lJ{l:List Int}:mz l=true↔ ∀x∈mJ l.length,x∈l:=by
 unfold mz
 rw[fB]
 constructor
 ·intro h x hx
  rw[jb]at hx
  have:=h (x-1).toNat (by omega)
  rw[tQ]at this
  have e:(((x-1).toNat:Nat):Int)+1=x:=by omega
  rw[e]at this;exact this
 ·intro h i hi
  rw[tQ]
  exact h _ (jb.2 (by omega))
theorem AR{l:List Int}(h1: ∀x∈l,1≤x):mz l=true↔l.Nodup∧ ∀x∈l,x≤l.length:=by
 rw[lJ]
 constructor
 ·intro h
  refine⟨?_,fun x hx=> ?_⟩
  ·
   refine Classical.byContradiction fun hn=> ?_
   have: ∃x,x∈l∧x∈l.erase x:=by
    have key: ∀l:List Int,¬l.Nodup→ ∃x,x∈l∧x∈l.erase x:=by
     intro l
     induction l with
     |nil=>intro h;exact absurd List.nodup_nil h
     |cons a l ih=>
      intro h
      by_cases ha:a∈l
      ·exact⟨a,by simp,by simpa using ha⟩
      ·have: ¬l.Nodup:=fun hl=>h (List.nodup_cons.2 ⟨ha,hl⟩)
       obtain⟨x,h1,h2⟩:=ih this
       refine⟨x,by simp[h1],?_⟩
       have hne:a≠x:=fun e=>ha (e▸h1)
       rw[List.erase_cons_tail (by simpa using hne)]
       exact List.mem_cons_of_mem _ h2
    exact key l hn
   obtain⟨x,hx,hx2⟩:=this
   have:=tR (mJ l.length) (l.erase x) (uP _) fun y hy=>by
    by_cases e:y=x
    ·rw[e];exact hx2
    ·exact(List.mem_erase_of_ne e).2 (h y hy)
   rw[mK,List.length_erase_of_mem hx]at this
   have:0<l.length:=List.length_pos_of_mem hx
   omega
  ·refine Int.not_lt.1 fun hlt=> ?_
   have:=tR (mJ l.length) (l.erase x) (uP _) fun y hy=>by
    have hy':=jb.1 hy
    exact(List.mem_erase_of_ne (by omega)).2 (h y hy)
   rw[mK,List.length_erase_of_mem hx]at this
   have:0<l.length:=List.length_pos_of_mem hx
   omega
 ·rintro⟨hn,hb⟩ x hx
  refine Classical.byContradiction fun hxl=> ?_
  have:=tR (x::l) (mJ l.length) (List.nodup_cons.2 ⟨hxl,hn⟩) fun y hy=>by
   rcases List.mem_cons.1 hy with rfl|hy
   ·exact hx
   ·exact jb.2 ⟨h1 y hy,hb y hy⟩
  rw[mK,List.length_cons]at this
  omega
theorem yc{t:Tab}(h:ig t=true): ∀x∈t.2.flatten,1≤x∧x≤9:=by
 intro x hx
 simp only[ig,Bool.and_eq_true]at h
 obtain⟨r,hr,hxr⟩:=List.mem_flatten.1 hx
 obtain⟨i,hi,e⟩:=List.mem_iff_getElem.1 hr
 obtain⟨q,hq,e2⟩:=List.mem_iff_getElem.1 hxr
 have h1:=fB.1 h.2 i hi
 rw[aw hi,e]at h1
 have h2:=fB.1 h1 q hq
 simp only[gE,within,Bool.and_eq_true,decide_eq_true_eq]at h2
 rw[aw hi,e,aw hq,e2]at h2
 exact h2.1
def iY(t:Tab):Bool:=ig t&&mz t.2.flatten
def rowOf(t:Tab)(n:Int):Int:=BR (fun r=>has r n) t.2
end Go.Am.Pu
end
section
/- Plain laws of draws, and of boxes. -/
namespace Go.Am.Pu
open Go Go.Am
attribute [local instance] D.real
def w9 (p : List Int) (r : Int) : List Int × Bool :=
  if cz p = true ∧ 0 ≤ r ∧ r ≤ p.length then
    (let q := if r = p.length then p ++ [0] else p
     let o := q.set r.toNat (q.getD r.toNat 0 + 1)
     if cz o = true then (o, true) else ([], false))
  else ([], false)
end Go.Am.Pu
end
section
/- Steps over equations: what a word comes to, told by what must hold of it. -/
namespace Go.Am.Pu
open Go Go.Am
attribute [local instance] D.real
section
variable {α β : Type}
def Ok(x:Option α)(Q:α→Prop):Prop:= ∃y,x=some y∧Q y
theorem Ok.ret{y:α}{Q:α→Prop}(h:Q y):Ok (some y) Q:=⟨y,rfl,h⟩
theorem Ok.mono{x:Option α}{P Q:α→Prop}(h:Ok x P)(g: ∀y,P y→Q y):Ok x Q:=
 let⟨y,e,hp⟩:=h
 ⟨y,e,g y hp⟩
theorem Ok.bnd{x:Option α}{f:α→Option β}{P:α→Prop}{Q:β→Prop}(h:Ok x P)(g: ∀y,P y→Ok (f y) Q):Ok (D.bnd x f) Q:=by
 obtain⟨y,e,hp⟩:=h
 rw[e]
 exact g y hp
theorem Ok.cP{x:Option α}{y:α}{f:α→Option β}{Q:β→Prop}(h:x=some y)(g:Ok (f y) Q):Ok (D.bnd x f) Q:=by
 rw[h]
 exact g
theorem Ok.t{p:Prop} [Decidable p]{x y:Option α}{Q:α→Prop}(h1:p→Ok x Q)(h2: ¬p→Ok y Q):Ok (D.test (decide p) x y) Q:=by
 show Ok (if decide p=true then x else y) Q
 by_cases h:p
 ·rw[if_pos (decide_eq_true h)];exact h1 h
 ·rw[if_neg (by rw[decide_eq_false h];simp)];exact h2 h
theorem Ok.tb{b:Bool}{x y:Option α}{Q:α→Prop}(h1:b=true→Ok x Q)(h2:b=false→Ok y Q):Ok (D.test b x y) Q:=by
 cases b
 ·exact h2 rfl
 ·exact h1 rfl
theorem Ok.tn{b:Bool}{x y:Option α}{Q:α→Prop}(h1:b=false→Ok x Q)(h2:b=true→Ok y Q):Ok (D.test (!b) x y) Q:=by
 cases b
 ·exact h1 rfl
 ·exact h2 rfl
theorem Ok.tnd{p:Prop} [Decidable p]{x y:Option α}{Q:α→Prop}(h1: ¬p→Ok x Q)(h2:p→Ok y Q):Ok (D.test (!decide p) x y) Q:=
 Ok.tn (fun h=>h1 (of_decide_eq_false h)) (fun h=>h2 (of_decide_eq_true h))
theorem Ok.g{p:Prop} [Decidable p]{x y:Option α}{Q:α→Prop}(h:p)(g:Ok x Q):Ok (D.test (decide p) x y) Q:=Ok.t (fun _=>g) (fun h'=>absurd h h')
theorem Ok.no{p:Prop} [Decidable p]{x y:Option α}{Q:α→Prop}(h: ¬p)(g:Ok y Q):Ok (D.test (decide p) x y) Q:=Ok.t (fun h'=>absurd h' h) (fun _=>g)
theorem Ok.gn{p:Prop} [Decidable p]{x y:Option α}{Q:α→Prop}(h: ¬p)(g:Ok x Q):Ok (D.test (!decide p) x y) Q:=Ok.tnd (fun _=>g) (fun h'=>absurd h' h)
theorem Ok.some{x:Option α}{Q:α→Prop}(h:Ok x Q): ∃y,x=Option.some y:=let⟨y,e,_⟩:=h;⟨y,e⟩
end
def fH(n m:Nat)(rs:List (List Int)):Prop:=rs.length≤n∧ ∀r∈rs,r.length≤m
theorem fH.at{n m:Nat}{rs:List (List Int)}(h:fH n m rs)(i:Nat):(rs.getD i []).length≤m:=by
 by_cases hi:i<rs.length
 ·rw[aw hi];exact h.2 _ (List.getElem_mem hi)
 ·rw[cE (by omega)];simp
theorem fH.set{n m:Nat}{rs:List (List Int)}(h:fH n m rs)(i:Nat){r:List Int}(hr:r.length≤m):fH n m (rs.set i r):=by
 refine⟨by rw[List.length_set];exact h.1,fun x hx=> ?_⟩
 rcases List.mem_or_eq_of_mem_set hx with h'|rfl
 ·exact h.2 x h'
 ·exact hr
theorem fH.mono{n m n' m':Nat}{rs:List (List Int)}(h:fH n m rs)(hn:n≤n')(hm:m≤m'):fH n' m' rs:=
 ⟨Nat.le_trans h.1 hn,fun x hx=>Nat.le_trans (h.2 x hx) hm⟩
theorem fH.app{n m:Nat}{rs:List (List Int)}(h:fH n m rs){r:List Int}(hr:r.length≤m):fH (n+1) m (rs++ [r]):=by
 refine⟨by rw[List.length_append];simp;exact h.1,fun x hx=> ?_⟩
 rcases List.mem_append.1 hx with h'|h'
 ·exact h.2 x h'
 ·simp only[List.mem_singleton]at h';subst h';exact hr
end Go.Am.Pu
end
section
/- Corners; a number taken out of rows. Plain words. -/
namespace Go.Am.Pu
theorem rJ: ∀{p:List Int} {prev s:Int},gO p prev s=true→ ∀i,i+1<p.length→p.getD (i+1) 0≤p.getD i 0
 | [],_,_,_,i,h=>by simp at h
 | [x],_,_,_,i,h=>by simp at h
 |x::y::xs,prev,s,hp,i,h=>by
  simp only[gO,Bool.and_eq_true,decide_eq_true_eq]at hp
  cases i with
  |zero=>simpa using hp.2.2.2.2.1
  |succ i=>
   have h2:gO (y::xs) x (s+x)=true:=by
    simp only[gO,Bool.and_eq_true,decide_eq_true_eq]
    exact hp.2.2.2
   have:=rJ h2 i (by simpa using h)
   simpa using this
def mE(r:List Int)(y:Int):Nat→Option Nat
 |0=>none
 |i+1=>if r.getD i 0<y then some i else mE r y i
theorem s0{r:List Int}{y:Int}: ∀{m q:Nat},mE r y m=some q→q<m∧r.getD q 0<y
 |0,q,h=>by simp[mE]at h
 |m+1,q,h=>by
  unfold mE at h
  split at h
  ·next hc=>injection h with h;subst h;exact⟨by omega,hc⟩
  ·have:=s0 h;exact⟨by omega,this.2⟩
theorem wu{r:List Int}{y:Int}: ∀{m i:Nat},i<m→r.getD i 0<y→ ∃q,mE r y m=some q
 |0,i,h,_=>by omega
 |m+1,i,h,hi=>by
  unfold mE
  split
  ·exact⟨_,rfl⟩
  ·next hc=>
   have:i≠m:=fun e=>hc (e▸hi)
   exact wu (by omega) hi
def nc:Nat→List (List Int)→Int→List (List Int)×Int
 |0,rs,y=>(rs,y)
 |r+1,rs,y=>match mE (rs.getD r []) y (rs.getD r []).length with
  |some q=>nc r (rs.set r ((rs.getD r []).set q y)) ((rs.getD r []).getD q 0)
  |none=>nc r rs y
theorem getD_set_ne{α:Type}{xs:List α}{i j:Nat}(h:j≠i)(x d:α):(xs.set j x).getD i d=xs.getD i d:=by
 simp only[List.getD_eq_getElem?_getD,List.getElem?_set]
 rw[if_neg h]
theorem pZ{n m:Nat}: ∀(r:Nat) (rs:List (List Int)) (y:Int),fH n m rs→fH n m (nc r rs y).1
 |0,_,_,h=>h
 |r+1,rs,y,h=>by
  unfold nc
  split
  ·exact pZ r _ _ (h.set r (by rw[List.length_set];exact h.at r))
  ·exact pZ r rs y h
def mr (rs : List (List Int)) (row : Nat) : List (List Int) × Int :=
  ((if (rs.getD row []).length = 1 then (nc row (rs.set row ((rs.getD row []).take ((rs.getD row []).length - 1))) ((rs.getD row []).getD ((rs.getD row []).length - 1) 0)).1.take row
    else (nc row (rs.set row ((rs.getD row []).take ((rs.getD row []).length - 1))) ((rs.getD row []).getD ((rs.getD row []).length - 1) 0)).1),
   (nc row (rs.set row ((rs.getD row []).take ((rs.getD row []).length - 1))) ((rs.getD row []).getD ((rs.getD row []).length - 1) 0)).2)
theorem xa{n m:Nat}{rs:List (List Int)}(h:fH n m rs)(row:Nat):fH n m (mr rs row).1:=by
 have h1:=pZ row (rs.set row ((rs.getD row []).take ((rs.getD row []).length-1))) ((rs.getD row []).getD ((rs.getD row []).length-1) 0) (h.set row (by rw[List.length_take];have:=h.at row;omega))
 unfold mr
 simp only
 split
 ·exact⟨by rw[List.length_take];have:=h1.1;omega,fun x hx=>h1.2 x (List.mem_of_mem_take hx)⟩
 ·exact h1
theorem jA{t:Tab}(h:cy t=true):t.1= []:=by
 simp only[cy,Bool.and_eq_true,decide_eq_true_eq]at h
 exact List.eq_nil_of_length_eq_zero h.2
theorem gK{t:Tab}(h:cy t=true){i:Nat}(hi:i<t.2.length):(outer t).getD i 0=(t.2.getD i []).length:=by
 have e:=iC t.1 t.2 0 i hi
 rw[jA h]at e
 unfold outer
 rw[jA h,e]
 simp
theorem kt{t:Tab}(h:cy t=true):cz (outer t)=true:=by
 simp only[cy,Bool.and_eq_true]at h
 have hs:=pb h.1
 simp only[dC,ep,Bool.and_eq_true]at hs
 exact hs.2.2.2.1
theorem eu(t:Tab):(outer t).length=t.2.length:=by unfold outer;rw[kS]
theorem ju{t:Tab}(h:cy t=true):fH 9 9 t.2:=by
 have h9:=zE h
 have hl:=(cL (kt h)).2.2.1
 rw[eu]at hl
 exact⟨hl,fun r hr=>by have:=vz hr;omega⟩
theorem pQ{t:Tab}(h:cy t=true): ∀i,i+1<t.2.length→(t.2.getD (i+1) []).length≤(t.2.getD i []).length∧ ∀q,q<(t.2.getD (i+1) []).length→(t.2.getD i []).getD q 0<(t.2.getD (i+1) []).getD q 0:=by
 intro i hi
 have hm:=rJ (show gO (outer t) 9 0=true from kt h) i (by rw[eu];exact hi)
 rw[gK h hi,gK h (by omega)]at hm
 have hl:(t.2.getD (i+1) []).length≤(t.2.getD i []).length:=by omega
 refine⟨hl,fun q hq=> ?_⟩
 have ht:=h
 simp only[cy,Bool.and_eq_true]at ht
 have ht:=ht.1
 simp only[ig,Bool.and_eq_true]at ht
 have h1:=fB.1 (fB.1 ht.2 (i+1) hi) q hq
 simp only[gE,Bool.and_eq_true,Bool.or_eq_true,decide_eq_true_eq]at h1
 have h2:=h1.2.2.resolve_left (by omega)
 rw[jA h]at h2
 have e:((i+1:Nat):Int)-1=(i:Int):=by omega
 have e2:([]:List Int).getD (i+1) 0+(q:Int)=([]:List Int).getD i 0+(q:Int):=by simp
 rw[e,e2]at h2
 have ee:entry t (i:Int) (([]:List Int).getD i 0+(q:Int))=(t.2.getD i []).getD q 0:=by
  have:=yL (t:=t) (r:=i) (q:=q) (by omega)
  rw[jA h]at this
  exact this
 rw[ee]at h2
 exact h2
end Go.Am.Pu
end
section
/- Rows with noughts in front; a box taken from a partition. Plain words. -/
namespace Go.Am.Pu
def iR(t:Tab):List (List Int):=(List.range' 0 t.2.length).map fun i=>List.replicate (t.1.getD i 0).toNat 0++t.2.getD i []
def cl(p:List Int)(n:Nat):List Int:=if p.getD n 0-1=0 then p.take n else p.set n (p.getD n 0-1)
theorem yy(p:List Int)(n:Nat):(cl p n).length≤p.length:=by
 unfold cl
 split
 ·rw[List.length_take];omega
 ·rw[List.length_set];exact Nat.le_refl _
end Go.Am.Pu
end
section
/- A slide: the hole goes right or down until nothing is there. Plain words. -/
namespace Go.Am.Pu
def cel(g:List (List Int))(r c:Nat):Int:=(g.getD r []).getD c 0
def kZ(g:List (List Int))(r c:Nat)(v:Int):List (List Int):=g.set r ((g.getD r []).set c v)
theorem xe{g:List (List Int)}{r c:Nat}(h:cel g r c≠0):r<g.length∧c<(g.getD r []).length:=by
 unfold cel at h
 by_cases h1:r<g.length
 ·refine⟨h1,?_⟩
  by_cases h2:c<(g.getD r []).length
  ·exact h2
  ·exact absurd (cE (by omega) 0) h
 ·rw[cE (xs:=g) (by omega)]at h
  simp at h
theorem iU(g:List (List Int))(r c:Nat)(v:Int):(kZ g r c v).length=g.length:=by unfold kZ;rw[List.length_set]
theorem cu(g:List (List Int))(r c:Nat)(v:Int)(q:Nat):((kZ g r c v).getD q []).length=(g.getD q []).length:=by
 unfold kZ
 by_cases e:q=r
 ·subst e
  by_cases h:q<g.length
  ·rw[aw (by rw[List.length_set];exact h),List.getElem_set_self,List.length_set]
  ·rw[cE (by rw[List.length_set];omega),cE (by omega)]
 ·rw[getD_set_ne (Ne.symm e)]
theorem kv{g:List (List Int)}{r c:Nat}(v:Int)(h1:r<g.length)(h2:c<(g.getD r []).length):cel (kZ g r c v) r c=v:=by
 unfold cel kZ
 rw[aw (xs:=g.set r _) (by rw[List.length_set];exact h1),List.getElem_set_self,aw (by rw[List.length_set];exact h2),List.getElem_set_self]
theorem jf{g:List (List Int)}{r c q x:Nat}(v:Int)(h: ¬(q=r∧x=c)):cel (kZ g r c v) q x=cel g q x:=by
 unfold cel kZ
 by_cases e:q=r
 ·subst e
  have hx:x≠c:=fun e=>h ⟨rfl,e⟩
  by_cases hl:q<g.length
  ·rw[aw (xs:=g.set q _) (by rw[List.length_set];exact hl),List.getElem_set_self,getD_set_ne (Ne.symm hx)]
  ·rw[cE (xs:=g.set q _) (by rw[List.length_set];omega),cE (xs:=g) (by omega)]
 ·rw[getD_set_ne (Ne.symm e)]
structure Sl (q : List Int) (g : List (List Int)) (i c : Nat) : Prop where
  q0 : ∀ r, 0 ≤ q.getD r 0
  qm : ∀ r, q.getD (r + 1) 0 ≤ q.getD r 0
  lm : ∀ r, (g.getD (r + 1) []).length ≤ (g.getD r []).length
  hi : i < g.length
  hc : c < (g.getD i []).length
  hq : q.getD i 0 ≤ c
  pos : ∀ r x, 0 ≤ cel g r x
  num : ∀ r x : Nat, q.getD r 0 ≤ x → x < (g.getD r []).length → ¬ (r = i ∧ x = c) → 1 ≤ cel g r x ∧ cel g r x ≤ 9
  row : ∀ r x : Nat, q.getD r 0 ≤ x → x + 1 < (g.getD r []).length → ¬ (r = i ∧ x = c) → ¬ (r = i ∧ x + 1 = c) → cel g r x ≤ cel g r (x + 1)
  col : ∀ r x : Nat, q.getD r 0 ≤ x → x < (g.getD (r + 1) []).length → ¬ (r = i ∧ x = c) → ¬ (r + 1 = i ∧ x = c) → cel g r x < cel g (r + 1) x
  Fi : ∀ x : Nat, x + 1 = c → q.getD i 0 ≤ x → c + 1 < (g.getD i []).length → cel g i x ≤ cel g i (c + 1)
  colH : ∀ r : Nat, r + 1 = i → q.getD r 0 ≤ c → c < (g.getD (i + 1) []).length → cel g r c < cel g (i + 1) c
theorem Sl.right{q:List Int}{g:List (List Int)}{i c:Nat}(h:Sl q g i c)(hr:cel g i (c+1)≠0)(hb: ¬(0<cel g (i+1) c∧cel g (i+1) c≤cel g i (c+1))):
  Sl q (kZ g i c (cel g i (c+1))) i (c+1):=by
 obtain⟨b1,b2⟩:=xe hr
 have hq:=h.hq
 have hrn:=h.num i (c+1) (by omega) b2 (by omega)
 have e0:=kv (cel g i (c+1)) h.hi h.hc
 have en: ∀r x,¬(r=i∧x=c)→cel (kZ g i c (cel g i (c+1))) r x=cel g r x:=fun r x hh=>jf _ hh
 refine⟨h.q0,h.qm,fun r=> ?_,?_,?_,by omega,fun r x=> ?_,fun r x h1 h2 h3=> ?_,fun r x h1 h2 h3 h4=> ?_,fun r x h1 h2 h3 h4=> ?_,fun x h1 h2 h3=> ?_,fun r h1 h2 h3=> ?_⟩
 ·rw[cu,cu];exact h.lm r
 ·rw[iU];exact b1
 ·rw[cu];exact b2
 ·by_cases e:r=i∧x=c
  ·rw[e.1,e.2,e0];exact h.pos _ _
  ·rw[en r x e];exact h.pos _ _
 ·rw[cu]at h2
  by_cases e:r=i∧x=c
  ·rw[e.1,e.2,e0];exact hrn
  ·rw[en r x e];exact h.num r x h1 h2 e
 ·rw[cu]at h2
  by_cases e:r=i∧x=c
  ·exact(h4 ⟨e.1,by omega⟩).elim
  ·rw[en r x e]
   by_cases e':r=i∧x+1=c
   ·obtain⟨rfl,rfl⟩:=e'
    rw[e0]
    exact h.Fi x rfl h1 b2
   ·rw[en r (x+1) e'];exact h.row r x h1 h2 e e'
 ·rw[cu]at h2
  by_cases e:r=i∧x=c
  ·obtain⟨rfl,rfl⟩:=e
   rw[e0,en _ _ (by omega)]
   have hqm:=h.qm r
   have h5:=(h.num (r+1) x (by omega) h2 (by omega)).1
   omega
  ·rw[en r x e]
   by_cases e':r+1=i∧x=c
   ·obtain⟨rfl,rfl⟩:=e'
    rw[e0]
    have hl:=h.lm r
    have h5:=h.row r x h1 (by omega) (by omega) (by omega)
    have h6:=h.col r (x+1) (by omega) b2 (by omega) (by omega)
    omega
   ·rw[en (r+1) x e']
    exact h.col r x h1 h2 e e'
 ·rw[cu]at h3
  have:x=c:=by omega
  subst this
  rw[e0,en _ _ (by omega)]
  exact h.row i (x+1) (by omega) h3 (by omega) (by omega)
 ·rw[cu]at h3
  rw[en _ _ (by omega),en _ _ (by omega)]
  subst h1
  have h5:=h.col r (c+1) h2 (by omega) (by omega) (by omega)
  have h6:=h.col (r+1) (c+1) (by omega) h3 (by omega) (by omega)
  omega
end Go.Am.Pu
end
section
/- A slide's end and its start. Plain words. -/
namespace Go.Am.Pu
theorem zT{p:List Int}(hp:cz p=true)(r:Nat):p.getD (r+1) 0≤p.getD r 0:=by
 by_cases h:r+1<p.length
 ·exact rJ hp r h
 ·rw[cE (by omega)]
  have:=(fp hp r).1
  rw[fK]at this
  exact this
theorem vC{p:List Int}{n:Nat}(hp:cz p=true)(hn:n<p.length)(hc:p.getD (n+1) 0<p.getD n 0)(r:Nat):(cl p n).getD r 0=if r=n then p.getD n 0-1 else p.getD r 0:=by
 unfold cl
 by_cases h:p.getD n 0-1=0
 ·rw[if_pos h]
  have h0:=(fp hp (n+1:Nat)).1
  rw[fK]at h0
  have hl:p.length≤n+1:=by
   refine Nat.le_of_not_lt fun hlt=> ?_
   have:=(cL hp).1 _ (List.getElem_mem hlt)
   rw[←aw hlt 0]at this
   omega
  by_cases e:r=n
  ·subst e
   rw[if_pos rfl,h,cE (by rw[List.length_take];omega)]
  ·rw[if_neg e]
   by_cases e2:r<n
   ·rw[aw (by rw[List.length_take];omega),List.getElem_take,aw (by omega)]
   ·rw[cE (by rw[List.length_take];omega),cE (by omega)]
 ·rw[if_neg h]
  by_cases e:r=n
  ·subst e
   rw[if_pos rfl,aw (by rw[List.length_set];exact hn),List.getElem_set_self]
  ·rw[if_neg e,getD_set_ne (Ne.symm e)]
structure F3 (t : Tab) : Prop where
  q0 : ∀ r, 0 ≤ t.1.getD r 0
  qm : ∀ r, t.1.getD (r + 1) 0 ≤ t.1.getD r 0
  lm : ∀ r, ((iR t).getD (r + 1) []).length ≤ ((iR t).getD r []).length
  num : ∀ r x : Nat, t.1.getD r 0 ≤ x → x < ((iR t).getD r []).length → 1 ≤ cel (iR t) r x ∧ cel (iR t) r x ≤ 9
  row : ∀ r x : Nat, t.1.getD r 0 ≤ x → x + 1 < ((iR t).getD r []).length → cel (iR t) r x ≤ cel (iR t) r (x + 1)
  col : ∀ r x : Nat, t.1.getD r 0 ≤ x → x < ((iR t).getD (r + 1) []).length → cel (iR t) r x < cel (iR t) (r + 1) x
end Go.Am.Pu
end
section
/- A tableau cell by cell; a slide's start. Plain words. -/
namespace Go.Am.Pu
theorem jD{t:Tab}(h:ig t=true):cz t.1=true∧cz (outer t)=true∧t.1.length≤t.2.length∧(∀i k,i<t.2.length→k<(t.2.getD i []).length→gE t i k=true):=by
 simp only[ig,dC,ep,Bool.and_eq_true,decide_eq_true_eq]at h
 obtain⟨⟨h1,h2,h3,h4,h5⟩,h6⟩:=h
 refine⟨h1,h4,h2,fun i k hi hk=> ?_⟩
 rw[fB]at h6
 have:=h6 i hi
 rw[fB]at this
 exact this k hk
end Go.Am.Pu
end
section
/- A partition less a box; the tableau that a slide leaves. Plain words. -/
namespace Go.Am.Pu
theorem nq: ∀(p:List Int) (prev s:Int),(∀x∈p,1≤x)→(0<p.length→p.getD 0 0≤prev)→(∀i,i+1<p.length→p.getD (i+1) 0≤p.getD i 0)→s+gp p≤9→gO p prev s=true
 | [],_,_,_,_,_,_=>rfl
 |x::xs,prev,s,h1,h2,h3,h4=>by
  have hs: ∀(l:List Int),(∀y∈l,1≤y)→0≤gp l:=by
   intro l
   induction l with
   |nil=>intro _;simp[gp]
   |cons y l ih=>
    intro h
    have a:=h y List.mem_cons_self
    have b:=ih (fun z hz=>h z (List.mem_cons_of_mem _ hz))
    simp only[gp];omega
  have hx:=h1 x List.mem_cons_self
  have hxs:=hs xs (fun z hz=>h1 z (List.mem_cons_of_mem _ hz))
  have h2':=h2 (by simp)
  simp only[List.getD_cons_zero]at h2'
  simp only[gp]at h4
  have ih:=nq xs x (s+x) (fun z hz=>h1 z (List.mem_cons_of_mem _ hz)) (fun hl=>by have:=h3 0 (by simpa using hl);simpa using this) (fun i hi=>by have:=h3 (i+1) (by simpa using hi);simpa using this) (by omega)
  simp only[gO,Bool.and_eq_true,decide_eq_true_eq]
  exact⟨hx,h2',by omega,ih⟩
theorem qO: ∀(p:List Int) (n:Nat) (v:Int),n<p.length→gp (p.set n v)=gp p-p.getD n 0+v
 | [],n,v,h=>by simp at h
 |x::xs,0,v,_=>by simp[gp];omega
 |x::xs,n+1,v,h=>by
  have:=qO xs n v (by simpa using h)
  simp only[List.set_cons_succ,gp,List.getD_cons_succ,this]
  omega
theorem xM: ∀(p:List Int) (n:Nat),p.length=n+1→gp (p.take n)=gp p-p.getD n 0
 | [],n,h=>by simp at h
 | [x],0,_=>by simp[gp]
 |x::xs,n+1,h=>by
  have:=xM xs n (by simpa using h)
  simp only[List.take_succ_cons,gp,List.getD_cons_succ,this]
  omega
 |x::y::xs,0,h=>by simp at h
theorem wm{p:List Int}{n:Nat}(hp:cz p=true)(hc:p.getD (n+1) 0<p.getD n 0)(h:p.getD n 0-1=0):p.length≤n+1:=by
 have h0:=(fp hp (n+1:Nat)).1
 rw[fK]at h0
 refine Nat.le_of_not_lt fun hlt=> ?_
 have:=(cL hp).1 _ (List.getElem_mem hlt)
 rw[←aw hlt 0]at this
 omega
theorem C2{p:List Int}{n:Nat}(hp:cz p=true)(hn:n<p.length)(hc:p.getD (n+1) 0<p.getD n 0){i:Nat}(hi:i<(cl p n).length):1≤(cl p n).getD i 0:=by
 rw[vC hp hn hc]
 have hl:=yy p n
 have h1: ∀i,i<p.length→1≤p.getD i 0:=fun i hi=>by
  rw[aw hi]
  exact((cL hp).1 _ (List.getElem_mem hi)).1
 by_cases h:p.getD n 0-1=0
 ·unfold cl at hi
  rw[if_pos h,List.length_take]at hi
  rw[if_neg (by omega)]
  exact h1 i (by omega)
 ·have a:=h1 n hn
  have b:=h1 i (by omega)
  split<;>omega
theorem CA{p:List Int}{n:Nat}(hp:cz p=true)(hn:n<p.length)(hc:p.getD (n+1) 0<p.getD n 0):cz (cl p n)=true:=by
 have hs:=cL hp
 have hg:=vC hp hn hc
 have hpn:1≤p.getD n 0:=by
  rw[aw hn]
  exact(hs.1 _ (List.getElem_mem hn)).1
 refine nq _ _ _ (fun x hx=> ?_) (fun _=> ?_) (fun i _=> ?_) ?_
 ·obtain⟨i,hi,rfl⟩:=List.getElem_of_mem hx
  rw[←aw hi 0]
  exact C2 hp hn hc hi
 ·rw[hg]
  have: ∀i,p.getD i 0≤9:=fun i=>by
   have:=(fp hp i).2
   rw[fK]at this
   exact this
  have a:=this 0
  have b:=this n
  split<;>omega
 ·rw[hg,hg]
  have:=zT hp i
  by_cases e:i=n
  ·subst e
   rw[if_neg (by omega),if_pos rfl];omega
  ·rw[if_neg e]
   by_cases e2:i+1=n
   ·subst e2;rw[if_pos rfl];omega
   ·rw[if_neg e2];exact this
 ·have h9:=hs.2.1
  unfold cl
  split
  ·next h=>
   have hl:=wm hp hc h
   rw[xM p n (by omega)]
   omega
  ·rw[qO p n _ hn]
   omega
def fQ(q:List Int)(g:List (List Int))(n:Nat):List (List Int):=(List.range' 0 n).map fun r=>(g.getD r []).drop (q.getD r 0).toNat
theorem mB(q:List Int)(g:List (List Int))(n:Nat):(fQ q g n).length=n:=by simp[fQ]
theorem pG{q:List Int}{g:List (List Int)}{n r:Nat}(h:r<n):(fQ q g n).getD r []=(g.getD r []).drop (q.getD r 0).toNat:=by
 rw[aw (by rw[mB];exact h)]
 simp[fQ]
def qk(g:List (List Int))(i c:Nat):List (List Int):=g.set i ((g.getD i []).take c)
end Go.Am.Pu
namespace Go.Am.Pu
end Go.Am.Pu
end
section
/- What a slide leaves. Plain words. -/
namespace Go.Am.Pu
theorem By{g:List (List Int)}{i c r:Nat}(hi:i<g.length):(qk g i c).getD r []=if r=i then(g.getD i []).take c else g.getD r []:=by
 unfold qk
 by_cases e:r=i
 ·subst e
  rw[if_pos rfl,aw (by rw[List.length_set];exact hi),List.getElem_set_self]
 ·rw[if_neg e,getD_set_ne (Ne.symm e)]
theorem nE(g:List (List Int))(i c:Nat):(qk g i c).length=g.length:=by unfold qk;rw[List.length_set]
theorem Ef{g:List (List Int)}{i c r x:Nat}(hi:i<g.length)(hx:x<((qk g i c).getD r []).length):cel (qk g i c) r x=cel g r x:=by
 unfold cel
 rw[By hi]at hx⊢
 by_cases e:r=i
 ·subst e
  rw[if_pos rfl]at hx⊢
  rw[List.length_take]at hx
  rw[aw (by rw[List.length_take];exact hx),List.getElem_take]
  exact(aw (by omega) 0).symm
 ·rw[if_neg e]
structure BO (t : Tab) (n : Nat) (g : List (List Int)) (i c : Nat) : Prop where
  sl : Sl (cl t.1 n) g i c
  len : g.length = t.2.length
  row : ∀ r, (g.getD r []).length = ((iR t).getD r []).length
  hi : i < (outer t).length
  end_ : (outer t).getD i 0 = c + 1
  cor : (outer t).getD (i + 1) 0 < (outer t).getD i 0
  cutl : ∀ r, (((qk g i c).getD r []).length : Int) = (cl (outer t) i).getD r 0
  ins : ∀ r, (cl t.1 n).getD r 0 ≤ (cl (outer t) i).getD r 0
  rows : fH 9 9 (qk g i c)
end Go.Am.Pu
end
section
/- The square that the reference slides in. Plain words. -/
namespace Go.Am.Pu
structure Sq (s g : List (List Int)) (i c : Nat) : Prop where
  len : s.length = 11
  row : ∀ r, r < 11 → (s.getD r []).length = 11
  at_ : ∀ r x, r < 11 → x < 11 → ¬ (r = i ∧ x = c) → cel s r x = cel g r x
  hole : cel s i c = 0
theorem Sq.step{s g:List (List Int)}{i c i' c':Nat}(h:Sq s g i c)(hi:i<g.length)(hc:c<(g.getD i []).length)(h1:i<11)(h2:c<11)(h3:i'<11)(h4:c'<11)(hne: ¬(i'=i∧c'=c))(v:Int):
  Sq (kZ (kZ s i c v) i' c' 0) (kZ g i c v) i' c':=by
 refine⟨by rw[iU,iU];exact h.len,fun r hr=>by rw[cu,cu];exact h.row r hr,fun r x hr hx hn=> ?_,?_⟩
 ·rw[jf _ hn]
  by_cases e:r=i∧x=c
  ·obtain⟨rfl,rfl⟩:=e
   rw[kv _ (by rw[h.len];exact h1) (by rw[h.row _ h1];exact h2),kv _ hi hc]
  ·rw[jf _ e,jf _ e];exact h.at_ r x hr hx e
 ·rw[kv _ (by rw[iU,h.len];exact h3) (by rw[cu,h.row _ h3];exact h4)]
end Go.Am.Pu
end
section
/- What a slide leaves is a tableau. Plain words. -/
namespace Go.Am.Pu
theorem BY{α:Type}(l:List α)(a x:Nat)(d:α):(l.drop a).getD x d=l.getD (a+x) d:=by
 simp[List.getD_eq_getElem?_getD,List.getElem?_drop]
section
variable {t : Tab} {n : Nat} {g : List (List Int)} {i c : Nat}
theorem BO.cell(E:BO t n g i c){r k:Nat}(hr:r<(cl (outer t) i).length)
  (hk:k<((fQ (cl t.1 n) (qk g i c) (cl (outer t) i).length).getD r []).length):
  ((cl t.1 n).getD r 0).toNat+k<(g.getD r []).length∧((((cl t.1 n).getD r 0).toNat+k:Nat):Int)<(cl (outer t) i).getD r 0∧ ¬(r=i∧((cl t.1 n).getD r 0).toNat+k=c)∧
   ((fQ (cl t.1 n) (qk g i c) (cl (outer t) i).length).getD r []).getD k 0=cel g r (((cl t.1 n).getD r 0).toNat+k):=by
 have hq:=E.sl.q0 r
 rw[pG hr]at hk⊢
 rw[List.length_drop]at hk
 have hx:((cl t.1 n).getD r 0).toNat+k<((qk g i c).getD r []).length:=by omega
 have hl:=E.cutl r
 have hcut:=By (c:=c) (r:=r) E.sl.hi
 refine⟨?_,by omega,fun e=> ?_,?_⟩
 ·rw[hcut]at hx
  by_cases e:r=i
  ·subst e;rw[if_pos rfl,List.length_take]at hx;omega
  ·rw[if_neg e]at hx;exact hx
 ·rw[hcut,if_pos e.1,List.length_take]at hx
  omega
 ·rw[BY]
  exact Ef E.sl.hi hx
theorem BO.FU(E:BO t n g i c){r:Nat}(hr:r<(cl (outer t) i).length):
  (cl (outer t) i).getD r 0=(cl t.1 n).getD r 0+(((fQ (cl t.1 n) (qk g i c) (cl (outer t) i).length).getD r []).length:Int):=by
 have hq:=E.sl.q0 r
 have hi:=E.ins r
 have hl:=E.cutl r
 rw[pG hr,List.length_drop]
 omega
end
theorem C0{p:List Int}{n:Nat}(hp:cz p=true)(hn:n<p.length)(hc:p.getD (n+1) 0<p.getD n 0):gp (cl p n)=gp p-1:=by
 unfold cl
 split
 ·next h=>
  have hl:=wm hp hc h
  rw[xM p n (by omega)]
  omega
 ·rw[qO p n _ hn]
  omega
end Go.Am.Pu
namespace Go.Am.Pu
end Go.Am.Pu
end
section
/- Taking the least number out of a plain tableau; evacuation. Plain words. -/
namespace Go.Am.Pu
theorem BO.out{t:Tab}{n:Nat}{g:List (List Int)}{i c:Nat}(E:BO t n g i c):
  outer (cl t.1 n,fQ (cl t.1 n) (qk g i c) (cl (outer t) i).length)=cl (outer t) i:=by
 refine List.ext_getElem (by rw[eu];exact mB _ _ _) fun r h1 h2=> ?_
 rw[←aw h1 0,←aw h2 0]
 have h3:r<(fQ (cl t.1 n) (qk g i c) (cl (outer t) i).length).length:=by rw[mB];exact h2
 have:=iC (cl t.1 n) (fQ (cl t.1 n) (qk g i c) (cl (outer t) i).length) 0 r h3
 rw[Nat.zero_add]at this
 exact this.trans (E.FU h2).symm
theorem A8{t:Tab}(h:cy t=true){r:Nat}(hr:r<t.2.length):1≤(t.2.getD r []).length:=by
 have hl:=gK h hr
 have hp:=(cL (kt h)).1 ((outer t)[r]'(by rw[eu];exact hr)) (List.getElem_mem _)
 rw[aw (by rw[eu];exact hr)]at hl
 omega
theorem wZ{t:Tab}(h:cy t=true):gp (outer t)=t.2.flatten.length:=by
 unfold outer
 exact oR t.1 t.2 0 fun q _=>by rw[jA h];rfl
end Go.Am.Pu
end
section
/- Promotion. Plain words. -/
namespace Go.Am.Pu
def Small(rs:List (List Int)):Prop:= ∀i q,-100≤(rs.getD i []).getD q 0∧(rs.getD i []).getD q 0≤100
end Go.Am.Pu
end
section
/- Slides undone. Plain words. -/
namespace Go.Am.Pu
def leftOf(g:List (List Int))(i c:Nat):Int:=if c=0 then 0 else cel g i (c-1)
def yk(g:List (List Int))(i c:Nat):Int:=if i=0 then 0 else cel g (i-1) c
def rN:Nat→List (List Int)→Nat→Nat→List (List Int)×(Nat×Nat)
 |0,g,i,c=>(g,(i,c))
 |m+1,g,i,c=>if leftOf g i c=0∧yk g i c=0 then(g,(i,c))
  else if leftOf g i c≤yk g i c then rN m (kZ g i c (yk g i c)) (i-1) c
  else rN m (kZ g i c (leftOf g i c)) i (c-1)
structure Ag (f : Int → Int) (g h : List (List Int)) (i c : Nat) : Prop where
  len : h.length = g.length
  row : ∀ r, (h.getD r []).length = (g.getD r []).length
  at_ : ∀ r x, ¬ (r = i ∧ x = c) → cel h r x = f (cel g r x)
def Inn(q:List Int)(g:List (List Int)):Prop:= ∀r x:Nat,(x:Int)<q.getD r 0→cel g r x=0
theorem Inn.step{q:List Int}{g:List (List Int)}{i c:Nat}(h:Inn q g)(hq:q.getD i 0≤c)(v:Int):Inn q (kZ g i c v):=by
 intro r x hx
 by_cases e:r=i∧x=c
 ·obtain⟨rfl,rfl⟩:=e;omega
 ·rw[jf _ e];exact h r x hx
theorem Ag.right{f:Int→Int}{q:List Int}{g h:List (List Int)}{i c:Nat}(hs:Sl q g i c)(hi:Inn q g)(hf: ∀a b x y,cel g a b<cel g x y→f (cel g a b)<f (cel g x y))(f0:f 0=0)
  (hr:cel g i (c+1)≠0) (ha:Ag f (kZ g i c (cel g i (c+1))) h i (c+1)):
  ∃h',Ag f g h' i c∧ ∀m,rN (m+1) h i (c+1)=rN m h' i c:=by
 obtain⟨b1,b2⟩:=xe hr
 have f0': ∀a b,cel g a b=0→f (cel g a b)=0:=fun a b e=>by rw[e];exact f0
 have hl:leftOf h i (c+1)=f (cel g i (c+1)):=by
  unfold leftOf
  rw[if_neg (by omega),show c+1-1=c by omega,ha.at_ i c (by omega),kv _ hs.hi hs.hc]
 have hpos:0<f (cel g i (c+1)):=by
  have hp:=hs.pos i (c+1)
  have e:cel g g.length 0=0:=by unfold cel;rw[cE (Nat.le_refl _)];rfl
  have:=hf g.length 0 i (c+1) (by omega)
  rw[e,f0]at this
  exact this
 have hu:yk h i (c+1)<f (cel g i (c+1)):=by
  unfold yk
  by_cases e:i=0
  ·rw[if_pos e];exact hpos
  ·rw[if_neg e,ha.at_ _ _ (by omega),jf _ (by omega)]
   by_cases hq:q.getD (i-1) 0≤((c+1:Nat):Int)
   ·have hc:=hs.col (i-1) (c+1) hq (by rw[show i-1+1=i by omega];exact b2) (by omega) (by omega)
    rw[show i-1+1=i by omega]at hc
    exact hf _ _ _ _ hc
   ·rw[f0' _ _ (hi (i-1) (c+1) (by omega))];exact hpos
 have hhi:i<h.length:=by rw[ha.len,iU];exact b1
 have hhc:c+1<(h.getD i []).length:=by rw[ha.row,cu];exact b2
 refine⟨kZ h i (c+1) (leftOf h i (c+1)),⟨by rw[iU,ha.len,iU],fun r=>by rw[cu,ha.row,cu],fun r x hn=> ?_⟩,fun m=> ?_⟩
 ·by_cases e:r=i∧x=c+1
  ·obtain⟨rfl,rfl⟩:=e
   rw[kv _ hhi hhc,hl]
  ·rw[jf _ e,ha.at_ r x e,jf _ hn]
 ·conv=>lhs;unfold rN
  rw[if_neg (by omega),if_neg (by omega)]
  rfl
def Occ(q:List Int)(v:Int)(g:List (List Int))(i c:Nat):Prop:= ∃r x:Nat,¬(r=i∧x=c)∧x<(g.getD r []).length∧q.getD r 0≤x∧cel g r x=v
theorem Occ.step{q:List Int}{v:Int}{g:List (List Int)}{i c a b:Nat}(h:Occ q v g i c)(hi:i<g.length)(hc:c<(g.getD i []).length)(hq:q.getD i 0≤c)(hne: ¬(a=i∧b=c)):Occ q v (kZ g i c (cel g a b)) a b:=by
 obtain⟨r,x,h1,h2,h3,h4⟩:=h
 by_cases e:r=a∧x=b
 ·obtain⟨rfl,rfl⟩:=e
  exact⟨i,c,fun e=>hne ⟨e.1.symm,e.2.symm⟩,by rw[cu];exact hc,hq,by rw[kv _ hi hc];exact h4⟩
 ·exact⟨r,x,e,by rw[cu];exact h2,h3,by rw[jf _ h1];exact h4⟩
end Go.Am.Pu
end
section
/- Promotion of a standard tableau is standard, of the same shape, and can be undone. Plain words. -/
namespace Go.Am.Pu
theorem sK{t:Tab}(h0:t.1= [])(hp:cz (outer t)=true)(hn: ∀r x,r<t.2.length→x<(t.2.getD r []).length→1≤cel t.2 r x∧cel t.2 r x≤9)
  (hr: ∀r x,r<t.2.length→x+1<(t.2.getD r []).length→cel t.2 r x≤cel t.2 r (x+1)) (hc: ∀r x,r+1<t.2.length→x<(t.2.getD (r+1) []).length→cel t.2 r x<cel t.2 (r+1) x):cy t=true:=by
 simp only[cy,ig,dC,ep,Bool.and_eq_true,decide_eq_true_eq,h0]
 refine⟨⟨⟨rfl,by simp,rfl,hp,by simp,?_⟩,?_⟩,rfl⟩
 ·rw[fB]
  intro i hi
  simp at hi
 ·rw[fB]
  intro r hr'
  rw[fB]
  intro k hk
  simp only[gE,within,Bool.and_eq_true,Bool.or_eq_true,decide_eq_true_eq]
  refine⟨hn r k hr' hk,?_,?_⟩
  ·by_cases e:k=0
   ·exact .inl e
   ·right
    have:=hr r (k-1) hr' (by omega)
    rw[show k-1+1=k by omega]at this
    exact this
  ·by_cases e:r=0
   ·exact .inl e
   ·right
    have:=hc (r-1) k (by omega) (by rw[show r-1+1=r by omega];exact hk)
    rw[show r-1+1=r by omega]at this
    rw[show(r:Int)-1=((r-1:Nat):Int) by omega,sk (by omega),h0]
    simp only[List.getD_nil]
    rw[show(0:Int)+(k:Int)-0=(k:Int) by omega,fK]
    exact this
theorem nW{t:Tab}(h:cy t=true):(∀r x,r<t.2.length→x<(t.2.getD r []).length→1≤cel t.2 r x∧cel t.2 r x≤9)∧(∀r x,r<t.2.length→x+1<(t.2.getD r []).length→cel t.2 r x≤cel t.2 r (x+1)):=by
 have h':=h
 simp only[cy,Bool.and_eq_true]at h'
 obtain⟨_,_,_,hc⟩:=jD h'.1
 refine⟨fun r x hr hx=> ?_,fun r x hr hx=> ?_⟩
 ·have:=hc r x hr hx
  simp only[gE,within,Bool.and_eq_true,decide_eq_true_eq]at this
  exact this.1
 ·have:=hc r (x+1) hr hx
  simp only[gE,within,Bool.and_eq_true,Bool.or_eq_true,decide_eq_true_eq]at this
  exact this.2.1.resolve_left (by omega)
theorem mw{rs:List (List Int)}{r x:Nat}(hr:r<rs.length)(hx:x<(rs.getD r []).length):cel rs r x∈rs.flatten:=by
 refine List.mem_flatten.2 ⟨rs.getD r [],by rw[aw hr];exact List.getElem_mem hr,?_⟩
 unfold cel
 rw[aw hx]
 exact List.getElem_mem hx
theorem qQ{rs:List (List Int)}{v:Int}(h:v∈rs.flatten): ∃r x,r<rs.length∧x<(rs.getD r []).length∧cel rs r x=v:=by
 obtain⟨l,hl,hv⟩:=List.mem_flatten.1 h
 obtain⟨r,hr,rfl⟩:=List.getElem_of_mem hl
 obtain⟨x,hx,rfl⟩:=List.getElem_of_mem hv
 have e:=aw hr ([]:List Int)
 refine⟨r,x,hr,by rw[e];exact hx,?_⟩
 unfold cel
 rw[e,aw hx]
theorem nv{t:Tab}(h:cy t=true)(hs:iY t=true):t.2.flatten.Nodup∧(∀x∈t.2.flatten,1≤x∧x≤t.2.flatten.length):=by
 simp only[iY,Bool.and_eq_true]at hs
 have h1:=yc hs.1
 obtain⟨a,b⟩:=(AR fun x hx=>(h1 x hx).1).1 hs.2
 exact⟨a,fun x hx=>⟨(h1 x hx).1,b x hx⟩⟩
end Go.Am.Pu
end
section
/- Promotion keeps shapes and standardness. Plain words. -/
namespace Go.Am.Pu
section
variable {t : Tab}
theorem Ca{xs ys:List Int}{x:Nat}(h:x<xs.length):(xs++ys).getD x 0=xs.getD x 0:=by
 simp only[List.getD_eq_getElem?_getD,List.getElem?_append_left h]
theorem Cw{xs ys:List Int}{x:Nat}(h:xs.length≤x):(xs++ys).getD x 0=ys.getD (x-xs.length) 0:=by
 simp only[List.getD_eq_getElem?_getD,List.getElem?_append_right h]
end
end Go.Am.Pu
end
section
/- Promotion undone: it is one to one. Plain words. -/
namespace Go.Am.Pu
def Ez(t:Tab)(n:Nat):List (List Int):=
 (if n=t.2.length then iR t++ [[]]else iR t).set n ((if n=t.2.length then iR t++ [[]]else iR t).getD n []++ [0])
section
variable {t : Tab}
end
end Go.Am.Pu
end
section
/- Orbits of promotion come back. Plain words. -/
namespace Go.Am.Pu
structure Good (t : Tab) : Prop where
  pl : cy t = true
  st : iY t = true
  ne : t.2.flatten.length ≠ 0
end Go.Am.Pu
end
section
/- A slide outwards, as the program has it; demotion. Plain words. -/
namespace Go.Am.Pu
section
variable {u : Tab}
end
end Go.Am.Pu
end
section
/- The last promotion of an orbit; orbits' sizes. Plain words. -/
namespace Go.Am.Pu
def Bf(t:Tab):Prop:=t.1= []∧fH 10 10 t.2
theorem Bf.ok{t:Tab}(h:Bf t):sO t:=⟨by rw[h.1];simp,by have:=h.2.1;omega,fun r hr=>by have:=h.2.2 r hr;omega⟩
theorem Bf.size{t:Tab}(h:Bf t):y4 t.2≤100:=by
 have a:=yp t.2 10 h.2.2
 have b:=h.2.1
 omega
section
attribute [local instance] D.real
variable {α β : Type} {x y v : Option α}
theorem bE{x:Option β}{z:β}{f:β→Option α}(h:x=some z)(g:f z=v):D.bnd x f=v:=by rw[h];exact g
theorem tN(g:x=v):D.test (D.no true) y x=v:=g
theorem tM(g:y=v):D.test (D.no false) y x=v:=g
theorem tG{p:Prop} [Decidable p](h:p)(g:x=v):D.test (decide p) x y=v:=by
 show(if decide p=true then x else y)=v
 rw[if_pos (decide_eq_true h)];exact g
theorem tX{p:Prop} [Decidable p](h: ¬p)(g:y=v):D.test (decide p) x y=v:=by
 show(if decide p=true then x else y)=v
 rw[decide_eq_false h];exact g
end
end Go.Am.Pu
end
section
/- The rewriting rules of the plain laws, in one. -/
namespace Go.Am.Pu
open Go Go.Am
attribute [local instance] D.real
theorem sss:type_of% @de∧type_of% @dj∧type_of% @ca∧type_of% @bZ∧type_of% @cb∧type_of% @bL∧type_of% @bT∧type_of% @bO∧type_of% @cS∧type_of% @bV∧type_of% @bR∧type_of% @bg∧type_of% @bh∧type_of% @b8∧type_of% @ba∧type_of% @bS∧type_of% @b9∧type_of% @cF∧type_of% @di∧type_of% @b7∧type_of% @b6∧type_of% @eL∧type_of% @w64∧type_of% @Int.toNat_natCast∧type_of% @decide_eq_true_eq∧type_of% @Int.ofNat_lt∧type_of% @Int.ofNat_le∧type_of% @Int.natCast_nonneg∧type_of% @decide_true∧type_of% @decide_false∧type_of% @Bool.not_true∧type_of% @Bool.not_false∧type_of% @Bool.false_eq_true∧type_of% @Bool.not_eq_true∧type_of% @Bool.true_and∧type_of% @Bool.and_true∧type_of% @Bool.false_and∧type_of% @Bool.and_false:=
 ⟨@de,@dj,@ca,@bZ,@cb,@bL,@bT,@bO,@cS,@bV,@bR,@bg,@bh,@b8,@ba,@bS,@b9,@cF,@di,@b7,@b6,@eL,@w64,@Int.toNat_natCast,@decide_eq_true_eq,@Int.ofNat_lt,@Int.ofNat_le,@Int.natCast_nonneg,@decide_true,@decide_false,@Bool.not_true,@Bool.not_false,@Bool.false_eq_true,@Bool.not_eq_true,@Bool.true_and,@Bool.and_true,@Bool.false_and,@Bool.and_false⟩
end Go.Am.Pu
end
section
/- Cells taken out of plain tableaux, one behind another. Plain words. -/
namespace Go.Am.Pu
def qY(rs:List (List Int)):Prop:= ∀i,i+1<rs.length→(rs.getD (i+1) []).length≤(rs.getD i []).length∧ ∀q,q<(rs.getD (i+1) []).length→(rs.getD i []).getD q 0<(rs.getD (i+1) []).getD q 0
theorem vB{r:List Int}{y:Int}: ∀{m q:Nat},mE r y m=some q→ ∀c,q<c→c<m→y≤r.getD c 0
 |0,q,h,_,_,_=>by simp[mE]at h
 |m+1,q,h,c,h1,h2=>by
  unfold mE at h
  split at h
  ·next hc=>injection h with h;omega
  ·next hc=>
   by_cases e:c=m
   ·subst e;omega
   ·exact vB h c h1 (by omega)
theorem rP: ∀(r:Nat) (rs:List (List Int)) (y:Int),(nc r rs y).1.length=rs.length∧ ∀i,((nc r rs y).1.getD i []).length=(rs.getD i []).length
 |0,_,_=>⟨rfl,fun _=>rfl⟩
 |r+1,rs,y=>by
  unfold nc
  split
  ·next q hq=>
   obtain⟨a,b⟩:=rP r (rs.set r ((rs.getD r []).set q y)) ((rs.getD r []).getD q 0)
   refine⟨by rw[a,List.length_set],fun i=> ?_⟩
   rw[b]
   by_cases e:i=r
   ·subst e
    by_cases h:i<rs.length
    ·rw[aw (by rw[List.length_set];exact h),List.getElem_set_self,List.length_set]
    ·rw[cE (by rw[List.length_set];omega),cE (xs:=rs) (by omega)]
   ·rw[getD_set_ne (Ne.symm e)]
  ·exact rP r rs y
theorem wX: ∀(r:Nat) (rs:List (List Int)) (y:Int) (q:Nat),r<rs.length→(∀i,i+1<r→(rs.getD (i+1) []).length≤(rs.getD i []).length∧ ∀q,q<(rs.getD (i+1) []).length→(rs.getD i []).getD q 0<(rs.getD (i+1) []).getD q 0)→
  (∀i,r≤i→i+1<rs.length→(rs.getD (i+1) []).length≤(rs.getD i []).length∧ ∀q,q<(rs.getD (i+1) []).length→(rs.getD i []).getD q 0<(rs.getD (i+1) []).getD q 0)→
  (∀i,i+1=r→(rs.getD r []).length≤(rs.getD i []).length∧q<(rs.getD i []).length∧(rs.getD i []).getD q 0<y∧(∀c,c<(rs.getD r []).length→c≠q→(rs.getD i []).getD c 0<(rs.getD r []).getD c 0)∧(∀c,q≤c→c<(rs.getD r []).length→y<(rs.getD r []).getD c 0))→
  qY (nc r rs y).1
 |0,rs,y,q,hr,_,hB,_=>fun i hi=>hB i (Nat.zero_le _) hi
 |r+1,rs,y,q,hr,hA,hB,hI=>by
  obtain⟨i1,i2,i3,i4,i5⟩:=hI r rfl
  obtain⟨q0,hq0⟩:=wu i2 i3
  have hmax:=vB hq0
  obtain⟨k1,k2⟩:=s0 hq0
  have hqq:q≤q0:=Nat.le_of_not_lt fun hlt=>by
   have:=hmax q hlt i2
   omega
  unfold nc
  rw[hq0]
  have hrow:(rs.set r ((rs.getD r []).set q0 y)).getD r []=(rs.getD r []).set q0 y:=by
   rw[aw (by rw[List.length_set];omega),List.getElem_set_self]
  have hne: ∀i,i≠r→(rs.set r ((rs.getD r []).set q0 y)).getD i []=rs.getD i []:=fun i h=>getD_set_ne (Ne.symm h) _ _
  have hset: ∀c,c≠q0→((rs.getD r []).set q0 y).getD c 0=(rs.getD r []).getD c 0:=fun c h=>getD_set_ne (Ne.symm h) _ _
  have hself:((rs.getD r []).set q0 y).getD q0 0=y:=by rw[aw (by rw[List.length_set];exact k1),List.getElem_set_self]
  refine wX r _ _ q0 (by rw[List.length_set];omega) (fun i hi=> ?_) (fun i hi hl=> ?_) (fun i hi=> ?_)
  ·rw[hne _ (by omega),hne _ (by omega)]
   exact hA i (by omega)
  ·rw[List.length_set]at hl
   by_cases e:i=r
   ·subst e
    rw[hne (i+1) (by omega),hrow,List.length_set]
    refine⟨i1,fun c hc=> ?_⟩
    by_cases e2:c=q0
    ·subst e2;rw[hself];exact i5 c hqq hc
    ·rw[hset c e2]
     by_cases e3:c=q
     ·subst e3
      have:=i5 c (Nat.le_refl _) hc
      omega
     ·exact i4 c hc e3
   ·rw[hne (i+1) (by omega),hne i e]
    exact hB i (by omega) hl
  ·subst hi
   obtain⟨a1,a2⟩:=hA i (by omega)
   rw[hrow,hne i (by omega),List.length_set]
   refine⟨a1,by omega,a2 q0 k1,fun c hc e=> ?_,fun c h1 h2=> ?_⟩
   ·rw[hset c e];exact a2 c hc
   ·by_cases e:c=q0
    ·subst e;rw[hself];exact k2
    ·rw[hset c e]
     have:=hmax c (by omega) h2
     omega
def cY(rs:List (List Int))(r:Nat):List (List Int):=
 if(rs.getD r []).length=1 then(rs.set r ((rs.getD r []).take ((rs.getD r []).length-1))).take r else rs.set r ((rs.getD r []).take ((rs.getD r []).length-1))
def ez(a b:List (List Int)):Prop:=a.length=b.length∧ ∀i,(a.getD i []).length=(b.getD i []).length
theorem getD_take{α:Type}{l:List α}{n i:Nat}(h:i<n)(d:α):(l.take n).getD i d=l.getD i d:=by
 simp only[List.getD_eq_getElem?_getD,List.getElem?_take,if_pos h]
theorem wg{a b:List (List Int)}(h:ez a b)(n:Nat):ez (a.take n) (b.take n):=by
 refine⟨by rw[List.length_take,List.length_take,h.1],fun i=> ?_⟩
 by_cases hi:i<n
 ·rw[getD_take hi,getD_take hi];exact h.2 i
 ·rw[cE (xs:=a.take n) (by rw[List.length_take];omega),cE (xs:=b.take n) (by rw[List.length_take];omega)]
theorem xg(rs:List (List Int))(r:Nat):ez (mr rs r).1 (cY rs r):=by
 have a:=rP r (rs.set r ((rs.getD r []).take ((rs.getD r []).length-1))) ((rs.getD r []).getD ((rs.getD r []).length-1) 0)
 unfold mr cY
 simp only
 split
 ·exact wg a r
 ·exact a
theorem zc{a b:List (List Int)}(h:ez a b)(r:Nat):ez (cY a r) (cY b r):=by
 have hs:ez (a.set r ((a.getD r []).take ((a.getD r []).length-1))) (b.set r ((b.getD r []).take ((b.getD r []).length-1))):=by
  refine⟨by rw[List.length_set,List.length_set,h.1],fun i=> ?_⟩
  by_cases e:i=r
  ·subst e
   by_cases hi:i<a.length
   ·rw[aw (xs:=a.set _ _) (by rw[List.length_set];exact hi),List.getElem_set_self,aw (xs:=b.set _ _) (by rw[List.length_set,←h.1];exact hi),List.getElem_set_self,List.length_take,List.length_take,h.2 i]
   ·rw[cE (xs:=a.set _ _) (by rw[List.length_set];omega),cE (xs:=b.set _ _) (by rw[List.length_set,←h.1];omega)]
  ·rw[getD_set_ne (Ne.symm e),getD_set_ne (Ne.symm e)];exact h.2 i
 unfold cY
 rw[h.2 r]
 split
 ·rw[←h.2 r];rw[h.2 r]at*;exact wg hs r
 ·rw[h.2 r]at hs;exact hs
theorem ez.trans{a b c:List (List Int)}(h:ez a b)(h':ez b c):ez a c:=⟨h.1.trans h'.1,fun i=>(h.2 i).trans (h'.2 i)⟩
theorem Dj{rs:List (List Int)}(h:qY rs)(n:Nat):qY (rs.take n):=by
 intro i hi
 rw[List.length_take]at hi
 rw[getD_take (by omega),getD_take (by omega)]
 exact h i (by omega)
theorem yU{rs:List (List Int)}{r:Nat}(h:qY rs)(hr:r<rs.length)(hl:1≤(rs.getD r []).length)(hc:(rs.getD (r+1) []).length<(rs.getD r []).length):qY (mr rs r).1:=by
 have hrow:(rs.set r ((rs.getD r []).take ((rs.getD r []).length-1))).getD r []=(rs.getD r []).take ((rs.getD r []).length-1):=by
  rw[aw (by rw[List.length_set];exact hr),List.getElem_set_self]
 have hne: ∀i,i≠r→(rs.set r ((rs.getD r []).take ((rs.getD r []).length-1))).getD i []=rs.getD i []:=fun i h=>getD_set_ne (Ne.symm h) _ _
 have key:qY (nc r (rs.set r ((rs.getD r []).take ((rs.getD r []).length-1))) ((rs.getD r []).getD ((rs.getD r []).length-1) 0)).1:=by
  refine wX r _ _ ((rs.getD r []).length-1) (by rw[List.length_set];exact hr) (fun i hi=> ?_) (fun i hi hil=> ?_) (fun i hi=> ?_)
  ·rw[hne _ (by omega),hne _ (by omega)];exact h i (by omega)
  ·rw[List.length_set]at hil
   by_cases e:i=r
   ·subst e
    rw[hne (i+1) (by omega),hrow,List.length_take]
    refine⟨by omega,fun c hc'=> ?_⟩
    rw[getD_take (by omega)]
    exact(h i hil).2 c hc'
   ·rw[hne (i+1) (by omega),hne i e];exact h i hil
  ·subst hi
   obtain⟨a1,a2⟩:=h i hr
   rw[hrow,hne i (by omega),List.length_take]
   refine⟨by omega,by omega,a2 _ (by omega),fun c h1 h2=> ?_,fun c h1 h2=>by omega⟩
   rw[getD_take (by omega)]
   exact a2 c (by omega)
 unfold mr
 simp only
 split
 ·exact Dj key r
 ·exact key
end Go.Am.Pu
end
section
/- The greatest number of a standard tableau, and the tableau without it; a pair of tableaux unrolled. Plain words. -/
namespace Go.Am.Pu
section
variable {t : Tab}
theorem uu(h:cy t=true)(hs:iY t=true){a b x y:Nat}(ha:a<t.2.length)(hx:x<(t.2.getD a []).length)(hb:b<t.2.length)(hy:y<(t.2.getD b []).length)(e:cel t.2 a x=cel t.2 b y):a=b∧x=y:=by
 have nd:=(nv h hs).1
 rw[List.Nodup,List.pairwise_flatten]at nd
 have mem: ∀{r z:Nat},r<t.2.length→(hz:z<(t.2.getD r []).length)→cel t.2 r z∈t.2.getD r []:=fun{r z} _ hz=>by
  unfold cel
  rw[aw hz]
  exact List.getElem_mem hz
 have ab: ∀{a b x y:Nat},a<b→a<t.2.length→x<(t.2.getD a []).length→b<t.2.length→y<(t.2.getD b []).length→cel t.2 a x≠cel t.2 b y:=fun{a b x y} hab ha hx hb hy=>by
  have:=List.pairwise_iff_getElem.1 nd.2 a b ha hb hab
  exact this _ (by rw[←aw ha []];exact mem ha hx) _ (by rw[←aw hb []];exact mem hb hy)
 have e1:a=b:=by
  rcases Nat.lt_trichotomy a b with hl|hl|hl
  ·exact absurd e (ab hl ha hx hb hy)
  ·exact hl
  ·exact absurd e.symm (ab hl hb hy ha hx)
 subst e1
 refine⟨rfl,?_⟩
 have n2:=nd.1 _ (by rw[aw ha];exact List.getElem_mem ha:t.2.getD a []∈t.2)
 unfold cel at e
 rw[aw hx,aw hy]at e
 rcases Nat.lt_trichotomy x y with hl|hl|hl
 ·exact absurd e (List.pairwise_iff_getElem.1 n2 x y hx hy hl)
 ·exact hl
 ·exact absurd e.symm (List.pairwise_iff_getElem.1 n2 y x hy hx hl)
theorem j3(h:cy t=true)(hs:iY t=true){a x:Nat}{v:Int}(ha:a<t.2.length)(hx:x<(t.2.getD a []).length)(e:cel t.2 a x=v):rowOf t v=a:=by
 have hf:t.2.findIdx (fun r=>has r v)=a:=by
  rw[List.findIdx_eq ha]
  refine⟨?_,fun j hj=> ?_⟩
  ·rw[←aw ha [],tQ,←e]
   unfold cel
   rw[aw hx]
   exact List.getElem_mem hx
  ·rw[Bool.eq_false_iff]
   intro hc
   rw[tQ]at hc
   obtain⟨y,hy,e2⟩:=List.getElem_of_mem hc
   have hjl:j<t.2.length:=by omega
   have hy':y<(t.2.getD j []).length:=by rw[aw hjl];exact hy
   have e3:cel t.2 j y=v:=by
    unfold cel
    rw[aw hy']
    simp only[aw hjl]
    exact e2
   have:=uu h hs hjl hy' ha hx (by rw[e,e3])
   omega
 unfold rowOf BR
 rw[hf,if_pos ha]
theorem CX(h:cy t=true)(hs:iY t=true)(hn:t.2.flatten.length≠0): ∃a:Nat,a<t.2.length∧1≤(t.2.getD a []).length∧cel t.2 a ((t.2.getD a []).length-1)=t.2.flatten.length∧(t.2.getD (a+1) []).length<(t.2.getD a []).length∧rowOf t t.2.flatten.length=a:=by
 have ho:mz t.2.flatten=true:=by
  have:=hs
  simp only[iY,Bool.and_eq_true]at this
  exact this.2
 obtain⟨a,x,ha,hx,e⟩:=qQ (lJ.1 ho t.2.flatten.length (jb.2 (by omega)))
 have hb:=(nv h hs).2
 obtain⟨c1,c2⟩:=nW h
 have hx1:x+1=(t.2.getD a []).length:=by
  refine Nat.le_antisymm hx (Nat.le_of_not_lt fun hlt=> ?_)
  have k1:=c2 a x ha hlt
  have k2:=(hb _ (mw ha hlt)).2
  have:=uu h hs ha hx ha hlt (by omega)
  omega
 have hbel:(t.2.getD (a+1) []).length≤x:=by
  refine Nat.le_of_not_lt fun hlt=> ?_
  have ha1:a+1<t.2.length:=Nat.lt_of_not_le fun hle=>by rw[cE hle]at hlt;simp at hlt
  have k1:=(pQ h a ha1).2 x hlt
  have k2:=(hb _ (mw ha1 hlt)).2
  unfold cel at e k2
  omega
 refine⟨a,ha,by omega,by rw[show(t.2.getD a []).length-1=x by omega];exact e,by omega,j3 h hs ha hx e⟩
theorem qb{rs:List (List Int)}{a:Nat}(ha:a<rs.length)(hc:(rs.getD (a+1) []).length<(rs.getD a []).length)(hp: ∀r,r<rs.length→1≤(rs.getD r []).length)(r:Nat):(cY rs a).getD r []=if r=a then(rs.getD a []).take ((rs.getD a []).length-1)else rs.getD r []:=by
 have hset:(rs.set a ((rs.getD a []).take ((rs.getD a []).length-1))).getD r []=if r=a then(rs.getD a []).take ((rs.getD a []).length-1)else rs.getD r []:=by
  by_cases e:r=a
  ·subst e;rw[if_pos rfl,aw (by rw[List.length_set];exact ha),List.getElem_set_self]
  ·rw[if_neg e,getD_set_ne (Ne.symm e)]
 unfold cY
 split
 ·next h1=>
  by_cases hr:r<a
  ·rw[getD_take hr,hset]
  ·rw[cE (by rw[List.length_take];omega)]
   by_cases e:r=a
   ·subst e;rw[if_pos rfl,h1];rfl
   ·rw[if_neg e]
    have hlast:rs.length≤a+1:=Nat.le_of_not_lt fun hlt=>by
     have:=hp (a+1) hlt
     omega
    rw[cE (by omega)]
 ·exact hset
theorem tW{rs:List (List Int)}{a:Nat}(ha:a<rs.length):(cY rs a).length=if(rs.getD a []).length=1 then a else rs.length:=by
 unfold cY
 split
 ·rw[List.length_take,List.length_set];omega
 ·rw[List.length_set]
theorem D0(h:cy t=true)(hs:iY t=true){a:Nat}(hn:t.2.flatten.length≠0)(ha:a<t.2.length)(h1:1≤(t.2.getD a []).length)(htop:cel t.2 a ((t.2.getD a []).length-1)=t.2.flatten.length)(hc:(t.2.getD (a+1) []).length<(t.2.getD a []).length):
  cy (([],cY t.2 a):Tab)=true∧iY (([],cY t.2 a):Tab)=true∧(cY t.2 a).flatten.length+1=t.2.flatten.length∧ ∀v,1≤v→v<(t.2.flatten.length:Int)→rowOf ([],cY t.2 a) v=rowOf t v:=by
 have hpos:=fun r (hr:r<t.2.length)=>A8 h hr
 have hrow:=qb ha hc hpos
 have hlen:=tW ha
 obtain⟨c1,c2⟩:=nW h
 have c3:=pQ h
 have hcorner:(outer t).getD (a+1) 0<(outer t).getD a 0:=by
  rw[gK h ha]
  by_cases e:a+1<t.2.length
  ·rw[gK h e];omega
  ·rw[cE (by rw[eu];omega)];omega
 have hal:a<(outer t).length:=by rw[eu];exact ha
 have hout:outer (([],cY t.2 a):Tab)=cl (outer t) a:=by
  have hdl:(cl (outer t) a).length=(cY t.2 a).length:=by
   rw[hlen]
   unfold cl
   rw[gK h ha]
   by_cases e:(t.2.getD a []).length=1
   ·rw[if_pos (by omega),if_pos e,List.length_take,eu];omega
   ·rw[if_neg (by omega),if_neg e,List.length_set,eu]
  refine List.ext_getElem (by rw[eu,hdl]) fun r k1 k2=> ?_
  rw[←aw k1 0,←aw k2 0,vC (kt h) hal hcorner]
  have k3:r<(cY t.2 a).length:=by rw[eu]at k1;exact k1
  have:=iC [] (cY t.2 a) 0 r k3
  unfold outer at this⊢
  rw[this,hrow]
  have hrl:r<t.2.length:=by
   rw[hlen]at k3
   split at k3<;>omega
  have po:=gK h hrl
  have pa:=gK h ha
  unfold outer at po pa
  by_cases e:r=a
  ·subst e
   rw[if_pos rfl,if_pos rfl,List.length_take,pa]
   simp only[List.getD_nil]
   omega
  ·rw[if_neg e,if_neg e,po]
   simp only[List.getD_nil]
   omega
 have hcel: ∀{r x:Nat},x<((cY t.2 a).getD r []).length→x<(t.2.getD r []).length∧cel (cY t.2 a) r x=cel t.2 r x:=fun{r x} hx=>by
  unfold cel
  rw[hrow]at hx⊢
  by_cases e:r=a
  ·subst e
   rw[if_pos rfl,List.length_take]at hx
   rw[if_pos rfl,getD_take (by omega)]
   exact⟨by omega,rfl⟩
  ·rw[if_neg e]at hx⊢
   exact⟨hx,rfl⟩
 have hrl: ∀{r:Nat},r<(cY t.2 a).length→r<t.2.length:=fun{r} hr=>by
  rw[hlen]at hr
  split at hr<;>omega
 have hin: ∀{r x:Nat},x<(t.2.getD r []).length→ ¬(r=a∧x+1=(t.2.getD a []).length)→x<((cY t.2 a).getD r []).length:=fun{r x} hx hne=>by
  rw[hrow]
  by_cases e:r=a
  ·subst e
   rw[if_pos rfl,List.length_take]
   have: ¬x+1=(t.2.getD r []).length:=fun e=>hne ⟨rfl,e⟩
   omega
  ·rw[if_neg e];exact hx
 have hpl:cy (([],cY t.2 a):Tab)=true:=by
  refine sK rfl (by rw[hout];exact CA (kt h) hal hcorner) (fun r x hr hx=> ?_) (fun r x hr hx=> ?_) (fun r x hr hx=> ?_)
  ·obtain⟨k1,k2⟩:=hcel hx
   rw[k2];exact c1 r x (hrl hr) k1
  ·obtain⟨k1,k2⟩:=hcel hx
   obtain⟨_,k4⟩:=hcel (show x<((cY t.2 a).getD r []).length from Nat.lt_of_succ_lt hx)
   rw[k2,k4];exact c2 r x (hrl hr) k1
  ·obtain⟨k1,k2⟩:=hcel hx
   have hr1:=hrl hr
   obtain⟨d1,d2⟩:=c3 r hr1
   have hxr:x<((cY t.2 a).getD r []).length:=by
    refine hin (by omega) fun e=> ?_
    rw[e.1]at k1
    omega
   obtain⟨_,k4⟩:=hcel hxr
   rw[k2,k4]
   exact d2 x k1
 have hfl:(cY t.2 a).flatten.length+1=t.2.flatten.length:=by
  have e1:=wZ hpl
  rw[hout,C0 (kt h) hal hcorner,wZ h]at e1
  simp only at e1
  omega
 have ho:mz t.2.flatten=true:=by
  have:=hs
  simp only[iY,Bool.and_eq_true]at this
  exact this.2
 have hcells: ∀v,1≤v→v<(t.2.flatten.length:Int)→ ∃r x,r<(cY t.2 a).length∧x<((cY t.2 a).getD r []).length∧cel (cY t.2 a) r x=v∧r<t.2.length∧x<(t.2.getD r []).length∧cel t.2 r x=v:=by
  intro v v1 v2
  obtain⟨r,x,hr,hx,e⟩:=qQ (lJ.1 ho v (jb.2 (by omega)))
  have hx':x<((cY t.2 a).getD r []).length:=by
   refine hin hx fun e2=> ?_
   rw[e2.1,show x=(t.2.getD a []).length-1 by omega,htop]at e
   omega
  exact⟨r,x,Nat.lt_of_not_le fun hle=>by rw[cE hle]at hx';simp at hx',hx',by rw[(hcel hx').2];exact e,hr,hx,e⟩
 have hst:iY (([],cY t.2 a):Tab)=true:=by
  have hp':=hpl
  simp only[cy,Bool.and_eq_true]at hp'
  simp only[iY,Bool.and_eq_true]
  refine⟨hp'.1,lJ.2 fun v hv=> ?_⟩
  rw[jb]at hv
  obtain⟨r,x,q1,q2,q3,_⟩:=hcells v hv.1 (by omega)
  rw[←q3]
  exact mw q1 q2
 refine⟨hpl,hst,hfl,fun v v1 v2=> ?_⟩
 obtain⟨r,x,q1,q2,q3,q4,q5,q6⟩:=hcells v v1 v2
 rw[j3 h hs q4 q5 q6,j3 hpl hst q1 q2 q3]
end
structure Unr (q : Tab) (k : Nat) (P Q : List (List Int)) : Prop where
  pl : cy (([], Q) : Tab) = true
  st : iY (([], Q) : Tab) = true
  fl : Q.flatten.length = k
  col : qY P
  same : ez P Q
  p9 : fH 9 9 P
  row : ∀ v, 1 ≤ v → v ≤ (k : Int) → rowOf ([], Q) v = rowOf q v
theorem Unr.step{q:Tab}{k:Nat}{P Q:List (List Int)}(h:Unr q (k+1) P Q): ∃a:Nat,rowOf q ((k+1:Nat):Int)=a∧a<Q.length∧1≤(Q.getD a []).length∧cel Q a ((Q.getD a []).length-1)=(k+1:Nat)∧(Q.getD (a+1) []).length<(Q.getD a []).length∧Unr q k (mr P a).1 (cY Q a):=by
 have hfl:(([],Q):Tab).2.flatten.length=k+1:=h.fl
 obtain⟨a,a1,a2,a3,a4,a5⟩:=CX h.pl h.st (by omega)
 obtain⟨b1,b2,b3,b4⟩:=D0 h.pl h.st (by omega) a1 a2 a3 a4
 simp only at a1 a2 a3 a4 b3
 have hP1:a<P.length:=by rw[h.same.1];exact a1
 refine⟨a,?_,a1,a2,by rw[a3,h.fl],a4,⟨b1,b2,by have:=h.fl;omega,yU h.col hP1 (by rw[h.same.2];exact a2) (by rw[h.same.2,h.same.2];exact a4),(xg P a).trans (zc h.same a),xa h.p9 a,fun v v1 v2=> ?_⟩⟩
 ·rw[←h.row _ (by omega) (Int.le_refl _),←a5,hfl]
 ·rw[b4 v v1 (by rw[hfl];omega)]
  exact h.row v v1 (by omega)
end Go.Am.Pu
namespace Go.Am.Pu
end Go.Am.Pu
end
section
/- Insertion keeps tableaux; where the new cells lie; a tableau from its word. Plain words. -/
namespace Go.Am.Pu
def mN(r:List Int):Prop:= ∀i,i+1<r.length→r.getD i 0≤r.getD (i+1) 0
theorem mN.le{r:List Int}(h:mN r): ∀(d i:Nat),i+d<r.length→r.getD i 0≤r.getD (i+d) 0
 |0,i,_=>Int.le_refl _
 |d+1,i,hi=>by
  have a:=mN.le h d i (by omega)
  have b:=h (i+d) (by omega)
  rw[show i+(d+1)=i+d+1 by omega]
  omega
theorem mN.mono{r:List Int}(h:mN r){i j:Nat}(hij:i≤j)(hj:j<r.length):r.getD i 0≤r.getD j 0:=by
 have:=h.le (j-i) i (by omega)
 rw[show i+(j-i)=j by omega]at this
 exact this
def fst(r:List Int)(x:Int):Nat:=r.findIdx fun n=>decide (x<n)
theorem xC{r:List Int}{x:Int}:fst r x≤r.length:=List.findIdx_le_length
theorem Dm{r:List Int}{x:Int}(h:fst r x<r.length):x<r.getD (fst r x) 0:=by
 have:=qh (p:=fun n=>decide (x<n)) h
 exact of_decide_eq_true this
theorem w6{r:List Int}{x:Int}{i:Nat}(h:i<fst r x):r.getD i 0≤x:=by
 have h1:i<r.length:=Nat.lt_of_lt_of_le h xC
 have h2:=List.not_of_lt_findIdx h
 rw[aw h1]
 exact Int.not_lt.1 (of_decide_eq_false h2)
theorem iJ(r:List Int)(rs:List (List Int))(x:Int):bc (r::rs) x=if fst r x<r.length then(r.set (fst r x) x::(bc rs (r.getD (fst r x) 0)).1,(bc rs (r.getD (fst r x) 0)).2+1)else((r++ [x])::rs,0):=rfl
def Fp(r:List Int):List (List Int)→Prop
 | []=>True
 |s::_=>s.length≤r.length∧ ∀q,q<s.length→r.getD q 0<s.getD q 0
def SSR:List (List Int)→Prop
 | []=>True
 |r::rs=>0<r.length∧mN r∧Fp r rs∧SSR rs
theorem ic{r:List Int}{i:Nat}(x:Int)(h:i<r.length)(q:Nat):(r.set i x).getD q 0=if q=i then x else r.getD q 0:=by
 by_cases e:q=i
 ·subst e;rw[if_pos rfl,aw (by rw[List.length_set];exact h),List.getElem_set_self]
 ·rw[if_neg e,getD_set_ne (Ne.symm e)]
theorem fc{r:List Int}(x:Int)(q:Nat):(r++ [x]).getD q 0=if q=r.length then x else r.getD q 0:=by
 by_cases h:q<r.length
 ·rw[Ca h,if_neg (by omega)]
 ·rw[Cw (by omega)]
  by_cases e:q=r.length
  ·rw[if_pos e,e,Nat.sub_self];rfl
  ·rw[if_neg e,cE (by simp;omega),cE (by omega)]
theorem ED{r:List Int}{x:Int}(h:mN r)(hf:fst r x<r.length):mN (r.set (fst r x) x):=by
 intro i hi
 rw[List.length_set]at hi
 rw[ic x hf,ic x hf]
 have h0:=h i hi
 by_cases e1:i=fst r x
 ·rw[if_pos e1,if_neg (by omega)]
  have:=Dm hf
  rw[←e1]at this
  omega
 ·rw[if_neg e1]
  by_cases e2:i+1=fst r x
  ·rw[if_pos e2];exact w6 (by omega)
  ·rw[if_neg e2];exact h0
theorem Ew{r:List Int}{x:Int}(h:mN r)(hf: ¬fst r x<r.length):mN (r++ [x]):=by
 intro i hi
 rw[List.length_append,List.length_singleton]at hi
 rw[fc,fc,if_neg (by omega)]
 by_cases e:i+1=r.length
 ·rw[if_pos e]
  have:= @xC r x
  exact w6 (by omega)
 ·rw[if_neg e];exact h i (by omega)
theorem CN{r:List Int}{x:Int}{rs:List (List Int)}(h:mN r)(hf:fst r x<r.length)(ho:Fp r rs):Fp (r.set (fst r x) x) (bc rs (r.getD (fst r x) 0)).1:=by
 have hy:=Dm hf
 have hle: ∀q,q<r.length→(r.set (fst r x) x).getD q 0≤r.getD q 0:=fun q hq=>by
  rw[ic x hf]
  split
  ·next e=>rw[e];omega
  ·exact Int.le_refl _
 have hlow: ∀p,p≤fst r x→(r.set (fst r x) x).getD p 0<r.getD (fst r x) 0:=fun p hp=>by
  rw[ic x hf]
  split
  ·exact hy
  ·have:=w6 (r:=r) (x:=x) (i:=p) (by omega)
   omega
 cases rs with
 |nil=>
  show([r.getD (fst r x) 0]:List Int).length≤_∧_
  refine⟨by rw[List.length_set];simp;omega,fun q hq=> ?_⟩
  have e:q=0:=by simp at hq;exact hq
  subst e
  exact hlow 0 (by omega)
 |cons s rs=>
  obtain⟨o1,o2⟩:=ho
  have hp:fst s (r.getD (fst r x) 0)≤fst r x:=by
   refine Nat.le_of_not_lt fun hlt=> ?_
   have hs:fst r x<s.length:=Nat.lt_of_lt_of_le hlt xC
   have a:=w6 hlt
   have b:=o2 _ hs
   omega
  rw[iJ]
  by_cases c:fst s (r.getD (fst r x) 0)<s.length
  ·rw[if_pos c]
   refine⟨by rw[List.length_set,List.length_set];exact o1,fun q hq=> ?_⟩
   rw[List.length_set]at hq
   rw[ic (r:=s) _ c]
   split
   ·next e=>rw[e];exact hlow _ hp
   ·have a:=hle q (by omega)
    have b:=o2 q hq
    omega
  ·rw[if_neg c]
   have hsl:fst s (r.getD (fst r x) 0)=s.length:=Nat.le_antisymm xC (Nat.le_of_not_lt c)
   refine⟨by rw[List.length_set,List.length_append,List.length_singleton];omega,fun q hq=> ?_⟩
   rw[List.length_append,List.length_singleton]at hq
   rw[fc]
   split
   ·next e=>rw[e];exact hlow _ (by omega)
   ·have a:=hle q (by omega)
    have b:=o2 q (by omega)
    omega
theorem BC: ∀(rs:List (List Int)) (x:Int),SSR rs→SSR (bc rs x).1
 | [],x,_=>⟨by simp,fun i hi=>by simp at hi,trivial,trivial⟩
 |r::rs,x,h=>by
  obtain⟨h1,h2,h3,h4⟩:=h
  rw[iJ]
  split
  ·next c=>exact⟨by rw[List.length_set];exact h1,ED h2 c,CN h2 c h3,BC rs _ h4⟩
  ·next c=>
   refine⟨by simp,Ew h2 c,?_,h4⟩
   cases rs with
   |nil=>trivial
   |cons s rs=>
    obtain⟨o1,o2⟩:=h3
    refine⟨by rw[List.length_append];omega,fun q hq=> ?_⟩
    rw[fc,if_neg (by omega)]
    exact o2 q hq
end Go.Am.Pu
end
section
/- Plain tableaux, row by row; a tableau from its word; words inserted. Plain words. -/
namespace Go.Am.Pu
theorem xl: ∀{rs:List (List Int)},SSR rs→ ∀r,r<rs.length→0<(rs.getD r []).length∧mN (rs.getD r [])
 |r::rs,h,0,_=>⟨h.1,h.2.1⟩
 |r::rs,h,q+1,hq=>xl h.2.2.2 q (by simpa using hq)
theorem xy: ∀{rs:List (List Int)},SSR rs→qY rs
 | [],_,i,hi=>by simp at hi
 | [r],_,i,hi=>by simp at hi
 |r::s::rs,h,0,_=>h.2.2.1
 |r::s::rs,h,i+1,hi=>xy h.2.2.2 i (by simpa using hi)
theorem wJ: ∀{rs:List (List Int)},(∀r,r<rs.length→0<(rs.getD r []).length∧mN (rs.getD r []))→qY rs→SSR rs
 | [],_,_=>trivial
 |r::rs,h1,h2=>by
  refine⟨(h1 0 (by simp)).1,(h1 0 (by simp)).2,?_,wJ (fun q hq=>h1 (q+1) (by simpa using hq)) (fun i hi=>h2 (i+1) (by simpa using hi))⟩
  cases rs with
  |nil=>trivial
  |cons s rs=>exact h2 0 (by simp)
theorem oS(rs:List (List Int)){i:Nat}(h:i<rs.length):(outer (([],rs):Tab)).getD i 0=(rs.getD i []).length:=by
 have:=iC [] rs 0 i h
 unfold outer
 rw[this]
 simp
theorem qW{rs:List (List Int)}(h:SSR rs)(hn: ∀x∈rs.flatten,1≤x∧x≤9)(h9:rs.flatten.length≤9):cy (([],rs):Tab)=true:=by
 have hr:=fun r hr=>xl h r hr
 have hc:=xy h
 have hrl: ∀r,r<rs.length→(rs.getD r []).length≤9:=fun r h1=>by
  have:=vz (rs:=rs) (r:=rs.getD r []) (by rw[aw h1];exact List.getElem_mem h1)
  omega
 refine sK rfl ?_ (fun r x h1 h2=>hn _ (mw h1 h2)) (fun r x h1 h2=>(hr r h1).2 x h2) (fun r x h1 h2=>(hc r h1).2 x h2)
 have hs:gp (outer (([],rs):Tab))=rs.flatten.length:=oR [] rs 0 fun q _=>by simp
 refine nq _ 9 0 (fun x hx=> ?_) (fun h0=> ?_) (fun i hi=> ?_) (by omega)
 ·obtain⟨i,hi,rfl⟩:=List.getElem_of_mem hx
  have hi':i<rs.length:=by rw[eu]at hi;exact hi
  rw[←aw hi 0,oS rs hi']
  have:=(hr i hi').1
  omega
 ·have h0':0<rs.length:=by rw[eu]at h0;exact h0
  rw[oS rs h0']
  have:=hrl 0 h0'
  omega
 ·have hi':i+1<rs.length:=by rw[eu]at hi;exact hi
  rw[oS rs hi',oS rs (by omega)]
  have:=(hc i hi').1
  omega
theorem AY: ∀(rs:List (List Int)) (x z:Int),z∈(bc rs x).1.flatten→z=x∨z∈rs.flatten
 | [],x,z,h=>by simp[bc]at h;exact .inl h
 |r::rs,x,z,h=>by
  rw[iJ]at h
  split at h
  ·next c=>
   simp only[List.flatten_cons,List.mem_append]at h⊢
   rcases h with h|h
   ·rcases List.mem_or_eq_of_mem_set h with h|h
    ·exact .inr (.inl h)
    ·exact .inl h
   ·rcases AY rs _ z h with h|h
    ·right;left
     rw[h,aw c]
     exact List.getElem_mem c
    ·exact .inr (.inr h)
  ·simp only[List.flatten_cons,List.mem_append,List.mem_singleton]at h⊢
   rcases h with(h|h)|h
   ·exact .inr (.inl h)
   ·exact .inl h
   ·exact .inr (.inr h)
theorem zC: ∀(rs:List (List Int)) (x:Int),(bc rs x).1.flatten.length=rs.flatten.length+1
 | [],x=>by simp[bc]
 |r::rs,x=>by
  rw[iJ]
  split
  ·have:=zC rs (r.getD (fst r x) 0)
   simp only[List.flatten_cons,List.length_append,List.length_set]
   omega
  ·simp only[List.flatten_cons,List.length_append,List.length_singleton]
   omega
theorem tK: ∀(rs:List (List Int)) (x:Int),(bc rs x).2≤rs.length∧((bc rs x).1.length=if(bc rs x).2=rs.length then rs.length+1 else rs.length)∧ ∀i,((bc rs x).1.getD i []).length=if i=(bc rs x).2 then(rs.getD i []).length+1 else(rs.getD i []).length
 | [],x=>by
  refine⟨Nat.le_refl _,rfl,fun i=> ?_⟩
  cases i with
  |zero=>rfl
  |succ i=>simp[bc]
 |r::rs,x=>by
  rw[iJ]
  split
  ·next c=>
   obtain⟨a,b,d⟩:=tK rs (r.getD (fst r x) 0)
   refine⟨by simp only[List.length_cons];omega,?_,fun i=> ?_⟩
   ·simp only[List.length_cons,b,Nat.add_right_cancel_iff]
    split<;>rfl
   ·cases i with
    |zero=>simp
    |succ i=>
     have:=d i
     simp only[Nat.add_right_cancel_iff]
     exact this
  ·refine⟨Nat.zero_le _,by simp,fun i=> ?_⟩
   cases i with
   |zero=>simp
   |succ i=>simp
def jQ:List Int→List (List Int)→List (List Int)
 | [],P=>P
 |x::w,P=>jQ w (bc P x).1
theorem mW: ∀(v w:List Int) (P:List (List Int)),jQ (v++w) P=jQ w (jQ v P)
 | [],_,_=>rfl
 |x::v,w,P=>mW v w _
end Go.Am.Pu
end
section
/- The recording tableau is standard, and its descents are the word's. Plain words. -/
namespace Go.Am.Pu
def gu(Q:List (List Int))(a:Nat)(v:Int):List (List Int):=if a=Q.length then Q++ [[v]]else Q.set a (Q.getD a []++ [v])
theorem o5{Q:List (List Int)}{a:Nat}(v:Int)(ha:a≤Q.length)(i:Nat):(gu Q a v).getD i []=if i=a then Q.getD a []++ [v]else Q.getD i []:=by
 unfold gu
 by_cases e:a=Q.length
 ·rw[if_pos e]
  by_cases h:i<Q.length
  ·rw[if_neg (by omega)]
   simp only[List.getD_eq_getElem?_getD,List.getElem?_append_left h]
  ·by_cases e2:i=a
   ·rw[if_pos e2,e2,e,cE (xs:=Q) (Nat.le_refl _)]
    simp
   ·rw[if_neg e2,cE (xs:=Q) (by omega),cE (by rw[List.length_append,List.length_singleton];omega)]
 ·rw[if_neg e]
  by_cases e2:i=a
  ·subst e2;rw[if_pos rfl,aw (by rw[List.length_set];omega),List.getElem_set_self]
  ·rw[if_neg e2,getD_set_ne (Ne.symm e2)]
theorem ly{Q:List (List Int)}{a:Nat}(v:Int):(gu Q a v).length=if a=Q.length then Q.length+1 else Q.length:=by
 unfold gu
 split
 ·rw[List.length_append,List.length_singleton]
 ·rw[List.length_set]
theorem zM{Q:List (List Int)}{a:Nat}(v:Int)(ha:a≤Q.length):(gu Q a v).flatten.length=Q.flatten.length+1:=by
 unfold gu
 split
 ·simp
 ·next e=>
  have: ∀(Q:List (List Int)) (a:Nat),a<Q.length→(Q.set a (Q.getD a []++ [v])).flatten.length=Q.flatten.length+1:=by
   intro Q
   induction Q with
   |nil=>intro a h;simp at h
   |cons r rs ih=>
    intro a h
    cases a with
    |zero=>simp;omega
    |succ a=>
     have:=ih a (by simpa using h)
     simp only[List.set_cons_succ,List.getD_cons_succ,List.flatten_cons,List.length_append,this]
     omega
  exact this Q a (by omega)
theorem Ei{Q P:List (List Int)}{a k:Nat}(hp:cy (([],Q):Tab)=true)(hs:iY (([],Q):Tab)=true)(hk:Q.flatten.length=k)(h9:k+1≤9)(hP:SSR P)(ha:a≤Q.length)(hPl:P.length=if a=Q.length then Q.length+1 else Q.length)
  (hl: ∀i,(P.getD i []).length=if i=a then(Q.getD i []).length+1 else(Q.getD i []).length):
  cy (([],gu Q a ((k+1:Nat):Int)):Tab)=true∧iY (([],gu Q a ((k+1:Nat):Int)):Tab)=true∧(gu Q a ((k+1:Nat):Int)).flatten.length=k+1∧ez P (gu Q a ((k+1:Nat):Int))∧
   rowOf ([],gu Q a ((k+1:Nat):Int)) ((k+1:Nat):Int)=a∧ ∀v,1≤v→v≤(k:Int)→rowOf ([],gu Q a ((k+1:Nat):Int)) v=rowOf ([],Q) v:=by
 have hget:=o5 ((k+1:Nat):Int) ha
 have hlen:= @ly Q a ((k+1:Nat):Int)
 have hfl:=zM ((k+1:Nat):Int) ha
 generalize hN:gu Q a ((k+1:Nat):Int)=N at*
 have hNl: ∀i,(N.getD i []).length=if i=a then(Q.getD i []).length+1 else(Q.getD i []).length:=fun i=>by
  rw[hget]
  split
  ·next e=>rw[e,List.length_append,List.length_singleton]
  ·rfl
 have hsame:ez P N:=⟨by rw[hPl,hlen],fun i=>by rw[hl,hNl]⟩
 have hcel: ∀r x,cel N r x=if r=a∧x=(Q.getD a []).length then((k+1:Nat):Int)else cel Q r x:=fun r x=>by
  unfold cel
  rw[hget]
  by_cases e:r=a
  ·subst e
   rw[if_pos rfl,fc]
   by_cases e2:x=(Q.getD r []).length
   ·rw[if_pos e2,if_pos ⟨rfl,e2⟩]
   ·rw[if_neg e2,if_neg (fun h=>e2 h.2)]
  ·rw[if_neg e,if_neg (fun h=>e h.1)]
 have hb:=(nv hp hs).2
 simp only at hb
 rw[hk]at hb
 have hQ: ∀{r x:Nat},x<(Q.getD r []).length→1≤cel Q r x∧cel Q r x≤(k:Int):=fun{r x} hx=>by
  have hr:r<Q.length:=Nat.lt_of_not_le fun hle=>by rw[cE hle]at hx;simp at hx
  exact hb _ (mw hr hx)
 obtain⟨q1,q2⟩:=nW hp
 have q3:=pQ hp
 simp only at q2 q3
 have pc:=xy hP
 have pr:=fun r hr=>xl hP r hr
 have hqlen: ∀i,(Q.getD (i+1) []).length≤(Q.getD i []).length:=fun i=>by
  by_cases h:i+1<Q.length
  ·exact(q3 i h).1
  ·rw[cE (by omega)];exact Nat.zero_le _
 have hssr:SSR N:=by
  refine wJ (fun r hr=>⟨?_,fun x hx=> ?_⟩) (fun i hi=> ?_)
  ·rw[←hsame.2];exact(pr r (by rw[hsame.1];exact hr)).1
  ·have e1:=hcel r x
   have e2:=hcel r (x+1)
   unfold cel at e1 e2
   rw[e1,e2]
   rw[hNl]at hx
   have hxQ:x<(Q.getD r []).length:=by
    split at hx<;>omega
   rw[if_neg (fun h=>by rw[h.1]at hxQ;omega)]
   have hv:=hQ hxQ
   unfold cel at hv
   by_cases e:r=a∧x+1=(Q.getD a []).length
   ·rw[if_pos e];omega
   ·rw[if_neg e]
    have hx1:x+1<(Q.getD r []).length:=by
     split at hx
     ·next e3=>
      have: ¬x+1=(Q.getD a []).length:=fun h=>e ⟨e3,h⟩
      rw[←e3]at this
      omega
     ·exact hx
    have hr:r<Q.length:=Nat.lt_of_not_le fun hle=>by rw[cE hle]at hx1;simp at hx1
    exact q2 r x hr hx1
  ·obtain⟨c1,c2⟩:=pc i (by rw[hsame.1];exact hi)
   rw[hsame.2,hsame.2]at c1
   refine⟨c1,fun x hx=> ?_⟩
   have e1:=hcel i x
   have e2:=hcel (i+1) x
   unfold cel at e1 e2
   rw[e1,e2]
   rw[hNl]at hx
   have hxi:x<(N.getD i []).length:=by
    have:=hNl (i+1)
    omega
   rw[hNl]at hxi
   by_cases e:i+1=a∧x=(Q.getD a []).length
   ·rw[if_pos e,if_neg (fun h=>by omega)]
    have hxQ:x<(Q.getD i []).length:=by rw[if_neg (by omega)]at hxi;exact hxi
    have hv:=hQ hxQ
    unfold cel at hv
    omega
   ·rw[if_neg e]
    have hx1:x<(Q.getD (i+1) []).length:=by
     split at hx
     ·next e3=>
      have: ¬x=(Q.getD a []).length:=fun h=>e ⟨e3,h⟩
      rw[←e3]at this
      omega
     ·exact hx
    have hxQ:x<(Q.getD i []).length:=Nat.lt_of_lt_of_le hx1 (hqlen i)
    rw[if_neg (fun h=>by rw[h.1]at hxQ;omega)]
    have hr:i+1<Q.length:=Nat.lt_of_not_le fun hle=>by rw[cE hle]at hx1;simp at hx1
    exact(q3 i hr).2 x hx1
 have hflk:N.flatten.length=k+1:=by omega
 have hmem: ∀z∈N.flatten,1≤z∧z≤9:=fun z hz=>by
  obtain⟨r,x,hr,hx,e⟩:=qQ hz
  rw[←e,hcel]
  split
  ·omega
  ·next hc=>
   rw[hNl]at hx
   have hxQ:x<(Q.getD r []).length:=by
    split at hx
    ·next e3=>
     have: ¬x=(Q.getD a []).length:=fun h=>hc ⟨e3,h⟩
     rw[←e3]at this
     omega
    ·exact hx
   have:=hQ hxQ
   omega
 have hpl:=qW hssr hmem (by omega)
 have haN:a<N.length:=by
  rw[hlen]
  split<;>omega
 have hxN:(Q.getD a []).length<(N.getD a []).length:=by rw[hNl,if_pos rfl];omega
 have hnew:cel N a (Q.getD a []).length=((k+1:Nat):Int):=by rw[hcel,if_pos ⟨rfl,rfl⟩]
 have hold: ∀{r x:Nat},x<(Q.getD r []).length→r<N.length∧x<(N.getD r []).length∧cel N r x=cel Q r x:=fun{r x} hx=>by
  have hx':x<(N.getD r []).length:=by
   rw[hNl]
   split<;>omega
  refine⟨Nat.lt_of_not_le fun hle=>by rw[cE hle]at hx';simp at hx',hx',?_⟩
  rw[hcel,if_neg (fun h=>by rw[h.1]at hx;omega)]
 have ho:mz Q.flatten=true:=by
  have:=hs
  simp only[iY,Bool.and_eq_true]at this
  exact this.2
 have hst:iY (([],N):Tab)=true:=by
  have hp':=hpl
  simp only[cy,Bool.and_eq_true]at hp'
  simp only[iY,Bool.and_eq_true]
  refine⟨hp'.1,lJ.2 fun v hv=> ?_⟩
  rw[hflk,jb]at hv
  by_cases e:v=((k+1:Nat):Int)
  ·rw[e,←hnew];exact mw haN hxN
  ·obtain⟨r,x,hr,hx,e2⟩:=qQ (lJ.1 ho v (jb.2 (by omega)))
   obtain⟨d1,d2,d3⟩:=hold hx
   rw[←e2,←d3]
   exact mw d1 d2
 refine⟨hpl,hst,hflk,hsame,j3 hpl hst haN hxN hnew,fun v v1 v2=> ?_⟩
 obtain⟨r,x,hr,hx,e2⟩:=qQ (lJ.1 ho v (jb.2 (by omega)))
 obtain⟨d1,d2,d3⟩:=hold hx
 rw[j3 hpl hst d1 d2 (by rw[d3];exact e2),j3 hp hs hr hx e2]
def lW:List Int→List (List Int)→List (List Int)→Nat→List (List Int)
 | [],_,Q,_=>Q
 |x::w,P,Q,k=>lW w (bc P x).1 (gu Q (bc P x).2 ((k+1:Nat):Int)) (k+1)
def Bu:List Int→List (List Int)→List Nat
 | [],_=> []
 |x::w,P=>(bc P x).2::Bu w (bc P x).1
structure Ins (P Q : List (List Int)) (k : Nat) : Prop where
  ssr : SSR P
  num : ∀ x ∈ P.flatten, 1 ≤ x ∧ x ≤ 9
  fl : P.flatten.length = k
  pl : cy (([], Q) : Tab) = true
  st : iY (([], Q) : Tab) = true
  qf : Q.flatten.length = k
  same : ez P Q
theorem Ins.step{P Q:List (List Int)}{k:Nat}{x:Int}(h:Ins P Q k)(hx:1≤x∧x≤9)(h9:k+1≤9):
  Ins (bc P x).1 (gu Q (bc P x).2 ((k+1:Nat):Int)) (k+1)∧rowOf ([],gu Q (bc P x).2 ((k+1:Nat):Int)) ((k+1:Nat):Int)=((bc P x).2:Nat)∧ ∀v,1≤v→v≤(k:Int)→rowOf ([],gu Q (bc P x).2 ((k+1:Nat):Int)) v=rowOf ([],Q) v:=by
 obtain⟨a,b,c⟩:=tK P x
 have hs:=BC P x h.ssr
 obtain⟨d1,d2,d3,d4,d5,d6⟩:=Ei (a:=(bc P x).2) h.pl h.st h.qf h9 hs (by rw[←h.same.1];exact a) (by rw[←h.same.1];exact b) (fun i=>by rw[←h.same.2];exact c i)
 refine⟨⟨hs,fun z hz=> ?_,by rw[zC,h.fl],d1,d2,d3,d4⟩,d5,d6⟩
 rcases AY P x z hz with e|e
 ·rw[e];exact hx
 ·exact h.num z e
theorem Ins.nil:Ins [] [] 0:=⟨trivial,fun x hx=>by simp at hx,rfl,rfl,rfl,rfl,⟨rfl,fun _=>rfl⟩⟩
theorem Ins.word: ∀(w:List Int) {P Q:List (List Int)} {k:Nat},Ins P Q k→(∀x∈w,1≤x∧x≤9)→k+w.length≤9→
  Ins (jQ w P) (lW w P Q k) (k+w.length)∧(∀v,1≤v→v≤(k:Int)→rowOf ([],lW w P Q k) v=rowOf ([],Q) v)∧ ∀i,i<w.length→rowOf ([],lW w P Q k) ((k+i+1:Nat):Int)=((Bu w P).getD i 0:Nat)
 | [],P,Q,k,h,_,_=>⟨h,fun _ _ _=>rfl,fun i hi=>by simp at hi⟩
 |x::w,P,Q,k,h,hx,hl=>by
  simp only[List.length_cons]at hl
  obtain⟨a,b,c⟩:=h.step (hx x (List.mem_cons_self ..)) (by omega)
  obtain⟨d,e,f⟩:=Ins.word w a (fun z hz=>hx z (List.mem_cons_of_mem _ hz)) (by omega)
  refine⟨by rw[List.length_cons,show k+(w.length+1)=k+1+w.length by omega];exact d,fun v v1 v2=> ?_,fun i hi=> ?_⟩
  ·show rowOf ([],lW w _ _ (k+1)) v=_
   rw[e v v1 (by omega)]
   exact c v v1 v2
  ·show rowOf ([],lW w _ _ (k+1)) _=_
   cases i with
   |zero=>
    have:=e ((k+1:Nat):Int) (by omega) (Int.le_refl _)
    rw[Nat.add_zero,this,b]
    rfl
   |succ i=>
    have:=f i (by simpa using hi)
    rw[show k+1+i+1=k+(i+1)+1 by omega]at this
    exact this
end Go.Am.Pu
end
section
/- Words, and what inserting makes of them. Plain words. -/
namespace Go.Am.Pu
def isWord(w:List Int):Bool:=decide (w.length≤9)&&w.all fun n=>within n 1 9
theorem bQ{w:List Int}(h:isWord w=true):w.length≤9∧ ∀x∈w,1≤x∧x≤9:=by
 simp only[isWord,Bool.and_eq_true,decide_eq_true_eq,List.all_eq_true,within]at h
 exact⟨h.1,fun x hx=>h.2 x hx⟩
def a7(w:List Int):Tab×Bool:=if isWord w=true then(([],jQ w []),true)else(([],[]),false)
def cV(w:List Int):Tab×Bool:=if isWord w=true then(([],lW w [] [] 0),true)else(([],[]),false)
theorem uD{w:List Int}(h:isWord w=true):Ins (jQ w []) (lW w [] [] 0) w.length∧ ∀i,i<w.length→rowOf ([],lW w [] [] 0) ((i+1:Nat):Int)=((Bu w []).getD i 0:Nat):=by
 obtain⟨h1,h2⟩:=bQ h
 obtain⟨a,_,c⟩:=Ins.word w Ins.nil h2 (by omega)
 rw[Nat.zero_add]at a
 refine⟨a,fun i hi=> ?_⟩
 have:=c i hi
 rw[Nat.zero_add]at this
 exact this
theorem se{P Q:List (List Int)}{k:Nat}(h:Ins P Q k)(h9:k≤9):cy (([],P):Tab)=true:=qW h.ssr h.num (by rw[h.fl];exact h9)
theorem iG{w:List Int}(h:isWord w=true):cy (a7 w).1=true:=by
 unfold a7
 rw[if_pos h]
 exact se (uD h).1 (bQ h).1
theorem oN{w:List Int}(h:isWord w=true):cy (cV w).1=true∧iY (cV w).1=true∧(cV w).1.2.flatten.length=w.length:=by
 unfold cV
 rw[if_pos h]
 have a:=(uD h).1
 exact⟨a.pl,a.st,a.qf⟩
theorem Bm{t:Tab}(h:cy t=true):sO t:=by
 have hr:=ju h
 exact⟨by rw[jA h];simp,by have:=hr.1;omega,fun r hm=>by have:=hr.2 r hm;omega⟩
theorem kF{w:List Int}:sO (a7 w).1:=by
 cases h:isWord w with
 |true=>exact Bm (iG h)
 |false=>unfold a7;rw[h];exact sO.nil
theorem pM{w:List Int}:sO (cV w).1:=by
 cases h:isWord w with
 |true=>exact Bm (oN h).1
 |false=>unfold cV;rw[h];exact sO.nil
def eU(w:List Int):List Int:=if isWord w=true then outer (a7 w).1 else []
theorem jk{w:List Int}:(eU w).length≤9:=by
 unfold eU
 split
 ·next h=>rw[eu];exact(ju (iG h)).1
 ·simp
end Go.Am.Pu
end
section
/- Standardizing a tableau: the cells numbered by number and column. Plain words. -/
namespace Go.Am.Pu
def iW(Q:List (List Int))(v:Int)(c r:Nat)(s:Nat×List (List Int)):Nat×List (List Int):=
 if c<(Q.getD r []).length∧cel Q r c=v then(s.1+1,kZ s.2 r c ((s.1+1:Nat):Int))else s
structure Num (Q : List (List Int)) (D : Nat → Nat → Prop) (s : Nat × List (List Int)) (F : List Int) : Prop where
  same : ez s.2 Q
  len : F.length = s.1
  val : ∀ r x, r < Q.length → x < (Q.getD r []).length → D r x → ∃ k, k < s.1 ∧ cel s.2 r x = ((k + 1 : Nat) : Int) ∧ F.getD k 0 = cel Q r x
  inj : ∀ r x r' x', r < Q.length → x < (Q.getD r []).length → D r x → r' < Q.length → x' < (Q.getD r' []).length → D r' x' → cel s.2 r x = cel s.2 r' x' → r = r' ∧ x = x'
  all : ∀ k, k < s.1 → ∃ r x, r < Q.length ∧ x < (Q.getD r []).length ∧ D r x ∧ cel s.2 r x = ((k + 1 : Nat) : Int)
  lex : ∀ r x r' x', r < Q.length → x < (Q.getD r []).length → D r x → r' < Q.length → x' < (Q.getD r' []).length → D r' x' → cel s.2 r x < cel s.2 r' x' → cel Q r x < cel Q r' x' ∨ (cel Q r x = cel Q r' x' ∧ x ≤ x')
theorem Num.congr{Q:List (List Int)}{D D':Nat→Nat→Prop}{s:Nat×List (List Int)}{F:List Int}(h:Num Q D s F)(e: ∀r x,r<Q.length→x<(Q.getD r []).length→(D r x↔D' r x)):Num Q D' s F:=
 ⟨h.same,h.len,fun r x a b d=>h.val r x a b ((e r x a b).2 d),fun r x r' x' a b d a' b' d'=>h.inj r x r' x' a b ((e r x a b).2 d) a' b' ((e r' x' a' b').2 d'),
  fun k hk=>by obtain⟨r,x,a,b,d,q⟩:=h.all k hk;exact⟨r,x,a,b,(e r x a b).1 d,q⟩,fun r x r' x' a b d a' b' d'=>h.lex r x r' x' a b ((e r x a b).2 d) a' b' ((e r' x' a' b').2 d')⟩
def Dn(Q:List (List Int))(v:Int)(c r:Nat)(a i:Nat):Prop:=cel Q a i<v∨(cel Q a i=v∧(i<c∨(i=c∧a<r)))
theorem Num.step{Q:List (List Int)}{v:Int}{c r:Nat}{s:Nat×List (List Int)}{F:List Int}(h:Num Q (Dn Q v c r) s F)(hr:r<Q.length): ∃F',Num Q (Dn Q v c (r+1)) (iW Q v c r s) F':=by
 unfold iW
 split
 ·next hc=>
  obtain⟨hc,hv⟩:=hc
  have hnd: ¬Dn Q v c r r c:=by unfold Dn;omega
  have hsr:r<s.2.length:=by rw[h.same.1];exact hr
  have hsc:c<(s.2.getD r []).length:=by rw[h.same.2];exact hc
  have new: ∀a i,Dn Q v c (r+1) a i→(a=r∧i=c)∨(¬(a=r∧i=c)∧Dn Q v c r a i):=fun a i d=>by
   by_cases e:a=r∧i=c
   ·exact .inl e
   ·refine .inr ⟨e,?_⟩
    unfold Dn at d⊢
    omega
  have at1:=kv (g:=s.2) (r:=r) (c:=c) ((s.1+1:Nat):Int) hsr hsc
  have ne1: ∀a i,¬(a=r∧i=c)→cel (kZ s.2 r c ((s.1+1:Nat):Int)) a i=cel s.2 a i:=fun a i e=>jf _ e
  refine⟨F++ [v],⟨⟨by rw[iU];exact h.same.1,fun i=>by rw[cu];exact h.same.2 i⟩,by rw[List.length_append,List.length_singleton,h.len],?_,?_,?_,?_⟩⟩
  ·intro a i ha hi d
   rcases new a i d with⟨rfl,rfl⟩|⟨e,d'⟩
   ·refine⟨s.1,by simp only;omega,at1,?_⟩
    rw[hv,←h.len,List.getD_eq_getElem?_getD]
    simp
   ·obtain⟨k,k1,k2,k3⟩:=h.val a i ha hi d'
    refine⟨k,by simp only;omega,by rw[ne1 a i e];exact k2,?_⟩
    rw[←k3,List.getD_eq_getElem?_getD,List.getD_eq_getElem?_getD,List.getElem?_append_left (by rw[h.len];exact k1)]
  ·intro a i b j ha hi d hb hj d' e
   rcases new a i d with⟨rfl,rfl⟩|⟨ea,da⟩
   ·rcases new b j d' with⟨rfl,rfl⟩|⟨eb,db⟩
    ·exact⟨rfl,rfl⟩
    ·obtain⟨k,k1,k2,_⟩:=h.val b j hb hj db
     simp only at e
     rw[at1,ne1 b j eb,k2]at e
     omega
   ·rcases new b j d' with⟨rfl,rfl⟩|⟨eb,db⟩
    ·obtain⟨k,k1,k2,_⟩:=h.val a i ha hi da
     simp only at e
     rw[at1,ne1 a i ea,k2]at e
     omega
    ·simp only at e
     rw[ne1 a i ea,ne1 b j eb]at e
     exact h.inj a i b j ha hi da hb hj db e
  ·intro k hk
   simp only at hk
   by_cases ek:k=s.1
   ·subst ek
    exact⟨r,c,hr,hc,by unfold Dn;omega,at1⟩
   ·obtain⟨a,i,ha,hi,d,e⟩:=h.all k (by omega)
    have hne: ¬(a=r∧i=c):=fun q=>by rw[q.1,q.2]at d;exact hnd d
    exact⟨a,i,ha,hi,by unfold Dn at d⊢;omega,by simp only;rw[ne1 a i hne];exact e⟩
  ·intro a i b j ha hi d hb hj d' e
   simp only at e
   rcases new a i d with⟨rfl,rfl⟩|⟨ea,da⟩
   ·rcases new b j d' with⟨rfl,rfl⟩|⟨eb,db⟩
    ·omega
    ·obtain⟨k,k1,k2,_⟩:=h.val b j hb hj db
     rw[at1,ne1 b j eb,k2]at e
     omega
   ·rcases new b j d' with⟨rfl,rfl⟩|⟨eb,db⟩
    ·unfold Dn at da
     omega
    ·rw[ne1 a i ea,ne1 b j eb]at e
     exact h.lex a i b j ha hi da hb hj db e
 ·next hc=>
  refine⟨F,h.congr fun a i ha hi=> ?_⟩
  unfold Dn
  constructor
  ·intro d;omega
  ·intro d
   by_cases e:a=r∧i=c
   ·obtain⟨rfl,rfl⟩:=e
    have:cel Q a i≠v:=fun q=>hc ⟨hi,q⟩
    omega
   ·omega
structure wO (Q X : List (List Int)) (f : Int → Int) : Prop where
  same : ez X Q
  val : ∀ r x, r < X.length → x < (X.getD r []).length → cel Q r x = f (cel X r x)
  lex : ∀ r x r' x', r < X.length → x < (X.getD r []).length → r' < X.length → x' < (X.getD r' []).length → cel X r x < cel X r' x' → cel Q r x < cel Q r' x' ∨ (cel Q r x = cel Q r' x' ∧ x < x')
end Go.Am.Pu
end
section
/- A pair of tableaux unrolled, the second one semistandard; sorting; the matrix of a pair. Plain words. -/
namespace Go.Am.Pu
def zH(R:Int→Prop)(rs:List (List Int)):Prop:= ∀r∈rs,∀v∈r,R v
theorem zH.at{R:Int→Prop}{rs:List (List Int)}(h:zH R rs){r x:Nat}(hr:r<rs.length)(hx:x<(rs.getD r []).length):R ((rs.getD r []).getD x 0):=by
 rw[aw hx]
 exact h (rs.getD r []) (by rw[aw hr];exact List.getElem_mem hr) _ (List.getElem_mem hx)
theorem zH.set{R:Int→Prop}{rs:List (List Int)}(h:zH R rs)(i:Nat){r:List Int}(hr: ∀v∈r,R v):zH R (rs.set i r):=fun y hy=>by
 rcases List.mem_or_eq_of_mem_set hy with h'|rfl
 ·exact h y h'
 ·exact hr
theorem zH.row{R:Int→Prop}{rs:List (List Int)}(h:zH R rs)(i:Nat): ∀v∈rs.getD i [],R v:=by
 by_cases hi:i<rs.length
 ·exact h _ (by rw[aw hi];exact List.getElem_mem hi)
 ·rw[cE (by omega)];simp
theorem Unr.top{q:Tab}{m:Nat}{P X:List (List Int)}(h:Unr q (m+1) P X){a:Nat}(ha:a<X.length)(htop:cel X a ((X.getD a []).length-1)=((m+1:Nat):Int)):
  (∀r,r<X.length→1≤(X.getD r []).length)∧(∀r,r<X.length→r≠a→cel X r ((X.getD r []).length-1)<((m+1:Nat):Int)):=by
 have hp:=fun r hr=>A8 h.pl (r:=r) hr
 refine⟨hp,fun r hr hne=> ?_⟩
 have h1:=hp r hr
 have h2:=hp a ha
 simp only at h1 h2
 have hb:=((nv h.pl h.st).2 _ (mw (rs:=X) hr (show(X.getD r []).length-1<(X.getD r []).length by omega))).2
 have hf:=h.fl
 simp only at hb
 rw[hf]at hb
 have hx:cel X r ((X.getD r []).length-1)≠((m+1:Nat):Int):=fun e=>hne (uu h.pl h.st (a:=r) (b:=a) (x:=(X.getD r []).length-1) (y:=(X.getD a []).length-1) hr (show _<(X.getD r []).length by omega) ha (show _<(X.getD a []).length by omega) (by rw[htop];exact e)).1
 omega
theorem Cg{n m:Nat}{A B:List (List Int)}(h:fH n m A)(s:ez A B):fH n m B:=by
 refine⟨by rw[←s.1];exact h.1,fun x hx=> ?_⟩
 obtain⟨i,hi,rfl⟩:=List.getElem_of_mem hx
 have:=h.at i
 rw[s.2 i,aw hi]at this
 exact this
theorem wO.cut{Q X:List (List Int)}{f:Int→Int}(s:wO Q X f){a:Nat}(ha:a<X.length)(hc:(X.getD (a+1) []).length<(X.getD a []).length)(hp: ∀r,r<X.length→1≤(X.getD r []).length):wO (cY Q a) (cY X a) f:=by
 have hq: ∀r,r<Q.length→1≤(Q.getD r []).length:=fun r hr=>by rw[←s.same.2];exact hp r (by rw[s.same.1];exact hr)
 have rX:=qb ha hc hp
 have rQ:=qb (rs:=Q) (a:=a) (by rw[←s.same.1];exact ha) (by rw[←s.same.2,←s.same.2];exact hc) hq
 have old: ∀{r x},r<(cY X a).length→x<((cY X a).getD r []).length→r<X.length∧x<(X.getD r []).length∧cel (cY X a) r x=cel X r x∧cel (cY Q a) r x=cel Q r x:=fun{r x} hr hx=>by
  have hl:=tW (rs:=X) ha
  have hr':r<X.length:=by rw[hl]at hr;split at hr<;>omega
  have e1:=rX r
  have e2:=rQ r
  unfold cel
  by_cases e:r=a
  ·rw[if_pos e]at e1 e2
   rw[e1]at hx
   rw[List.length_take]at hx
   subst e
   refine⟨hr',by omega,by rw[e1,getD_take (by omega)],?_⟩
   rw[e2,getD_take (by have:=s.same.2 r;omega)]
  ·rw[if_neg e]at e1 e2
   rw[e1]at hx
   exact⟨hr',hx,by rw[e1],by rw[e2]⟩
 refine⟨zc s.same a,fun r x hr hx=> ?_,fun r x r' x' hr hx hr' hx' hlt=> ?_⟩
 ·obtain⟨o1,o2,o3,o4⟩:=old hr hx
  rw[o3,o4]
  exact s.val r x o1 o2
 ·obtain⟨o1,o2,o3,o4⟩:=old hr hx
  obtain⟨p1,p2,p3,p4⟩:=old hr' hx'
  rw[o3,p3]at hlt
  rw[o4,p4]
  exact s.lex r x r' x' o1 o2 p1 p2 hlt
theorem wO.step{q:Tab}{m:Nat}{P X Q:List (List Int)}{f:Int→Int}(s:wO Q X f)(h:Unr q (m+1) P X):
  ∃a:Nat,rowOf q ((m+1:Nat):Int)=a∧a<Q.length∧1≤(Q.getD a []).length∧(Q.getD a []).getD ((Q.getD a []).length-1) 0=f ((m+1:Nat):Int)∧(∀r,r<Q.length→1≤(Q.getD r []).length)∧
   (∀r,r<Q.length→r≠a→(Q.getD r []).getD ((Q.getD r []).length-1) 0<f ((m+1:Nat):Int)∨((Q.getD r []).getD ((Q.getD r []).length-1) 0=f ((m+1:Nat):Int)∧(Q.getD r []).length<(Q.getD a []).length))∧
   fH 9 9 Q∧a<P.length∧1≤(P.getD a []).length∧Unr q m (mr P a).1 (cY X a)∧wO (cY Q a) (cY X a) f:=by
 obtain⟨a,a1,a2,a3,a4,a5,a6⟩:=h.step
 obtain⟨t1,t2⟩:=h.top a2 a4
 have v0:=s.val a ((X.getD a []).length-1) a2 (by omega)
 rw[a4]at v0
 unfold cel at v0
 rw[s.same.2]at v0
 refine⟨a,a1,by rw[←s.same.1];exact a2,by rw[←s.same.2];exact a3,v0,fun r hr=>by rw[←s.same.2];exact t1 r (by rw[s.same.1];exact hr),fun r hr hne=> ?_,Cg (ju h.pl) s.same,
  by rw[h.same.1];exact a2,by rw[h.same.2];exact a3,a6,s.cut a2 a5 t1⟩
 have hr':r<X.length:=by rw[s.same.1];exact hr
 have u1:=t1 r hr'
 have hl:=s.lex r ((X.getD r []).length-1) a ((X.getD a []).length-1) hr' (by omega) a2 (by omega) (by rw[a4];exact t2 r hr' hne)
 have v:=s.val a ((X.getD a []).length-1) a2 (by omega)
 rw[v,a4]at hl
 unfold cel at hl
 rw[s.same.2 r,s.same.2 a]at hl
 have e1:=s.same.2 r
 rcases hl with hl|hl
 ·exact .inl hl
 ·exact .inr ⟨hl.1,by omega⟩
structure FY (r c : Nat) (b : Int) (M : List (List Int)) : Prop where
  len : M.length = r
  row : ∀ i, i < r → (M.getD i []).length = c
  sm : ∀ x ∈ M, ∀ v ∈ x, 0 ≤ v ∧ v ≤ b
theorem DN{a b:List Int}{i:Nat}(ha:i<a.length)(hb:i<b.length):(a.zip b).drop i=(a.getD i 0,b.getD i 0)::(a.zip b).drop (i+1):=by
 have hl:i<(a.zip b).length:=by rw[List.length_zip];omega
 rw[drop_cons hl (0,0),aw hl,List.getElem_zip,aw ha,aw hb]
end Go.Am.Pu
end
section
/- Standardizing any tableau: its cells in the order of number and column. Plain words. -/
namespace Go.Am.Pu
def Dq(t:Tab)(r:Nat):List (Int×Int×Int):=(List.range (t.2.getD r []).length).map fun x=>(cel t.2 r x,t.1.getD r 0+x,(r:Int))
def cellsOf(t:Tab):List (Int×Int×Int):=((List.range t.2.length).map (Dq t)).flatten
def KLt(a b:Int×Int×Int):Prop:=a.1<b.1∨(a.1=b.1∧a.2.1<b.2.1)
end Go.Am.Pu
end
section
/- Sorting cells by insertion, as the library does. Plain words. -/
namespace Go.Am.Pu
instance(a b:Int×Int×Int):Decidable (KLt a b):=by unfold KLt;infer_instance
end Go.Am.Pu
end
section
/- All standard tableaux of given rows, found by taking out the greatest number. Plain words. -/
namespace Go.Am.Pu
def hM(ls:List Nat)(a:Nat):List Nat:=if ls.getD a 0=1 then ls.take a else ls.set a (ls.getD a 0-1)
theorem CY{α:Type}{d:α}{A B:List α}(hl:A.length=B.length)(h: ∀i,i<A.length→A.getD i d=B.getD i d):A=B:=by
 refine List.ext_getElem hl fun i h1 h2=> ?_
 have:=h i h1
 rw[aw h1,aw h2]at this
 exact this
end Go.Am.Pu
end
section
/- Promotion of a rectangle comes back after as many steps as there are cells (reckoned over all of them). Plain words. -/
namespace Go.Am.Pu
end Go.Am.Pu
end
section
/- The length of an orbit divides every number of steps that come back. Plain words. -/
namespace Go.Am.Pu
end Go.Am.Pu
end
section
/- Knuth's relations: insertion does not tell related words apart, and a row and a number are related to what an insertion makes of them. Plain words. -/
namespace Go.Am.Pu
abbrev Up(r:List Int):Prop:=r.Pairwise (· ≤ ·)
def eO:List Int→Int→List Int×List Int
 | [],x=>([x],[])
 |a::r,x=>if x<a then(x::r,[a])else(a::(eO r x).1,(eO r x).2)
theorem e9{a x:Int}{r:List Int}(h:x<a):eO (a::r) x=(x::r,[a]):=by unfold eO;rw[if_pos h]
theorem eA{a x:Int}{r:List Int}(h:a≤x):eO (a::r) x=(a::(eO r x).1,(eO r x).2):=by
 conv=>lhs;unfold eO
 rw[if_neg (by omega)]
theorem ve: ∀(r:List Int) (x z:Int),z∈(eO r x).1→z=x∨z∈r
 | [],x,z,h=>by simp only[eO,List.mem_singleton]at h;exact .inl h
 |a::r,x,z,h=>by
  by_cases c:x<a
  ·rw[e9 c]at h
   rcases List.mem_cons.1 h with h|h
   ·exact .inl h
   ·exact .inr (List.mem_cons_of_mem _ h)
  ·rw[eA (by omega)]at h
   rcases List.mem_cons.1 h with h|h
   ·exact .inr (by rw[h];exact List.mem_cons_self ..)
   ·rcases ve r x z h with h|h
    ·exact .inl h
    ·exact .inr (List.mem_cons_of_mem _ h)
theorem xd: ∀{r:List Int} (x:Int),Up r→Up (eO r x).1
 | [],x,_=>List.pairwise_singleton ..
 |a::r,x,h=>by
  have h':=List.pairwise_cons.1 h
  by_cases c:x<a
  ·rw[e9 c]
   exact List.pairwise_cons.2 ⟨fun z hz=>by have:=h'.1 z hz;omega,h'.2⟩
  ·rw[eA (by omega)]
   refine List.pairwise_cons.2 ⟨fun z hz=> ?_,xd x h'.2⟩
   rcases ve r x z hz with e|e
   ·omega
   ·exact h'.1 z e
theorem kV: ∀(r:List Int) (x:Int),(eO r x).2= []∨ ∃b,(eO r x).2= [b]∧x<b∧b∈r
 | [],x=> .inl rfl
 |a::r,x=>by
  by_cases c:x<a
  ·rw[e9 c];exact .inr ⟨a,rfl,c,List.mem_cons_self ..⟩
  ·rw[eA (by omega)]
   rcases kV r x with h|⟨b,h1,h2,h3⟩
   ·exact .inl h
   ·exact .inr ⟨b,h1,h2,List.mem_cons_of_mem _ h3⟩
theorem Bt: ∀{r:List Int} {y z:Int},Up r→y≤z→((eO r y).2= []→(eO (eO r y).1 z).2= [])∧ ∀p q,(eO r y).2= [p]→(eO (eO r y).1 z).2= [q]→p≤q
 | [],y,z,_,hz=>by
  refine⟨fun _=> ?_,fun p q h=>by simp[eO]at h⟩
  show(eO [y] z).2= []
  rw[eA hz];rfl
 |a::r,y,z,h,hz=>by
  have h':=List.pairwise_cons.1 h
  by_cases c:y<a
  ·rw[e9 c]
   refine⟨fun e=>by simp at e,fun p q e1 e2=> ?_⟩
   rw[eA hz]at e2
   rcases kV r z with o|⟨b,o1,_,o3⟩
   ·simp only at e2;rw[o]at e2;simp at e2
   ·simp only at e2
    rw[o1]at e2
    simp only[List.cons.injEq,and_true]at e1 e2
    have:=h'.1 b o3
    omega
  ·rw[eA (show a≤y by omega)]
   show((eO r y).2= []→(eO (a::(eO r y).1) z).2= [])∧ ∀p q,(eO r y).2= [p]→(eO (a::(eO r y).1) z).2= [q]→p≤q
   rw[eA (show a≤z by omega)]
   exact Bt h'.2 hz
theorem Bw: ∀{r:List Int} {y z:Int},Up r→y<z→z∈r→ ∃c,(eO r y).2= [c]∧y<c∧c≤z
 | [],_,_,_,_,hm=>by simp at hm
 |a::r,y,z,h,hz,hm=>by
  have h':=List.pairwise_cons.1 h
  by_cases c:y<a
  ·rw[e9 c]
   refine⟨a,rfl,c,?_⟩
   rcases List.mem_cons.1 hm with e|e
   ·omega
   ·exact h'.1 z e
  ·rw[eA (by omega)]
   rcases List.mem_cons.1 hm with e|e
   ·omega
   ·exact Bw h'.2 hz e
theorem wH: ∀(r:List Int) (x:Int),x∈(eO r x).1
 | [],x=>List.mem_singleton.2 rfl
 |a::r,x=>by
  by_cases c:x<a
  ·rw[e9 c];exact List.mem_cons_self ..
  ·rw[eA (by omega)];exact List.mem_cons_of_mem _ (wH r x)
def Tri(u v:List Int):Prop:= ∃x y z:Int,(x<y∧y≤z∧u= [y,z,x]∧v= [y,x,z])∨(x≤y∧y<z∧u= [x,z,y]∧v= [z,x,y])
theorem Tri.a{x y z:Int}(h1:x<y)(h2:y≤z):Tri [y,z,x] [y,x,z]:=⟨x,y,z,.inl ⟨h1,h2,rfl,rfl⟩⟩
theorem Tri.b{x y z:Int}(h1:x≤y)(h2:y<z):Tri [x,z,y] [z,x,y]:=⟨x,y,z,.inr ⟨h1,h2,rfl,rfl⟩⟩
def iO:List Int→List Int→List Int×List Int
 |r,[]=>(r,[])
 |r,x::w=>((iO (eO r x).1 w).1,(eO r x).2++(iO (eO r x).1 w).2)
def AW(p q:List Int×List Int):Prop:=p.1=q.1∧(p.2=q.2∨Tri p.2 q.2)
theorem oC{a:Int}: ∀{w r:List Int},(∀x∈w,a≤x)→iO (a::r) w=(a::(iO r w).1,(iO r w).2)
 | [],_,_=>rfl
 |x::w,r,h=>by
  show((iO (eO (a::r) x).1 w).1,(eO (a::r) x).2++(iO (eO (a::r) x).1 w).2)=_
  rw[eA (h x (List.mem_cons_self ..))]
  simp only
  rw[oC fun y hy=>h y (List.mem_cons_of_mem _ hy)]
  rfl
theorem mn(r:List Int)(x y z:Int):iO r [x,y,z]=((eO (eO (eO r x).1 y).1 z).1,(eO r x).2++((eO (eO r x).1 y).2++(eO (eO (eO r x).1 y).1 z).2)):=by
 simp[iO]
theorem EN: ∀{r:List Int} {x y z:Int},Up r→x<y→y≤z→AW (iO r [y,z,x]) (iO r [y,x,z])
 | [],x,y,z,_,h1,h2=>by
  refine⟨?_,.inl ?_⟩
  ·simp[iO,eO,h1,show¬z<y by omega,show¬z<x by omega]
  ·simp[iO,eO,h1,show¬z<y by omega,show¬z<x by omega]
 |a::r,x,y,z,h,h1,h2=>by
  have h':=List.pairwise_cons.1 h
  by_cases c:y<a
  ·rw[mn,mn,e9 c]
   simp only
   rw[eA (r:=r) h2,e9 (r:=r) h1]
   simp only
   rw[e9 h1,eA (show x≤z by omega)]
   refine⟨rfl,?_⟩
   rcases kV r z with o|⟨b,o1,o2,o3⟩
   ·simp only;rw[o];exact .inl rfl
   ·simp only;rw[o1]
    exact .inr (Tri.a c (h'.1 b o3))
  ·by_cases c2:x<a
   ·rw[mn,mn,eA (show a≤y by omega)]
    simp only
    rw[eA (show a≤z by omega),e9 c2]
    simp only
    rw[e9 c2,eA (show x≤z by omega)]
    refine⟨rfl,?_⟩
    simp only
    obtain⟨e1,e2⟩:=Bt h'.2 h2
    rcases kV r y with o|⟨b,o1,o2,o3⟩
    ·rw[o,e1 o];exact .inl rfl
    ·rcases kV (eO r y).1 z with p|⟨d,p1,p2,p3⟩
     ·rw[p,o1];exact .inl rfl
     ·rw[o1,p1]
      exact .inr (Tri.a (by omega) (e2 _ _ o1 p1))
   ·have ih:=EN h'.2 h1 h2
    rw[oC (by simp;omega),oC (by simp;omega)]
    exact⟨congrArg (a:: ·) ih.1,ih.2⟩
theorem EW: ∀{r:List Int} {x y z:Int},Up r→x≤y→y<z→AW (iO r [x,z,y]) (iO r [z,x,y])
 | [],x,y,z,_,h1,h2=>by
  refine⟨?_,.inl ?_⟩
  ·simp[iO,eO,h2,show x<z by omega,show¬z<x by omega,show¬y<x by omega]
  ·simp[iO,eO,h2,show x<z by omega,show¬z<x by omega,show¬y<x by omega]
 |a::r,x,y,z,h,h1,h2=>by
  have h':=List.pairwise_cons.1 h
  by_cases c:z<a
  ·rw[mn,mn,e9 (show x<a by omega),e9 c]
   simp only
   rw[eA (r:=r) (show x≤z by omega),e9 (r:=r) (show x<z by omega)]
   simp only
   rw[eA h1,eA h1]
   cases r with
   |nil=>simp[eO,h2,AW]
   |cons b r=>
    have hb:=h'.1 b (List.mem_cons_self ..)
    rw[e9 (show z<b by omega),e9 (show y<b by omega)]
    simp only
    rw[e9 h2]
    exact⟨rfl,.inr (Tri.a c hb)⟩
  ·by_cases c2:x<a
   ·rw[mn,mn,e9 c2,eA (show a≤z by omega)]
    simp only
    rw[e9 c2,eA (show x≤z by omega)]
    simp only
    rw[eA h1]
    refine⟨rfl,?_⟩
    simp only
    rcases kV r z with o|⟨b,o1,o2,o3⟩
    ·rw[o];exact .inl rfl
    ·rw[o1]
     obtain⟨d,d1,d2,d3⟩:=Bw (xd z h'.2) h2 (wH r z)
     rw[d1]
     refine .inr (Tri.b ?_ (by omega))
     rcases kV (eO r z).1 y with p|⟨q,p1,p2,p3⟩
     ·rw[p]at d1;simp at d1
     ·rw[p1]at d1
      have:q=d:=by simpa using d1
      subst this
      rcases ve r z q p3 with e|e
      ·omega
      ·exact h'.1 q e
   ·have ih:=EW h'.2 h1 h2
    rw[oC (by simp;omega),oC (by simp;omega)]
    exact⟨congrArg (a:: ·) ih.1,ih.2⟩
theorem Ej{r u v:List Int}(h:Up r)(t:Tri u v):AW (iO r u) (iO r v):=by
 obtain⟨x,y,z,⟨h1,h2,rfl,rfl⟩|⟨h1,h2,rfl,rfl⟩⟩:=t
 ·exact EN h h1 h2
 ·exact EW h h1 h2
theorem DP(a x:Int)(r:List Int):fst (a::r) x=if x<a then 0 else fst r x+1:=by
 unfold fst
 rw[List.findIdx_cons]
 by_cases c:x<a
 ·rw[if_pos c,decide_eq_true c];rfl
 ·rw[if_neg c,decide_eq_false c];rfl
theorem yf: ∀(r:List Int) (x:Int),eO r x=if fst r x<r.length then(r.set (fst r x) x,[r.getD (fst r x) 0])else(r++ [x],[])
 | [],x=>rfl
 |a::r,x=>by
  rw[DP]
  by_cases c:x<a
  ·rw[e9 c,if_pos c,if_pos (by simp)];rfl
  ·rw[eA (by omega),if_neg c,yf r x]
   by_cases d:fst r x<r.length
   ·rw[if_pos d,if_pos (by simpa using d)];rfl
   ·rw[if_neg d,if_neg (by simpa using d)];rfl
theorem zj(r:List Int)(rs:List (List Int))(x:Int):(bc (r::rs) x).1=(eO r x).1::jQ (eO r x).2 rs:=by
 rw[iJ,yf]
 by_cases c:fst r x<r.length
 ·rw[if_pos c,if_pos c];rfl
 ·rw[if_neg c,if_neg c];rfl
theorem rW: ∀(w r:List Int) (rs:List (List Int)),jQ w (r::rs)=(iO r w).1::jQ (iO r w).2 rs
 | [],_,_=>rfl
 |x::w,r,rs=>by
  show jQ w (bc (r::rs) x).1=_
  rw[zj,rW w]
  simp only[iO]
  rw[mW]
theorem EE{u v:List Int}(t:Tri u v):jQ u []=jQ v []:=by
 obtain⟨x,y,z,⟨h1,h2,rfl,rfl⟩|⟨h1,h2,rfl,rfl⟩⟩:=t
 ·simp[jQ,bc,List.findIdx_cons,h1,show¬z<y by omega,show¬z<x by omega]
 ·simp[jQ,bc,List.findIdx_cons,h2,show x<z by omega,show¬z<x by omega,show¬y<x by omega]
theorem Bx: ∀{P:List (List Int)} {u v:List Int},(∀r∈P,Up r)→Tri u v→jQ u P=jQ v P
 | [],_,_,_,t=>EE t
 |r::rs,u,v,h,t=>by
  rw[rW,rW]
  obtain⟨a,b|b⟩:=Ej (h r (List.mem_cons_self ..)) t
  ·rw[a,b]
  ·rw[a,Bx (fun q hq=>h q (List.mem_cons_of_mem _ hq)) b]
inductive Kn : List Int → List Int → Prop
  | refl (w) : Kn w w
  | symm {v w} : Kn v w → Kn w v
  | trans {u v w} : Kn u v → Kn v w → Kn u w
  | tri {u v} (a b) : Tri u v → Kn (a ++ u ++ b) (a ++ v ++ b)
theorem Kn.ctx{u v:List Int}(c d:List Int)(h:Kn u v):Kn (c++u++d) (c++v++d):=by
 induction h with
 |refl w=>exact .refl _
 |symm _ ih=>exact .symm ih
 |trans _ _ h1 h2=>exact .trans h1 h2
 |tri a b t=>
  have:=Kn.tri (c++a) (b++d) t
  simp only[List.append_assoc]at this⊢
  exact this
theorem Kn.left{u v:List Int}(c:List Int)(h:Kn u v):Kn (c++u) (c++v):=by
 have:=h.ctx c []
 simpa using this
theorem Kn.right{u v:List Int}(d:List Int)(h:Kn u v):Kn (u++d) (v++d):=by
 have:=h.ctx [] d
 simpa using this
theorem Kn.cons{u v:List Int}(c:Int)(h:Kn u v):Kn (c::u) (c::v):=h.left [c]
theorem Kn.of{u v:List Int}(t:Tri u v):Kn u v:=by
 have:=Kn.tri [] [] t
 simpa using this
theorem Kn.app{u v u' v':List Int}(h:Kn u u')(g:Kn v v'):Kn (u++v) (u'++v'):=(h.right v).trans (g.left u')
theorem Bd: ∀{P:List (List Int)} (x:Int),(∀r∈P,Up r)→ ∀r∈(bc P x).1,Up r
 | [],x,_=>fun r hr=>by
  have:r= [x]:=by simpa[bc]using hr
  rw[this];exact List.pairwise_singleton ..
 |q::P,x,h=>by
  rw[zj]
  intro r hr
  have hP: ∀r∈P,Up r:=fun r hr=>h r (List.mem_cons_of_mem _ hr)
  rcases List.mem_cons.1 hr with e|e
  ·rw[e];exact xd x (h q (List.mem_cons_self ..))
  ·rcases kV q x with o|⟨b,o,_,_⟩
   ·rw[o]at e;exact hP r e
   ·rw[o]at e;exact Bd b hP r e
theorem Bo: ∀{w:List Int} {P:List (List Int)},(∀r∈P,Up r)→ ∀r∈jQ w P,Up r
 | [],_,h=>h
 |x::w,P,h=>show∀r∈jQ w (bc P x).1,Up r from Bo (Bd x h)
theorem Kn.ins{u v:List Int}(h:Kn u v): ∀{P:List (List Int)},(∀r∈P,Up r)→jQ u P=jQ v P:=by
 induction h with
 |refl w=>intro P _;rfl
 |symm _ ih=>intro P hP;exact(ih hP).symm
 |trans _ _ h1 h2=>intro P hP;rw[h1 hP,h2 hP]
 |tri a b t=>
  intro P hP
  rw[mW,mW,mW,mW,Bx (Bo hP) t]
end Go.Am.Pu
end
section
/- Rows and slides keep words related. Plain words. -/
namespace Go.Am.Pu
def Fi(q:List Int)(g:List (List Int))(i c r:Nat):List Int:=
 if r=i then((g.getD r []).take c).drop (q.getD r 0).toNat++(g.getD r []).drop (c+1)else(g.getD r []).drop (q.getD r 0).toNat
end Go.Am.Pu
end
section
/- The rectification is the tableau of the word. Plain words. -/
namespace Go.Am.Pu
end Go.Am.Pu
end
section
/- Slides outwards: what holds on the way, what they leave; slides in and out undo each other. Plain words. -/
namespace Go.Am.Pu
theorem EG{p:List Int}(hp:cz p=true)(r:Nat):0≤p.getD r 0∧p.getD r 0≤9:=by
 have:=fp hp r
 rwa [fK]at this
theorem Sl.up{q:List Int}{g:List (List Int)}{i c:Nat}(h:Sl q g (i+1) c)(hi:Inn q g)(hu:cel g i c≠0)(hl:leftOf g (i+1) c≤cel g i c):Sl q (kZ g (i+1) c (cel g i c)) i c:=by
 obtain⟨b1,b2⟩:=xe hu
 have hq:q.getD i 0≤c:=Int.not_lt.1 fun hlt=>hu (hi i c hlt)
 have hqm:=h.qm i
 have hun:=h.num i c hq b2 (by omega)
 have e0:=kv (cel g i c) h.hi h.hc
 have en: ∀r x,¬(r=i+1∧x=c)→cel (kZ g (i+1) c (cel g i c)) r x=cel g r x:=fun r x hh=>jf _ hh
 have hll:=h.lm i
 refine⟨h.q0,h.qm,fun r=> ?_,?_,?_,hq,fun r x=> ?_,fun r x h1 h2 h3=> ?_,fun r x h1 h2 h3 h4=> ?_,fun r x h1 h2 h3 h4=> ?_,fun x h1 h2 h3=> ?_,fun r h1 h2 h3=> ?_⟩
 ·rw[cu,cu];exact h.lm r
 ·rw[iU];exact b1
 ·rw[cu];exact b2
 ·by_cases e:r=i+1∧x=c
  ·rw[e.1,e.2,e0];exact h.pos _ _
  ·rw[en r x e];exact h.pos _ _
 ·rw[cu]at h2
  by_cases e:r=i+1∧x=c
  ·rw[e.1,e.2,e0];exact hun
  ·rw[en r x e];exact h.num r x h1 h2 e
 ·rw[cu]at h2
  by_cases e:r=i+1∧x=c
  ·obtain⟨rfl,rfl⟩:=e
   rw[e0,en _ _ (by omega)]
   have h5:=h.row i x hq (by omega) (by omega) (by omega)
   have h6:=h.col i (x+1) (by omega) h2 (by omega) (by omega)
   omega
  ·rw[en r x e]
   by_cases e':r=i+1∧x+1=c
   ·obtain⟨rfl,rfl⟩:=e'
    rw[e0]
    unfold leftOf at hl
    rw[if_neg (by omega),show x+1-1=x by omega]at hl
    exact hl
   ·rw[en r (x+1) e'];exact h.row r x h1 h2 e e'
 ·rw[cu]at h2
  by_cases e:r=i+1∧x=c
  ·obtain⟨rfl,rfl⟩:=e
   rw[e0,en _ _ (by omega)]
   exact h.colH i rfl hq h2
  ·rw[en r x e]
   by_cases e':r+1=i+1∧x=c
   ·exact(h3 ⟨by omega,e'.2⟩).elim
   ·rw[en (r+1) x e']
    exact h.col r x h1 h2 e e'
 ·rw[cu]at h3
  rw[en _ _ (by omega),en _ _ (by omega)]
  subst h1
  have h5:=h.row i x h2 (by omega) (by omega) (by omega)
  have h6:=h.row i (x+1) (by omega) h3 (by omega) (by omega)
  omega
 ·rw[cu]at h3
  subst h1
  rw[en _ _ (by omega),e0]
  exact h.col r c h2 b2 (by omega) (by omega)
theorem Sl.left{q:List Int}{g:List (List Int)}{i c:Nat}(h:Sl q g i (c+1))(hi:Inn q g)(hv:cel g i c≠0)(hu:yk g i (c+1)<cel g i c):Sl q (kZ g i (c+1) (cel g i c)) i c:=by
 obtain⟨b1,b2⟩:=xe hv
 have hq:q.getD i 0≤c:=Int.not_lt.1 fun hlt=>hv (hi i c hlt)
 have hqm:=h.qm i
 have hvn:=h.num i c hq b2 (by omega)
 have e0:=kv (cel g i c) h.hi h.hc
 have en: ∀r x,¬(r=i∧x=c+1)→cel (kZ g i (c+1) (cel g i c)) r x=cel g r x:=fun r x hh=>jf _ hh
 have hll:=h.lm i
 refine⟨h.q0,h.qm,fun r=> ?_,?_,?_,hq,fun r x=> ?_,fun r x h1 h2 h3=> ?_,fun r x h1 h2 h3 h4=> ?_,fun r x h1 h2 h3 h4=> ?_,fun x h1 h2 h3=> ?_,fun r h1 h2 h3=> ?_⟩
 ·rw[cu,cu];exact h.lm r
 ·rw[iU];exact b1
 ·rw[cu];exact b2
 ·by_cases e:r=i∧x=c+1
  ·rw[e.1,e.2,e0];exact h.pos _ _
  ·rw[en r x e];exact h.pos _ _
 ·rw[cu]at h2
  by_cases e:r=i∧x=c+1
  ·rw[e.1,e.2,e0];exact hvn
  ·rw[en r x e];exact h.num r x h1 h2 e
 ·rw[cu]at h2
  by_cases e:r=i∧x=c+1
  ·obtain⟨rfl,rfl⟩:=e
   rw[e0,en _ _ (by omega)]
   exact h.Fi c rfl hq h2
  ·rw[en r x e]
   by_cases e':r=i∧x+1=c+1
   ·exact(h3 ⟨e'.1,by omega⟩).elim
   ·rw[en r (x+1) e'];exact h.row r x h1 h2 e e'
 ·rw[cu]at h2
  by_cases e:r=i∧x=c+1
  ·obtain⟨rfl,rfl⟩:=e
   rw[e0,en _ _ (by omega)]
   have h5:=h.col r c hq (by omega) (by omega) (by omega)
   have h6:=h.row (r+1) c (by omega) h2 (by omega) (by omega)
   omega
  ·rw[en r x e]
   by_cases e':r+1=i∧x=c+1
   ·obtain⟨rfl,rfl⟩:=e'
    rw[e0]
    unfold yk at hu
    rw[if_neg (by omega),show r+1-1=r by omega]at hu
    exact hu
   ·rw[en (r+1) x e']
    exact h.col r x h1 h2 e e'
 ·rw[cu]at h3
  subst h1
  rw[en _ _ (by omega),e0]
  exact h.row i x h2 b2 (by omega) (by omega)
 ·rw[cu]at h3
  rw[en _ _ (by omega),en _ _ (by omega)]
  subst h1
  have h5:=h.col r c h2 b2 (by omega) (by omega)
  have h6:=h.col (r+1) c hq h3 (by omega) (by omega)
  omega
end Go.Am.Pu
end
section
/- What a slide outwards leaves is a tableau; slides in and out undo each other. Plain words. -/
namespace Go.Am.Pu
section
variable {t : Tab} {n : Nat} {p : List Int}
def rz(t:Tab)(n:Nat)(p:List Int):List (List Int)×(Nat×Nat):=rN 18 (Ez t n) n (p.getD n 0-1).toNat
structure FI (t : Tab) (n : Nat) (p : List Int) (g : List (List Int)) (i c : Nat) (q : List Int) : Prop where
  sl : Sl t.1 g i c
  inn : Inn t.1 g
  len : g.length = p.length
  row : ∀ r, ((g.getD r []).length : Int) = p.getD r 0
  l0 : leftOf g i c = 0
  u0 : yk g i c = 0
  add : w9 t.1 i = (q, true)
  qi : q.getD i 0 = c + 1
  qr : ∀ r, q.getD r 0 = if r = i then (c : Int) + 1 else t.1.getD r 0
  qp : cz q = true
  ins : ∀ r, q.getD r 0 ≤ p.getD r 0
def sW(t:Tab)(n:Nat):Tab×Nat:=
 let p:=(w9 (outer t) n).1
 let s:=rz t n p
 let q:=(w9 t.1 s.2.1).1
 ((q,fQ q s.1 p.length),s.2.1)
theorem FI.eq{q:List Int}(E:FI t n p (rz t n p).1 (rz t n p).2.1 (rz t n p).2.2 q)(hp:w9 (outer t) n=(p,true)):sW t n=((q,fQ q (rz t n p).1 p.length),(rz t n p).2.1):=by
 unfold sW
 rw[hp]
 simp only[E.add]
end
section
variable {t : Tab} {n : Nat}
end
end Go.Am.Pu
end
section
/- Words of tableaux; the rows of a slide outwards. Plain words. -/
namespace Go.Am.Pu
end Go.Am.Pu
end
section
/- Partitions that are drawn; chains of partitions. Plain words. -/
namespace Go.Am.Pu
end Go.Am.Pu
end
section
/- Plain laws: tableaux side by side; a number's copies. -/
namespace Go.Am.Pu
open Go Go.Am
attribute [local instance] D.real
end Go.Am.Pu
end
section
/- Plain laws: boxes that lead on to an outer partition; chains. -/
namespace Go.Am.Pu
open Go Go.Am
attribute [local instance] D.real
end Go.Am.Pu
end
section
/- Plain laws: the local rule of insertion; exchanging places and numbers exchanges the two tableaux. -/
namespace Go.Am.Pu
end Go.Am.Pu
end
section
/- Plain laws: places and numbers exchanged: the tableau of the one is the recording of the other. -/
namespace Go.Am.Pu
def wd(L:List (Int×Int)):List Int:=L.map Prod.snd
def at1(s r:Nat):Nat:=if s=r then 1 else 0
structure Tr (L M : List (Int × Int)) : Prop where
  sl : L.Pairwise fun p q => p.1 < q.1
  sm : M.Pairwise fun p q => p.1 < q.1
  perm : M.Perm (L.map Prod.swap)
theorem Tr.symm{L M:List (Int×Int)}(h:Tr L M):Tr M L:=by
 refine⟨h.sm,h.sl,?_⟩
 have:=(h.perm.map Prod.swap).symm
 rwa [List.map_map,Prod.swap_swap_eq,List.map_id]at this
theorem Tr.len{L M:List (Int×Int)}(h:Tr L M):M.length=L.length:=by simpa using h.perm.length_eq
theorem Tr.mem{L M:List (Int×Int)}(h:Tr L M){p:Int×Int}(hp:p∈L):p.swap∈M:=h.perm.mem_iff.2 (List.mem_map_of_mem hp)
theorem D5{A B:List (Int×Int)}{x:Int×Int}:(A++B).Sublist (A++x::B):=(List.Sublist.refl A).append (List.sublist_cons_self x B)
theorem Tr.cut{L0 A B:List (Int×Int)}{p:Int×Int}(h:Tr (L0++ [p]) (A++p.swap::B)):Tr L0 (A++B):=by
 refine⟨(List.pairwise_append.1 h.sl).1,h.sm.sublist D5,?_⟩
 have h1:(A++p.swap::B).Perm (p.swap::(A++B)):=List.perm_middle
 have h2:((L0++ [p]).map Prod.swap).Perm (p.swap::L0.map Prod.swap):=by
  rw[List.map_append]
  exact List.perm_append_comm
 exact(List.perm_cons _).1 (h1.symm.trans (h.perm.trans h2))
theorem DU{L0:List (Int×Int)}{p:Int×Int}(h:(L0++ [p]).Pairwise fun p q=>p.1<q.1): ∀x∈L0,x.1<p.1:=fun x hx=>(List.pairwise_append.1 h).2.2 x hx p (by simp)
theorem Tr.top{L M0:List (Int×Int)}{q:Int×Int}(h:Tr L (M0++ [q])): ∀x∈L,x≠q.swap→x.2<q.1:=fun x hx hne=>by
 have hm:=h.mem hx
 rcases List.mem_append.1 hm with h1|h1
 ·exact DU h.sm _ h1
 ·simp only[List.mem_singleton]at h1
  exact absurd (by rw[←h1,Prod.swap_swap]) hne
def zN:List (Int×Int)→List (List Int)→List (List Int)→List (List Int)
 | [],_,Q=>Q
 |p::L,P,Q=>zN L (bc P p.2).1 (gu Q (bc P p.2).2 p.1)
end Go.Am.Pu
end
section
/- Plain laws: taking a cell out undoes an insertion. -/
namespace Go.Am.Pu
structure Tk (rs : List (List Int)) (a : Nat) (R : List (List Int)) (y : Int) : Prop where
  ins : bc R y = (rs, a)
  ssr : SSR R
  pos : ∃ p, p < (rs.getD 0 []).length ∧ y = (rs.getD 0 []).getD p 0 ∧ (R.getD 0 []).length ≤ (rs.getD 0 []).length ∧ (∀ i, i < (R.getD 0 []).length → (rs.getD 0 []).getD i 0 ≤ (R.getD 0 []).getD i 0) ∧
    ∀ i, p ≤ i → i < (R.getD 0 []).length → y < (R.getD 0 []).getD i 0
end Go.Am.Pu
end
section
/- Plain laws: a removed number inserted again; a pair is what its word makes; the inverse of a permutation. -/
namespace Go.Am.Pu
end Go.Am.Pu
end
section
/- Plain laws: the inverse of a permutation; words that are their own standardization. -/
namespace Go.Am.Pu
section
variable {w : List Int} (h : isWord w = true) (ho : mz w = true)
include h ho
end
end Go.Am.Pu
end
section
/- Standardization step by step; what the law of the pairs wants, with no program in sight. -/
namespace Go.Am.Pu
set_option linter.unusedSimpArgs false
set_option linter.unusedVariables false
def pc(w:List Int)(i q:Nat):Nat:=((List.range q).filter fun k=>decide (w.getD k 0<w.getD i 0)||(decide (w.getD k 0=w.getD i 0)&&decide (k<i))).length
end Go.Am.Pu
end
section
/- Plain laws: insertion of letters told anew; insertion and recording of pairs in order, with repeats. -/
namespace Go.Am.Pu
set_option linter.unusedVariables false
section
variable {f : Int → Int} (hf : ∀ a b, a ≤ b → f a ≤ f b)
include hf
omit hf in
end
def Lex(p q:Int×Int):Prop:=p.1<q.1∨(p.1=q.1∧p.2≤q.2)
end Go.Am.Pu
end
section
/- Plain laws: the word of a recorded pair is the word; a recording with repeats, told by standard numbers. -/
namespace Go.Am.Pu
set_option linter.unusedVariables false
theorem BF{X Y:List (List Int)}(h:ez X Y)(he: ∀r x,r<X.length→x<(X.getD r []).length→cel X r x=cel Y r x):X=Y:=by
 refine CY (d:= []) h.1 fun r hr=>CY (d:=0) (h.2 r) fun x hx=>he r x hr hx
end Go.Am.Pu
end
section
/- Plain laws: pairs in order and their two tableaux. -/
namespace Go.Am.Pu
set_option linter.unusedVariables false
theorem C7: ∀{a b:List Int},a.length=b.length→wd (a.zip b)=b∧(a.zip b).map Prod.fst=a
 | [],[],_=>⟨rfl,rfl⟩
 | [],b::B,h=>by simp at h
 |a::A,[],h=>by simp at h
 |a::A,b::B,h=>by
  obtain⟨i1,i2⟩:=C7 (a:=A) (b:=B) (by simpa using h)
  exact⟨congrArg (b:: ·) i1,congrArg (a:: ·) i2⟩
def POK(L:List (Int×Int)):Prop:=L.length≤9∧ ∀p∈L,(1≤p.1∧p.1≤9)∧1≤p.2∧p.2≤9
theorem POK.word{L:List (Int×Int)}(h:POK L):isWord (wd L)=true:=by
 unfold isWord within
 simp only[Bool.and_eq_true,decide_eq_true_eq,List.all_eq_true,wd,List.length_map]
 refine⟨h.1,fun x hx=> ?_⟩
 obtain⟨p,hp,rfl⟩:=List.mem_map.1 hx
 exact(h.2 p hp).2
section
variable {L : List (Int × Int)} (h : POK L) (hl : L.Pairwise Lex)
include h
theorem E4:cy (([],lW (wd L) [] [] 0):Tab)=true∧iY (([],lW (wd L) [] [] 0):Tab)=true∧(lW (wd L) [] [] 0).flatten.length=L.length:=by
 have hw:=h.word
 have:=oN hw
 unfold cV at this
 rw[if_pos hw]at this
 simpa[wd]using this
theorem ib{r x i:Nat}(hi:i<L.length)(hr:r<(lW (wd L) [] [] 0).length)(hx:x<((lW (wd L) [] [] 0).getD r []).length)(e:cel (lW (wd L) [] [] 0) r x=((i+1:Nat):Int)):(Bu (wd L) []).getD i 0=r:=by
 obtain⟨p1,p2,p3⟩:=E4 h
 have a:=(uD h.word).2 i (by simpa[wd]using hi)
 have b:=j3 p1 p2 hr hx e
 omega
include hl
end
end Go.Am.Pu
end
section
/- Plain laws: matrices and their pairs. -/
namespace Go.Am.Pu
set_option linter.unusedVariables false
set_option linter.unusedSimpArgs false
def FJ(c:Nat)(r:List Int):Bool:=decide (r.length=c)&&(decide (r.length≤9)&&r.all fun n=>within n 0 9)
def uE(m:List (List Int)):Bool:=decide (m.length≤9)&&(m.all (FJ (m.getD 0 []).length)&&decide (gp m.flatten≤9))
structure Fh (r c : Nat) (m : List (List Int)) : Prop where
  len : m.length = r
  r9 : r ≤ 9
  row : ∀ x ∈ m, x.length = c
  c9 : ∀ x ∈ m, x.length ≤ 9
  num : ∀ x ∈ m, ∀ n ∈ x, 0 ≤ n ∧ n ≤ 9
  sum : gp m.flatten ≤ 9
theorem xP{m:List (List Int)}:uE m=true↔Fh m.length (m.getD 0 []).length m:=by
 unfold uE FJ within
 simp only[Bool.and_eq_true,decide_eq_true_eq,List.all_eq_true]
 constructor
 ·rintro⟨a,b,c⟩
  exact⟨rfl,a,fun x hx=>(b x hx).1,fun x hx=>(b x hx).2.1,fun x hx=>(b x hx).2.2,c⟩
 ·rintro⟨_,a,b,c,d,e⟩
  exact⟨a,fun x hx=>⟨b x hx,c x hx,d x hx⟩,e⟩
theorem Fh.is{r c:Nat}{m:List (List Int)}(h:Fh r c m):uE m=true:=by
 rw[xP]
 cases m with
 |nil=>exact⟨rfl,Nat.zero_le _,fun x hx=>(by cases hx),fun x hx=>(by cases hx),fun x hx=>(by cases hx),h.sum⟩
 |cons a m=>
  have:=h.row a (List.mem_cons_self ..)
  exact⟨rfl,by rw[h.len];exact h.r9,fun x hx=>by rw[List.getD_cons_zero,this];exact h.row x hx,h.c9,h.num,h.sum⟩
end Go.Am.Pu
end
section
/- Plain laws: a matrix is told by its two tableaux, and turning it exchanges them. -/
namespace Go.Am.Pu
set_option linter.unusedVariables false
end Go.Am.Pu
end
section
/- Plain laws: what the functions on matrices make step by step. -/
namespace Go.Am.Pu
set_option linter.unusedVariables false
theorem Au{Q Q':List (List Int)}(h:ez Q Q'){a:Nat}(ha:a≤Q.length)(z z':Int):ez (gu Q a z) (gu Q' a z'):=by
 refine⟨by rw[ly,ly,h.1],fun i=> ?_⟩
 rw[o5 z ha,o5 z' (by rw[←h.1];exact ha)]
 have h1:=h.2 i
 have h2:=h.2 a
 split
 ·rw[List.length_append,List.length_append,h2];rfl
 ·exact h1
theorem zy: ∀(L:List (Int×Int)) (P Q:List (List Int)) (k:Nat),(∀i,i<L.length→(L.getD i (0,0)).1=((k+i+1:Nat):Int))→zN L P Q=lW (wd L) P Q k
 | [],_,_,_,_=>rfl
 |p::L,P,Q,k,h=>by
  have h0:=h 0 (Nat.zero_lt_succ _)
  rw[Nat.add_zero]at h0
  simp only[List.getD_cons_zero]at h0
  show zN L (bc P p.2).1 (gu Q (bc P p.2).2 p.1)=_
  rw[h0]
  exact zy L _ _ (k+1) fun i hi=>by
   have:=h (i+1) (by simpa using hi)
   rw[show k+1+i+1=k+(i+1)+1 by omega,←this,List.getD_cons_succ]
theorem CH{W:List Int}:zN ((mJ W.length).zip W) [] []=lW W [] [] 0:=by
 have hl:(mJ W.length).length=W.length:=mK _
 rw[zy _ _ _ 0 fun i hi=>by
  rw[aw hi,List.getElem_zip]
  simp only[mJ,List.getElem_map,List.getElem_range]
  omega]
 rw[(C7 hl).1]
end Go.Am.Pu
end
section
/- Plain laws: insertion by columns keeps the word's class. -/
namespace Go.Am.Pu
set_option linter.unusedVariables false
def gI(c:List Int)(x:Int):Nat:=c.findIdx fun n=>decide (x≤n)
def zU:List (List Int)→Int→List (List Int)
 | [],x=> [[x]]
 |c::cs,x=>if gI c x<c.length then c.set (gI c x) x::zU cs (c.getD (gI c x) 0)else(c++ [x])::cs
end Go.Am.Pu
end
section
/- Plain laws: columns and rows of a tableau; insertion by columns keeps it a tableau. -/
namespace Go.Am.Pu
set_option linter.unusedVariables false
def Bg(c:List Int):List (List Int)→Prop
 | []=>True
 |d::_=>d.length≤c.length∧ ∀q,q<d.length→c.getD q 0≤d.getD q 0
def CC:List (List Int)→Prop
 | []=>True
 |c::cs=>0<c.length∧c.Pairwise (· < ·)∧Bg c cs∧CC cs
theorem Bn{c:List Int}(h:c.Pairwise (· < ·)){i j:Nat}(hij:i<j)(hj:j<c.length):c.getD i 0<c.getD j 0:=by
 rw[List.pairwise_iff_getElem]at h
 rw[aw (by omega),aw hj]
 exact h i j (by omega) hj hij
theorem FL{c:List Int}(h:c.Pairwise (· < ·)){i j:Nat}(hij:i≤j)(hj:j<c.length):c.getD i 0≤c.getD j 0:=by
 rcases Nat.lt_or_ge i j with q|q
 ·have:=Bn h q hj;omega
 ·rw[show i=j by omega];exact Int.le_refl _
theorem yr{c:List Int}(h: ∀i j,i<j→j<c.length→c.getD i 0<c.getD j 0):c.Pairwise (· < ·):=by
 rw[List.pairwise_iff_getElem]
 intro i j hi hj hij
 have:=h i j hij hj
 rwa [aw hi,aw hj]at this
theorem Be{c:List Int}{x:Int}(h:gI c x<c.length):x≤c.getD (gI c x) 0:=by
 have:=List.findIdx_getElem (w:=h) (p:=fun n=>decide (x≤n))
 rw[aw h];exact of_decide_eq_true this
theorem xI{c:List Int}{x:Int}{i:Nat}(h:i<gI c x):c.getD i 0<x:=by
 have hl:i<c.length:=Nat.lt_of_lt_of_le h List.findIdx_le_length
 have:=List.not_of_lt_findIdx (p:=fun n=>decide (x≤n)) (xs:=c) h
 have:=of_decide_eq_false this
 rw[aw hl];omega
theorem xb{c:List Int}{x:Int}:gI c x≤c.length:=List.findIdx_le_length
theorem D9{c:List Int}{x:Int}(h:c.Pairwise (· < ·))(hk:gI c x<c.length):(c.set (gI c x) x).Pairwise (· < ·):=yr fun i j hij hj=>by
 rw[List.length_set]at hj
 rw[ic x hk,ic x hk]
 have ha:=Be hk
 by_cases ci:i=gI c x
 ·rw[if_pos ci,if_neg (by omega)]
  have:=Bn h (i:=gI c x) (j:=j) (by omega) hj
  omega
 ·rw[if_neg ci]
  by_cases cj:j=gI c x
  ·rw[if_pos cj];exact xI (by omega)
  ·rw[if_neg cj];exact Bn h hij hj
theorem Eg{c:List Int}{x:Int}(h:c.Pairwise (· < ·))(hk: ¬gI c x<c.length):(c++ [x]).Pairwise (· < ·):=yr fun i j hij hj=>by
 rw[List.length_append,List.length_singleton]at hj
 rw[fc,fc]
 by_cases cj:j=c.length
 ·rw[if_neg (by omega),if_pos cj];exact xI (by have:= @xb c x;omega)
 ·rw[if_neg (by omega),if_neg cj];exact Bn h hij (by omega)
theorem BU{c:List Int}{x:Int}{cs:List (List Int)}(h:c.Pairwise (· < ·))(hk:gI c x<c.length)(ho:Bg c cs)(hc:CC cs):Bg (c.set (gI c x) x) (zU cs (c.getD (gI c x) 0)):=by
 have hy:=Be hk
 have hle: ∀q,q<c.length→(c.set (gI c x) x).getD q 0≤c.getD q 0:=fun q hq=>by
  rw[ic x hk]
  split
  ·next e=>rw[e];exact hy
  ·exact Int.le_refl _
 have hset: ∀q,q≤gI c x→(c.set (gI c x) x).getD q 0≤c.getD (gI c x) 0:=fun q hq=>by
  have:=hle q (by omega)
  have:=FL h hq hk
  omega
 cases cs with
 |nil=>
  refine⟨by show 1≤_;rw[List.length_set];omega,fun q hq=> ?_⟩
  have hq:q<1:=hq
  rw[show q=0 by omega]
  exact hset 0 (Nat.zero_le _)
 |cons d ds=>
  obtain⟨o1,o2⟩:=ho
  have hk':gI d (c.getD (gI c x) 0)≤gI c x:=Nat.le_of_not_lt fun hlt=>by
   have hd:gI c x<d.length:=by have:= @xb d (c.getD (gI c x) 0);omega
   have a:=xI hlt
   have b:=o2 _ hd
   omega
  show Bg _ (if gI d (c.getD (gI c x) 0)<d.length then _ else _)
  by_cases g:gI d (c.getD (gI c x) 0)<d.length
  ·rw[if_pos g]
   refine⟨by rw[List.length_set,List.length_set];exact o1,fun q hq=> ?_⟩
   rw[List.length_set]at hq
   rw[ic _ g]
   split
   ·next e=>exact hset q (by omega)
   ·have:=hle q (by omega)
    have:=o2 q hq
    omega
  ·rw[if_neg g]
   have e:gI d (c.getD (gI c x) 0)=d.length:=by have:= @xb d (c.getD (gI c x) 0);omega
   refine⟨by rw[List.length_set,List.length_append,List.length_singleton];omega,fun q hq=> ?_⟩
   rw[List.length_append,List.length_singleton]at hq
   rw[fc]
   split
   ·next e2=>exact hset q (by omega)
   ·have:=hle q (by omega)
    have:=o2 q (by omega)
    omega
theorem Ds: ∀(C:List (List Int)) (x:Int),CC C→CC (zU C x)
 | [],x,_=>⟨by simp,by simp,trivial,trivial⟩
 |c::cs,x,⟨h1,h2,h3,h4⟩=>by
  show CC (if gI c x<c.length then _ else _)
  by_cases g:gI c x<c.length
  ·rw[if_pos g]
   exact⟨by rw[List.length_set];exact h1,D9 h2 g,BU h2 g h3 h4,Ds cs _ h4⟩
  ·rw[if_neg g]
   refine⟨by rw[List.length_append,List.length_singleton];omega,Eg h2 g,?_,h4⟩
   cases cs with
   |nil=>trivial
   |cons d ds=>
    obtain⟨o1,o2⟩:=h3
    exact⟨by rw[List.length_append,List.length_singleton];omega,fun q hq=>by rw[fc,if_neg (by omega)];exact o2 q hq⟩
theorem xk: ∀{C:List (List Int)},CC C→(∀c∈C,0<c.length∧c.Pairwise (· < ·))∧ ∀i,i+1<C.length→(C.getD (i+1) []).length≤(C.getD i []).length∧ ∀q,q<(C.getD (i+1) []).length→(C.getD i []).getD q 0≤(C.getD (i+1) []).getD q 0
 | [],_=>⟨fun c hc=>(by cases hc),fun i hi=>(by simp at hi)⟩
 |c::cs,⟨h1,h2,h3,h4⟩=>by
  obtain⟨a,b⟩:=xk h4
  refine⟨fun d hd=> ?_,fun i hi=> ?_⟩
  ·rcases List.mem_cons.1 hd with rfl|hd
   ·exact⟨h1,h2⟩
   ·exact a d hd
  ·cases i with
   |zero=>
    cases cs with
    |nil=>simp at hi
    |cons d ds=>exact h3
   |succ i=>exact b i (by simpa using hi)
def mj:List Int→List (List Int)→List (List Int)
 | [],C=>C
 |n::r,[]=> [n]::mj r []
 |n::r,c::C=>(n::c)::mj r C
def dG:List (List Int)→List (List Int)
 | []=> []
 |r::rs=>mj r (dG rs)
def Reg(t:List (List Int)):Prop:=(∀r∈t,0<r.length)∧ ∀i,i+1<t.length→(t.getD (i+1) []).length≤(t.getD i []).length
theorem Reg.tail{r:List Int}{rs:List (List Int)}(h:Reg (r::rs)):Reg rs∧(rs.getD 0 []).length≤r.length:=by
 refine⟨⟨fun s hs=>h.1 s (List.mem_cons_of_mem _ hs),fun i hi=>h.2 (i+1) (by simpa using hi)⟩,?_⟩
 cases rs with
 |nil=>exact Nat.zero_le _
 |cons s rs=>exact h.2 0 (by simp)
theorem so: ∀(r:List Int) (C:List (List Int)),C.length≤r.length→(mj r C).length=r.length
 | [],C,h=>by simp at h;subst h;rfl
 |n::r,[],_=>by simp[mj,so r [] (Nat.zero_le _)]
 |n::r,c::C,h=>by simp[mj,so r C (by simpa using h)]
theorem sy: ∀(r:List Int) (C:List (List Int)) (q:Nat),C.length≤r.length→(mj r C).getD q []=if q<r.length then r.getD q 0::C.getD q []else []
 | [],C,q,h=>by simp at h;subst h;simp[mj]
 |n::r,[],0,_=>by simp[mj]
 |n::r,[],q+1,_=>by
  have:=sy r [] q (Nat.zero_le _)
  simp only[mj,List.getD_cons_succ,this,List.length_cons]
  by_cases h:q<r.length
  ·rw[if_pos h,if_pos (by omega)];simp
  ·rw[if_neg h,if_neg (by omega)]
 |n::r,c::C,0,_=>by simp[mj]
 |n::r,c::C,q+1,h=>by
  have:=sy r C q (by simpa using h)
  simp only[mj,List.getD_cons_succ,this,List.length_cons]
  by_cases g:q<r.length
  ·rw[if_pos g,if_pos (by omega)]
  ·rw[if_neg g,if_neg (by omega)]
theorem oy: ∀{t:List (List Int)},Reg t→(dG t).length=(t.getD 0 []).length
 | [],_=>rfl
 |r::rs,h=>by
  have:=oy h.tail.1
  exact so r _ (by rw[this];exact h.tail.2)
theorem lq: ∀{t:List (List Int)},Reg t→ ∀q i,(i<((dG t).getD q []).length↔q<(t.getD i []).length)∧((dG t).getD q []).getD i 0=(t.getD i []).getD q 0
 | [],_,q,i=>by simp[dG]
 |r::rs,h,q,i=>by
  have hl:=oy h.tail.1
  have ht:=h.tail.2
  have e:=sy r (dG rs) q (by rw[hl];exact ht)
  show(i<((mj r (dG rs)).getD q []).length↔_)∧((mj r (dG rs)).getD q []).getD i 0=_
  rw[e]
  by_cases g:q<r.length
  ·rw[if_pos g]
   cases i with
   |zero=>simp[g]
   |succ i=>
    have:=lq h.tail.1 q i
    simp only[List.length_cons,List.getD_cons_succ]
    exact⟨by rw[←this.1];omega,this.2⟩
  ·rw[if_neg g]
   have hle: ∀i,((r::rs).getD i []).length≤r.length:=by
    intro i
    induction i with
    |zero=>simp
    |succ i ih=>
     by_cases hi:i+1<(r::rs).length
     ·exact Nat.le_trans (h.2 i hi) ih
     ·rw[List.getD_eq_getElem?_getD,List.getElem?_eq_none (by omega)];exact Nat.zero_le _
   have:=hle i
   refine⟨⟨fun h=>by simp at h,fun h=>by omega⟩,?_⟩
   rw[List.getD_eq_getElem?_getD (l:=(r::rs).getD i []),List.getElem?_eq_none (by omega)]
   simp
theorem Df{C:List (List Int)}(h:CC C):Reg C:=⟨fun c hc=>((xk h).1 c hc).1,fun i hi=>((xk h).2 i hi).1⟩
end Go.Am.Pu
end
section
/- Plain laws: one step of insertion by columns, seen in the rows. -/
namespace Go.Am.Pu
set_option linter.unusedVariables false
theorem uM{α:Type}{l:List α}{i:Nat}(h:l.length≤i)(d:α):l.getD i d=d:=by
 rw[List.getD_eq_getElem?_getD,List.getElem?_eq_none h];rfl
theorem gss{l:List (List Int)}{i:Nat}(h:i<l.length)(v:List Int):(l.set i v).getD i []=v:=by
 rw[aw (by rw[List.length_set];exact h),List.getElem_set_self]
def lX(D:List (List Int))(c:Nat)(x:Int):List (List Int):=if c=D.length then D++ [[x]]else D.set c (D.getD c []++ [x])
theorem xU{D:List (List Int)}{c:Nat}(x:Int)(hc:c≤D.length)(i:Nat):(lX D c x).getD i []=if i=c then D.getD c []++ [x]else D.getD i []:=o5 (Q:=D) (a:=c) x hc i
theorem C9{D:List (List Int)}(h:Reg D){c:Nat}(hc:c≤D.length)(x:Int)(h':Reg (lX D c x)):dG (lX D c x)=lX (dG D) (D.getD c []).length x∧(D.getD c []).length≤(dG D).length∧((dG D).getD (D.getD c []).length []).length=c:=by
 have hg:=xU x hc
 have hlen: ∀i,((lX D c x).getD i []).length=if i=c then(D.getD c []).length+1 else(D.getD i []).length:=fun i=>by
  rw[hg];split
  ·rw[List.length_append,List.length_singleton]
  ·rfl
 have ant: ∀d,(D.getD d []).length≤(D.getD 0 []).length:=by
  intro d
  induction d with
  |zero=>exact Nat.le_refl _
  |succ d ih=>
   by_cases hd:d+1<D.length
   ·exact Nat.le_trans (h.2 d hd) ih
   ·rw[uM (by omega)];exact Nat.zero_le _
 have hrl:(D.getD c []).length≤(dG D).length:=by rw[oy h];exact ant c
 have hrc:((dG D).getD (D.getD c []).length []).length=c:=by
  refine Nat.le_antisymm (Nat.le_of_not_lt fun hlt=> ?_) (Nat.le_of_not_lt fun hlt=> ?_)
  ·have:=(lq h _ c).1.1 hlt
   omega
  ·
   have a:=(lq h (D.getD c []).length ((dG D).getD (D.getD c []).length []).length).1
   have hc':((dG D).getD (D.getD c []).length []).length<D.length:=by omega
   generalize hm:((dG D).getD (D.getD c []).length []).length=m at*
   have b: ¬(D.getD c []).length<(D.getD m []).length:=fun hh=>by have:=a.2 hh;omega
   have mono: ∀e,m+e≤c→((lX D c x).getD (m+e) []).length≤((lX D c x).getD m []).length:=by
    intro e
    induction e with
    |zero=>intro _;exact Nat.le_refl _
    |succ e ih=>
     intro he
     have hl2:(lX D c x).length=if c=D.length then D.length+1 else D.length:=ly x
     exact Nat.le_trans (h'.2 (m+e) (by rw[hl2];split<;>omega)) (ih (by omega))
   have:=mono (c-m) (by omega)
   rw[show m+(c-m)=c by omega,hlen,hlen,if_pos rfl,if_neg (by omega)]at this
   omega
 refine⟨?_,hrl,hrc⟩
 have hg2:=xU (D:=dG D) (c:=(D.getD c []).length) x hrl
 have hl2:(lX (dG D) (D.getD c []).length x).length=if(D.getD c []).length=(dG D).length then(dG D).length+1 else(dG D).length:=ly x
 have hrow2: ∀i,((lX (dG D) (D.getD c []).length x).getD i []).length=if i=(D.getD c []).length then c+1 else((dG D).getD i []).length:=fun i=>by
  rw[hg2];split
  ·rw[List.length_append,List.length_singleton,hrc]
  ·rfl
 have key: ∀i q,q<((dG (lX D c x)).getD i []).length↔q<((lX (dG D) (D.getD c []).length x).getD i []).length:=fun i q=>by
  rw[(lq h' i q).1,hlen,hrow2]
  have a:=(lq h i q).1
  by_cases e:q=c
  ·subst e
   rw[if_pos rfl]
   by_cases e2:i=(D.getD q []).length
   ·rw[if_pos e2];omega
   ·rw[if_neg e2,a];omega
  ·rw[if_neg e]
   by_cases e2:i=(D.getD c []).length
   ·rw[if_pos e2,←a,e2,hrc];omega
   ·rw[if_neg e2,a]
 have hl:(dG (lX D c x)).length=(lX (dG D) (D.getD c []).length x).length:=by
  rw[oy h',hlen,hl2,oy h]
  by_cases e:0=c
  ·subst e
   rw[if_pos rfl,if_pos rfl]
  ·rw[if_neg e]
   split
   ·next e2=>
    exfalso
    have mono: ∀e,e≤c→((lX D c x).getD e []).length≤((lX D c x).getD 0 []).length:=by
     intro e
     induction e with
     |zero=>intro _;exact Nat.le_refl _
     |succ e ih=>
      intro he
      have hl3:(lX D c x).length=if c=D.length then D.length+1 else D.length:=ly x
      exact Nat.le_trans (h'.2 e (by rw[hl3];split<;>omega)) (ih (by omega))
    have:=mono c (Nat.le_refl _)
    rw[hlen,hlen,if_pos rfl,if_neg e]at this
    omega
   ·rfl
 refine BF ⟨hl,fun i=> ?_⟩ fun i q hi hq=> ?_
 ·refine Nat.le_antisymm (Nat.le_of_not_lt fun hlt=> ?_) (Nat.le_of_not_lt fun hlt=> ?_)
  ·have:=(key i _).1 hlt;omega
  ·have:=(key i _).2 hlt;omega
 ·show((dG (lX D c x)).getD i []).getD q 0=((lX (dG D) (D.getD c []).length x).getD i []).getD q 0
  rw[(lq h' i q).2,hg,hg2]
  by_cases e:q=c
  ·rw[if_pos e]
   by_cases e2:i=(D.getD c []).length
   ·rw[if_pos e2,e2,fc,if_pos rfl,fc,if_pos (by rw[hrc];exact e)]
   ·rw[if_neg e2,fc,if_neg e2,(lq h i q).2,e]
  ·rw[if_neg e]
   by_cases e2:i=(D.getD c []).length
   ·rw[if_pos e2,fc,if_neg (by rw[hrc];exact e),(lq h _ q).2,e2]
   ·rw[if_neg e2,(lq h i q).2]
structure vG (C : List (List Int)) (z : Int) (D : List (List Int)) (c : Nat) (x : Int) : Prop where
  same : ez D C
  rest : D.drop c = C.drop c
  inv : D.take c ++ zU (D.drop c) x = zU C z
  le : c ≤ D.length
section
variable {C D : List (List Int)} {z x : Int} {c : Nat} (h : CC C) (s : vG C z D c x)
include s
theorem vG.col:D.getD c []=C.getD c []:=by
 have:=congrArg (fun l:List (List Int)=>l.getD 0 []) s.rest
 simp only[List.getD_eq_getElem?_getD,List.getElem?_drop,Nat.add_zero]at this⊢
 exact this
include h
theorem vG.reg:Reg D:=by
 have hr:=Df h
 refine⟨fun d hd=> ?_,fun i hi=> ?_⟩
 ·obtain⟨i,hi,rfl⟩:=List.getElem_of_mem hd
  rw[←aw hi [],s.same.2 i]
  have:i<C.length:=by rw[←s.same.1];exact hi
  exact hr.1 _ (by rw[aw this];exact List.getElem_mem this)
 ·rw[s.same.2,s.same.2];exact hr.2 i (by rw[←s.same.1];exact hi)
theorem vG.up:(D.getD c []).Pairwise (· < ·):=by
 rw[s.col]
 by_cases hc:c<C.length
 ·rw[aw hc];exact((xk h).1 _ (List.getElem_mem hc)).2
 ·rw[uM (by omega)];exact List.Pairwise.nil
theorem vG.step(hr:gI (D.getD c []) x<(D.getD c []).length):c<D.length∧vG C z (D.set c ((D.getD c []).set (gI (D.getD c []) x) x)) (c+1) ((D.getD c []).getD (gI (D.getD c []) x) 0):=by
 have hc:c<D.length:=Nat.lt_of_not_le fun hle=>by rw[uM hle]at hr;simp at hr
 refine⟨hc,⟨⟨by rw[List.length_set];exact s.same.1,fun i=> ?_⟩,?_,?_,by rw[List.length_set];exact hc⟩⟩
 ·rw[←s.same.2 i]
  by_cases e:i=c
  ·subst e;rw[gss hc,List.length_set]
  ·rw[getD_set_ne (fun h=>e h.symm)]
 ·have:=congrArg List.tail s.rest
  rw[List.tail_drop,List.tail_drop]at this
  rw[List.drop_set_of_lt (Nat.lt_succ_self _)]
  exact this
 ·rw[←s.inv,drop_cons hc [],List.drop_set_of_lt (Nat.lt_succ_self _),List.take_succ_eq_append_getElem (by rw[List.length_set];exact hc),List.take_set_of_le (Nat.le_refl _),List.getElem_set_self]
  show _=D.take c++(if gI (D.getD c []) x<(D.getD c []).length then _ else _)
  rw[if_pos hr]
  simp only[List.append_assoc,List.singleton_append]
theorem vG.fin(hr: ¬gI (D.getD c []) x<(D.getD c []).length):dG (zU C z)=lX (dG D) (D.getD c []).length x∧(D.getD c []).length≤(dG D).length∧((dG D).getD (D.getD c []).length []).length=c:=by
 have e:lX D c x=zU C z:=by
  rw[←s.inv]
  unfold lX
  by_cases hc:c=D.length
  ·rw[if_pos hc,hc,List.take_length,List.drop_length];rfl
  ·have hlt:c<D.length:=by have:=s.le;omega
   rw[if_neg hc,drop_cons hlt []]
   show _=D.take c++(if gI (D.getD c []) x<(D.getD c []).length then _ else _)
   rw[if_neg hr,List.set_eq_take_append_cons_drop,if_pos hlt]
 have:=C9 (s.reg h) s.le x (by rw[e];exact Df (Ds C z h))
 rw[e]at this
 exact this
end
end Go.Am.Pu
end
section
/- Plain laws: columns gathered row by row. -/
namespace Go.Am.Pu
set_option linter.unusedVariables false
section
variable {C : List (List Int)} {x : Int} {c : Nat}
end
end Go.Am.Pu
end
section
/- Plain laws: a word turned about and complemented. -/
namespace Go.Am.Pu
set_option linter.unusedVariables false
end Go.Am.Pu
end
section
/- Plain laws: evacuation is insertion of the word turned about. -/
namespace Go.Am.Pu
set_option linter.unusedVariables false
theorem Kn.perm{u v:List Int}(h:Kn u v):u.Perm v:=by
 induction h with
 |refl w=>exact .refl _
 |symm _ ih=>exact ih.symm
 |trans _ _ h1 h2=>exact h1.trans h2
 |tri a b t=>
  refine(List.Perm.append_left a ?_).append_right b
  obtain⟨x,y,z,⟨_,_,rfl,rfl⟩|⟨_,_,rfl,rfl⟩⟩:=t
  ·exact(List.Perm.swap x z []).cons y
  ·exact List.Perm.swap z x [y]
end Go.Am.Pu
end
section
/- Plain laws: evacuating a standard tableau twice. -/
namespace Go.Am.Pu
set_option linter.unusedVariables false
end Go.Am.Pu
end
section
/- Texts as lists of bytes. Plain words. -/
namespace Go.Am.Pu
open Go Go.Am
def tx(l:List UInt8):ByteArray:=⟨l.toArray⟩
theorem eY(l:List UInt8):(tx l).size=l.length:=rfl
theorem lF(a b:List UInt8):tx a++tx b=tx (a++b):=by
 apply ByteArray.ext
 rw[ByteArray.data_append]
 show a.toArray++b.toArray=(a++b).toArray
 simp
theorem Ea(l:List UInt8):(tx l).data.toList=l:=rfl
theorem ok_eq{α:Type}{x:Option α}{v:α}(h:Ok x (· =v)):x=some v:=by
 obtain⟨y,e,hy⟩:=h
 rw[e,hy]
def dcm(n:Int):List UInt8:=Lib.decDigits n.toNat
theorem oU{n:Int}(h:n<10):dcm n= [UInt8.ofNat (48+n.toNat)]:=by
 unfold dcm
 rw[Lib.decDigits,dif_pos (by omega)]
theorem Bc{n:Int}(h0:10≤n)(h:n<100):dcm n= [UInt8.ofNat (48+n.toNat/10),UInt8.ofNat (48+n.toNat % 10)]:=by
 unfold dcm
 rw[Lib.decDigits,dif_neg (by omega),Lib.decDigits,dif_pos (by omega)]
 rfl
theorem ky{n:Int}(h:n<100):(dcm n).length≤2:=by
 by_cases c:n<10
 ·rw[oU c];simp
 ·rw[Bc (by omega) h];simp
theorem CG{n:Int}(h0:0≤n)(h:n<100):rE n=some (tx (dcm n)):=by
 unfold rE
 rw[if_pos ⟨h0,h⟩];rfl
theorem Br: ∀(ws:List (List UInt8)) (m:Nat),(∀w∈ws,w.length≤m)→Lib.lens ws≤ws.length*m
 | [],m,_=>by simp[Lib.lens]
 |w::r,m,h=>by
  have h1:=h w (by simp)
  have h2:=Br r m (fun x hx=>h x (by simp[hx]))
  have e:Lib.lens (w::r)=w.length+Lib.lens r:=by simp[Lib.lens]
  rw[e,List.length_cons,Nat.succ_mul]
  omega
theorem rk(ws:List (List UInt8))(sep:List UInt8)(m:Nat)(h: ∀w∈ws,w.length≤m):(Lib.join ws sep).length≤ws.length*(m+sep.length):=by
 cases ws with
 |nil=>simp[Lib.join_nil]
 |cons w r=>
  rw[Lib.join_cons,List.length_append,Lib.joinTail_length,List.length_cons,Nat.succ_mul,Nat.mul_add]
  have h1:=h w (by simp)
  have h2:=Br r m (fun x hx=>h x (by simp[hx]))
  have:=Nat.mul_comm sep.length r.length
  omega
theorem Cy{ws:List (List UInt8)}{sep:List UInt8}(h1:ws.length≤1000)(h2: ∀w∈ws,w.length≤10000)(hs:sep.length≤10):rV (ws.map tx) (tx sep)=some (tx (Lib.join ws sep)):=by
 unfold rV
 have e:(ws.map tx).map (fun s:ByteArray=>s.data.toList)=ws:=by
  rw[List.map_map]
  conv=>rhs;rw[←List.map_id ws]
  rfl
 have e2:(tx sep).data.toList=sep:=rfl
 simp only[e,e2]
 have hl:=rk ws sep 10000 h2
 have:ws.length*(10000+sep.length)≤1000*10010:=Nat.mul_le_mul h1 (by omega)
 rw[if_pos ⟨by rw[List.length_map];omega,by omega⟩]
 rfl
theorem tj: ∀n:Nat,Lib.repeatL [46] n=List.replicate n 46
 |0=>rfl
 |n+1=>by rw[Lib.repeatL,tj n];rfl
theorem DL{n:Int}(h0:0≤n)(h:n≤1000):wS (tx [46]) n=some (tx (List.replicate n.toNat 46)):=by
 unfold wS
 have e:(tx [46]).size=1:=rfl
 have e2:(tx [46]).data.toList= [46]:=rfl
 rw[e,e2,if_pos ⟨h0,by omega,by omega⟩,tj]
 rfl
theorem Ao(ws:List (List UInt8)):Lib.join ws []=ws.flatten:=by
 cases ws with
 |nil=>rfl
 |cons w r=>
  rw[Lib.join_cons]
  unfold Lib.joinTail
  simp
def gX(w:List Int):List UInt8:=w.flatMap dcm
theorem s9(w:List Int):Lib.join (w.map dcm) []=gX w:=by
 rw[Ao];rfl
theorem nu{w:List Int}(h: ∀x∈w,x<100):(gX w).length≤w.length*2:=by
 induction w with
 |nil=>simp[gX]
 |cons x r ih=>
  have:=ky (h x (by simp))
  have:=ih (fun y hy=>h y (by simp[hy]))
  simp only[gX,List.flatMap_cons,List.length_append,List.length_cons]at*
  omega
def gT(w:List Int):List UInt8:=if isWord w=true then(if w= []then [45]else gX w)else []
def jt(p:List Int):List UInt8:=if cz p=true then(if p= []then [45]else Lib.join (p.map dcm) [44])else []
def nR(t:Tab)(i:Nat):List UInt8:=List.replicate (atI t.1 i).toNat 46++gX (t.2.getD i [])
def jE(t:Tab):List UInt8:=if ig t=true then(if t.2= []then [45]else Lib.join ((List.range t.2.length).map (nR t)) [47])else []
theorem nS(w:List Int):(gT w).length≤20:=by
 unfold gT
 split
 ·next h=>
  split
  ·simp
  ·obtain⟨h1,h2⟩:=bQ h
   have:=nu (w:=w) (fun x hx=>by have:=(h2 x hx).2;omega)
   omega
 ·simp
def dL(s:List UInt8):List Int:=s.map fun b=>(b.toNat:Int)-48
def jK(s:ByteArray):List Int×Bool:=
 if(tx (gT (if s.toList==(tx [45]).toList then []else dL s.data.toList))).toList==s.toList then((if s.toList==(tx [45]).toList then []else dL s.data.toList),true)else([],false)
end Go.Am.Pu
namespace Go.Am.Pu
def lR(n:Int):List UInt8:=
 if n=1 then [51,49,50]else if n=2 then [50,49,49,51]else if n=3 then [53,52,51,50,49]else if n=4 then [49,50,49,50]else if n=5 then [45]else if n=6 then [51,53,49,52,50]else []
end Go.Am.Pu
namespace Go.Am.Pu
theorem vZ(s:List UInt8):(dL s).length=s.length:=by unfold dL;rw[List.length_map]
theorem uY(s:ByteArray):(jK s).1.length≤s.size:=by
 unfold jK
 have key:(if(s.toList==(tx [45]).toList)=true then []else dL s.data.toList).length≤s.size:=by
  split
  ·simp
  ·rw[vZ];exact Nat.le_refl _
 generalize(if(s.toList==(tx [45]).toList)=true then []else dL s.data.toList)=w at*
 by_cases c:((tx (gT w)).toList==s.toList)=true
 ·rw[if_pos c];exact key
 ·rw[if_neg c];exact Nat.zero_le _
theorem vx(n:Int):(lR n).length≤5:=by
 unfold lR
 repeat' split
 all_goals simp
end Go.Am.Pu
namespace Go.Am.Pu
theorem hU{t:Tab}(h:ig t=true):fH 9 9 t.2:=by
 obtain⟨h1,h2,h3,h4⟩:=jD h
 obtain⟨b1,_,b3,_⟩:=cL h2
 have hl:(outer t).length=t.2.length:=eu t
 refine⟨by omega,fun r hr=> ?_⟩
 obtain⟨i,hi,rfl⟩:=List.getElem_of_mem hr
 have e:=iC t.1 t.2 0 i hi
 have hm:(outer t).getD i 0∈outer t:=by rw[aw (show i<(outer t).length by omega) _];exact List.getElem_mem _
 have h9:=(b1 _ hm).2
 have h0:=(EG h1 (0+i)).1
 have e':(outer t).getD i 0=t.1.getD (0+i) 0+(t.2.getD i []).length:=e
 rw[aw hi]at e'
 omega
theorem sw{t:Tab}(h:ig t=true){i:Nat}{x:Int}(hx:x∈t.2.getD i []):1≤x∧x≤9:=by
 obtain⟨q,hq,rfl⟩:=List.getElem_of_mem hx
 have hi:i<t.2.length:=by
  by_cases c:i<t.2.length
  ·exact c
  ·rw[List.getD_eq_getElem?_getD,List.getElem?_eq_none (by omega)]at hq;simp at hq
 have:=(jD h).2.2.2 i q hi hq
 simp only[gE,within,Bool.and_eq_true,decide_eq_true_eq]at this
 rw[aw hq]at this
 exact this.1
theorem oX{t:Tab}(h:ig t=true)(i:Nat):(nR t i).length≤100:=by
 unfold nR
 rw[List.length_append,List.length_replicate]
 have h1:=fp (jD h).1 i
 have h2:=nu (w:=t.2.getD i []) (fun x hx=>by have:=(sw h hx).2;omega)
 have h3:=(hU h).at i
 omega
theorem kx(t:Tab):(jE t).length≤2000:=by
 unfold jE
 split
 ·next h=>
  split
  ·simp
  ·have:=rk ((List.range t.2.length).map (nR t)) [47] 100 (fun w hw=>by
    obtain⟨i,_,rfl⟩:=List.mem_map.1 hw
    exact oX h i)
   have h2:=(hU h).1
   rw[List.length_map,List.length_range]at this
   have h3:t.2.length*(100+([47]:List UInt8).length)≤9*101:=Nat.mul_le_mul h2 (by simp)
   omega
 ·simp
theorem oB(p:List Int):(jt p).length≤100:=by
 unfold jt
 split
 ·next h=>
  obtain⟨h1,_,h3,_⟩:=cL h
  split
  ·simp
  ·have:=rk (p.map dcm) [44] 2 (fun w hw=>by
    obtain⟨i,hi,rfl⟩:=List.mem_map.1 hw
    exact ky (by have:=(h1 i hi).2;omega))
   rw[List.length_map]at this
   have h3:p.length*(2+([44]:List UInt8).length)≤9*3:=Nat.mul_le_mul h3 (by simp)
   omega
 ·simp
theorem El(l:List UInt8):(⟨(((tx l).data.toList.map fun b=>(b.toNat:Int)).map fun n=>UInt8.ofNat n.toNat).toArray⟩:ByteArray)=tx l:=by
 rw[Ea,List.map_map]
 have:((fun n:Int=>UInt8.ofNat n.toNat)∘fun b:UInt8=>(b.toNat:Int))=id:=by
  funext b;simp
 rw[this,List.map_id];rfl
def n0(ws:List (List UInt8))(sep:List UInt8)(i:Nat):List UInt8:=Lib.join (ws.take i) sep
theorem y7{ws:List (List UInt8)}{sep:List UInt8}{i:Nat}(h:i<ws.length):n0 ws sep (i+1)=n0 ws sep i++(if i=0 then []else sep)++ws.getD i []:=by
 unfold n0
 cases ws with
 |nil=>simp at h
 |cons w r=>
  cases i with
  |zero=>
   rw[List.take_succ_cons,List.take_zero,Lib.join_one,List.take_zero,Lib.join_nil]
   rfl
  |succ i=>
   have hr:i<r.length:=by simpa using h
   rw[List.take_succ_cons,List.take_succ_cons,Lib.join_cons,Lib.join_cons,Lib.joinTail_take_succ sep r i (r.getD i []) (by rw[aw hr];exact List.getElem?_eq_getElem hr)]
   simp only[List.getD_cons_succ,List.append_assoc,Nat.succ_ne_zero,if_false]
end Go.Am.Pu
end
section
/- Inversions, major index, lattice words, raising: plain words. -/
namespace Go.Am.Pu
open Go Go.Am
def l8(w:List Int)(k:Nat):Nat→Nat→Int
 |0,_=>0
 |m+1,i=>(if w.getD k 0<w.getD i 0 then 1 else 0)+l8 w k m (i+1)
def me(w:List Int):Nat→Nat→Int
 |0,_=>0
 |m+1,k=>l8 w k k 0+me w m (k+1)
def inv(w:List Int):Int:=if isWord w=true then me w w.length 0 else-1
theorem qt(w:List Int)(k:Nat): ∀m i,0≤l8 w k m i∧l8 w k m i≤m
 |0,_=>by simp[l8]
 |m+1,i=>by
  have:=qt w k m (i+1)
  unfold l8
  split<;>omega
theorem zo(w:List Int): ∀m k,m+k≤9→0≤me w m k∧me w m k≤m*9
 |0,_,_=>by simp[me]
 |m+1,k,h=>by
  have h1:=zo w m (k+1) (by omega)
  have h2:=qt w k k 0
  unfold me
  omega
theorem rU{w:List Int}(h:isWord w=true):0≤inv w∧inv w<100:=by
 have hl:=(bQ h).1
 have:=zo w w.length 0 (by omega)
 unfold inv
 rw[if_pos h]
 omega
def mY(w:List Int):Nat→Nat→Int
 |0,_=>0
 |m+1,k=>(if w.getD k 0<w.getD (k-1) 0 then(k:Int)else 0)+mY w m (k+1)
def maj(w:List Int):Int:=if isWord w=true then mY w (w.length-1) 1 else-1
theorem zb(w:List Int): ∀m k,m+k≤9→0≤mY w m k∧mY w m k≤m*9
 |0,_,_=>by simp[mY]
 |m+1,k,h=>by
  have h1:=zb w m (k+1) (by omega)
  unfold mY
  split<;>omega
theorem sg{w:List Int}(h:isWord w=true):0≤maj w∧maj w<100:=by
 have hl:=(bQ h).1
 unfold maj
 rw[if_pos h]
 by_cases c:w.length=0
 ·rw[c];simp[mY]
 ·have:=zb w (w.length-1) 1 (by omega)
  omega
def sP(w:List Int):Nat→List Int→Bool
 |0,_=>true
 |m+1,c=>
  if 1<w.getD m 0∧(c.set (w.getD m 0).toNat (c.getD (w.getD m 0).toNat 0+1)).getD ((w.getD m 0).toNat-1) 0<(c.set (w.getD m 0).toNat (c.getD (w.getD m 0).toNat 0+1)).getD (w.getD m 0).toNat 0 then false
  else sP w m (c.set (w.getD m 0).toNat (c.getD (w.getD m 0).toNat 0+1))
def lat(w:List Int):Bool:=isWord w&&sP w w.length (List.replicate 10 0)
def fZ(w:List Int)(k:Int):Nat→Nat→List Int→List Int→List Int×List Int
 |0,_,low,high=>(low,high)
 |m+1,i,low,high=>
  if w.getD i 0=k+1 then fZ w k m (i+1) low (high++ [(i:Int)])
  else if w.getD i 0=k then(if 0<high.length then fZ w k m (i+1) low (high.take (high.length-1))else fZ w k m (i+1) (low++ [(i:Int)]) high)
  else fZ w k m (i+1) low high
theorem lI(w:List Int)(k:Int): ∀(m i:Nat) (low high:List Int),i+m=w.length→(∀x∈high,∃n:Nat,x=n∧n<w.length∧w.getD n 0=k+1)→ ∀x∈(fZ w k m i low high).2,∃n:Nat,x=n∧n<w.length∧w.getD n 0=k+1
 |0,i,low,high,_,h=>h
 |m+1,i,low,high,hi,h=>by
  unfold fZ
  split
  ·next e=>
   refine lI w k m (i+1) _ _ (by omega) (fun x hx=> ?_)
   rcases List.mem_append.1 hx with hx|hx
   ·exact h x hx
   ·simp only[List.mem_singleton]at hx
    exact⟨i,hx,by omega,e⟩
  ·split
   ·split
    ·exact lI w k m (i+1) _ _ (by omega) (fun x hx=>h x (List.mem_of_mem_take hx))
    ·exact lI w k m (i+1) _ _ (by omega) h
   ·exact lI w k m (i+1) _ _ (by omega) h
def free(w:List Int)(k:Int):List Int×List Int:=fZ w k w.length 0 [] []
def raise(w:List Int)(k:Int):List Int×Bool:=
 if(isWord w&&within k 1 8)=true then(if(free w k).2= []then([],false)else(w.set ((free w k).2.getD 0 0).toNat k,true))else([],false)
theorem rM{w:List Int}{k:Int}(h:(free w k).2≠ []): ∃n:Nat,(free w k).2.getD 0 0=n∧n<w.length∧w.getD n 0=k+1:=by
 have:=lI w k w.length 0 [] [] (by omega) (fun x hx=>by cases hx)
 refine this _ ?_
 show(free w k).2.getD 0 0∈(free w k).2
 cases e:(free w k).2 with
 |nil=>exact absurd e h
 |cons x r=>simp
theorem uQ{w v:List Int}{k:Int}(h:raise w k=(v,true)):isWord w=true∧isWord v=true∧gp v=gp w-1:=by
 unfold raise at h
 split at h
 ·next c=>
  split at h
  ·simp at h
  ·next hn=>
   obtain⟨n,e1,e2,e3⟩:=rM hn
   simp only[Bool.and_eq_true,within,decide_eq_true_eq]at c
   obtain⟨hw,hk⟩:=c
   rw[e1,Int.toNat_natCast]at h
   simp only[Prod.mk.injEq,and_true]at h
   subst h
   refine⟨hw,?_,?_⟩
   ·obtain⟨h1,h2⟩:=bQ hw
    simp only[isWord,Bool.and_eq_true,decide_eq_true_eq,List.all_eq_true,within,List.length_set]
    refine⟨h1,fun x hx=> ?_⟩
    rcases List.mem_or_eq_of_mem_set hx with hx|rfl
    ·exact h2 x hx
    ·omega
   ·rw[qO w n k e2,e3];omega
 ·simp at h
def nB:Nat→Int→List Int→List Int
 |0,_,w=>w
 |m+1,k,w=>if k<9 then(if(raise w k).2=true then nB m 1 (raise w k).1 else nB m (k+1) w)else w
def kE(w:List Int):List Int×Bool:=if isWord w=true then(nB 2000 1 w,true)else([],false)
theorem q7{w:List Int}(h:isWord w=true):0≤gp w∧gp w≤81:=by
 obtain⟨h1,h2⟩:=bQ h
 have key: ∀w:List Int,(∀x∈w,1≤x∧x≤9)→0≤gp w∧gp w≤w.length*9:=by
  intro w
  induction w with
  |nil=>intro _;simp[gp]
  |cons x r ih=>
   intro h
   have:=ih (fun y hy=>h y (by simp[hy]))
   have:=h x (by simp)
   simp only[gp,List.length_cons]
   omega
 have:=key w h2
 omega
theorem oe: ∀(m:Nat) (k:Int) (w:List Int),isWord w=true→isWord (nB m k w)=true
 |0,_,w,h=>h
 |m+1,k,w,h=>by
  unfold nB
  split
  ·split
   ·next hr=>
    refine oe m 1 _ ?_
    exact(uQ (v:=(raise w k).1) (k:=k) (w:=w) (by rw[←hr])).2.1
   ·exact oe m _ w h
  ·exact h
theorem q8(w:List Int):isWord (kE w).1=true:=by
 unfold kE
 split
 ·next h=>exact oe _ _ _ h
 ·rfl
def iZ (w : List Int) : List (List UInt8) :=
  [[105, 110, 115, 101, 114, 116], jE (a7 w).1, [114, 101, 99, 111, 114, 100], jE (cV w).1, [115, 104, 97, 112, 101], jt (eU w),
   [105, 110, 118, 101, 114, 115, 105, 111, 110, 115], dcm (inv w), [109, 97, 106, 111, 114], dcm (maj w), (if lat w = true then [108, 97, 116, 116, 105, 99, 101] else [111, 116, 104, 101, 114]),
   [104, 105, 103, 104, 101, 115, 116], gT (kE w).1]
def say(w:List Int):List UInt8:=if isWord w=true then Lib.join (iZ w) [32]else []
theorem xE{w:List Int}(h:isWord w=true): ∀x∈iZ w,x.length≤10000:=by
 intro x hx
 simp only[iZ,List.mem_cons,List.not_mem_nil,or_false]at hx
 have a1:=kx (a7 w).1
 have a2:=kx (cV w).1
 have a3:=oB (eU w)
 have a4:=ky (rU h).2
 have a5:=ky (sg h).2
 have a6:=nS (kE w).1
 rcases hx with rfl|rfl|rfl|rfl|rfl|rfl|rfl|rfl|rfl|rfl|rfl|rfl|rfl
 all_goals first|(simp;done)|omega|(split<;>simp)
end Go.Am.Pu
namespace Go.Am.Pu
def nC(n:Int):List UInt8:=if(jK (tx (lR n))).2=true then say (jK (tx (lR n))).1 else []
end Go.Am.Pu
end
