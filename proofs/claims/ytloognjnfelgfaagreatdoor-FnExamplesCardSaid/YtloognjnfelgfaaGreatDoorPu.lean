/- Plain laws of lists, partitions, shapes and tableaux; no program in sight. -/
import Derived.Test.YtloognjnfelgfaaGreatDoorAmP
import Derived.Test.YtloognjnfelgfaaGreatDoorAmM
import Derived.Lib.Strings
set_option linter.unusedSimpArgs false
set_option linter.unusedVariables false
set_option linter.unnecessarySimpa false
set_option linter.unusedSectionVars false
section
/- Rules for loops over data: a loop that looks at all, a loop that folds. -/
namespace Go.Am.Pu
open Go.Am
theorem w64{n:Int}(h1: -9223372036854775808≤n)(h2:n≤9223372036854775807):IntKind.i64.wrap n=n:=Go.Am.w64 h1 h2
theorem lX{R:Type}(L:Nat→Nat→Option R)(n:Nat)(p:Nat→Bool)(bad Du:Option R)
  (hs: ∀j i,i<n→L (j+1) i=if p i=true then L j (i+1)else bad) (he: ∀j,L (j+1) n=Du):
  ∀(m j i:Nat),i+m=n→m<j→L j i=if(List.range' i m).all p=true then Du else bad
 |m,0,i,_,h=>by omega
 |0,j+1,i,h,_=>by
  have:i=n:=by omega
  subst this
  rw[he];rfl
 |m+1,j+1,i,h,hj=>by
  rw[hs j i (by omega),lX L n p bad Du hs he m j (i+1) (by omega) (by omega),List.range'_succ,List.all_cons]
  cases p i
  ·rw[if_neg (by simp),Bool.false_and,if_neg (by simp)]
  ·rw[if_pos rfl,Bool.true_and]
theorem fR{p:Nat→Bool}{n:Nat}:(List.range' 0 n).all p=true↔ ∀i,i<n→p i=true:=by
 simp[List.all_eq_true,List.mem_range'_1]
theorem aB{α:Type}{xs:List α}{i:Nat}(h:i<xs.length)(d:α):xs.getD i d=xs[i]:=by
 simp only[List.getD_eq_getElem?_getD,List.getElem?_eq_getElem h,Option.getD_some]
theorem cO{α:Type}{xs:List α}{i:Nat}(h:xs.length≤i)(d:α):xs.getD i d=d:=by
 simp only[List.getD_eq_getElem?_getD,List.getElem?_eq_none h,Option.getD_none]
theorem drop_cons{α:Type}{xs:List α}{i:Nat}(h:i<xs.length)(d:α):xs.drop i=xs.getD i d::xs.drop (i+1):=by
 rw[aB h,List.drop_eq_getElem_cons h]
theorem take_succ{α:Type}{xs:List α}{i:Nat}(h:i<xs.length)(d:α):xs.take (i+1)=xs.take i++ [xs.getD i d]:=by
 rw[aB h,List.take_succ_eq_append_getElem h]
end Go.Am.Pu
end
section
/- Marking memory and looking whether the marks are held. -/
namespace Go.Am.Pu
def held:List Int→Int→Int
 | [],q=>q
 |x::xs,q=>if x=q then held xs (q+1)else-1
def zb:List (List Int)→Nat
 | []=>0
 |x::xs=>x.length+zb xs
theorem zY: ∀(xs:List (List Int)) (n:Nat),(∀x∈xs,x.length≤n)→zb xs≤xs.length*n
 | [],n,_=>by simp[zb]
 |x::xs,n,h=>by
  have h1:=h x (by simp)
  have h2:=zY xs n fun y hy=>h y (by simp[hy])
  simp only[zb,List.length_cons,Nat.succ_mul]
  omega
end Go.Am.Pu
end
section
/- Partitions, shapes and tableaux as plain words. -/
namespace Go.Am.Pu
def within(x lo hi:Int):Bool:=decide (lo≤x)&&decide (x≤hi)
def atI(p:List Int)(i:Int):Int:=if i<0 then 0 else p.getD i.toNat 0
theorem gd(p:List Int)(i:Nat):atI p (i:Int)=p.getD i 0:=by simp[atI];omega
theorem uh{p:List Int}{i:Int}(h:i<0):atI p i=0:=by simp[atI,h]
theorem AS{p:List Int}{i:Int}(h:(p.length:Int)≤i):atI p i=0:=by
 unfold atI
 split
 ·rfl
 ·exact cO (by omega) 0
def ig:List Int→Int→Int→Bool
 | [],_,_=>true
 |x::xs,prev,s=>decide (1≤x)&&(decide (x≤prev)&&(decide (s+x≤9)&&ig xs x (s+x)))
def cM(p:List Int):Bool:=ig p 9 0
def gM:List Int→Int
 | []=>0
 |x::xs=>x+gM xs
theorem tS: ∀(p:List Int) (prev s:Int),ig p prev s=true→(∀x∈p,1≤x∧x≤prev)∧(p≠ []→s+gM p≤9)∧(p.length:Int)≤gM p
 | [],prev,s,_=>⟨fun x h=>(by cases h),fun h=>absurd rfl h,(by simp[gM])⟩
 |x::xs,prev,s,h=>by
  simp only[ig,Bool.and_eq_true,decide_eq_true_eq]at h
  obtain⟨h1,h2,h3,h4⟩:=h
  obtain⟨k1,k2,k3⟩:=tS xs x (s+x) h4
  refine⟨fun y hy=> ?_,fun _=> ?_,?_⟩
  ·rcases List.mem_cons.1 hy with rfl|hy
   ·exact⟨h1,h2⟩
   ·have:=k1 y hy;omega
  ·simp only[gM]
   by_cases e:xs= []
   ·subst e;simp[gM];omega
   ·have:=k2 e;omega
  ·simp only[gM,List.length_cons];omega
theorem cW{p:List Int}(h:cM p=true):(∀x∈p,1≤x∧x≤9)∧gM p≤9∧p.length≤9∧(p.length:Int)≤gM p:=by
 obtain⟨h1,h2,h3⟩:=tS p 9 0 h
 have:gM p≤9:=by
  by_cases e:p= []
  ·subst e;simp[gM]
  ·have:=h2 e;omega
 exact⟨h1,this,by omega,h3⟩
theorem fK{p:List Int}(h:cM p=true)(i:Int):0≤atI p i∧atI p i≤9:=by
 unfold atI
 split
 ·omega
 ·by_cases hl:i.toNat<p.length
  ·rw[aB hl]
   have:=(cW h).1 _ (List.getElem_mem hl)
   omega
  ·rw[cO (by omega)];omega
def eM(q p:List Int):Bool:=cM q&&(cM p&&(decide (q.length≤p.length)&&(List.range' 0 q.length).all fun i=>decide (q.getD i 0≤p.getD i 0)))
theorem AZ{q p:List Int}(hq:cM q=true)(h:(List.range' 0 q.length).all (fun i=>decide (q.getD i 0≤p.getD i 0))=true):q.length≤p.length:=by
 rw[fR]at h
 refine Nat.le_of_not_lt fun hlt=> ?_
 have h1:=h p.length hlt
 rw[decide_eq_true_eq,cO (Nat.le_refl _),aB hlt]at h1
 have:=(cW hq).1 _ (List.getElem_mem hlt)
 omega
theorem yO{q p:List Int}:eM q p=(cM q&&(cM p&&(List.range' 0 q.length).all fun i=>decide (q.getD i 0≤p.getD i 0))):=by
 unfold eM
 cases hq:cM q with
 |false=>rfl
 |true=>
  cases hp:cM p with
  |false=>rfl
  |true=>
   simp only[Bool.true_and]
   cases ha:(List.range' 0 q.length).all fun i=>decide (q.getD i 0≤p.getD i 0)with
   |false=>simp
   |true=>simp[AZ hq ha]
def gz(inner:List Int):Nat→List (List Int)→List Int
 |_,[]=> []
 |i,r::rs=>(inner.getD i 0+r.length)::gz inner (i+1) rs
theorem lk(inner:List Int): ∀(rs:List (List Int)) (i:Nat),(gz inner i rs).length=rs.length
 | [],_=>rfl
 |_::rs,i=>by simp[gz,lk inner rs]
theorem iT(inner:List Int): ∀(rs:List (List Int)) (i q:Nat),q<rs.length→(gz inner i rs).getD q 0=inner.getD (i+q) 0+(rs.getD q []).length
 | [],i,q,h=>by simp at h
 |r::rs,i,0,_=>by simp[gz]
 |r::rs,i,q+1,h=>by
  have:=iT inner rs (i+1) q (by simpa using h)
  simp only[gz,List.getD_cons_succ]
  rw[this]
  have e:i+1+q=i+(q+1):=by omega
  rw[e]
abbrev Tab:=List Int×List (List Int)
def outer(t:Tab):List Int:=gz t.1 0 t.2
def dP(t:Tab):Bool:=cM t.1&&(decide (t.1.length≤t.2.length)&&eM t.1 (outer t))
def shapeOf(t:Tab):(List Int×List Int)×Bool:=if dP t=true then((outer t,t.1),true)else(([],[]),false)
theorem y0{t:Tab}(h:dP t=true):t.2.length≤9:=by
 simp only[dP,eM,Bool.and_eq_true]at h
 have:=(cW h.2.2.2.1).2.2.1
 rw[outer,lk]at this
 exact this
def entry(t:Tab)(r c:Int):Int:=if r<0 then 0 else if(t.2.length:Int)≤r then 0 else atI (t.2.getD r.toNat []) (c-atI t.1 r)
theorem sG{t:Tab}{r:Nat}(h:r<t.2.length)(c:Int):entry t r c=atI (t.2.getD r []) (c-t.1.getD r 0):=by
 unfold entry
 rw[if_neg (by omega),if_neg (by omega),gd]
 rfl
theorem Cp{t:Tab}{r c:Int}(h:r<0):entry t r c=0:=by unfold entry;rw[if_pos h]
theorem y4{t:Tab}{r q:Nat}(h:r<t.2.length):entry t r (t.1.getD r 0+q)=(t.2.getD r []).getD q 0:=by
 rw[sG h]
 have e:t.1.getD r 0+(q:Int)-t.1.getD r 0=q:=by omega
 rw[e,gd]
theorem AR{t:Tab}{r q:Nat}(h:r<t.2.length):entry t r (t.1.getD r 0+q-1)=if q=0 then 0 else(t.2.getD r []).getD (q-1) 0:=by
 rw[sG h]
 by_cases e:q=0
 ·subst e
  rw[if_pos rfl,uh (by omega)]
 ·rw[if_neg e]
  have e:t.1.getD r 0+(q:Int)-1-t.1.getD r 0=((q-1:Nat):Int):=by omega
  rw[e,gd]
def gU(t:Tab)(i k:Nat):Bool:=within ((t.2.getD i []).getD k 0) 1 9&&((decide (k=0)||decide ((t.2.getD i []).getD (k-1) 0≤(t.2.getD i []).getD k 0))&&
 (decide (i=0)||decide (entry t ((i:Int)-1) (t.1.getD i 0+k)<(t.2.getD i []).getD k 0)))
def iD(t:Tab):Bool:=dP t&&(List.range' 0 t.2.length).all fun i=>(List.range' 0 (t.2.getD i []).length).all fun k=>gU t i k
def cK(t:Tab):Bool:=iD t&&decide (t.1.length=0)
theorem ph{t:Tab}(h:iD t=true):dP t=true:=by
 simp only[iD,Bool.and_eq_true]at h;exact h.1
theorem pq(inner:List Int): ∀(rs:List (List Int)) (i:Nat),(∀q,i≤q→inner.getD q 0=0)→gM (gz inner i rs)=rs.flatten.length
 | [],i,_=>rfl
 |r::rs,i,h=>by
  simp only[gz,gM,List.flatten_cons,List.length_append]
  rw[pq inner rs (i+1) (fun q hq=>h q (by omega)),h i (Nat.le_refl _)]
  omega
theorem Ba{t:Tab}(h:cK t=true):t.2.flatten.length≤9:=by
 simp only[cK,Bool.and_eq_true,decide_eq_true_eq]at h
 have hs:=ph h.1
 simp only[dP,eM,Bool.and_eq_true]at hs
 have h9:=(cW hs.2.2.2.1).2.1
 have:t.1= []:=List.eq_nil_of_length_eq_zero h.2
 rw[outer,pq t.1 t.2 0 (fun q _=>by rw[this];rfl)]at h9
 omega
def bn:List (List Int)→Int→List (List Int)×Nat
 | [],x=>([[x]],0)
 |r::rs,x=>if r.findIdx (fun n=>decide (x<n))<r.length
   then(r.set (r.findIdx fun n=>decide (x<n)) x::(bn rs (r.getD (r.findIdx fun n=>decide (x<n)) 0)).1,(bn rs (r.getD (r.findIdx fun n=>decide (x<n)) 0)).2+1)
   else((r++ [x])::rs,0)
def tJ(t:Tab):Prop:=t.1.length≤1048576∧t.2.length≤1048576∧ ∀x∈t.2,x.length≤1048576
theorem tJ.nil:tJ ([],[]):=⟨by simp,by simp,fun x h=>by cases h⟩
theorem uD: ∀{rs:List (List Int)} {r:List Int},r∈rs→r.length≤rs.flatten.length
 |q::rs,r,h=>by
  simp only[List.flatten_cons,List.length_append]
  rcases List.mem_cons.1 h with rfl|h
  ·omega
  ·have:=uD h;omega
theorem findIdx_le{p:Int→Bool}{r:List Int}{i:Nat}(hlt:i<r.length)(h:p (r.getD i 0)=true):r.findIdx p≤i:=
 Nat.le_of_not_lt fun h'=>by
  have:=List.not_of_lt_findIdx h'
  rw[aB hlt]at h
  rw[h]at this;cases this
theorem qI{p:Int→Bool}{r:List Int}(h:r.findIdx p<r.length):p (r.getD (r.findIdx p) 0)=true:=by
 rw[aB h];exact List.findIdx_getElem
theorem wS{α:Type}{xs:List α}{i:Nat}(h:i<xs.length)(x:α):xs.set i x=xs.take i++x::xs.drop (i+1):=by
 rw[List.set_eq_take_append_cons_drop,if_pos h]
theorem pV{α:Type}{xs:List α}{i:Nat}(h:i<xs.length)(x:α):(xs.set i x).take (i+1)=xs.take i++ [x]:=by
 have h':i<(xs.set i x).length:=by rw[List.length_set];exact h
 rw[take_succ h' x,List.take_set_of_le (Nat.le_refl _),aB h',List.getElem_set_self]
theorem pQ{α:Type}{xs:List α}{i:Nat}(x:α):(xs.set i x).drop (i+1)=xs.drop (i+1):=by
 rw[List.drop_set_of_lt (by omega)]
end Go.Am.Pu
end
section
/- Standard tableaux, weights, descents: plain words. -/
namespace Go.Am.Pu
theorem zv{α R:Type}(r:List α)(d:α)(p:α→Bool)(L:Nat→Nat→Option R)(hit:Nat→Option R)(miss:Option R)
  (hs: ∀j i,i<r.length→L (j+1) i=if p (r.getD i d)=true then hit i else L j (i+1)) (he: ∀j,L (j+1) r.length=miss):
  ∀(m j i:Nat),i+m=r.length→m<j→i≤r.findIdx p→L j i=if r.findIdx p<r.length then hit (r.findIdx p)else miss
 |m,0,i,_,hj,_=>by omega
 |0,j+1,i,hm,_,hi=>by
  have e:i=r.length:=by omega
  rw[if_neg (by omega),e,he]
 |m+1,j+1,i,hm,hj,hi=>by
  have hlt:i<r.length:=by omega
  rw[hs j i hlt]
  by_cases c:p (r.getD i d)=true
  ·have e:r.findIdx p=i:=Nat.le_antisymm (Nat.le_of_not_lt fun h'=>by
    have:=List.not_of_lt_findIdx h'
    rw[aB hlt]at c
    rw[c]at this;cases this) hi
   rw[if_pos c,e,if_pos hlt]
  ·rw[if_neg c]
   refine zv r d p L hit miss hs he m j (i+1) (by omega) (by omega) ?_
   refine Nat.succ_le_of_lt (Nat.lt_of_le_of_ne hi fun e=>c ?_)
   have hlt':r.findIdx p<r.length:=by omega
   have:=List.findIdx_getElem (p:=p) (xs:=r) (w:=hlt')
   rw[←aB hlt' d,←e]at this
   exact this
def Cm{α:Type}(p:α→Bool)(r:List α):Int:=if r.findIdx p<r.length then(r.findIdx p:Int)else-1
theorem Ed{α:Type}(p:α→Bool)(r:List α):decide (0≤Cm p r)=r.any p:=by
 unfold Cm
 by_cases h:r.findIdx p<r.length
 ·rw[if_pos h,List.any_eq_true.2 ⟨_,List.getElem_mem h,List.findIdx_getElem⟩]
  simp
 ·rw[if_neg h]
  have:r.any p=false:=by
   rw[List.any_eq_false]
   intro x hx hp
   exact h (List.findIdx_lt_length_of_exists ⟨x,hx,hp⟩)
  rw[this];rfl
def has(l:List Int)(x:Int):Bool:=l.any fun y=>decide (x=y)
theorem uv{l:List Int}{x:Int}:has l x=true↔x∈l:=by
 simp[has,List.any_eq_true]
def mL(l:List Int):Bool:=(List.range' 0 l.length).all fun i=>has l ((i:Int)+1)
theorem uj: ∀(R l:List Int),R.Nodup→(∀x∈R,x∈l)→R.length≤l.length
 | [],l,_,_=>by simp
 |x::R,l,hn,h=>by
  rw[List.nodup_cons]at hn
  have hx:=h x (by simp)
  have:=uj R (l.erase x) hn.2 fun y hy=>(List.mem_erase_of_ne fun(e:y=x)=>hn.1 (e▸hy)).2 (h y (by simp[hy]))
  rw[List.length_erase_of_mem hx]at this
  have:0<l.length:=List.length_pos_of_mem hx
  simp only[List.length_cons]
  omega
def mV(n:Nat):List Int:=(List.range n).map fun(i:Nat)=>(i:Int)+1
theorem jr{n:Nat}{x:Int}:x∈mV n↔1≤x∧x≤n:=by
 simp only[mV,List.mem_map,List.mem_range]
 constructor
 ·rintro⟨i,h,rfl⟩;omega
 ·rintro⟨h1,h2⟩;exact⟨(x-1).toNat,by omega,by omega⟩
theorem uP(n:Nat):(mV n).Nodup:=by
 unfold mV
 refine List.Pairwise.map _ (fun(a b:Nat) (h:a≠b)=> ?_) List.nodup_range
 intro e
 exact h (by omega)
theorem nh(n:Nat):(mV n).length=n:=by simp[mV]
theorem me{l:List Int}:mL l=true↔ ∀x∈mV l.length,x∈l:=by
 unfold mL
 rw[fR]
 constructor
 ·intro h x hx
  rw[jr]at hx
  have:=h (x-1).toNat (by omega)
  rw[uv]at this
  have e:(((x-1).toNat:Nat):Int)+1=x:=by omega
  rw[e]at this;exact this
 ·intro h i hi
  rw[uv]
  exact h _ (jr.2 (by omega))
theorem Ao{l:List Int}(h1: ∀x∈l,1≤x):mL l=true↔l.Nodup∧ ∀x∈l,x≤l.length:=by
 rw[me]
 constructor
 ·intro h
  refine⟨?_,fun x hx=> ?_⟩
  ·
   refine Classical.byContradiction fun hn=> ?_
   have: ∃x,x∈l∧x∈l.erase x:=by
    have key: ∀l:List Int,¬l.Nodup→ ∃x,x∈l∧x∈l.erase x:=by
     intro l
     induction l with
     |nil=>intro h;exact absurd List.nodup_nil h
     |cons a l ih=>
      intro h
      by_cases ha:a∈l
      ·exact⟨a,by simp,by simpa using ha⟩
      ·have: ¬l.Nodup:=fun hl=>h (List.nodup_cons.2 ⟨ha,hl⟩)
       obtain⟨x,h1,h2⟩:=ih this
       refine⟨x,by simp[h1],?_⟩
       have hne:a≠x:=fun e=>ha (e▸h1)
       rw[List.erase_cons_tail (by simpa using hne)]
       exact List.mem_cons_of_mem _ h2
    exact key l hn
   obtain⟨x,hx,hx2⟩:=this
   have:=uj (mV l.length) (l.erase x) (uP _) fun y hy=>by
    by_cases e:y=x
    ·rw[e];exact hx2
    ·exact(List.mem_erase_of_ne e).2 (h y hy)
   rw[nh,List.length_erase_of_mem hx]at this
   have:0<l.length:=List.length_pos_of_mem hx
   omega
  ·refine Int.not_lt.1 fun hlt=> ?_
   have:=uj (mV l.length) (l.erase x) (uP _) fun y hy=>by
    have hy':=jr.1 hy
    exact(List.mem_erase_of_ne (by omega)).2 (h y hy)
   rw[nh,List.length_erase_of_mem hx]at this
   have:0<l.length:=List.length_pos_of_mem hx
   omega
 ·rintro⟨hn,hb⟩ x hx
  refine Classical.byContradiction fun hxl=> ?_
  have:=uj (x::l) (mV l.length) (List.nodup_cons.2 ⟨hxl,hn⟩) fun y hy=>by
   rcases List.mem_cons.1 hy with rfl|hy
   ·exact hx
   ·exact jr.2 ⟨h1 y hy,hb y hy⟩
  rw[nh,List.length_cons]at this
  omega
theorem yU{t:Tab}(h:iD t=true): ∀x∈t.2.flatten,1≤x∧x≤9:=by
 intro x hx
 simp only[iD,Bool.and_eq_true]at h
 obtain⟨r,hr,hxr⟩:=List.mem_flatten.1 hx
 obtain⟨i,hi,e⟩:=List.mem_iff_getElem.1 hr
 obtain⟨q,hq,e2⟩:=List.mem_iff_getElem.1 hxr
 have h1:=fR.1 h.2 i hi
 rw[aB hi,e]at h1
 have h2:=fR.1 h1 q hq
 simp only[gU,within,Bool.and_eq_true,decide_eq_true_eq]at h2
 rw[aB hi,e,aB hq,e2]at h2
 exact h2.1
def jt(t:Tab):Bool:=iD t&&mL t.2.flatten
def rowOf(t:Tab)(n:Int):Int:=Cm (fun r=>has r n) t.2
end Go.Am.Pu
end
section
/- Plain laws of draws, and of boxes. -/
namespace Go.Am.Pu
open Go Go.Am
attribute [local instance] D.real
theorem xV(a:Int):0≤D.andI .i64 a 255∧D.andI .i64 a 255≤255:=by
 have h:(BitVec.ofInt 64 a&&&BitVec.ofInt 64 255).toNat≤255:=by
  rw[BitVec.toNat_and]
  exact Nat.le_trans Nat.and_le_right (by decide)
 have e:D.andI .i64 a 255=(((BitVec.ofInt 64 a&&&BitVec.ofInt 64 255).toNat:Nat):Int):=by
  show IntKind.i64.wrap (((BitVec.ofInt 64 a&&&BitVec.ofInt 64 255).toNat:Nat):Int)=_
  rw[w64 (by omega) (by omega)]
 rw[e]
 omega
theorem mH{α:Type}(a b:Int)(x y:Option α):D.test (D.lt a b) x y=if a<b then x else y:=by
 show(if decide (a<b)=true then x else y)=_
 simp only[decide_eq_true_eq]
def yk (p : List Int) (r : Int) : List Int × Bool :=
  if cM p = true ∧ 0 ≤ r ∧ r ≤ p.length then
    (let q := if r = p.length then p ++ [0] else p
     let o := q.set r.toNat (q.getD r.toNat 0 + 1)
     if cM o = true then (o, true) else ([], false))
  else ([], false)
end Go.Am.Pu
end
section
/- Steps over equations: what a word comes to, told by what must hold of it. -/
namespace Go.Am.Pu
open Go Go.Am
attribute [local instance] D.real
section
variable {α β : Type}
def Ok(x:Option α)(Q:α→Prop):Prop:= ∃y,x=some y∧Q y
theorem Ok.ret{y:α}{Q:α→Prop}(h:Q y):Ok (some y) Q:=⟨y,rfl,h⟩
theorem Ok.mono{x:Option α}{P Q:α→Prop}(h:Ok x P)(g: ∀y,P y→Q y):Ok x Q:=
 let⟨y,e,hp⟩:=h
 ⟨y,e,g y hp⟩
theorem Ok.bnd{x:Option α}{f:α→Option β}{P:α→Prop}{Q:β→Prop}(h:Ok x P)(g: ∀y,P y→Ok (f y) Q):Ok (D.bnd x f) Q:=by
 obtain⟨y,e,hp⟩:=h
 rw[e]
 exact g y hp
theorem Ok.cI{x:Option α}{y:α}{f:α→Option β}{Q:β→Prop}(h:x=some y)(g:Ok (f y) Q):Ok (D.bnd x f) Q:=by
 rw[h]
 exact g
theorem Ok.t{p:Prop} [Decidable p]{x y:Option α}{Q:α→Prop}(h1:p→Ok x Q)(h2: ¬p→Ok y Q):Ok (D.test (decide p) x y) Q:=by
 show Ok (if decide p=true then x else y) Q
 by_cases h:p
 ·rw[if_pos (decide_eq_true h)];exact h1 h
 ·rw[if_neg (by rw[decide_eq_false h];simp)];exact h2 h
theorem Ok.tb{b:Bool}{x y:Option α}{Q:α→Prop}(h1:b=true→Ok x Q)(h2:b=false→Ok y Q):Ok (D.test b x y) Q:=by
 cases b
 ·exact h2 rfl
 ·exact h1 rfl
theorem Ok.tn{b:Bool}{x y:Option α}{Q:α→Prop}(h1:b=false→Ok x Q)(h2:b=true→Ok y Q):Ok (D.test (!b) x y) Q:=by
 cases b
 ·exact h1 rfl
 ·exact h2 rfl
theorem Ok.tnd{p:Prop} [Decidable p]{x y:Option α}{Q:α→Prop}(h1: ¬p→Ok x Q)(h2:p→Ok y Q):Ok (D.test (!decide p) x y) Q:=
 Ok.tn (fun h=>h1 (of_decide_eq_false h)) (fun h=>h2 (of_decide_eq_true h))
theorem Ok.g{p:Prop} [Decidable p]{x y:Option α}{Q:α→Prop}(h:p)(g:Ok x Q):Ok (D.test (decide p) x y) Q:=Ok.t (fun _=>g) (fun h'=>absurd h h')
theorem Ok.no{p:Prop} [Decidable p]{x y:Option α}{Q:α→Prop}(h: ¬p)(g:Ok y Q):Ok (D.test (decide p) x y) Q:=Ok.t (fun h'=>absurd h' h) (fun _=>g)
theorem Ok.gn{p:Prop} [Decidable p]{x y:Option α}{Q:α→Prop}(h: ¬p)(g:Ok x Q):Ok (D.test (!decide p) x y) Q:=Ok.tnd (fun _=>g) (fun h'=>absurd h' h)
theorem Ok.some{x:Option α}{Q:α→Prop}(h:Ok x Q): ∃y,x=Option.some y:=let⟨y,e,_⟩:=h;⟨y,e⟩
end
def fU(n m:Nat)(rs:List (List Int)):Prop:=rs.length≤n∧ ∀r∈rs,r.length≤m
theorem fU.at{n m:Nat}{rs:List (List Int)}(h:fU n m rs)(i:Nat):(rs.getD i []).length≤m:=by
 by_cases hi:i<rs.length
 ·rw[aB hi];exact h.2 _ (List.getElem_mem hi)
 ·rw[cO (by omega)];simp
theorem fU.set{n m:Nat}{rs:List (List Int)}(h:fU n m rs)(i:Nat){r:List Int}(hr:r.length≤m):fU n m (rs.set i r):=by
 refine⟨by rw[List.length_set];exact h.1,fun x hx=> ?_⟩
 rcases List.mem_or_eq_of_mem_set hx with h'|rfl
 ·exact h.2 x h'
 ·exact hr
theorem fU.mono{n m n' m':Nat}{rs:List (List Int)}(h:fU n m rs)(hn:n≤n')(hm:m≤m'):fU n' m' rs:=
 ⟨Nat.le_trans h.1 hn,fun x hx=>Nat.le_trans (h.2 x hx) hm⟩
theorem fU.app{n m:Nat}{rs:List (List Int)}(h:fU n m rs){r:List Int}(hr:r.length≤m):fU (n+1) m (rs++ [r]):=by
 refine⟨by rw[List.length_append];simp;exact h.1,fun x hx=> ?_⟩
 rcases List.mem_append.1 hx with h'|h'
 ·exact h.2 x h'
 ·simp only[List.mem_singleton]at h';subst h';exact hr
end Go.Am.Pu
end
section
/- Corners; a number taken out of rows. Plain words. -/
namespace Go.Am.Pu
theorem rW: ∀{p:List Int} {prev s:Int},ig p prev s=true→ ∀i,i+1<p.length→p.getD (i+1) 0≤p.getD i 0
 | [],_,_,_,i,h=>by simp at h
 | [x],_,_,_,i,h=>by simp at h
 |x::y::xs,prev,s,hp,i,h=>by
  simp only[ig,Bool.and_eq_true,decide_eq_true_eq]at hp
  cases i with
  |zero=>simpa using hp.2.2.2.2.1
  |succ i=>
   have h2:ig (y::xs) x (s+x)=true:=by
    simp only[ig,Bool.and_eq_true,decide_eq_true_eq]
    exact hp.2.2.2
   have:=rW h2 i (by simpa using h)
   simpa using this
def mY(r:List Int)(y:Int):Nat→Option Nat
 |0=>none
 |i+1=>if r.getD i 0<y then some i else mY r y i
theorem tc{r:List Int}{y:Int}: ∀{m q:Nat},mY r y m=some q→q<m∧r.getD q 0<y
 |0,q,h=>by simp[mY]at h
 |m+1,q,h=>by
  unfold mY at h
  split at h
  ·next hc=>injection h with h;subst h;exact⟨by omega,hc⟩
  ·have:=tc h;exact⟨by omega,this.2⟩
theorem wZ{r:List Int}{y:Int}: ∀{m i:Nat},i<m→r.getD i 0<y→ ∃q,mY r y m=some q
 |0,i,h,_=>by omega
 |m+1,i,h,hi=>by
  unfold mY
  split
  ·exact⟨_,rfl⟩
  ·next hc=>
   have:i≠m:=fun e=>hc (e▸hi)
   exact wZ (by omega) hi
def nr:Nat→List (List Int)→Int→List (List Int)×Int
 |0,rs,y=>(rs,y)
 |r+1,rs,y=>match mY (rs.getD r []) y (rs.getD r []).length with
  |some q=>nr r (rs.set r ((rs.getD r []).set q y)) ((rs.getD r []).getD q 0)
  |none=>nr r rs y
theorem getD_set_ne{α:Type}{xs:List α}{i j:Nat}(h:j≠i)(x d:α):(xs.set j x).getD i d=xs.getD i d:=by
 simp only[List.getD_eq_getElem?_getD,List.getElem?_set]
 rw[if_neg h]
theorem qx{n m:Nat}: ∀(r:Nat) (rs:List (List Int)) (y:Int),fU n m rs→fU n m (nr r rs y).1
 |0,_,_,h=>h
 |r+1,rs,y,h=>by
  unfold nr
  split
  ·exact qx r _ _ (h.set r (by rw[List.length_set];exact h.at r))
  ·exact qx r rs y h
def mr (rs : List (List Int)) (row : Nat) : List (List Int) × Int :=
  ((if (rs.getD row []).length = 1 then (nr row (rs.set row ((rs.getD row []).take ((rs.getD row []).length - 1))) ((rs.getD row []).getD ((rs.getD row []).length - 1) 0)).1.take row
    else (nr row (rs.set row ((rs.getD row []).take ((rs.getD row []).length - 1))) ((rs.getD row []).getD ((rs.getD row []).length - 1) 0)).1),
   (nr row (rs.set row ((rs.getD row []).take ((rs.getD row []).length - 1))) ((rs.getD row []).getD ((rs.getD row []).length - 1) 0)).2)
theorem xO{n m:Nat}{rs:List (List Int)}(h:fU n m rs)(row:Nat):fU n m (mr rs row).1:=by
 have h1:=qx row (rs.set row ((rs.getD row []).take ((rs.getD row []).length-1))) ((rs.getD row []).getD ((rs.getD row []).length-1) 0) (h.set row (by rw[List.length_take];have:=h.at row;omega))
 unfold mr
 simp only
 split
 ·exact⟨by rw[List.length_take];have:=h1.1;omega,fun x hx=>h1.2 x (List.mem_of_mem_take hx)⟩
 ·exact h1
theorem jT{t:Tab}(h:cK t=true):t.1= []:=by
 simp only[cK,Bool.and_eq_true,decide_eq_true_eq]at h
 exact List.eq_nil_of_length_eq_zero h.2
theorem ia{t:Tab}(h:cK t=true){i:Nat}(hi:i<t.2.length):(outer t).getD i 0=(t.2.getD i []).length:=by
 have e:=iT t.1 t.2 0 i hi
 rw[jT h]at e
 unfold outer
 rw[jT h,e]
 simp
theorem kK{t:Tab}(h:cK t=true):cM (outer t)=true:=by
 simp only[cK,Bool.and_eq_true]at h
 have hs:=ph h.1
 simp only[dP,eM,Bool.and_eq_true]at hs
 exact hs.2.2.2.1
theorem eO(t:Tab):(outer t).length=t.2.length:=by unfold outer;rw[lk]
theorem jK{t:Tab}(h:cK t=true):fU 9 9 t.2:=by
 have h9:=Ba h
 have hl:=(cW (kK h)).2.2.1
 rw[eO]at hl
 exact⟨hl,fun r hr=>by have:=uD hr;omega⟩
theorem qK{t:Tab}(h:cK t=true): ∀i,i+1<t.2.length→(t.2.getD (i+1) []).length≤(t.2.getD i []).length∧ ∀q,q<(t.2.getD (i+1) []).length→(t.2.getD i []).getD q 0<(t.2.getD (i+1) []).getD q 0:=by
 intro i hi
 have hm:=rW (show ig (outer t) 9 0=true from kK h) i (by rw[eO];exact hi)
 rw[ia h hi,ia h (by omega)]at hm
 have hl:(t.2.getD (i+1) []).length≤(t.2.getD i []).length:=by omega
 refine⟨hl,fun q hq=> ?_⟩
 have ht:=h
 simp only[cK,Bool.and_eq_true]at ht
 have ht:=ht.1
 simp only[iD,Bool.and_eq_true]at ht
 have h1:=fR.1 (fR.1 ht.2 (i+1) hi) q hq
 simp only[gU,Bool.and_eq_true,Bool.or_eq_true,decide_eq_true_eq]at h1
 have h2:=h1.2.2.resolve_left (by omega)
 rw[jT h]at h2
 have e:((i+1:Nat):Int)-1=(i:Int):=by omega
 have e2:([]:List Int).getD (i+1) 0+(q:Int)=([]:List Int).getD i 0+(q:Int):=by simp
 rw[e,e2]at h2
 have ee:entry t (i:Int) (([]:List Int).getD i 0+(q:Int))=(t.2.getD i []).getD q 0:=by
  have:=y4 (t:=t) (r:=i) (q:=q) (by omega)
  rw[jT h]at this
  exact this
 rw[ee]at h2
 exact h2
end Go.Am.Pu
end
section
/- Rows with noughts in front; a box taken from a partition. Plain words. -/
namespace Go.Am.Pu
def jk(t:Tab):List (List Int):=(List.range' 0 t.2.length).map fun i=>List.replicate (t.1.getD i 0).toNat 0++t.2.getD i []
def ct(p:List Int)(n:Nat):List Int:=if p.getD n 0-1=0 then p.take n else p.set n (p.getD n 0-1)
theorem yJ(p:List Int)(n:Nat):(ct p n).length≤p.length:=by
 unfold ct
 split
 ·rw[List.length_take];omega
 ·rw[List.length_set];exact Nat.le_refl _
end Go.Am.Pu
end
section
/- A slide: the hole goes right or down until nothing is there. Plain words. -/
namespace Go.Am.Pu
def cel(g:List (List Int))(r c:Nat):Int:=(g.getD r []).getD c 0
def lC(g:List (List Int))(r c:Nat)(v:Int):List (List Int):=g.set r ((g.getD r []).set c v)
theorem xI{g:List (List Int)}{r c:Nat}(h:cel g r c≠0):r<g.length∧c<(g.getD r []).length:=by
 unfold cel at h
 by_cases h1:r<g.length
 ·refine⟨h1,?_⟩
  by_cases h2:c<(g.getD r []).length
  ·exact h2
  ·exact absurd (cO (by omega) 0) h
 ·rw[cO (xs:=g) (by omega)]at h
  simp at h
theorem jv(g:List (List Int))(r c:Nat)(v:Int):(lC g r c v).length=g.length:=by unfold lC;rw[List.length_set]
theorem cD(g:List (List Int))(r c:Nat)(v:Int)(q:Nat):((lC g r c v).getD q []).length=(g.getD q []).length:=by
 unfold lC
 by_cases e:q=r
 ·subst e
  by_cases h:q<g.length
  ·rw[aB (by rw[List.length_set];exact h),List.getElem_set_self,List.length_set]
  ·rw[cO (by rw[List.length_set];omega),cO (by omega)]
 ·rw[getD_set_ne (Ne.symm e)]
theorem kO{g:List (List Int)}{r c:Nat}(v:Int)(h1:r<g.length)(h2:c<(g.getD r []).length):cel (lC g r c v) r c=v:=by
 unfold cel lC
 rw[aB (xs:=g.set r _) (by rw[List.length_set];exact h1),List.getElem_set_self,aB (by rw[List.length_set];exact h2),List.getElem_set_self]
theorem jC{g:List (List Int)}{r c q x:Nat}(v:Int)(h: ¬(q=r∧x=c)):cel (lC g r c v) q x=cel g q x:=by
 unfold cel lC
 by_cases e:q=r
 ·subst e
  have hx:x≠c:=fun e=>h ⟨rfl,e⟩
  by_cases hl:q<g.length
  ·rw[aB (xs:=g.set q _) (by rw[List.length_set];exact hl),List.getElem_set_self,getD_set_ne (Ne.symm hx)]
  ·rw[cO (xs:=g.set q _) (by rw[List.length_set];omega),cO (xs:=g) (by omega)]
 ·rw[getD_set_ne (Ne.symm e)]
structure Sl (q : List Int) (g : List (List Int)) (i c : Nat) : Prop where
  q0 : ∀ r, 0 ≤ q.getD r 0
  qm : ∀ r, q.getD (r + 1) 0 ≤ q.getD r 0
  lm : ∀ r, (g.getD (r + 1) []).length ≤ (g.getD r []).length
  hi : i < g.length
  hc : c < (g.getD i []).length
  hq : q.getD i 0 ≤ c
  pos : ∀ r x, 0 ≤ cel g r x
  num : ∀ r x : Nat, q.getD r 0 ≤ x → x < (g.getD r []).length → ¬ (r = i ∧ x = c) → 1 ≤ cel g r x ∧ cel g r x ≤ 9
  row : ∀ r x : Nat, q.getD r 0 ≤ x → x + 1 < (g.getD r []).length → ¬ (r = i ∧ x = c) → ¬ (r = i ∧ x + 1 = c) → cel g r x ≤ cel g r (x + 1)
  col : ∀ r x : Nat, q.getD r 0 ≤ x → x < (g.getD (r + 1) []).length → ¬ (r = i ∧ x = c) → ¬ (r + 1 = i ∧ x = c) → cel g r x < cel g (r + 1) x
  FV : ∀ x : Nat, x + 1 = c → q.getD i 0 ≤ x → c + 1 < (g.getD i []).length → cel g i x ≤ cel g i (c + 1)
  colH : ∀ r : Nat, r + 1 = i → q.getD r 0 ≤ c → c < (g.getD (i + 1) []).length → cel g r c < cel g (i + 1) c
theorem Sl.right{q:List Int}{g:List (List Int)}{i c:Nat}(h:Sl q g i c)(hr:cel g i (c+1)≠0)(hb: ¬(0<cel g (i+1) c∧cel g (i+1) c≤cel g i (c+1))):
  Sl q (lC g i c (cel g i (c+1))) i (c+1):=by
 obtain⟨b1,b2⟩:=xI hr
 have hq:=h.hq
 have hrn:=h.num i (c+1) (by omega) b2 (by omega)
 have e0:=kO (cel g i (c+1)) h.hi h.hc
 have en: ∀r x,¬(r=i∧x=c)→cel (lC g i c (cel g i (c+1))) r x=cel g r x:=fun r x hh=>jC _ hh
 refine⟨h.q0,h.qm,fun r=> ?_,?_,?_,by omega,fun r x=> ?_,fun r x h1 h2 h3=> ?_,fun r x h1 h2 h3 h4=> ?_,fun r x h1 h2 h3 h4=> ?_,fun x h1 h2 h3=> ?_,fun r h1 h2 h3=> ?_⟩
 ·rw[cD,cD];exact h.lm r
 ·rw[jv];exact b1
 ·rw[cD];exact b2
 ·by_cases e:r=i∧x=c
  ·rw[e.1,e.2,e0];exact h.pos _ _
  ·rw[en r x e];exact h.pos _ _
 ·rw[cD]at h2
  by_cases e:r=i∧x=c
  ·rw[e.1,e.2,e0];exact hrn
  ·rw[en r x e];exact h.num r x h1 h2 e
 ·rw[cD]at h2
  by_cases e:r=i∧x=c
  ·exact(h4 ⟨e.1,by omega⟩).elim
  ·rw[en r x e]
   by_cases e':r=i∧x+1=c
   ·obtain⟨rfl,rfl⟩:=e'
    rw[e0]
    exact h.FV x rfl h1 b2
   ·rw[en r (x+1) e'];exact h.row r x h1 h2 e e'
 ·rw[cD]at h2
  by_cases e:r=i∧x=c
  ·obtain⟨rfl,rfl⟩:=e
   rw[e0,en _ _ (by omega)]
   have hqm:=h.qm r
   have h5:=(h.num (r+1) x (by omega) h2 (by omega)).1
   omega
  ·rw[en r x e]
   by_cases e':r+1=i∧x=c
   ·obtain⟨rfl,rfl⟩:=e'
    rw[e0]
    have hl:=h.lm r
    have h5:=h.row r x h1 (by omega) (by omega) (by omega)
    have h6:=h.col r (x+1) (by omega) b2 (by omega) (by omega)
    omega
   ·rw[en (r+1) x e']
    exact h.col r x h1 h2 e e'
 ·rw[cD]at h3
  have:x=c:=by omega
  subst this
  rw[e0,en _ _ (by omega)]
  exact h.row i (x+1) (by omega) h3 (by omega) (by omega)
 ·rw[cD]at h3
  rw[en _ _ (by omega),en _ _ (by omega)]
  subst h1
  have h5:=h.col r (c+1) h2 (by omega) (by omega) (by omega)
  have h6:=h.col (r+1) (c+1) (by omega) h3 (by omega) (by omega)
  omega
end Go.Am.Pu
end
section
/- A slide's end and its start. Plain words. -/
namespace Go.Am.Pu
theorem As{p:List Int}(hp:cM p=true)(r:Nat):p.getD (r+1) 0≤p.getD r 0:=by
 by_cases h:r+1<p.length
 ·exact rW hp r h
 ·rw[cO (by omega)]
  have:=(fK hp r).1
  rw[gd]at this
  exact this
theorem vD{p:List Int}{n:Nat}(hp:cM p=true)(hn:n<p.length)(hc:p.getD (n+1) 0<p.getD n 0)(r:Nat):(ct p n).getD r 0=if r=n then p.getD n 0-1 else p.getD r 0:=by
 unfold ct
 by_cases h:p.getD n 0-1=0
 ·rw[if_pos h]
  have h0:=(fK hp (n+1:Nat)).1
  rw[gd]at h0
  have hl:p.length≤n+1:=by
   refine Nat.le_of_not_lt fun hlt=> ?_
   have:=(cW hp).1 _ (List.getElem_mem hlt)
   rw[←aB hlt 0]at this
   omega
  by_cases e:r=n
  ·subst e
   rw[if_pos rfl,h,cO (by rw[List.length_take];omega)]
  ·rw[if_neg e]
   by_cases e2:r<n
   ·rw[aB (by rw[List.length_take];omega),List.getElem_take,aB (by omega)]
   ·rw[cO (by rw[List.length_take];omega),cO (by omega)]
 ·rw[if_neg h]
  by_cases e:r=n
  ·subst e
   rw[if_pos rfl,aB (by rw[List.length_set];exact hn),List.getElem_set_self]
  ·rw[if_neg e,getD_set_ne (Ne.symm e)]
structure G5 (t : Tab) : Prop where
  q0 : ∀ r, 0 ≤ t.1.getD r 0
  qm : ∀ r, t.1.getD (r + 1) 0 ≤ t.1.getD r 0
  lm : ∀ r, ((jk t).getD (r + 1) []).length ≤ ((jk t).getD r []).length
  num : ∀ r x : Nat, t.1.getD r 0 ≤ x → x < ((jk t).getD r []).length → 1 ≤ cel (jk t) r x ∧ cel (jk t) r x ≤ 9
  row : ∀ r x : Nat, t.1.getD r 0 ≤ x → x + 1 < ((jk t).getD r []).length → cel (jk t) r x ≤ cel (jk t) r (x + 1)
  col : ∀ r x : Nat, t.1.getD r 0 ≤ x → x < ((jk t).getD (r + 1) []).length → cel (jk t) r x < cel (jk t) (r + 1) x
end Go.Am.Pu
end
section
/- A tableau cell by cell; a slide's start. Plain words. -/
namespace Go.Am.Pu
theorem jN{t:Tab}(h:iD t=true):cM t.1=true∧cM (outer t)=true∧t.1.length≤t.2.length∧(∀i k,i<t.2.length→k<(t.2.getD i []).length→gU t i k=true):=by
 simp only[iD,dP,eM,Bool.and_eq_true,decide_eq_true_eq]at h
 obtain⟨⟨h1,h2,h3,h4,h5⟩,h6⟩:=h
 refine⟨h1,h4,h2,fun i k hi hk=> ?_⟩
 rw[fR]at h6
 have:=h6 i hi
 rw[fR]at this
 exact this k hk
end Go.Am.Pu
end
section
/- A partition less a box; the tableau that a slide leaves. Plain words. -/
namespace Go.Am.Pu
theorem nL: ∀(p:List Int) (prev s:Int),(∀x∈p,1≤x)→(0<p.length→p.getD 0 0≤prev)→(∀i,i+1<p.length→p.getD (i+1) 0≤p.getD i 0)→s+gM p≤9→ig p prev s=true
 | [],_,_,_,_,_,_=>rfl
 |x::xs,prev,s,h1,h2,h3,h4=>by
  have hs: ∀(l:List Int),(∀y∈l,1≤y)→0≤gM l:=by
   intro l
   induction l with
   |nil=>intro _;simp[gM]
   |cons y l ih=>
    intro h
    have a:=h y List.mem_cons_self
    have b:=ih (fun z hz=>h z (List.mem_cons_of_mem _ hz))
    simp only[gM];omega
  have hx:=h1 x List.mem_cons_self
  have hxs:=hs xs (fun z hz=>h1 z (List.mem_cons_of_mem _ hz))
  have h2':=h2 (by simp)
  simp only[List.getD_cons_zero]at h2'
  simp only[gM]at h4
  have ih:=nL xs x (s+x) (fun z hz=>h1 z (List.mem_cons_of_mem _ hz)) (fun hl=>by have:=h3 0 (by simpa using hl);simpa using this) (fun i hi=>by have:=h3 (i+1) (by simpa using hi);simpa using this) (by omega)
  simp only[ig,Bool.and_eq_true,decide_eq_true_eq]
  exact⟨hx,h2',by omega,ih⟩
theorem rG: ∀(p:List Int) (n:Nat) (v:Int),n<p.length→gM (p.set n v)=gM p-p.getD n 0+v
 | [],n,v,h=>by simp at h
 |x::xs,0,v,_=>by simp[gM];omega
 |x::xs,n+1,v,h=>by
  have:=rG xs n v (by simpa using h)
  simp only[List.set_cons_succ,gM,List.getD_cons_succ,this]
  omega
theorem xQ: ∀(p:List Int) (n:Nat),p.length=n+1→gM (p.take n)=gM p-p.getD n 0
 | [],n,h=>by simp at h
 | [x],0,_=>by simp[gM]
 |x::xs,n+1,h=>by
  have:=xQ xs n (by simpa using h)
  simp only[List.take_succ_cons,gM,List.getD_cons_succ,this]
  omega
 |x::y::xs,0,h=>by simp at h
theorem xi{p:List Int}{n:Nat}(hp:cM p=true)(hc:p.getD (n+1) 0<p.getD n 0)(h:p.getD n 0-1=0):p.length≤n+1:=by
 have h0:=(fK hp (n+1:Nat)).1
 rw[gd]at h0
 refine Nat.le_of_not_lt fun hlt=> ?_
 have:=(cW hp).1 _ (List.getElem_mem hlt)
 rw[←aB hlt 0]at this
 omega
theorem D0{p:List Int}{n:Nat}(hp:cM p=true)(hn:n<p.length)(hc:p.getD (n+1) 0<p.getD n 0){i:Nat}(hi:i<(ct p n).length):1≤(ct p n).getD i 0:=by
 rw[vD hp hn hc]
 have hl:=yJ p n
 have h1: ∀i,i<p.length→1≤p.getD i 0:=fun i hi=>by
  rw[aB hi]
  exact((cW hp).1 _ (List.getElem_mem hi)).1
 by_cases h:p.getD n 0-1=0
 ·unfold ct at hi
  rw[if_pos h,List.length_take]at hi
  rw[if_neg (by omega)]
  exact h1 i (by omega)
 ·have a:=h1 n hn
  have b:=h1 i (by omega)
  split<;>omega
theorem Cq{p:List Int}{n:Nat}(hp:cM p=true)(hn:n<p.length)(hc:p.getD (n+1) 0<p.getD n 0):cM (ct p n)=true:=by
 have hs:=cW hp
 have hg:=vD hp hn hc
 have hpn:1≤p.getD n 0:=by
  rw[aB hn]
  exact(hs.1 _ (List.getElem_mem hn)).1
 refine nL _ _ _ (fun x hx=> ?_) (fun _=> ?_) (fun i _=> ?_) ?_
 ·obtain⟨i,hi,rfl⟩:=List.getElem_of_mem hx
  rw[←aB hi 0]
  exact D0 hp hn hc hi
 ·rw[hg]
  have: ∀i,p.getD i 0≤9:=fun i=>by
   have:=(fK hp i).2
   rw[gd]at this
   exact this
  have a:=this 0
  have b:=this n
  split<;>omega
 ·rw[hg,hg]
  have:=As hp i
  by_cases e:i=n
  ·subst e
   rw[if_neg (by omega),if_pos rfl];omega
  ·rw[if_neg e]
   by_cases e2:i+1=n
   ·subst e2;rw[if_pos rfl];omega
   ·rw[if_neg e2];exact this
 ·have h9:=hs.2.1
  unfold ct
  split
  ·next h=>
   have hl:=xi hp hc h
   rw[xQ p n (by omega)]
   omega
  ·rw[rG p n _ hn]
   omega
def gr(q:List Int)(g:List (List Int))(n:Nat):List (List Int):=(List.range' 0 n).map fun r=>(g.getD r []).drop (q.getD r 0).toNat
theorem mU(q:List Int)(g:List (List Int))(n:Nat):(gr q g n).length=n:=by simp[gr]
theorem qe{q:List Int}{g:List (List Int)}{n r:Nat}(h:r<n):(gr q g n).getD r []=(g.getD r []).drop (q.getD r 0).toNat:=by
 rw[aB (by rw[mU];exact h)]
 simp[gr]
def qj(g:List (List Int))(i c:Nat):List (List Int):=g.set i ((g.getD i []).take c)
end Go.Am.Pu
namespace Go.Am.Pu
end Go.Am.Pu
end
section
/- What a slide leaves. Plain words. -/
namespace Go.Am.Pu
theorem B4{g:List (List Int)}{i c r:Nat}(hi:i<g.length):(qj g i c).getD r []=if r=i then(g.getD i []).take c else g.getD r []:=by
 unfold qj
 by_cases e:r=i
 ·subst e
  rw[if_pos rfl,aB (by rw[List.length_set];exact hi),List.getElem_set_self]
 ·rw[if_neg e,getD_set_ne (Ne.symm e)]
theorem n4(g:List (List Int))(i c:Nat):(qj g i c).length=g.length:=by unfold qj;rw[List.length_set]
theorem E6{g:List (List Int)}{i c r x:Nat}(hi:i<g.length)(hx:x<((qj g i c).getD r []).length):cel (qj g i c) r x=cel g r x:=by
 unfold cel
 rw[B4 hi]at hx⊢
 by_cases e:r=i
 ·subst e
  rw[if_pos rfl]at hx⊢
  rw[List.length_take]at hx
  rw[aB (by rw[List.length_take];exact hx),List.getElem_take]
  exact(aB (by omega) 0).symm
 ·rw[if_neg e]
structure Cb (t : Tab) (n : Nat) (g : List (List Int)) (i c : Nat) : Prop where
  sl : Sl (ct t.1 n) g i c
  len : g.length = t.2.length
  row : ∀ r, (g.getD r []).length = ((jk t).getD r []).length
  hi : i < (outer t).length
  end_ : (outer t).getD i 0 = c + 1
  cor : (outer t).getD (i + 1) 0 < (outer t).getD i 0
  cutl : ∀ r, (((qj g i c).getD r []).length : Int) = (ct (outer t) i).getD r 0
  ins : ∀ r, (ct t.1 n).getD r 0 ≤ (ct (outer t) i).getD r 0
  rows : fU 9 9 (qj g i c)
end Go.Am.Pu
end
section
/- The square that the reference slides in. Plain words. -/
namespace Go.Am.Pu
structure Sq (s g : List (List Int)) (i c : Nat) : Prop where
  len : s.length = 11
  row : ∀ r, r < 11 → (s.getD r []).length = 11
  at_ : ∀ r x, r < 11 → x < 11 → ¬ (r = i ∧ x = c) → cel s r x = cel g r x
  hole : cel s i c = 0
theorem Sq.step{s g:List (List Int)}{i c i' c':Nat}(h:Sq s g i c)(hi:i<g.length)(hc:c<(g.getD i []).length)(h1:i<11)(h2:c<11)(h3:i'<11)(h4:c'<11)(hne: ¬(i'=i∧c'=c))(v:Int):
  Sq (lC (lC s i c v) i' c' 0) (lC g i c v) i' c':=by
 refine⟨by rw[jv,jv];exact h.len,fun r hr=>by rw[cD,cD];exact h.row r hr,fun r x hr hx hn=> ?_,?_⟩
 ·rw[jC _ hn]
  by_cases e:r=i∧x=c
  ·obtain⟨rfl,rfl⟩:=e
   rw[kO _ (by rw[h.len];exact h1) (by rw[h.row _ h1];exact h2),kO _ hi hc]
  ·rw[jC _ e,jC _ e];exact h.at_ r x hr hx e
 ·rw[kO _ (by rw[jv,h.len];exact h3) (by rw[cD,h.row _ h3];exact h4)]
end Go.Am.Pu
end
section
/- What a slide leaves is a tableau. Plain words. -/
namespace Go.Am.Pu
theorem CQ{α:Type}(l:List α)(a x:Nat)(d:α):(l.drop a).getD x d=l.getD (a+x) d:=by
 simp[List.getD_eq_getElem?_getD,List.getElem?_drop]
section
variable {t : Tab} {n : Nat} {g : List (List Int)} {i c : Nat}
theorem Cb.cell(E:Cb t n g i c){r k:Nat}(hr:r<(ct (outer t) i).length)
  (hk:k<((gr (ct t.1 n) (qj g i c) (ct (outer t) i).length).getD r []).length):
  ((ct t.1 n).getD r 0).toNat+k<(g.getD r []).length∧((((ct t.1 n).getD r 0).toNat+k:Nat):Int)<(ct (outer t) i).getD r 0∧ ¬(r=i∧((ct t.1 n).getD r 0).toNat+k=c)∧
   ((gr (ct t.1 n) (qj g i c) (ct (outer t) i).length).getD r []).getD k 0=cel g r (((ct t.1 n).getD r 0).toNat+k):=by
 have hq:=E.sl.q0 r
 rw[qe hr]at hk⊢
 rw[List.length_drop]at hk
 have hx:((ct t.1 n).getD r 0).toNat+k<((qj g i c).getD r []).length:=by omega
 have hl:=E.cutl r
 have hcut:=B4 (c:=c) (r:=r) E.sl.hi
 refine⟨?_,by omega,fun e=> ?_,?_⟩
 ·rw[hcut]at hx
  by_cases e:r=i
  ·subst e;rw[if_pos rfl,List.length_take]at hx;omega
  ·rw[if_neg e]at hx;exact hx
 ·rw[hcut,if_pos e.1,List.length_take]at hx
  omega
 ·rw[CQ]
  exact E6 E.sl.hi hx
theorem Cb.GW(E:Cb t n g i c){r:Nat}(hr:r<(ct (outer t) i).length):
  (ct (outer t) i).getD r 0=(ct t.1 n).getD r 0+(((gr (ct t.1 n) (qj g i c) (ct (outer t) i).length).getD r []).length:Int):=by
 have hq:=E.sl.q0 r
 have hi:=E.ins r
 have hl:=E.cutl r
 rw[qe hr,List.length_drop]
 omega
end
theorem D6{p:List Int}{n:Nat}(hp:cM p=true)(hn:n<p.length)(hc:p.getD (n+1) 0<p.getD n 0):gM (ct p n)=gM p-1:=by
 unfold ct
 split
 ·next h=>
  have hl:=xi hp hc h
  rw[xQ p n (by omega)]
  omega
 ·rw[rG p n _ hn]
  omega
end Go.Am.Pu
namespace Go.Am.Pu
end Go.Am.Pu
end
section
/- Taking the least number out of a plain tableau; evacuation. Plain words. -/
namespace Go.Am.Pu
theorem Cb.out{t:Tab}{n:Nat}{g:List (List Int)}{i c:Nat}(E:Cb t n g i c):
  outer (ct t.1 n,gr (ct t.1 n) (qj g i c) (ct (outer t) i).length)=ct (outer t) i:=by
 refine List.ext_getElem (by rw[eO];exact mU _ _ _) fun r h1 h2=> ?_
 rw[←aB h1 0,←aB h2 0]
 have h3:r<(gr (ct t.1 n) (qj g i c) (ct (outer t) i).length).length:=by rw[mU];exact h2
 have:=iT (ct t.1 n) (gr (ct t.1 n) (qj g i c) (ct (outer t) i).length) 0 r h3
 rw[Nat.zero_add]at this
 exact this.trans (E.GW h2).symm
theorem BI{t:Tab}(h:cK t=true){r:Nat}(hr:r<t.2.length):1≤(t.2.getD r []).length:=by
 have hl:=ia h hr
 have hp:=(cW (kK h)).1 ((outer t)[r]'(by rw[eO];exact hr)) (List.getElem_mem _)
 rw[aB (by rw[eO];exact hr)]at hl
 omega
theorem w9{t:Tab}(h:cK t=true):gM (outer t)=t.2.flatten.length:=by
 unfold outer
 exact pq t.1 t.2 0 fun q _=>by rw[jT h];rfl
end Go.Am.Pu
end
section
/- Promotion. Plain words. -/
namespace Go.Am.Pu
def Small(rs:List (List Int)):Prop:= ∀i q,-100≤(rs.getD i []).getD q 0∧(rs.getD i []).getD q 0≤100
end Go.Am.Pu
end
section
/- Slides undone. Plain words. -/
namespace Go.Am.Pu
def leftOf(g:List (List Int))(i c:Nat):Int:=if c=0 then 0 else cel g i (c-1)
def zM(g:List (List Int))(i c:Nat):Int:=if i=0 then 0 else cel g (i-1) c
def sy:Nat→List (List Int)→Nat→Nat→List (List Int)×(Nat×Nat)
 |0,g,i,c=>(g,(i,c))
 |m+1,g,i,c=>if leftOf g i c=0∧zM g i c=0 then(g,(i,c))
  else if leftOf g i c≤zM g i c then sy m (lC g i c (zM g i c)) (i-1) c
  else sy m (lC g i c (leftOf g i c)) i (c-1)
structure Ag (f : Int → Int) (g h : List (List Int)) (i c : Nat) : Prop where
  len : h.length = g.length
  row : ∀ r, (h.getD r []).length = (g.getD r []).length
  at_ : ∀ r x, ¬ (r = i ∧ x = c) → cel h r x = f (cel g r x)
def Inn(q:List Int)(g:List (List Int)):Prop:= ∀r x:Nat,(x:Int)<q.getD r 0→cel g r x=0
theorem Inn.step{q:List Int}{g:List (List Int)}{i c:Nat}(h:Inn q g)(hq:q.getD i 0≤c)(v:Int):Inn q (lC g i c v):=by
 intro r x hx
 by_cases e:r=i∧x=c
 ·obtain⟨rfl,rfl⟩:=e;omega
 ·rw[jC _ e];exact h r x hx
theorem Ag.right{f:Int→Int}{q:List Int}{g h:List (List Int)}{i c:Nat}(hs:Sl q g i c)(hi:Inn q g)(hf: ∀a b x y,cel g a b<cel g x y→f (cel g a b)<f (cel g x y))(f0:f 0=0)
  (hr:cel g i (c+1)≠0) (ha:Ag f (lC g i c (cel g i (c+1))) h i (c+1)):
  ∃h',Ag f g h' i c∧ ∀m,sy (m+1) h i (c+1)=sy m h' i c:=by
 obtain⟨b1,b2⟩:=xI hr
 have f0': ∀a b,cel g a b=0→f (cel g a b)=0:=fun a b e=>by rw[e];exact f0
 have hl:leftOf h i (c+1)=f (cel g i (c+1)):=by
  unfold leftOf
  rw[if_neg (by omega),show c+1-1=c by omega,ha.at_ i c (by omega),kO _ hs.hi hs.hc]
 have hpos:0<f (cel g i (c+1)):=by
  have hp:=hs.pos i (c+1)
  have e:cel g g.length 0=0:=by unfold cel;rw[cO (Nat.le_refl _)];rfl
  have:=hf g.length 0 i (c+1) (by omega)
  rw[e,f0]at this
  exact this
 have hu:zM h i (c+1)<f (cel g i (c+1)):=by
  unfold zM
  by_cases e:i=0
  ·rw[if_pos e];exact hpos
  ·rw[if_neg e,ha.at_ _ _ (by omega),jC _ (by omega)]
   by_cases hq:q.getD (i-1) 0≤((c+1:Nat):Int)
   ·have hc:=hs.col (i-1) (c+1) hq (by rw[show i-1+1=i by omega];exact b2) (by omega) (by omega)
    rw[show i-1+1=i by omega]at hc
    exact hf _ _ _ _ hc
   ·rw[f0' _ _ (hi (i-1) (c+1) (by omega))];exact hpos
 have hhi:i<h.length:=by rw[ha.len,jv];exact b1
 have hhc:c+1<(h.getD i []).length:=by rw[ha.row,cD];exact b2
 refine⟨lC h i (c+1) (leftOf h i (c+1)),⟨by rw[jv,ha.len,jv],fun r=>by rw[cD,ha.row,cD],fun r x hn=> ?_⟩,fun m=> ?_⟩
 ·by_cases e:r=i∧x=c+1
  ·obtain⟨rfl,rfl⟩:=e
   rw[kO _ hhi hhc,hl]
  ·rw[jC _ e,ha.at_ r x e,jC _ hn]
 ·conv=>lhs;unfold sy
  rw[if_neg (by omega),if_neg (by omega)]
  rfl
def Occ(q:List Int)(v:Int)(g:List (List Int))(i c:Nat):Prop:= ∃r x:Nat,¬(r=i∧x=c)∧x<(g.getD r []).length∧q.getD r 0≤x∧cel g r x=v
theorem Occ.step{q:List Int}{v:Int}{g:List (List Int)}{i c a b:Nat}(h:Occ q v g i c)(hi:i<g.length)(hc:c<(g.getD i []).length)(hq:q.getD i 0≤c)(hne: ¬(a=i∧b=c)):Occ q v (lC g i c (cel g a b)) a b:=by
 obtain⟨r,x,h1,h2,h3,h4⟩:=h
 by_cases e:r=a∧x=b
 ·obtain⟨rfl,rfl⟩:=e
  exact⟨i,c,fun e=>hne ⟨e.1.symm,e.2.symm⟩,by rw[cD];exact hc,hq,by rw[kO _ hi hc];exact h4⟩
 ·exact⟨r,x,e,by rw[cD];exact h2,h3,by rw[jC _ h1];exact h4⟩
end Go.Am.Pu
end
section
/- Promotion of a standard tableau is standard, of the same shape, and can be undone. Plain words. -/
namespace Go.Am.Pu
theorem s8{t:Tab}(h0:t.1= [])(hp:cM (outer t)=true)(hn: ∀r x,r<t.2.length→x<(t.2.getD r []).length→1≤cel t.2 r x∧cel t.2 r x≤9)
  (hr: ∀r x,r<t.2.length→x+1<(t.2.getD r []).length→cel t.2 r x≤cel t.2 r (x+1)) (hc: ∀r x,r+1<t.2.length→x<(t.2.getD (r+1) []).length→cel t.2 r x<cel t.2 (r+1) x):cK t=true:=by
 simp only[cK,iD,dP,eM,Bool.and_eq_true,decide_eq_true_eq,h0]
 refine⟨⟨⟨rfl,by simp,rfl,hp,by simp,?_⟩,?_⟩,rfl⟩
 ·rw[fR]
  intro i hi
  simp at hi
 ·rw[fR]
  intro r hr'
  rw[fR]
  intro k hk
  simp only[gU,within,Bool.and_eq_true,Bool.or_eq_true,decide_eq_true_eq]
  refine⟨hn r k hr' hk,?_,?_⟩
  ·by_cases e:k=0
   ·exact .inl e
   ·right
    have:=hr r (k-1) hr' (by omega)
    rw[show k-1+1=k by omega]at this
    exact this
  ·by_cases e:r=0
   ·exact .inl e
   ·right
    have:=hc (r-1) k (by omega) (by rw[show r-1+1=r by omega];exact hk)
    rw[show r-1+1=r by omega]at this
    rw[show(r:Int)-1=((r-1:Nat):Int) by omega,sG (by omega),h0]
    simp only[List.getD_nil]
    rw[show(0:Int)+(k:Int)-0=(k:Int) by omega,gd]
    exact this
theorem ov{t:Tab}(h:cK t=true):(∀r x,r<t.2.length→x<(t.2.getD r []).length→1≤cel t.2 r x∧cel t.2 r x≤9)∧(∀r x,r<t.2.length→x+1<(t.2.getD r []).length→cel t.2 r x≤cel t.2 r (x+1)):=by
 have h':=h
 simp only[cK,Bool.and_eq_true]at h'
 obtain⟨_,_,_,hc⟩:=jN h'.1
 refine⟨fun r x hr hx=> ?_,fun r x hr hx=> ?_⟩
 ·have:=hc r x hr hx
  simp only[gU,within,Bool.and_eq_true,decide_eq_true_eq]at this
  exact this.1
 ·have:=hc r (x+1) hr hx
  simp only[gU,within,Bool.and_eq_true,Bool.or_eq_true,decide_eq_true_eq]at this
  exact this.2.1.resolve_left (by omega)
theorem mA{rs:List (List Int)}{r x:Nat}(hr:r<rs.length)(hx:x<(rs.getD r []).length):cel rs r x∈rs.flatten:=by
 refine List.mem_flatten.2 ⟨rs.getD r [],by rw[aB hr];exact List.getElem_mem hr,?_⟩
 unfold cel
 rw[aB hx]
 exact List.getElem_mem hx
theorem rf{rs:List (List Int)}{v:Int}(h:v∈rs.flatten): ∃r x,r<rs.length∧x<(rs.getD r []).length∧cel rs r x=v:=by
 obtain⟨l,hl,hv⟩:=List.mem_flatten.1 h
 obtain⟨r,hr,rfl⟩:=List.getElem_of_mem hl
 obtain⟨x,hx,rfl⟩:=List.getElem_of_mem hv
 have e:=aB hr ([]:List Int)
 refine⟨r,x,hr,by rw[e];exact hx,?_⟩
 unfold cel
 rw[e,aB hx]
theorem nU{t:Tab}(h:cK t=true)(hs:jt t=true):t.2.flatten.Nodup∧(∀x∈t.2.flatten,1≤x∧x≤t.2.flatten.length):=by
 simp only[jt,Bool.and_eq_true]at hs
 have h1:=yU hs.1
 obtain⟨a,b⟩:=(Ao fun x hx=>(h1 x hx).1).1 hs.2
 exact⟨a,fun x hx=>⟨(h1 x hx).1,b x hx⟩⟩
end Go.Am.Pu
end
section
/- Promotion keeps shapes and standardness. Plain words. -/
namespace Go.Am.Pu
section
variable {t : Tab}
theorem Ci{xs ys:List Int}{x:Nat}(h:x<xs.length):(xs++ys).getD x 0=xs.getD x 0:=by
 simp only[List.getD_eq_getElem?_getD,List.getElem?_append_left h]
theorem CV{xs ys:List Int}{x:Nat}(h:xs.length≤x):(xs++ys).getD x 0=ys.getD (x-xs.length) 0:=by
 simp only[List.getD_eq_getElem?_getD,List.getElem?_append_right h]
end
end Go.Am.Pu
end
section
/- Promotion undone: it is one to one. Plain words. -/
namespace Go.Am.Pu
def Ez(t:Tab)(n:Nat):List (List Int):=
 (if n=t.2.length then jk t++ [[]]else jk t).set n ((if n=t.2.length then jk t++ [[]]else jk t).getD n []++ [0])
section
variable {t : Tab}
end
end Go.Am.Pu
end
section
/- Orbits of promotion come back. Plain words. -/
namespace Go.Am.Pu
structure Good (t : Tab) : Prop where
  pl : cK t = true
  st : jt t = true
  ne : t.2.flatten.length ≠ 0
end Go.Am.Pu
end
section
/- A slide outwards, as the program has it; demotion. Plain words. -/
namespace Go.Am.Pu
section
variable {u : Tab}
end
end Go.Am.Pu
end
section
/- The last promotion of an orbit; orbits' sizes. Plain words. -/
namespace Go.Am.Pu
def By(t:Tab):Prop:=t.1= []∧fU 10 10 t.2
theorem By.ok{t:Tab}(h:By t):tJ t:=⟨by rw[h.1];simp,by have:=h.2.1;omega,fun r hr=>by have:=h.2.2 r hr;omega⟩
theorem By.size{t:Tab}(h:By t):zb t.2≤100:=by
 have a:=zY t.2 10 h.2.2
 have b:=h.2.1
 omega
section
attribute [local instance] D.real
variable {α β : Type} {x y v : Option α}
theorem bE{x:Option β}{z:β}{f:β→Option α}(h:x=some z)(g:f z=v):D.bnd x f=v:=by rw[h];exact g
theorem tN(g:x=v):D.test (D.no true) y x=v:=g
theorem tY(g:x=v):D.test true x y=v:=g
theorem tF(g:y=v):D.test false x y=v:=g
theorem tM(g:y=v):D.test (D.no false) y x=v:=g
theorem tG{p:Prop} [Decidable p](h:p)(g:x=v):D.test (decide p) x y=v:=by
 show(if decide p=true then x else y)=v
 rw[if_pos (decide_eq_true h)];exact g
theorem tX{p:Prop} [Decidable p](h: ¬p)(g:y=v):D.test (decide p) x y=v:=by
 show(if decide p=true then x else y)=v
 rw[decide_eq_false h];exact g
end
end Go.Am.Pu
end
section
/- The rewriting rules of the plain laws, in one. -/
namespace Go.Am.Pu
open Go Go.Am
attribute [local instance] D.real
theorem sss:type_of% @dv∧type_of% @dw∧type_of% @cg∧type_of% @b7∧type_of% @cf∧type_of% @bL∧type_of% @bU∧type_of% @bV∧type_of% @dj∧type_of% @b6∧type_of% @bR∧type_of% @bq∧type_of% @bp∧type_of% @ch∧type_of% @a8∧type_of% @bT∧type_of% @ck∧type_of% @cN∧type_of% @dx∧type_of% @ca∧type_of% @cd∧type_of% @eZ∧type_of% @w64∧type_of% @Int.toNat_natCast∧type_of% @decide_eq_true_eq∧type_of% @Int.ofNat_lt∧type_of% @Int.ofNat_le∧type_of% @Int.natCast_nonneg∧type_of% @decide_true∧type_of% @decide_false∧type_of% @Bool.not_true∧type_of% @Bool.not_false∧type_of% @Bool.false_eq_true∧type_of% @Bool.not_eq_true∧type_of% @Bool.true_and∧type_of% @Bool.and_true∧type_of% @Bool.false_and∧type_of% @Bool.and_false:=
 ⟨@dv,@dw,@cg,@b7,@cf,@bL,@bU,@bV,@dj,@b6,@bR,@bq,@bp,@ch,@a8,@bT,@ck,@cN,@dx,@ca,@cd,@eZ,@w64,@Int.toNat_natCast,@decide_eq_true_eq,@Int.ofNat_lt,@Int.ofNat_le,@Int.natCast_nonneg,@decide_true,@decide_false,@Bool.not_true,@Bool.not_false,@Bool.false_eq_true,@Bool.not_eq_true,@Bool.true_and,@Bool.and_true,@Bool.false_and,@Bool.and_false⟩
end Go.Am.Pu
end
section
/- Cells taken out of plain tableaux, one behind another. Plain words. -/
namespace Go.Am.Pu
def qU(rs:List (List Int)):Prop:= ∀i,i+1<rs.length→(rs.getD (i+1) []).length≤(rs.getD i []).length∧ ∀q,q<(rs.getD (i+1) []).length→(rs.getD i []).getD q 0<(rs.getD (i+1) []).getD q 0
theorem vA{r:List Int}{y:Int}: ∀{m q:Nat},mY r y m=some q→ ∀c,q<c→c<m→y≤r.getD c 0
 |0,q,h,_,_,_=>by simp[mY]at h
 |m+1,q,h,c,h1,h2=>by
  unfold mY at h
  split at h
  ·next hc=>injection h with h;omega
  ·next hc=>
   by_cases e:c=m
   ·subst e;omega
   ·exact vA h c h1 (by omega)
theorem rY: ∀(r:Nat) (rs:List (List Int)) (y:Int),(nr r rs y).1.length=rs.length∧ ∀i,((nr r rs y).1.getD i []).length=(rs.getD i []).length
 |0,_,_=>⟨rfl,fun _=>rfl⟩
 |r+1,rs,y=>by
  unfold nr
  split
  ·next q hq=>
   obtain⟨a,b⟩:=rY r (rs.set r ((rs.getD r []).set q y)) ((rs.getD r []).getD q 0)
   refine⟨by rw[a,List.length_set],fun i=> ?_⟩
   rw[b]
   by_cases e:i=r
   ·subst e
    by_cases h:i<rs.length
    ·rw[aB (by rw[List.length_set];exact h),List.getElem_set_self,List.length_set]
    ·rw[cO (by rw[List.length_set];omega),cO (xs:=rs) (by omega)]
   ·rw[getD_set_ne (Ne.symm e)]
  ·exact rY r rs y
theorem wU: ∀(r:Nat) (rs:List (List Int)) (y:Int) (q:Nat),r<rs.length→(∀i,i+1<r→(rs.getD (i+1) []).length≤(rs.getD i []).length∧ ∀q,q<(rs.getD (i+1) []).length→(rs.getD i []).getD q 0<(rs.getD (i+1) []).getD q 0)→
  (∀i,r≤i→i+1<rs.length→(rs.getD (i+1) []).length≤(rs.getD i []).length∧ ∀q,q<(rs.getD (i+1) []).length→(rs.getD i []).getD q 0<(rs.getD (i+1) []).getD q 0)→
  (∀i,i+1=r→(rs.getD r []).length≤(rs.getD i []).length∧q<(rs.getD i []).length∧(rs.getD i []).getD q 0<y∧(∀c,c<(rs.getD r []).length→c≠q→(rs.getD i []).getD c 0<(rs.getD r []).getD c 0)∧(∀c,q≤c→c<(rs.getD r []).length→y<(rs.getD r []).getD c 0))→
  qU (nr r rs y).1
 |0,rs,y,q,hr,_,hB,_=>fun i hi=>hB i (Nat.zero_le _) hi
 |r+1,rs,y,q,hr,hA,hB,hI=>by
  obtain⟨i1,i2,i3,i4,i5⟩:=hI r rfl
  obtain⟨q0,hq0⟩:=wZ i2 i3
  have hmax:=vA hq0
  obtain⟨k1,k2⟩:=tc hq0
  have hqq:q≤q0:=Nat.le_of_not_lt fun hlt=>by
   have:=hmax q hlt i2
   omega
  unfold nr
  rw[hq0]
  have hrow:(rs.set r ((rs.getD r []).set q0 y)).getD r []=(rs.getD r []).set q0 y:=by
   rw[aB (by rw[List.length_set];omega),List.getElem_set_self]
  have hne: ∀i,i≠r→(rs.set r ((rs.getD r []).set q0 y)).getD i []=rs.getD i []:=fun i h=>getD_set_ne (Ne.symm h) _ _
  have hset: ∀c,c≠q0→((rs.getD r []).set q0 y).getD c 0=(rs.getD r []).getD c 0:=fun c h=>getD_set_ne (Ne.symm h) _ _
  have hself:((rs.getD r []).set q0 y).getD q0 0=y:=by rw[aB (by rw[List.length_set];exact k1),List.getElem_set_self]
  refine wU r _ _ q0 (by rw[List.length_set];omega) (fun i hi=> ?_) (fun i hi hl=> ?_) (fun i hi=> ?_)
  ·rw[hne _ (by omega),hne _ (by omega)]
   exact hA i (by omega)
  ·rw[List.length_set]at hl
   by_cases e:i=r
   ·subst e
    rw[hne (i+1) (by omega),hrow,List.length_set]
    refine⟨i1,fun c hc=> ?_⟩
    by_cases e2:c=q0
    ·subst e2;rw[hself];exact i5 c hqq hc
    ·rw[hset c e2]
     by_cases e3:c=q
     ·subst e3
      have:=i5 c (Nat.le_refl _) hc
      omega
     ·exact i4 c hc e3
   ·rw[hne (i+1) (by omega),hne i e]
    exact hB i (by omega) hl
  ·subst hi
   obtain⟨a1,a2⟩:=hA i (by omega)
   rw[hrow,hne i (by omega),List.length_set]
   refine⟨a1,by omega,a2 q0 k1,fun c hc e=> ?_,fun c h1 h2=> ?_⟩
   ·rw[hset c e];exact a2 c hc
   ·by_cases e:c=q0
    ·subst e;rw[hself];exact k2
    ·rw[hset c e]
     have:=hmax c (by omega) h2
     omega
def dq(rs:List (List Int))(r:Nat):List (List Int):=
 if(rs.getD r []).length=1 then(rs.set r ((rs.getD r []).take ((rs.getD r []).length-1))).take r else rs.set r ((rs.getD r []).take ((rs.getD r []).length-1))
def eU(a b:List (List Int)):Prop:=a.length=b.length∧ ∀i,(a.getD i []).length=(b.getD i []).length
theorem getD_take{α:Type}{l:List α}{n i:Nat}(h:i<n)(d:α):(l.take n).getD i d=l.getD i d:=by
 simp only[List.getD_eq_getElem?_getD,List.getElem?_take,if_pos h]
theorem xk{a b:List (List Int)}(h:eU a b)(n:Nat):eU (a.take n) (b.take n):=by
 refine⟨by rw[List.length_take,List.length_take,h.1],fun i=> ?_⟩
 by_cases hi:i<n
 ·rw[getD_take hi,getD_take hi];exact h.2 i
 ·rw[cO (xs:=a.take n) (by rw[List.length_take];omega),cO (xs:=b.take n) (by rw[List.length_take];omega)]
theorem xK(rs:List (List Int))(r:Nat):eU (mr rs r).1 (dq rs r):=by
 have a:=rY r (rs.set r ((rs.getD r []).take ((rs.getD r []).length-1))) ((rs.getD r []).getD ((rs.getD r []).length-1) 0)
 unfold mr dq
 simp only
 split
 ·exact xk a r
 ·exact a
theorem zZ{a b:List (List Int)}(h:eU a b)(r:Nat):eU (dq a r) (dq b r):=by
 have hs:eU (a.set r ((a.getD r []).take ((a.getD r []).length-1))) (b.set r ((b.getD r []).take ((b.getD r []).length-1))):=by
  refine⟨by rw[List.length_set,List.length_set,h.1],fun i=> ?_⟩
  by_cases e:i=r
  ·subst e
   by_cases hi:i<a.length
   ·rw[aB (xs:=a.set _ _) (by rw[List.length_set];exact hi),List.getElem_set_self,aB (xs:=b.set _ _) (by rw[List.length_set,←h.1];exact hi),List.getElem_set_self,List.length_take,List.length_take,h.2 i]
   ·rw[cO (xs:=a.set _ _) (by rw[List.length_set];omega),cO (xs:=b.set _ _) (by rw[List.length_set,←h.1];omega)]
  ·rw[getD_set_ne (Ne.symm e),getD_set_ne (Ne.symm e)];exact h.2 i
 unfold dq
 rw[h.2 r]
 split
 ·rw[←h.2 r];rw[h.2 r]at*;exact xk hs r
 ·rw[h.2 r]at hs;exact hs
theorem eU.trans{a b c:List (List Int)}(h:eU a b)(h':eU b c):eU a c:=⟨h.1.trans h'.1,fun i=>(h.2 i).trans (h'.2 i)⟩
theorem Ee{rs:List (List Int)}(h:qU rs)(n:Nat):qU (rs.take n):=by
 intro i hi
 rw[List.length_take]at hi
 rw[getD_take (by omega),getD_take (by omega)]
 exact h i (by omega)
theorem yC{rs:List (List Int)}{r:Nat}(h:qU rs)(hr:r<rs.length)(hl:1≤(rs.getD r []).length)(hc:(rs.getD (r+1) []).length<(rs.getD r []).length):qU (mr rs r).1:=by
 have hrow:(rs.set r ((rs.getD r []).take ((rs.getD r []).length-1))).getD r []=(rs.getD r []).take ((rs.getD r []).length-1):=by
  rw[aB (by rw[List.length_set];exact hr),List.getElem_set_self]
 have hne: ∀i,i≠r→(rs.set r ((rs.getD r []).take ((rs.getD r []).length-1))).getD i []=rs.getD i []:=fun i h=>getD_set_ne (Ne.symm h) _ _
 have key:qU (nr r (rs.set r ((rs.getD r []).take ((rs.getD r []).length-1))) ((rs.getD r []).getD ((rs.getD r []).length-1) 0)).1:=by
  refine wU r _ _ ((rs.getD r []).length-1) (by rw[List.length_set];exact hr) (fun i hi=> ?_) (fun i hi hil=> ?_) (fun i hi=> ?_)
  ·rw[hne _ (by omega),hne _ (by omega)];exact h i (by omega)
  ·rw[List.length_set]at hil
   by_cases e:i=r
   ·subst e
    rw[hne (i+1) (by omega),hrow,List.length_take]
    refine⟨by omega,fun c hc'=> ?_⟩
    rw[getD_take (by omega)]
    exact(h i hil).2 c hc'
   ·rw[hne (i+1) (by omega),hne i e];exact h i hil
  ·subst hi
   obtain⟨a1,a2⟩:=h i hr
   rw[hrow,hne i (by omega),List.length_take]
   refine⟨by omega,by omega,a2 _ (by omega),fun c h1 h2=> ?_,fun c h1 h2=>by omega⟩
   rw[getD_take (by omega)]
   exact a2 c (by omega)
 unfold mr
 simp only
 split
 ·exact Ee key r
 ·exact key
end Go.Am.Pu
end
section
/- The greatest number of a standard tableau, and the tableau without it; a pair of tableaux unrolled. Plain words. -/
namespace Go.Am.Pu
section
variable {t : Tab}
theorem vd(h:cK t=true)(hs:jt t=true){a b x y:Nat}(ha:a<t.2.length)(hx:x<(t.2.getD a []).length)(hb:b<t.2.length)(hy:y<(t.2.getD b []).length)(e:cel t.2 a x=cel t.2 b y):a=b∧x=y:=by
 have nd:=(nU h hs).1
 rw[List.Nodup,List.pairwise_flatten]at nd
 have mem: ∀{r z:Nat},r<t.2.length→(hz:z<(t.2.getD r []).length)→cel t.2 r z∈t.2.getD r []:=fun{r z} _ hz=>by
  unfold cel
  rw[aB hz]
  exact List.getElem_mem hz
 have ab: ∀{a b x y:Nat},a<b→a<t.2.length→x<(t.2.getD a []).length→b<t.2.length→y<(t.2.getD b []).length→cel t.2 a x≠cel t.2 b y:=fun{a b x y} hab ha hx hb hy=>by
  have:=List.pairwise_iff_getElem.1 nd.2 a b ha hb hab
  exact this _ (by rw[←aB ha []];exact mem ha hx) _ (by rw[←aB hb []];exact mem hb hy)
 have e1:a=b:=by
  rcases Nat.lt_trichotomy a b with hl|hl|hl
  ·exact absurd e (ab hl ha hx hb hy)
  ·exact hl
  ·exact absurd e.symm (ab hl hb hy ha hx)
 subst e1
 refine⟨rfl,?_⟩
 have n2:=nd.1 _ (by rw[aB ha];exact List.getElem_mem ha:t.2.getD a []∈t.2)
 unfold cel at e
 rw[aB hx,aB hy]at e
 rcases Nat.lt_trichotomy x y with hl|hl|hl
 ·exact absurd e (List.pairwise_iff_getElem.1 n2 x y hx hy hl)
 ·exact hl
 ·exact absurd e.symm (List.pairwise_iff_getElem.1 n2 y x hy hx hl)
theorem kM(h:cK t=true)(hs:jt t=true){a x:Nat}{v:Int}(ha:a<t.2.length)(hx:x<(t.2.getD a []).length)(e:cel t.2 a x=v):rowOf t v=a:=by
 have hf:t.2.findIdx (fun r=>has r v)=a:=by
  rw[List.findIdx_eq ha]
  refine⟨?_,fun j hj=> ?_⟩
  ·rw[←aB ha [],uv,←e]
   unfold cel
   rw[aB hx]
   exact List.getElem_mem hx
  ·rw[Bool.eq_false_iff]
   intro hc
   rw[uv]at hc
   obtain⟨y,hy,e2⟩:=List.getElem_of_mem hc
   have hjl:j<t.2.length:=by omega
   have hy':y<(t.2.getD j []).length:=by rw[aB hjl];exact hy
   have e3:cel t.2 j y=v:=by
    unfold cel
    rw[aB hy']
    simp only[aB hjl]
    exact e2
   have:=vd h hs hjl hy' ha hx (by rw[e,e3])
   omega
 unfold rowOf Cm
 rw[hf,if_pos ha]
theorem Di(h:cK t=true)(hs:jt t=true)(hn:t.2.flatten.length≠0): ∃a:Nat,a<t.2.length∧1≤(t.2.getD a []).length∧cel t.2 a ((t.2.getD a []).length-1)=t.2.flatten.length∧(t.2.getD (a+1) []).length<(t.2.getD a []).length∧rowOf t t.2.flatten.length=a:=by
 have ho:mL t.2.flatten=true:=by
  have:=hs
  simp only[jt,Bool.and_eq_true]at this
  exact this.2
 obtain⟨a,x,ha,hx,e⟩:=rf (me.1 ho t.2.flatten.length (jr.2 (by omega)))
 have hb:=(nU h hs).2
 obtain⟨c1,c2⟩:=ov h
 have hx1:x+1=(t.2.getD a []).length:=by
  refine Nat.le_antisymm hx (Nat.le_of_not_lt fun hlt=> ?_)
  have k1:=c2 a x ha hlt
  have k2:=(hb _ (mA ha hlt)).2
  have:=vd h hs ha hx ha hlt (by omega)
  omega
 have hbel:(t.2.getD (a+1) []).length≤x:=by
  refine Nat.le_of_not_lt fun hlt=> ?_
  have ha1:a+1<t.2.length:=Nat.lt_of_not_le fun hle=>by rw[cO hle]at hlt;simp at hlt
  have k1:=(qK h a ha1).2 x hlt
  have k2:=(hb _ (mA ha1 hlt)).2
  unfold cel at e k2
  omega
 refine⟨a,ha,by omega,by rw[show(t.2.getD a []).length-1=x by omega];exact e,by omega,kM h hs ha hx e⟩
theorem qA{rs:List (List Int)}{a:Nat}(ha:a<rs.length)(hc:(rs.getD (a+1) []).length<(rs.getD a []).length)(hp: ∀r,r<rs.length→1≤(rs.getD r []).length)(r:Nat):(dq rs a).getD r []=if r=a then(rs.getD a []).take ((rs.getD a []).length-1)else rs.getD r []:=by
 have hset:(rs.set a ((rs.getD a []).take ((rs.getD a []).length-1))).getD r []=if r=a then(rs.getD a []).take ((rs.getD a []).length-1)else rs.getD r []:=by
  by_cases e:r=a
  ·subst e;rw[if_pos rfl,aB (by rw[List.length_set];exact ha),List.getElem_set_self]
  ·rw[if_neg e,getD_set_ne (Ne.symm e)]
 unfold dq
 split
 ·next h1=>
  by_cases hr:r<a
  ·rw[getD_take hr,hset]
  ·rw[cO (by rw[List.length_take];omega)]
   by_cases e:r=a
   ·subst e;rw[if_pos rfl,h1];rfl
   ·rw[if_neg e]
    have hlast:rs.length≤a+1:=Nat.le_of_not_lt fun hlt=>by
     have:=hp (a+1) hlt
     omega
    rw[cO (by omega)]
 ·exact hset
theorem u3{rs:List (List Int)}{a:Nat}(ha:a<rs.length):(dq rs a).length=if(rs.getD a []).length=1 then a else rs.length:=by
 unfold dq
 split
 ·rw[List.length_take,List.length_set];omega
 ·rw[List.length_set]
theorem Ev(h:cK t=true)(hs:jt t=true){a:Nat}(hn:t.2.flatten.length≠0)(ha:a<t.2.length)(h1:1≤(t.2.getD a []).length)(htop:cel t.2 a ((t.2.getD a []).length-1)=t.2.flatten.length)(hc:(t.2.getD (a+1) []).length<(t.2.getD a []).length):
  cK (([],dq t.2 a):Tab)=true∧jt (([],dq t.2 a):Tab)=true∧(dq t.2 a).flatten.length+1=t.2.flatten.length∧ ∀v,1≤v→v<(t.2.flatten.length:Int)→rowOf ([],dq t.2 a) v=rowOf t v:=by
 have hpos:=fun r (hr:r<t.2.length)=>BI h hr
 have hrow:=qA ha hc hpos
 have hlen:=u3 ha
 obtain⟨c1,c2⟩:=ov h
 have c3:=qK h
 have hcorner:(outer t).getD (a+1) 0<(outer t).getD a 0:=by
  rw[ia h ha]
  by_cases e:a+1<t.2.length
  ·rw[ia h e];omega
  ·rw[cO (by rw[eO];omega)];omega
 have hal:a<(outer t).length:=by rw[eO];exact ha
 have hout:outer (([],dq t.2 a):Tab)=ct (outer t) a:=by
  have hdl:(ct (outer t) a).length=(dq t.2 a).length:=by
   rw[hlen]
   unfold ct
   rw[ia h ha]
   by_cases e:(t.2.getD a []).length=1
   ·rw[if_pos (by omega),if_pos e,List.length_take,eO];omega
   ·rw[if_neg (by omega),if_neg e,List.length_set,eO]
  refine List.ext_getElem (by rw[eO,hdl]) fun r k1 k2=> ?_
  rw[←aB k1 0,←aB k2 0,vD (kK h) hal hcorner]
  have k3:r<(dq t.2 a).length:=by rw[eO]at k1;exact k1
  have:=iT [] (dq t.2 a) 0 r k3
  unfold outer at this⊢
  rw[this,hrow]
  have hrl:r<t.2.length:=by
   rw[hlen]at k3
   split at k3<;>omega
  have po:=ia h hrl
  have pa:=ia h ha
  unfold outer at po pa
  by_cases e:r=a
  ·subst e
   rw[if_pos rfl,if_pos rfl,List.length_take,pa]
   simp only[List.getD_nil]
   omega
  ·rw[if_neg e,if_neg e,po]
   simp only[List.getD_nil]
   omega
 have hcel: ∀{r x:Nat},x<((dq t.2 a).getD r []).length→x<(t.2.getD r []).length∧cel (dq t.2 a) r x=cel t.2 r x:=fun{r x} hx=>by
  unfold cel
  rw[hrow]at hx⊢
  by_cases e:r=a
  ·subst e
   rw[if_pos rfl,List.length_take]at hx
   rw[if_pos rfl,getD_take (by omega)]
   exact⟨by omega,rfl⟩
  ·rw[if_neg e]at hx⊢
   exact⟨hx,rfl⟩
 have hrl: ∀{r:Nat},r<(dq t.2 a).length→r<t.2.length:=fun{r} hr=>by
  rw[hlen]at hr
  split at hr<;>omega
 have hin: ∀{r x:Nat},x<(t.2.getD r []).length→ ¬(r=a∧x+1=(t.2.getD a []).length)→x<((dq t.2 a).getD r []).length:=fun{r x} hx hne=>by
  rw[hrow]
  by_cases e:r=a
  ·subst e
   rw[if_pos rfl,List.length_take]
   have: ¬x+1=(t.2.getD r []).length:=fun e=>hne ⟨rfl,e⟩
   omega
  ·rw[if_neg e];exact hx
 have hpl:cK (([],dq t.2 a):Tab)=true:=by
  refine s8 rfl (by rw[hout];exact Cq (kK h) hal hcorner) (fun r x hr hx=> ?_) (fun r x hr hx=> ?_) (fun r x hr hx=> ?_)
  ·obtain⟨k1,k2⟩:=hcel hx
   rw[k2];exact c1 r x (hrl hr) k1
  ·obtain⟨k1,k2⟩:=hcel hx
   obtain⟨_,k4⟩:=hcel (show x<((dq t.2 a).getD r []).length from Nat.lt_of_succ_lt hx)
   rw[k2,k4];exact c2 r x (hrl hr) k1
  ·obtain⟨k1,k2⟩:=hcel hx
   have hr1:=hrl hr
   obtain⟨d1,d2⟩:=c3 r hr1
   have hxr:x<((dq t.2 a).getD r []).length:=by
    refine hin (by omega) fun e=> ?_
    rw[e.1]at k1
    omega
   obtain⟨_,k4⟩:=hcel hxr
   rw[k2,k4]
   exact d2 x k1
 have hfl:(dq t.2 a).flatten.length+1=t.2.flatten.length:=by
  have e1:=w9 hpl
  rw[hout,D6 (kK h) hal hcorner,w9 h]at e1
  simp only at e1
  omega
 have ho:mL t.2.flatten=true:=by
  have:=hs
  simp only[jt,Bool.and_eq_true]at this
  exact this.2
 have hcells: ∀v,1≤v→v<(t.2.flatten.length:Int)→ ∃r x,r<(dq t.2 a).length∧x<((dq t.2 a).getD r []).length∧cel (dq t.2 a) r x=v∧r<t.2.length∧x<(t.2.getD r []).length∧cel t.2 r x=v:=by
  intro v v1 v2
  obtain⟨r,x,hr,hx,e⟩:=rf (me.1 ho v (jr.2 (by omega)))
  have hx':x<((dq t.2 a).getD r []).length:=by
   refine hin hx fun e2=> ?_
   rw[e2.1,show x=(t.2.getD a []).length-1 by omega,htop]at e
   omega
  exact⟨r,x,Nat.lt_of_not_le fun hle=>by rw[cO hle]at hx';simp at hx',hx',by rw[(hcel hx').2];exact e,hr,hx,e⟩
 have hst:jt (([],dq t.2 a):Tab)=true:=by
  have hp':=hpl
  simp only[cK,Bool.and_eq_true]at hp'
  simp only[jt,Bool.and_eq_true]
  refine⟨hp'.1,me.2 fun v hv=> ?_⟩
  rw[jr]at hv
  obtain⟨r,x,q1,q2,q3,_⟩:=hcells v hv.1 (by omega)
  rw[←q3]
  exact mA q1 q2
 refine⟨hpl,hst,hfl,fun v v1 v2=> ?_⟩
 obtain⟨r,x,q1,q2,q3,q4,q5,q6⟩:=hcells v v1 v2
 rw[kM h hs q4 q5 q6,kM hpl hst q1 q2 q3]
end
structure Unr (q : Tab) (k : Nat) (P Q : List (List Int)) : Prop where
  pl : cK (([], Q) : Tab) = true
  st : jt (([], Q) : Tab) = true
  fl : Q.flatten.length = k
  col : qU P
  same : eU P Q
  p9 : fU 9 9 P
  row : ∀ v, 1 ≤ v → v ≤ (k : Int) → rowOf ([], Q) v = rowOf q v
theorem Unr.step{q:Tab}{k:Nat}{P Q:List (List Int)}(h:Unr q (k+1) P Q): ∃a:Nat,rowOf q ((k+1:Nat):Int)=a∧a<Q.length∧1≤(Q.getD a []).length∧cel Q a ((Q.getD a []).length-1)=(k+1:Nat)∧(Q.getD (a+1) []).length<(Q.getD a []).length∧Unr q k (mr P a).1 (dq Q a):=by
 have hfl:(([],Q):Tab).2.flatten.length=k+1:=h.fl
 obtain⟨a,a1,a2,a3,a4,a5⟩:=Di h.pl h.st (by omega)
 obtain⟨b1,b2,b3,b4⟩:=Ev h.pl h.st (by omega) a1 a2 a3 a4
 simp only at a1 a2 a3 a4 b3
 have hP1:a<P.length:=by rw[h.same.1];exact a1
 refine⟨a,?_,a1,a2,by rw[a3,h.fl],a4,⟨b1,b2,by have:=h.fl;omega,yC h.col hP1 (by rw[h.same.2];exact a2) (by rw[h.same.2,h.same.2];exact a4),(xK P a).trans (zZ h.same a),xO h.p9 a,fun v v1 v2=> ?_⟩⟩
 ·rw[←h.row _ (by omega) (Int.le_refl _),←a5,hfl]
 ·rw[b4 v v1 (by rw[hfl];omega)]
  exact h.row v v1 (by omega)
end Go.Am.Pu
namespace Go.Am.Pu
end Go.Am.Pu
end
section
/- Insertion keeps tableaux; where the new cells lie; a tableau from its word. Plain words. -/
namespace Go.Am.Pu
def nc(r:List Int):Prop:= ∀i,i+1<r.length→r.getD i 0≤r.getD (i+1) 0
theorem nc.le{r:List Int}(h:nc r): ∀(d i:Nat),i+d<r.length→r.getD i 0≤r.getD (i+d) 0
 |0,i,_=>Int.le_refl _
 |d+1,i,hi=>by
  have a:=nc.le h d i (by omega)
  have b:=h (i+d) (by omega)
  rw[show i+(d+1)=i+d+1 by omega]
  omega
theorem nc.mono{r:List Int}(h:nc r){i j:Nat}(hij:i≤j)(hj:j<r.length):r.getD i 0≤r.getD j 0:=by
 have:=h.le (j-i) i (by omega)
 rw[show i+(j-i)=j by omega]at this
 exact this
def fst(r:List Int)(x:Int):Nat:=r.findIdx fun n=>decide (x<n)
theorem xM{r:List Int}{x:Int}:fst r x≤r.length:=List.findIdx_le_length
theorem D2{r:List Int}{x:Int}(h:fst r x<r.length):x<r.getD (fst r x) 0:=by
 have:=qI (p:=fun n=>decide (x<n)) h
 exact of_decide_eq_true this
theorem xy{r:List Int}{x:Int}{i:Nat}(h:i<fst r x):r.getD i 0≤x:=by
 have h1:i<r.length:=Nat.lt_of_lt_of_le h xM
 have h2:=List.not_of_lt_findIdx h
 rw[aB h1]
 exact Int.not_lt.1 (of_decide_eq_false h2)
theorem jc(r:List Int)(rs:List (List Int))(x:Int):bn (r::rs) x=if fst r x<r.length then(r.set (fst r x) x::(bn rs (r.getD (fst r x) 0)).1,(bn rs (r.getD (fst r x) 0)).2+1)else((r++ [x])::rs,0):=rfl
def Ft(r:List Int):List (List Int)→Prop
 | []=>True
 |s::_=>s.length≤r.length∧ ∀q,q<s.length→r.getD q 0<s.getD q 0
def SSR:List (List Int)→Prop
 | []=>True
 |r::rs=>0<r.length∧nc r∧Ft r rs∧SSR rs
theorem iG{r:List Int}{i:Nat}(x:Int)(h:i<r.length)(q:Nat):(r.set i x).getD q 0=if q=i then x else r.getD q 0:=by
 by_cases e:q=i
 ·subst e;rw[if_pos rfl,aB (by rw[List.length_set];exact h),List.getElem_set_self]
 ·rw[if_neg e,getD_set_ne (Ne.symm e)]
theorem fA{r:List Int}(x:Int)(q:Nat):(r++ [x]).getD q 0=if q=r.length then x else r.getD q 0:=by
 by_cases h:q<r.length
 ·rw[Ci h,if_neg (by omega)]
 ·rw[CV (by omega)]
  by_cases e:q=r.length
  ·rw[if_pos e,e,Nat.sub_self];rfl
  ·rw[if_neg e,cO (by simp;omega),cO (by omega)]
theorem EA{r:List Int}{x:Int}(h:nc r)(hf:fst r x<r.length):nc (r.set (fst r x) x):=by
 intro i hi
 rw[List.length_set]at hi
 rw[iG x hf,iG x hf]
 have h0:=h i hi
 by_cases e1:i=fst r x
 ·rw[if_pos e1,if_neg (by omega)]
  have:=D2 hf
  rw[←e1]at this
  omega
 ·rw[if_neg e1]
  by_cases e2:i+1=fst r x
  ·rw[if_pos e2];exact xy (by omega)
  ·rw[if_neg e2];exact h0
theorem EU{r:List Int}{x:Int}(h:nc r)(hf: ¬fst r x<r.length):nc (r++ [x]):=by
 intro i hi
 rw[List.length_append,List.length_singleton]at hi
 rw[fA,fA,if_neg (by omega)]
 by_cases e:i+1=r.length
 ·rw[if_pos e]
  have:= @xM r x
  exact xy (by omega)
 ·rw[if_neg e];exact h i (by omega)
theorem El{r:List Int}{x:Int}{rs:List (List Int)}(h:nc r)(hf:fst r x<r.length)(ho:Ft r rs):Ft (r.set (fst r x) x) (bn rs (r.getD (fst r x) 0)).1:=by
 have hy:=D2 hf
 have hle: ∀q,q<r.length→(r.set (fst r x) x).getD q 0≤r.getD q 0:=fun q hq=>by
  rw[iG x hf]
  split
  ·next e=>rw[e];omega
  ·exact Int.le_refl _
 have hlow: ∀p,p≤fst r x→(r.set (fst r x) x).getD p 0<r.getD (fst r x) 0:=fun p hp=>by
  rw[iG x hf]
  split
  ·exact hy
  ·have:=xy (r:=r) (x:=x) (i:=p) (by omega)
   omega
 cases rs with
 |nil=>
  show([r.getD (fst r x) 0]:List Int).length≤_∧_
  refine⟨by rw[List.length_set];simp;omega,fun q hq=> ?_⟩
  have e:q=0:=by simp at hq;exact hq
  subst e
  exact hlow 0 (by omega)
 |cons s rs=>
  obtain⟨o1,o2⟩:=ho
  have hp:fst s (r.getD (fst r x) 0)≤fst r x:=by
   refine Nat.le_of_not_lt fun hlt=> ?_
   have hs:fst r x<s.length:=Nat.lt_of_lt_of_le hlt xM
   have a:=xy hlt
   have b:=o2 _ hs
   omega
  rw[jc]
  by_cases c:fst s (r.getD (fst r x) 0)<s.length
  ·rw[if_pos c]
   refine⟨by rw[List.length_set,List.length_set];exact o1,fun q hq=> ?_⟩
   rw[List.length_set]at hq
   rw[iG (r:=s) _ c]
   split
   ·next e=>rw[e];exact hlow _ hp
   ·have a:=hle q (by omega)
    have b:=o2 q hq
    omega
  ·rw[if_neg c]
   have hsl:fst s (r.getD (fst r x) 0)=s.length:=Nat.le_antisymm xM (Nat.le_of_not_lt c)
   refine⟨by rw[List.length_set,List.length_append,List.length_singleton];omega,fun q hq=> ?_⟩
   rw[List.length_append,List.length_singleton]at hq
   rw[fA]
   split
   ·next e=>rw[e];exact hlow _ (by omega)
   ·have a:=hle q (by omega)
    have b:=o2 q (by omega)
    omega
theorem BS: ∀(rs:List (List Int)) (x:Int),SSR rs→SSR (bn rs x).1
 | [],x,_=>⟨by simp,fun i hi=>by simp at hi,trivial,trivial⟩
 |r::rs,x,h=>by
  obtain⟨h1,h2,h3,h4⟩:=h
  rw[jc]
  split
  ·next c=>exact⟨by rw[List.length_set];exact h1,EA h2 c,El h2 c h3,BS rs _ h4⟩
  ·next c=>
   refine⟨by simp,EU h2 c,?_,h4⟩
   cases rs with
   |nil=>trivial
   |cons s rs=>
    obtain⟨o1,o2⟩:=h3
    refine⟨by rw[List.length_append];omega,fun q hq=> ?_⟩
    rw[fA,if_neg (by omega)]
    exact o2 q hq
end Go.Am.Pu
end
section
/- Plain tableaux, row by row; a tableau from its word; words inserted. Plain words. -/
namespace Go.Am.Pu
theorem xE: ∀{rs:List (List Int)},SSR rs→ ∀r,r<rs.length→0<(rs.getD r []).length∧nc (rs.getD r [])
 |r::rs,h,0,_=>⟨h.1,h.2.1⟩
 |r::rs,h,q+1,hq=>xE h.2.2.2 q (by simpa using hq)
theorem xL: ∀{rs:List (List Int)},SSR rs→qU rs
 | [],_,i,hi=>by simp at hi
 | [r],_,i,hi=>by simp at hi
 |r::s::rs,h,0,_=>h.2.2.1
 |r::s::rs,h,i+1,hi=>xL h.2.2.2 i (by simpa using hi)
theorem w5: ∀{rs:List (List Int)},(∀r,r<rs.length→0<(rs.getD r []).length∧nc (rs.getD r []))→qU rs→SSR rs
 | [],_,_=>trivial
 |r::rs,h1,h2=>by
  refine⟨(h1 0 (by simp)).1,(h1 0 (by simp)).2,?_,w5 (fun q hq=>h1 (q+1) (by simpa using hq)) (fun i hi=>h2 (i+1) (by simpa using hi))⟩
  cases rs with
  |nil=>trivial
  |cons s rs=>exact h2 0 (by simp)
theorem pC(rs:List (List Int)){i:Nat}(h:i<rs.length):(outer (([],rs):Tab)).getD i 0=(rs.getD i []).length:=by
 have:=iT [] rs 0 i h
 unfold outer
 rw[this]
 simp
theorem rL{rs:List (List Int)}(h:SSR rs)(hn: ∀x∈rs.flatten,1≤x∧x≤9)(h9:rs.flatten.length≤9):cK (([],rs):Tab)=true:=by
 have hr:=fun r hr=>xE h r hr
 have hc:=xL h
 have hrl: ∀r,r<rs.length→(rs.getD r []).length≤9:=fun r h1=>by
  have:=uD (rs:=rs) (r:=rs.getD r []) (by rw[aB h1];exact List.getElem_mem h1)
  omega
 refine s8 rfl ?_ (fun r x h1 h2=>hn _ (mA h1 h2)) (fun r x h1 h2=>(hr r h1).2 x h2) (fun r x h1 h2=>(hc r h1).2 x h2)
 have hs:gM (outer (([],rs):Tab))=rs.flatten.length:=pq [] rs 0 fun q _=>by simp
 refine nL _ 9 0 (fun x hx=> ?_) (fun h0=> ?_) (fun i hi=> ?_) (by omega)
 ·obtain⟨i,hi,rfl⟩:=List.getElem_of_mem hx
  have hi':i<rs.length:=by rw[eO]at hi;exact hi
  rw[←aB hi 0,pC rs hi']
  have:=(hr i hi').1
  omega
 ·have h0':0<rs.length:=by rw[eO]at h0;exact h0
  rw[pC rs h0']
  have:=hrl 0 h0'
  omega
 ·have hi':i+1<rs.length:=by rw[eO]at hi;exact hi
  rw[pC rs hi',pC rs (by omega)]
  have:=(hc i hi').1
  omega
theorem BM: ∀(rs:List (List Int)) (x z:Int),z∈(bn rs x).1.flatten→z=x∨z∈rs.flatten
 | [],x,z,h=>by simp[bn]at h;exact .inl h
 |r::rs,x,z,h=>by
  rw[jc]at h
  split at h
  ·next c=>
   simp only[List.flatten_cons,List.mem_append]at h⊢
   rcases h with h|h
   ·rcases List.mem_or_eq_of_mem_set h with h|h
    ·exact .inr (.inl h)
    ·exact .inl h
   ·rcases BM rs _ z h with h|h
    ·right;left
     rw[h,aB c]
     exact List.getElem_mem c
    ·exact .inr (.inr h)
  ·simp only[List.flatten_cons,List.mem_append,List.mem_singleton]at h⊢
   rcases h with(h|h)|h
   ·exact .inr (.inl h)
   ·exact .inl h
   ·exact .inr (.inr h)
theorem zQ: ∀(rs:List (List Int)) (x:Int),(bn rs x).1.flatten.length=rs.flatten.length+1
 | [],x=>by simp[bn]
 |r::rs,x=>by
  rw[jc]
  split
  ·have:=zQ rs (r.getD (fst r x) 0)
   simp only[List.flatten_cons,List.length_append,List.length_set]
   omega
  ·simp only[List.flatten_cons,List.length_append,List.length_singleton]
   omega
theorem ug: ∀(rs:List (List Int)) (x:Int),(bn rs x).2≤rs.length∧((bn rs x).1.length=if(bn rs x).2=rs.length then rs.length+1 else rs.length)∧ ∀i,((bn rs x).1.getD i []).length=if i=(bn rs x).2 then(rs.getD i []).length+1 else(rs.getD i []).length
 | [],x=>by
  refine⟨Nat.le_refl _,rfl,fun i=> ?_⟩
  cases i with
  |zero=>rfl
  |succ i=>simp[bn]
 |r::rs,x=>by
  rw[jc]
  split
  ·next c=>
   obtain⟨a,b,d⟩:=ug rs (r.getD (fst r x) 0)
   refine⟨by simp only[List.length_cons];omega,?_,fun i=> ?_⟩
   ·simp only[List.length_cons,b,Nat.add_right_cancel_iff]
    split<;>rfl
   ·cases i with
    |zero=>simp
    |succ i=>
     have:=d i
     simp only[Nat.add_right_cancel_iff]
     exact this
  ·refine⟨Nat.zero_le _,by simp,fun i=> ?_⟩
   cases i with
   |zero=>simp
   |succ i=>simp
def jZ:List Int→List (List Int)→List (List Int)
 | [],P=>P
 |x::w,P=>jZ w (bn P x).1
theorem nj: ∀(v w:List Int) (P:List (List Int)),jZ (v++w) P=jZ w (jZ v P)
 | [],_,_=>rfl
 |x::v,w,P=>nj v w _
end Go.Am.Pu
end
section
/- The recording tableau is standard, and its descents are the word's. Plain words. -/
namespace Go.Am.Pu
def gT(Q:List (List Int))(a:Nat)(v:Int):List (List Int):=if a=Q.length then Q++ [[v]]else Q.set a (Q.getD a []++ [v])
theorem pE{Q:List (List Int)}{a:Nat}(v:Int)(ha:a≤Q.length)(i:Nat):(gT Q a v).getD i []=if i=a then Q.getD a []++ [v]else Q.getD i []:=by
 unfold gT
 by_cases e:a=Q.length
 ·rw[if_pos e]
  by_cases h:i<Q.length
  ·rw[if_neg (by omega)]
   simp only[List.getD_eq_getElem?_getD,List.getElem?_append_left h]
  ·by_cases e2:i=a
   ·rw[if_pos e2,e2,e,cO (xs:=Q) (Nat.le_refl _)]
    simp
   ·rw[if_neg e2,cO (xs:=Q) (by omega),cO (by rw[List.length_append,List.length_singleton];omega)]
 ·rw[if_neg e]
  by_cases e2:i=a
  ·subst e2;rw[if_pos rfl,aB (by rw[List.length_set];omega),List.getElem_set_self]
  ·rw[if_neg e2,getD_set_ne (Ne.symm e2)]
theorem lK{Q:List (List Int)}{a:Nat}(v:Int):(gT Q a v).length=if a=Q.length then Q.length+1 else Q.length:=by
 unfold gT
 split
 ·rw[List.length_append,List.length_singleton]
 ·rw[List.length_set]
theorem AQ{Q:List (List Int)}{a:Nat}(v:Int)(ha:a≤Q.length):(gT Q a v).flatten.length=Q.flatten.length+1:=by
 unfold gT
 split
 ·simp
 ·next e=>
  have: ∀(Q:List (List Int)) (a:Nat),a<Q.length→(Q.set a (Q.getD a []++ [v])).flatten.length=Q.flatten.length+1:=by
   intro Q
   induction Q with
   |nil=>intro a h;simp at h
   |cons r rs ih=>
    intro a h
    cases a with
    |zero=>simp;omega
    |succ a=>
     have:=ih a (by simpa using h)
     simp only[List.set_cons_succ,List.getD_cons_succ,List.flatten_cons,List.length_append,this]
     omega
  exact this Q a (by omega)
theorem EF{Q P:List (List Int)}{a k:Nat}(hp:cK (([],Q):Tab)=true)(hs:jt (([],Q):Tab)=true)(hk:Q.flatten.length=k)(h9:k+1≤9)(hP:SSR P)(ha:a≤Q.length)(hPl:P.length=if a=Q.length then Q.length+1 else Q.length)
  (hl: ∀i,(P.getD i []).length=if i=a then(Q.getD i []).length+1 else(Q.getD i []).length):
  cK (([],gT Q a ((k+1:Nat):Int)):Tab)=true∧jt (([],gT Q a ((k+1:Nat):Int)):Tab)=true∧(gT Q a ((k+1:Nat):Int)).flatten.length=k+1∧eU P (gT Q a ((k+1:Nat):Int))∧
   rowOf ([],gT Q a ((k+1:Nat):Int)) ((k+1:Nat):Int)=a∧ ∀v,1≤v→v≤(k:Int)→rowOf ([],gT Q a ((k+1:Nat):Int)) v=rowOf ([],Q) v:=by
 have hget:=pE ((k+1:Nat):Int) ha
 have hlen:= @lK Q a ((k+1:Nat):Int)
 have hfl:=AQ ((k+1:Nat):Int) ha
 generalize hN:gT Q a ((k+1:Nat):Int)=N at*
 have hNl: ∀i,(N.getD i []).length=if i=a then(Q.getD i []).length+1 else(Q.getD i []).length:=fun i=>by
  rw[hget]
  split
  ·next e=>rw[e,List.length_append,List.length_singleton]
  ·rfl
 have hsame:eU P N:=⟨by rw[hPl,hlen],fun i=>by rw[hl,hNl]⟩
 have hcel: ∀r x,cel N r x=if r=a∧x=(Q.getD a []).length then((k+1:Nat):Int)else cel Q r x:=fun r x=>by
  unfold cel
  rw[hget]
  by_cases e:r=a
  ·subst e
   rw[if_pos rfl,fA]
   by_cases e2:x=(Q.getD r []).length
   ·rw[if_pos e2,if_pos ⟨rfl,e2⟩]
   ·rw[if_neg e2,if_neg (fun h=>e2 h.2)]
  ·rw[if_neg e,if_neg (fun h=>e h.1)]
 have hb:=(nU hp hs).2
 simp only at hb
 rw[hk]at hb
 have hQ: ∀{r x:Nat},x<(Q.getD r []).length→1≤cel Q r x∧cel Q r x≤(k:Int):=fun{r x} hx=>by
  have hr:r<Q.length:=Nat.lt_of_not_le fun hle=>by rw[cO hle]at hx;simp at hx
  exact hb _ (mA hr hx)
 obtain⟨q1,q2⟩:=ov hp
 have q3:=qK hp
 simp only at q2 q3
 have pc:=xL hP
 have pr:=fun r hr=>xE hP r hr
 have hqlen: ∀i,(Q.getD (i+1) []).length≤(Q.getD i []).length:=fun i=>by
  by_cases h:i+1<Q.length
  ·exact(q3 i h).1
  ·rw[cO (by omega)];exact Nat.zero_le _
 have hssr:SSR N:=by
  refine w5 (fun r hr=>⟨?_,fun x hx=> ?_⟩) (fun i hi=> ?_)
  ·rw[←hsame.2];exact(pr r (by rw[hsame.1];exact hr)).1
  ·have e1:=hcel r x
   have e2:=hcel r (x+1)
   unfold cel at e1 e2
   rw[e1,e2]
   rw[hNl]at hx
   have hxQ:x<(Q.getD r []).length:=by
    split at hx<;>omega
   rw[if_neg (fun h=>by rw[h.1]at hxQ;omega)]
   have hv:=hQ hxQ
   unfold cel at hv
   by_cases e:r=a∧x+1=(Q.getD a []).length
   ·rw[if_pos e];omega
   ·rw[if_neg e]
    have hx1:x+1<(Q.getD r []).length:=by
     split at hx
     ·next e3=>
      have: ¬x+1=(Q.getD a []).length:=fun h=>e ⟨e3,h⟩
      rw[←e3]at this
      omega
     ·exact hx
    have hr:r<Q.length:=Nat.lt_of_not_le fun hle=>by rw[cO hle]at hx1;simp at hx1
    exact q2 r x hr hx1
  ·obtain⟨c1,c2⟩:=pc i (by rw[hsame.1];exact hi)
   rw[hsame.2,hsame.2]at c1
   refine⟨c1,fun x hx=> ?_⟩
   have e1:=hcel i x
   have e2:=hcel (i+1) x
   unfold cel at e1 e2
   rw[e1,e2]
   rw[hNl]at hx
   have hxi:x<(N.getD i []).length:=by
    have:=hNl (i+1)
    omega
   rw[hNl]at hxi
   by_cases e:i+1=a∧x=(Q.getD a []).length
   ·rw[if_pos e,if_neg (fun h=>by omega)]
    have hxQ:x<(Q.getD i []).length:=by rw[if_neg (by omega)]at hxi;exact hxi
    have hv:=hQ hxQ
    unfold cel at hv
    omega
   ·rw[if_neg e]
    have hx1:x<(Q.getD (i+1) []).length:=by
     split at hx
     ·next e3=>
      have: ¬x=(Q.getD a []).length:=fun h=>e ⟨e3,h⟩
      rw[←e3]at this
      omega
     ·exact hx
    have hxQ:x<(Q.getD i []).length:=Nat.lt_of_lt_of_le hx1 (hqlen i)
    rw[if_neg (fun h=>by rw[h.1]at hxQ;omega)]
    have hr:i+1<Q.length:=Nat.lt_of_not_le fun hle=>by rw[cO hle]at hx1;simp at hx1
    exact(q3 i hr).2 x hx1
 have hflk:N.flatten.length=k+1:=by omega
 have hmem: ∀z∈N.flatten,1≤z∧z≤9:=fun z hz=>by
  obtain⟨r,x,hr,hx,e⟩:=rf hz
  rw[←e,hcel]
  split
  ·omega
  ·next hc=>
   rw[hNl]at hx
   have hxQ:x<(Q.getD r []).length:=by
    split at hx
    ·next e3=>
     have: ¬x=(Q.getD a []).length:=fun h=>hc ⟨e3,h⟩
     rw[←e3]at this
     omega
    ·exact hx
   have:=hQ hxQ
   omega
 have hpl:=rL hssr hmem (by omega)
 have haN:a<N.length:=by
  rw[hlen]
  split<;>omega
 have hxN:(Q.getD a []).length<(N.getD a []).length:=by rw[hNl,if_pos rfl];omega
 have hnew:cel N a (Q.getD a []).length=((k+1:Nat):Int):=by rw[hcel,if_pos ⟨rfl,rfl⟩]
 have hold: ∀{r x:Nat},x<(Q.getD r []).length→r<N.length∧x<(N.getD r []).length∧cel N r x=cel Q r x:=fun{r x} hx=>by
  have hx':x<(N.getD r []).length:=by
   rw[hNl]
   split<;>omega
  refine⟨Nat.lt_of_not_le fun hle=>by rw[cO hle]at hx';simp at hx',hx',?_⟩
  rw[hcel,if_neg (fun h=>by rw[h.1]at hx;omega)]
 have ho:mL Q.flatten=true:=by
  have:=hs
  simp only[jt,Bool.and_eq_true]at this
  exact this.2
 have hst:jt (([],N):Tab)=true:=by
  have hp':=hpl
  simp only[cK,Bool.and_eq_true]at hp'
  simp only[jt,Bool.and_eq_true]
  refine⟨hp'.1,me.2 fun v hv=> ?_⟩
  rw[hflk,jr]at hv
  by_cases e:v=((k+1:Nat):Int)
  ·rw[e,←hnew];exact mA haN hxN
  ·obtain⟨r,x,hr,hx,e2⟩:=rf (me.1 ho v (jr.2 (by omega)))
   obtain⟨d1,d2,d3⟩:=hold hx
   rw[←e2,←d3]
   exact mA d1 d2
 refine⟨hpl,hst,hflk,hsame,kM hpl hst haN hxN hnew,fun v v1 v2=> ?_⟩
 obtain⟨r,x,hr,hx,e2⟩:=rf (me.1 ho v (jr.2 (by omega)))
 obtain⟨d1,d2,d3⟩:=hold hx
 rw[kM hpl hst d1 d2 (by rw[d3];exact e2),kM hp hs hr hx e2]
def mq:List Int→List (List Int)→List (List Int)→Nat→List (List Int)
 | [],_,Q,_=>Q
 |x::w,P,Q,k=>mq w (bn P x).1 (gT Q (bn P x).2 ((k+1:Nat):Int)) (k+1)
def BA:List Int→List (List Int)→List Nat
 | [],_=> []
 |x::w,P=>(bn P x).2::BA w (bn P x).1
structure Ins (P Q : List (List Int)) (k : Nat) : Prop where
  ssr : SSR P
  num : ∀ x ∈ P.flatten, 1 ≤ x ∧ x ≤ 9
  fl : P.flatten.length = k
  pl : cK (([], Q) : Tab) = true
  st : jt (([], Q) : Tab) = true
  qf : Q.flatten.length = k
  same : eU P Q
theorem Ins.step{P Q:List (List Int)}{k:Nat}{x:Int}(h:Ins P Q k)(hx:1≤x∧x≤9)(h9:k+1≤9):
  Ins (bn P x).1 (gT Q (bn P x).2 ((k+1:Nat):Int)) (k+1)∧rowOf ([],gT Q (bn P x).2 ((k+1:Nat):Int)) ((k+1:Nat):Int)=((bn P x).2:Nat)∧ ∀v,1≤v→v≤(k:Int)→rowOf ([],gT Q (bn P x).2 ((k+1:Nat):Int)) v=rowOf ([],Q) v:=by
 obtain⟨a,b,c⟩:=ug P x
 have hs:=BS P x h.ssr
 obtain⟨d1,d2,d3,d4,d5,d6⟩:=EF (a:=(bn P x).2) h.pl h.st h.qf h9 hs (by rw[←h.same.1];exact a) (by rw[←h.same.1];exact b) (fun i=>by rw[←h.same.2];exact c i)
 refine⟨⟨hs,fun z hz=> ?_,by rw[zQ,h.fl],d1,d2,d3,d4⟩,d5,d6⟩
 rcases BM P x z hz with e|e
 ·rw[e];exact hx
 ·exact h.num z e
theorem Ins.nil:Ins [] [] 0:=⟨trivial,fun x hx=>by simp at hx,rfl,rfl,rfl,rfl,⟨rfl,fun _=>rfl⟩⟩
theorem Ins.word: ∀(w:List Int) {P Q:List (List Int)} {k:Nat},Ins P Q k→(∀x∈w,1≤x∧x≤9)→k+w.length≤9→
  Ins (jZ w P) (mq w P Q k) (k+w.length)∧(∀v,1≤v→v≤(k:Int)→rowOf ([],mq w P Q k) v=rowOf ([],Q) v)∧ ∀i,i<w.length→rowOf ([],mq w P Q k) ((k+i+1:Nat):Int)=((BA w P).getD i 0:Nat)
 | [],P,Q,k,h,_,_=>⟨h,fun _ _ _=>rfl,fun i hi=>by simp at hi⟩
 |x::w,P,Q,k,h,hx,hl=>by
  simp only[List.length_cons]at hl
  obtain⟨a,b,c⟩:=h.step (hx x (List.mem_cons_self ..)) (by omega)
  obtain⟨d,e,f⟩:=Ins.word w a (fun z hz=>hx z (List.mem_cons_of_mem _ hz)) (by omega)
  refine⟨by rw[List.length_cons,show k+(w.length+1)=k+1+w.length by omega];exact d,fun v v1 v2=> ?_,fun i hi=> ?_⟩
  ·show rowOf ([],mq w _ _ (k+1)) v=_
   rw[e v v1 (by omega)]
   exact c v v1 v2
  ·show rowOf ([],mq w _ _ (k+1)) _=_
   cases i with
   |zero=>
    have:=e ((k+1:Nat):Int) (by omega) (Int.le_refl _)
    rw[Nat.add_zero,this,b]
    rfl
   |succ i=>
    have:=f i (by simpa using hi)
    rw[show k+1+i+1=k+(i+1)+1 by omega]at this
    exact this
end Go.Am.Pu
end
section
/- Words, and what inserting makes of them. Plain words. -/
namespace Go.Am.Pu
def isWord(w:List Int):Bool:=decide (w.length≤9)&&w.all fun n=>within n 1 9
theorem bY{w:List Int}(h:isWord w=true):w.length≤9∧ ∀x∈w,1≤x∧x≤9:=by
 simp only[isWord,Bool.and_eq_true,decide_eq_true_eq,List.all_eq_true,within]at h
 exact⟨h.1,fun x hx=>h.2 x hx⟩
def bc(w:List Int):Tab×Bool:=if isWord w=true then(([],jZ w []),true)else(([],[]),false)
def dk(w:List Int):Tab×Bool:=if isWord w=true then(([],mq w [] [] 0),true)else(([],[]),false)
theorem vF{w:List Int}(h:isWord w=true):Ins (jZ w []) (mq w [] [] 0) w.length∧ ∀i,i<w.length→rowOf ([],mq w [] [] 0) ((i+1:Nat):Int)=((BA w []).getD i 0:Nat):=by
 obtain⟨h1,h2⟩:=bY h
 obtain⟨a,_,c⟩:=Ins.word w Ins.nil h2 (by omega)
 rw[Nat.zero_add]at a
 refine⟨a,fun i hi=> ?_⟩
 have:=c i hi
 rw[Nat.zero_add]at this
 exact this
theorem sF{P Q:List (List Int)}{k:Nat}(h:Ins P Q k)(h9:k≤9):cK (([],P):Tab)=true:=rL h.ssr h.num (by rw[h.fl];exact h9)
theorem je{w:List Int}(h:isWord w=true):cK (bc w).1=true:=by
 unfold bc
 rw[if_pos h]
 exact sF (vF h).1 (bY h).1
theorem oY{w:List Int}(h:isWord w=true):cK (dk w).1=true∧jt (dk w).1=true∧(dk w).1.2.flatten.length=w.length:=by
 unfold dk
 rw[if_pos h]
 have a:=(vF h).1
 exact⟨a.pl,a.st,a.qf⟩
theorem BH{t:Tab}(h:cK t=true):tJ t:=by
 have hr:=jK h
 exact⟨by rw[jT h];simp,by have:=hr.1;omega,fun r hm=>by have:=hr.2 r hm;omega⟩
theorem kS{w:List Int}:tJ (bc w).1:=by
 cases h:isWord w with
 |true=>exact BH (je h)
 |false=>unfold bc;rw[h];exact tJ.nil
theorem pY{w:List Int}:tJ (dk w).1:=by
 cases h:isWord w with
 |true=>exact BH (oY h).1
 |false=>unfold dk;rw[h];exact tJ.nil
def fw(w:List Int):List Int:=if isWord w=true then outer (bc w).1 else []
theorem jy{w:List Int}:(fw w).length≤9:=by
 unfold fw
 split
 ·next h=>rw[eO];exact(jK (je h)).1
 ·simp
end Go.Am.Pu
end
section
/- Standardizing a tableau: the cells numbered by number and column. Plain words. -/
namespace Go.Am.Pu
def jx(Q:List (List Int))(v:Int)(c r:Nat)(s:Nat×List (List Int)):Nat×List (List Int):=
 if c<(Q.getD r []).length∧cel Q r c=v then(s.1+1,lC s.2 r c ((s.1+1:Nat):Int))else s
structure Num (Q : List (List Int)) (D : Nat → Nat → Prop) (s : Nat × List (List Int)) (F : List Int) : Prop where
  same : eU s.2 Q
  len : F.length = s.1
  val : ∀ r x, r < Q.length → x < (Q.getD r []).length → D r x → ∃ k, k < s.1 ∧ cel s.2 r x = ((k + 1 : Nat) : Int) ∧ F.getD k 0 = cel Q r x
  inj : ∀ r x r' x', r < Q.length → x < (Q.getD r []).length → D r x → r' < Q.length → x' < (Q.getD r' []).length → D r' x' → cel s.2 r x = cel s.2 r' x' → r = r' ∧ x = x'
  all : ∀ k, k < s.1 → ∃ r x, r < Q.length ∧ x < (Q.getD r []).length ∧ D r x ∧ cel s.2 r x = ((k + 1 : Nat) : Int)
  lex : ∀ r x r' x', r < Q.length → x < (Q.getD r []).length → D r x → r' < Q.length → x' < (Q.getD r' []).length → D r' x' → cel s.2 r x < cel s.2 r' x' → cel Q r x < cel Q r' x' ∨ (cel Q r x = cel Q r' x' ∧ x ≤ x')
theorem Num.congr{Q:List (List Int)}{D D':Nat→Nat→Prop}{s:Nat×List (List Int)}{F:List Int}(h:Num Q D s F)(e: ∀r x,r<Q.length→x<(Q.getD r []).length→(D r x↔D' r x)):Num Q D' s F:=
 ⟨h.same,h.len,fun r x a b d=>h.val r x a b ((e r x a b).2 d),fun r x r' x' a b d a' b' d'=>h.inj r x r' x' a b ((e r x a b).2 d) a' b' ((e r' x' a' b').2 d'),
  fun k hk=>by obtain⟨r,x,a,b,d,q⟩:=h.all k hk;exact⟨r,x,a,b,(e r x a b).1 d,q⟩,fun r x r' x' a b d a' b' d'=>h.lex r x r' x' a b ((e r x a b).2 d) a' b' ((e r' x' a' b').2 d')⟩
def Dn(Q:List (List Int))(v:Int)(c r:Nat)(a i:Nat):Prop:=cel Q a i<v∨(cel Q a i=v∧(i<c∨(i=c∧a<r)))
theorem Num.step{Q:List (List Int)}{v:Int}{c r:Nat}{s:Nat×List (List Int)}{F:List Int}(h:Num Q (Dn Q v c r) s F)(hr:r<Q.length): ∃F',Num Q (Dn Q v c (r+1)) (jx Q v c r s) F':=by
 unfold jx
 split
 ·next hc=>
  obtain⟨hc,hv⟩:=hc
  have hnd: ¬Dn Q v c r r c:=by unfold Dn;omega
  have hsr:r<s.2.length:=by rw[h.same.1];exact hr
  have hsc:c<(s.2.getD r []).length:=by rw[h.same.2];exact hc
  have new: ∀a i,Dn Q v c (r+1) a i→(a=r∧i=c)∨(¬(a=r∧i=c)∧Dn Q v c r a i):=fun a i d=>by
   by_cases e:a=r∧i=c
   ·exact .inl e
   ·refine .inr ⟨e,?_⟩
    unfold Dn at d⊢
    omega
  have at1:=kO (g:=s.2) (r:=r) (c:=c) ((s.1+1:Nat):Int) hsr hsc
  have ne1: ∀a i,¬(a=r∧i=c)→cel (lC s.2 r c ((s.1+1:Nat):Int)) a i=cel s.2 a i:=fun a i e=>jC _ e
  refine⟨F++ [v],⟨⟨by rw[jv];exact h.same.1,fun i=>by rw[cD];exact h.same.2 i⟩,by rw[List.length_append,List.length_singleton,h.len],?_,?_,?_,?_⟩⟩
  ·intro a i ha hi d
   rcases new a i d with⟨rfl,rfl⟩|⟨e,d'⟩
   ·refine⟨s.1,by simp only;omega,at1,?_⟩
    rw[hv,←h.len,List.getD_eq_getElem?_getD]
    simp
   ·obtain⟨k,k1,k2,k3⟩:=h.val a i ha hi d'
    refine⟨k,by simp only;omega,by rw[ne1 a i e];exact k2,?_⟩
    rw[←k3,List.getD_eq_getElem?_getD,List.getD_eq_getElem?_getD,List.getElem?_append_left (by rw[h.len];exact k1)]
  ·intro a i b j ha hi d hb hj d' e
   rcases new a i d with⟨rfl,rfl⟩|⟨ea,da⟩
   ·rcases new b j d' with⟨rfl,rfl⟩|⟨eb,db⟩
    ·exact⟨rfl,rfl⟩
    ·obtain⟨k,k1,k2,_⟩:=h.val b j hb hj db
     simp only at e
     rw[at1,ne1 b j eb,k2]at e
     omega
   ·rcases new b j d' with⟨rfl,rfl⟩|⟨eb,db⟩
    ·obtain⟨k,k1,k2,_⟩:=h.val a i ha hi da
     simp only at e
     rw[at1,ne1 a i ea,k2]at e
     omega
    ·simp only at e
     rw[ne1 a i ea,ne1 b j eb]at e
     exact h.inj a i b j ha hi da hb hj db e
  ·intro k hk
   simp only at hk
   by_cases ek:k=s.1
   ·subst ek
    exact⟨r,c,hr,hc,by unfold Dn;omega,at1⟩
   ·obtain⟨a,i,ha,hi,d,e⟩:=h.all k (by omega)
    have hne: ¬(a=r∧i=c):=fun q=>by rw[q.1,q.2]at d;exact hnd d
    exact⟨a,i,ha,hi,by unfold Dn at d⊢;omega,by simp only;rw[ne1 a i hne];exact e⟩
  ·intro a i b j ha hi d hb hj d' e
   simp only at e
   rcases new a i d with⟨rfl,rfl⟩|⟨ea,da⟩
   ·rcases new b j d' with⟨rfl,rfl⟩|⟨eb,db⟩
    ·omega
    ·obtain⟨k,k1,k2,_⟩:=h.val b j hb hj db
     rw[at1,ne1 b j eb,k2]at e
     omega
   ·rcases new b j d' with⟨rfl,rfl⟩|⟨eb,db⟩
    ·unfold Dn at da
     omega
    ·rw[ne1 a i ea,ne1 b j eb]at e
     exact h.lex a i b j ha hi da hb hj db e
 ·next hc=>
  refine⟨F,h.congr fun a i ha hi=> ?_⟩
  unfold Dn
  constructor
  ·intro d;omega
  ·intro d
   by_cases e:a=r∧i=c
   ·obtain⟨rfl,rfl⟩:=e
    have:cel Q a i≠v:=fun q=>hc ⟨hi,q⟩
    omega
   ·omega
structure wX (Q X : List (List Int)) (f : Int → Int) : Prop where
  same : eU X Q
  val : ∀ r x, r < X.length → x < (X.getD r []).length → cel Q r x = f (cel X r x)
  lex : ∀ r x r' x', r < X.length → x < (X.getD r []).length → r' < X.length → x' < (X.getD r' []).length → cel X r x < cel X r' x' → cel Q r x < cel Q r' x' ∨ (cel Q r x = cel Q r' x' ∧ x < x')
end Go.Am.Pu
end
section
/- A pair of tableaux unrolled, the second one semistandard; sorting; the matrix of a pair. Plain words. -/
namespace Go.Am.Pu
def Bb(R:Int→Prop)(rs:List (List Int)):Prop:= ∀r∈rs,∀v∈r,R v
theorem Bb.at{R:Int→Prop}{rs:List (List Int)}(h:Bb R rs){r x:Nat}(hr:r<rs.length)(hx:x<(rs.getD r []).length):R ((rs.getD r []).getD x 0):=by
 rw[aB hx]
 exact h (rs.getD r []) (by rw[aB hr];exact List.getElem_mem hr) _ (List.getElem_mem hx)
theorem Bb.set{R:Int→Prop}{rs:List (List Int)}(h:Bb R rs)(i:Nat){r:List Int}(hr: ∀v∈r,R v):Bb R (rs.set i r):=fun y hy=>by
 rcases List.mem_or_eq_of_mem_set hy with h'|rfl
 ·exact h y h'
 ·exact hr
theorem Bb.row{R:Int→Prop}{rs:List (List Int)}(h:Bb R rs)(i:Nat): ∀v∈rs.getD i [],R v:=by
 by_cases hi:i<rs.length
 ·exact h _ (by rw[aB hi];exact List.getElem_mem hi)
 ·rw[cO (by omega)];simp
theorem Unr.top{q:Tab}{m:Nat}{P X:List (List Int)}(h:Unr q (m+1) P X){a:Nat}(ha:a<X.length)(htop:cel X a ((X.getD a []).length-1)=((m+1:Nat):Int)):
  (∀r,r<X.length→1≤(X.getD r []).length)∧(∀r,r<X.length→r≠a→cel X r ((X.getD r []).length-1)<((m+1:Nat):Int)):=by
 have hp:=fun r hr=>BI h.pl (r:=r) hr
 refine⟨hp,fun r hr hne=> ?_⟩
 have h1:=hp r hr
 have h2:=hp a ha
 simp only at h1 h2
 have hb:=((nU h.pl h.st).2 _ (mA (rs:=X) hr (show(X.getD r []).length-1<(X.getD r []).length by omega))).2
 have hf:=h.fl
 simp only at hb
 rw[hf]at hb
 have hx:cel X r ((X.getD r []).length-1)≠((m+1:Nat):Int):=fun e=>hne (vd h.pl h.st (a:=r) (b:=a) (x:=(X.getD r []).length-1) (y:=(X.getD a []).length-1) hr (show _<(X.getD r []).length by omega) ha (show _<(X.getD a []).length by omega) (by rw[htop];exact e)).1
 omega
theorem C2{n m:Nat}{A B:List (List Int)}(h:fU n m A)(s:eU A B):fU n m B:=by
 refine⟨by rw[←s.1];exact h.1,fun x hx=> ?_⟩
 obtain⟨i,hi,rfl⟩:=List.getElem_of_mem hx
 have:=h.at i
 rw[s.2 i,aB hi]at this
 exact this
theorem wX.cut{Q X:List (List Int)}{f:Int→Int}(s:wX Q X f){a:Nat}(ha:a<X.length)(hc:(X.getD (a+1) []).length<(X.getD a []).length)(hp: ∀r,r<X.length→1≤(X.getD r []).length):wX (dq Q a) (dq X a) f:=by
 have hq: ∀r,r<Q.length→1≤(Q.getD r []).length:=fun r hr=>by rw[←s.same.2];exact hp r (by rw[s.same.1];exact hr)
 have rX:=qA ha hc hp
 have rQ:=qA (rs:=Q) (a:=a) (by rw[←s.same.1];exact ha) (by rw[←s.same.2,←s.same.2];exact hc) hq
 have old: ∀{r x},r<(dq X a).length→x<((dq X a).getD r []).length→r<X.length∧x<(X.getD r []).length∧cel (dq X a) r x=cel X r x∧cel (dq Q a) r x=cel Q r x:=fun{r x} hr hx=>by
  have hl:=u3 (rs:=X) ha
  have hr':r<X.length:=by rw[hl]at hr;split at hr<;>omega
  have e1:=rX r
  have e2:=rQ r
  unfold cel
  by_cases e:r=a
  ·rw[if_pos e]at e1 e2
   rw[e1]at hx
   rw[List.length_take]at hx
   subst e
   refine⟨hr',by omega,by rw[e1,getD_take (by omega)],?_⟩
   rw[e2,getD_take (by have:=s.same.2 r;omega)]
  ·rw[if_neg e]at e1 e2
   rw[e1]at hx
   exact⟨hr',hx,by rw[e1],by rw[e2]⟩
 refine⟨zZ s.same a,fun r x hr hx=> ?_,fun r x r' x' hr hx hr' hx' hlt=> ?_⟩
 ·obtain⟨o1,o2,o3,o4⟩:=old hr hx
  rw[o3,o4]
  exact s.val r x o1 o2
 ·obtain⟨o1,o2,o3,o4⟩:=old hr hx
  obtain⟨p1,p2,p3,p4⟩:=old hr' hx'
  rw[o3,p3]at hlt
  rw[o4,p4]
  exact s.lex r x r' x' o1 o2 p1 p2 hlt
theorem wX.step{q:Tab}{m:Nat}{P X Q:List (List Int)}{f:Int→Int}(s:wX Q X f)(h:Unr q (m+1) P X):
  ∃a:Nat,rowOf q ((m+1:Nat):Int)=a∧a<Q.length∧1≤(Q.getD a []).length∧(Q.getD a []).getD ((Q.getD a []).length-1) 0=f ((m+1:Nat):Int)∧(∀r,r<Q.length→1≤(Q.getD r []).length)∧
   (∀r,r<Q.length→r≠a→(Q.getD r []).getD ((Q.getD r []).length-1) 0<f ((m+1:Nat):Int)∨((Q.getD r []).getD ((Q.getD r []).length-1) 0=f ((m+1:Nat):Int)∧(Q.getD r []).length<(Q.getD a []).length))∧
   fU 9 9 Q∧a<P.length∧1≤(P.getD a []).length∧Unr q m (mr P a).1 (dq X a)∧wX (dq Q a) (dq X a) f:=by
 obtain⟨a,a1,a2,a3,a4,a5,a6⟩:=h.step
 obtain⟨t1,t2⟩:=h.top a2 a4
 have v0:=s.val a ((X.getD a []).length-1) a2 (by omega)
 rw[a4]at v0
 unfold cel at v0
 rw[s.same.2]at v0
 refine⟨a,a1,by rw[←s.same.1];exact a2,by rw[←s.same.2];exact a3,v0,fun r hr=>by rw[←s.same.2];exact t1 r (by rw[s.same.1];exact hr),fun r hr hne=> ?_,C2 (jK h.pl) s.same,
  by rw[h.same.1];exact a2,by rw[h.same.2];exact a3,a6,s.cut a2 a5 t1⟩
 have hr':r<X.length:=by rw[s.same.1];exact hr
 have u1:=t1 r hr'
 have hl:=s.lex r ((X.getD r []).length-1) a ((X.getD a []).length-1) hr' (by omega) a2 (by omega) (by rw[a4];exact t2 r hr' hne)
 have v:=s.val a ((X.getD a []).length-1) a2 (by omega)
 rw[v,a4]at hl
 unfold cel at hl
 rw[s.same.2 r,s.same.2 a]at hl
 have e1:=s.same.2 r
 rcases hl with hl|hl
 ·exact .inl hl
 ·exact .inr ⟨hl.1,by omega⟩
structure G4 (r c : Nat) (b : Int) (M : List (List Int)) : Prop where
  len : M.length = r
  row : ∀ i, i < r → (M.getD i []).length = c
  sm : ∀ x ∈ M, ∀ v ∈ x, 0 ≤ v ∧ v ≤ b
theorem DY{a b:List Int}{i:Nat}(ha:i<a.length)(hb:i<b.length):(a.zip b).drop i=(a.getD i 0,b.getD i 0)::(a.zip b).drop (i+1):=by
 have hl:i<(a.zip b).length:=by rw[List.length_zip];omega
 rw[drop_cons hl (0,0),aB hl,List.getElem_zip,aB ha,aB hb]
end Go.Am.Pu
end
section
/- Standardizing any tableau: its cells in the order of number and column. Plain words. -/
namespace Go.Am.Pu
def D1(t:Tab)(r:Nat):List (Int×Int×Int):=(List.range (t.2.getD r []).length).map fun x=>(cel t.2 r x,t.1.getD r 0+x,(r:Int))
def cellsOf(t:Tab):List (Int×Int×Int):=((List.range t.2.length).map (D1 t)).flatten
def KLt(a b:Int×Int×Int):Prop:=a.1<b.1∨(a.1=b.1∧a.2.1<b.2.1)
end Go.Am.Pu
end
section
/- Sorting cells by insertion, as the library does. Plain words. -/
namespace Go.Am.Pu
instance(a b:Int×Int×Int):Decidable (KLt a b):=by unfold KLt;infer_instance
end Go.Am.Pu
end
section
/- All standard tableaux of given rows, found by taking out the greatest number. Plain words. -/
namespace Go.Am.Pu
def iy(ls:List Nat)(a:Nat):List Nat:=if ls.getD a 0=1 then ls.take a else ls.set a (ls.getD a 0-1)
theorem D5{α:Type}{d:α}{A B:List α}(hl:A.length=B.length)(h: ∀i,i<A.length→A.getD i d=B.getD i d):A=B:=by
 refine List.ext_getElem hl fun i h1 h2=> ?_
 have:=h i h1
 rw[aB h1,aB h2]at this
 exact this
end Go.Am.Pu
end
section
/- Promotion of a rectangle comes back after as many steps as there are cells (reckoned over all of them). Plain words. -/
namespace Go.Am.Pu
end Go.Am.Pu
end
section
/- The length of an orbit divides every number of steps that come back. Plain words. -/
namespace Go.Am.Pu
end Go.Am.Pu
end
section
/- Knuth's relations: insertion does not tell related words apart, and a row and a number are related to what an insertion makes of them. Plain words. -/
namespace Go.Am.Pu
abbrev Up(r:List Int):Prop:=r.Pairwise (· ≤ ·)
def fj:List Int→Int→List Int×List Int
 | [],x=>([x],[])
 |a::r,x=>if x<a then(x::r,[a])else(a::(fj r x).1,(fj r x).2)
theorem fz{a x:Int}{r:List Int}(h:x<a):fj (a::r) x=(x::r,[a]):=by unfold fj;rw[if_pos h]
theorem eR{a x:Int}{r:List Int}(h:a≤x):fj (a::r) x=(a::(fj r x).1,(fj r x).2):=by
 conv=>lhs;unfold fj
 rw[if_neg (by omega)]
theorem uN: ∀(r:List Int) (x z:Int),z∈(fj r x).1→z=x∨z∈r
 | [],x,z,h=>by simp only[fj,List.mem_singleton]at h;exact .inl h
 |a::r,x,z,h=>by
  by_cases c:x<a
  ·rw[fz c]at h
   rcases List.mem_cons.1 h with h|h
   ·exact .inl h
   ·exact .inr (List.mem_cons_of_mem _ h)
  ·rw[eR (by omega)]at h
   rcases List.mem_cons.1 h with h|h
   ·exact .inr (by rw[h];exact List.mem_cons_self ..)
   ·rcases uN r x z h with h|h
    ·exact .inl h
    ·exact .inr (List.mem_cons_of_mem _ h)
theorem yo: ∀{r:List Int} (x:Int),Up r→Up (fj r x).1
 | [],x,_=>List.pairwise_singleton ..
 |a::r,x,h=>by
  have h':=List.pairwise_cons.1 h
  by_cases c:x<a
  ·rw[fz c]
   exact List.pairwise_cons.2 ⟨fun z hz=>by have:=h'.1 z hz;omega,h'.2⟩
  ·rw[eR (by omega)]
   refine List.pairwise_cons.2 ⟨fun z hz=> ?_,yo x h'.2⟩
   rcases uN r x z hz with e|e
   ·omega
   ·exact h'.1 z e
theorem lx: ∀(r:List Int) (x:Int),(fj r x).2= []∨ ∃b,(fj r x).2= [b]∧x<b∧b∈r
 | [],x=> .inl rfl
 |a::r,x=>by
  by_cases c:x<a
  ·rw[fz c];exact .inr ⟨a,rfl,c,List.mem_cons_self ..⟩
  ·rw[eR (by omega)]
   rcases lx r x with h|⟨b,h1,h2,h3⟩
   ·exact .inl h
   ·exact .inr ⟨b,h1,h2,List.mem_cons_of_mem _ h3⟩
theorem B6: ∀{r:List Int} {y z:Int},Up r→y≤z→((fj r y).2= []→(fj (fj r y).1 z).2= [])∧ ∀p q,(fj r y).2= [p]→(fj (fj r y).1 z).2= [q]→p≤q
 | [],y,z,_,hz=>by
  refine⟨fun _=> ?_,fun p q h=>by simp[fj]at h⟩
  show(fj [y] z).2= []
  rw[eR hz];rfl
 |a::r,y,z,h,hz=>by
  have h':=List.pairwise_cons.1 h
  by_cases c:y<a
  ·rw[fz c]
   refine⟨fun e=>by simp at e,fun p q e1 e2=> ?_⟩
   rw[eR hz]at e2
   rcases lx r z with o|⟨b,o1,_,o3⟩
   ·simp only at e2;rw[o]at e2;simp at e2
   ·simp only at e2
    rw[o1]at e2
    simp only[List.cons.injEq,and_true]at e1 e2
    have:=h'.1 b o3
    omega
  ·rw[eR (show a≤y by omega)]
   show((fj r y).2= []→(fj (a::(fj r y).1) z).2= [])∧ ∀p q,(fj r y).2= [p]→(fj (a::(fj r y).1) z).2= [q]→p≤q
   rw[eR (show a≤z by omega)]
   exact B6 h'.2 hz
theorem BQ: ∀{r:List Int} {y z:Int},Up r→y<z→z∈r→ ∃c,(fj r y).2= [c]∧y<c∧c≤z
 | [],_,_,_,_,hm=>by simp at hm
 |a::r,y,z,h,hz,hm=>by
  have h':=List.pairwise_cons.1 h
  by_cases c:y<a
  ·rw[fz c]
   refine⟨a,rfl,c,?_⟩
   rcases List.mem_cons.1 hm with e|e
   ·omega
   ·exact h'.1 z e
  ·rw[eR (by omega)]
   rcases List.mem_cons.1 hm with e|e
   ·omega
   ·exact BQ h'.2 hz e
theorem xo: ∀(r:List Int) (x:Int),x∈(fj r x).1
 | [],x=>List.mem_singleton.2 rfl
 |a::r,x=>by
  by_cases c:x<a
  ·rw[fz c];exact List.mem_cons_self ..
  ·rw[eR (by omega)];exact List.mem_cons_of_mem _ (xo r x)
def Tri(u v:List Int):Prop:= ∃x y z:Int,(x<y∧y≤z∧u= [y,z,x]∧v= [y,x,z])∨(x≤y∧y<z∧u= [x,z,y]∧v= [z,x,y])
theorem Tri.a{x y z:Int}(h1:x<y)(h2:y≤z):Tri [y,z,x] [y,x,z]:=⟨x,y,z,.inl ⟨h1,h2,rfl,rfl⟩⟩
theorem Tri.b{x y z:Int}(h1:x≤y)(h2:y<z):Tri [x,z,y] [z,x,y]:=⟨x,y,z,.inr ⟨h1,h2,rfl,rfl⟩⟩
def jh:List Int→List Int→List Int×List Int
 |r,[]=>(r,[])
 |r,x::w=>((jh (fj r x).1 w).1,(fj r x).2++(jh (fj r x).1 w).2)
def BT(p q:List Int×List Int):Prop:=p.1=q.1∧(p.2=q.2∨Tri p.2 q.2)
theorem oH{a:Int}: ∀{w r:List Int},(∀x∈w,a≤x)→jh (a::r) w=(a::(jh r w).1,(jh r w).2)
 | [],_,_=>rfl
 |x::w,r,h=>by
  show((jh (fj (a::r) x).1 w).1,(fj (a::r) x).2++(jh (fj (a::r) x).1 w).2)=_
  rw[eR (h x (List.mem_cons_self ..))]
  simp only
  rw[oH fun y hy=>h y (List.mem_cons_of_mem _ hy)]
  rfl
theorem mB(r:List Int)(x y z:Int):jh r [x,y,z]=((fj (fj (fj r x).1 y).1 z).1,(fj r x).2++((fj (fj r x).1 y).2++(fj (fj (fj r x).1 y).1 z).2)):=by
 simp[jh]
theorem Fp: ∀{r:List Int} {x y z:Int},Up r→x<y→y≤z→BT (jh r [y,z,x]) (jh r [y,x,z])
 | [],x,y,z,_,h1,h2=>by
  refine⟨?_,.inl ?_⟩
  ·simp[jh,fj,h1,show¬z<y by omega,show¬z<x by omega]
  ·simp[jh,fj,h1,show¬z<y by omega,show¬z<x by omega]
 |a::r,x,y,z,h,h1,h2=>by
  have h':=List.pairwise_cons.1 h
  by_cases c:y<a
  ·rw[mB,mB,fz c]
   simp only
   rw[eR (r:=r) h2,fz (r:=r) h1]
   simp only
   rw[fz h1,eR (show x≤z by omega)]
   refine⟨rfl,?_⟩
   rcases lx r z with o|⟨b,o1,o2,o3⟩
   ·simp only;rw[o];exact .inl rfl
   ·simp only;rw[o1]
    exact .inr (Tri.a c (h'.1 b o3))
  ·by_cases c2:x<a
   ·rw[mB,mB,eR (show a≤y by omega)]
    simp only
    rw[eR (show a≤z by omega),fz c2]
    simp only
    rw[fz c2,eR (show x≤z by omega)]
    refine⟨rfl,?_⟩
    simp only
    obtain⟨e1,e2⟩:=B6 h'.2 h2
    rcases lx r y with o|⟨b,o1,o2,o3⟩
    ·rw[o,e1 o];exact .inl rfl
    ·rcases lx (fj r y).1 z with p|⟨d,p1,p2,p3⟩
     ·rw[p,o1];exact .inl rfl
     ·rw[o1,p1]
      exact .inr (Tri.a (by omega) (e2 _ _ o1 p1))
   ·have ih:=Fp h'.2 h1 h2
    rw[oH (by simp;omega),oH (by simp;omega)]
    exact⟨congrArg (a:: ·) ih.1,ih.2⟩
theorem Fk: ∀{r:List Int} {x y z:Int},Up r→x≤y→y<z→BT (jh r [x,z,y]) (jh r [z,x,y])
 | [],x,y,z,_,h1,h2=>by
  refine⟨?_,.inl ?_⟩
  ·simp[jh,fj,h2,show x<z by omega,show¬z<x by omega,show¬y<x by omega]
  ·simp[jh,fj,h2,show x<z by omega,show¬z<x by omega,show¬y<x by omega]
 |a::r,x,y,z,h,h1,h2=>by
  have h':=List.pairwise_cons.1 h
  by_cases c:z<a
  ·rw[mB,mB,fz (show x<a by omega),fz c]
   simp only
   rw[eR (r:=r) (show x≤z by omega),fz (r:=r) (show x<z by omega)]
   simp only
   rw[eR h1,eR h1]
   cases r with
   |nil=>simp[fj,h2,BT]
   |cons b r=>
    have hb:=h'.1 b (List.mem_cons_self ..)
    rw[fz (show z<b by omega),fz (show y<b by omega)]
    simp only
    rw[fz h2]
    exact⟨rfl,.inr (Tri.a c hb)⟩
  ·by_cases c2:x<a
   ·rw[mB,mB,fz c2,eR (show a≤z by omega)]
    simp only
    rw[fz c2,eR (show x≤z by omega)]
    simp only
    rw[eR h1]
    refine⟨rfl,?_⟩
    simp only
    rcases lx r z with o|⟨b,o1,o2,o3⟩
    ·rw[o];exact .inl rfl
    ·rw[o1]
     obtain⟨d,d1,d2,d3⟩:=BQ (yo z h'.2) h2 (xo r z)
     rw[d1]
     refine .inr (Tri.b ?_ (by omega))
     rcases lx (fj r z).1 y with p|⟨q,p1,p2,p3⟩
     ·rw[p]at d1;simp at d1
     ·rw[p1]at d1
      have:q=d:=by simpa using d1
      subst this
      rcases uN r z q p3 with e|e
      ·omega
      ·exact h'.1 q e
   ·have ih:=Fk h'.2 h1 h2
    rw[oH (by simp;omega),oH (by simp;omega)]
    exact⟨congrArg (a:: ·) ih.1,ih.2⟩
theorem Fa{r u v:List Int}(h:Up r)(t:Tri u v):BT (jh r u) (jh r v):=by
 obtain⟨x,y,z,⟨h1,h2,rfl,rfl⟩|⟨h1,h2,rfl,rfl⟩⟩:=t
 ·exact Fp h h1 h2
 ·exact Fk h h1 h2
theorem Eh(a x:Int)(r:List Int):fst (a::r) x=if x<a then 0 else fst r x+1:=by
 unfold fst
 rw[List.findIdx_cons]
 by_cases c:x<a
 ·rw[if_pos c,decide_eq_true c];rfl
 ·rw[if_neg c,decide_eq_false c];rfl
theorem zC: ∀(r:List Int) (x:Int),fj r x=if fst r x<r.length then(r.set (fst r x) x,[r.getD (fst r x) 0])else(r++ [x],[])
 | [],x=>rfl
 |a::r,x=>by
  rw[Eh]
  by_cases c:x<a
  ·rw[fz c,if_pos c,if_pos (by simp)];rfl
  ·rw[eR (by omega),if_neg c,zC r x]
   by_cases d:fst r x<r.length
   ·rw[if_pos d,if_pos (by simpa using d)];rfl
   ·rw[if_neg d,if_neg (by simpa using d)];rfl
theorem yr(r:List Int)(rs:List (List Int))(x:Int):(bn (r::rs) x).1=(fj r x).1::jZ (fj r x).2 rs:=by
 rw[jc,zC]
 by_cases c:fst r x<r.length
 ·rw[if_pos c,if_pos c];rfl
 ·rw[if_neg c,if_neg c];rfl
theorem sJ: ∀(w r:List Int) (rs:List (List Int)),jZ w (r::rs)=(jh r w).1::jZ (jh r w).2 rs
 | [],_,_=>rfl
 |x::w,r,rs=>by
  show jZ w (bn (r::rs) x).1=_
  rw[yr,sJ w]
  simp only[jh]
  rw[nj]
theorem EW{u v:List Int}(t:Tri u v):jZ u []=jZ v []:=by
 obtain⟨x,y,z,⟨h1,h2,rfl,rfl⟩|⟨h1,h2,rfl,rfl⟩⟩:=t
 ·simp[jZ,bn,List.findIdx_cons,h1,show¬z<y by omega,show¬z<x by omega]
 ·simp[jZ,bn,List.findIdx_cons,h2,show x<z by omega,show¬z<x by omega,show¬y<x by omega]
theorem Bu: ∀{P:List (List Int)} {u v:List Int},(∀r∈P,Up r)→Tri u v→jZ u P=jZ v P
 | [],_,_,_,t=>EW t
 |r::rs,u,v,h,t=>by
  rw[sJ,sJ]
  obtain⟨a,b|b⟩:=Fa (h r (List.mem_cons_self ..)) t
  ·rw[a,b]
  ·rw[a,Bu (fun q hq=>h q (List.mem_cons_of_mem _ hq)) b]
inductive Kn : List Int → List Int → Prop
  | refl (w) : Kn w w
  | symm {v w} : Kn v w → Kn w v
  | trans {u v w} : Kn u v → Kn v w → Kn u w
  | tri {u v} (a b) : Tri u v → Kn (a ++ u ++ b) (a ++ v ++ b)
theorem Kn.ctx{u v:List Int}(c d:List Int)(h:Kn u v):Kn (c++u++d) (c++v++d):=by
 induction h with
 |refl w=>exact .refl _
 |symm _ ih=>exact .symm ih
 |trans _ _ h1 h2=>exact .trans h1 h2
 |tri a b t=>
  have:=Kn.tri (c++a) (b++d) t
  simp only[List.append_assoc]at this⊢
  exact this
theorem Kn.left{u v:List Int}(c:List Int)(h:Kn u v):Kn (c++u) (c++v):=by
 have:=h.ctx c []
 simpa using this
theorem Kn.right{u v:List Int}(d:List Int)(h:Kn u v):Kn (u++d) (v++d):=by
 have:=h.ctx [] d
 simpa using this
theorem Kn.cons{u v:List Int}(c:Int)(h:Kn u v):Kn (c::u) (c::v):=h.left [c]
theorem Kn.of{u v:List Int}(t:Tri u v):Kn u v:=by
 have:=Kn.tri [] [] t
 simpa using this
theorem Kn.app{u v u' v':List Int}(h:Kn u u')(g:Kn v v'):Kn (u++v) (u'++v'):=(h.right v).trans (g.left u')
theorem BW: ∀{P:List (List Int)} (x:Int),(∀r∈P,Up r)→ ∀r∈(bn P x).1,Up r
 | [],x,_=>fun r hr=>by
  have:r= [x]:=by simpa[bn]using hr
  rw[this];exact List.pairwise_singleton ..
 |q::P,x,h=>by
  rw[yr]
  intro r hr
  have hP: ∀r∈P,Up r:=fun r hr=>h r (List.mem_cons_of_mem _ hr)
  rcases List.mem_cons.1 hr with e|e
  ·rw[e];exact yo x (h q (List.mem_cons_self ..))
  ·rcases lx q x with o|⟨b,o,_,_⟩
   ·rw[o]at e;exact hP r e
   ·rw[o]at e;exact BW b hP r e
theorem Bq: ∀{w:List Int} {P:List (List Int)},(∀r∈P,Up r)→ ∀r∈jZ w P,Up r
 | [],_,h=>h
 |x::w,P,h=>show∀r∈jZ w (bn P x).1,Up r from Bq (BW x h)
theorem Kn.ins{u v:List Int}(h:Kn u v): ∀{P:List (List Int)},(∀r∈P,Up r)→jZ u P=jZ v P:=by
 induction h with
 |refl w=>intro P _;rfl
 |symm _ ih=>intro P hP;exact(ih hP).symm
 |trans _ _ h1 h2=>intro P hP;rw[h1 hP,h2 hP]
 |tri a b t=>
  intro P hP
  rw[nj,nj,nj,nj,Bu (Bq hP) t]
end Go.Am.Pu
end
section
/- Rows and slides keep words related. Plain words. -/
namespace Go.Am.Pu
def FV(q:List Int)(g:List (List Int))(i c r:Nat):List Int:=
 if r=i then((g.getD r []).take c).drop (q.getD r 0).toNat++(g.getD r []).drop (c+1)else(g.getD r []).drop (q.getD r 0).toNat
end Go.Am.Pu
end
section
/- The rectification is the tableau of the word. Plain words. -/
namespace Go.Am.Pu
end Go.Am.Pu
end
section
/- Slides outwards: what holds on the way, what they leave; slides in and out undo each other. Plain words. -/
namespace Go.Am.Pu
theorem E4{p:List Int}(hp:cM p=true)(r:Nat):0≤p.getD r 0∧p.getD r 0≤9:=by
 have:=fK hp r
 rwa [gd]at this
theorem Sl.up{q:List Int}{g:List (List Int)}{i c:Nat}(h:Sl q g (i+1) c)(hi:Inn q g)(hu:cel g i c≠0)(hl:leftOf g (i+1) c≤cel g i c):Sl q (lC g (i+1) c (cel g i c)) i c:=by
 obtain⟨b1,b2⟩:=xI hu
 have hq:q.getD i 0≤c:=Int.not_lt.1 fun hlt=>hu (hi i c hlt)
 have hqm:=h.qm i
 have hun:=h.num i c hq b2 (by omega)
 have e0:=kO (cel g i c) h.hi h.hc
 have en: ∀r x,¬(r=i+1∧x=c)→cel (lC g (i+1) c (cel g i c)) r x=cel g r x:=fun r x hh=>jC _ hh
 have hll:=h.lm i
 refine⟨h.q0,h.qm,fun r=> ?_,?_,?_,hq,fun r x=> ?_,fun r x h1 h2 h3=> ?_,fun r x h1 h2 h3 h4=> ?_,fun r x h1 h2 h3 h4=> ?_,fun x h1 h2 h3=> ?_,fun r h1 h2 h3=> ?_⟩
 ·rw[cD,cD];exact h.lm r
 ·rw[jv];exact b1
 ·rw[cD];exact b2
 ·by_cases e:r=i+1∧x=c
  ·rw[e.1,e.2,e0];exact h.pos _ _
  ·rw[en r x e];exact h.pos _ _
 ·rw[cD]at h2
  by_cases e:r=i+1∧x=c
  ·rw[e.1,e.2,e0];exact hun
  ·rw[en r x e];exact h.num r x h1 h2 e
 ·rw[cD]at h2
  by_cases e:r=i+1∧x=c
  ·obtain⟨rfl,rfl⟩:=e
   rw[e0,en _ _ (by omega)]
   have h5:=h.row i x hq (by omega) (by omega) (by omega)
   have h6:=h.col i (x+1) (by omega) h2 (by omega) (by omega)
   omega
  ·rw[en r x e]
   by_cases e':r=i+1∧x+1=c
   ·obtain⟨rfl,rfl⟩:=e'
    rw[e0]
    unfold leftOf at hl
    rw[if_neg (by omega),show x+1-1=x by omega]at hl
    exact hl
   ·rw[en r (x+1) e'];exact h.row r x h1 h2 e e'
 ·rw[cD]at h2
  by_cases e:r=i+1∧x=c
  ·obtain⟨rfl,rfl⟩:=e
   rw[e0,en _ _ (by omega)]
   exact h.colH i rfl hq h2
  ·rw[en r x e]
   by_cases e':r+1=i+1∧x=c
   ·exact(h3 ⟨by omega,e'.2⟩).elim
   ·rw[en (r+1) x e']
    exact h.col r x h1 h2 e e'
 ·rw[cD]at h3
  rw[en _ _ (by omega),en _ _ (by omega)]
  subst h1
  have h5:=h.row i x h2 (by omega) (by omega) (by omega)
  have h6:=h.row i (x+1) (by omega) h3 (by omega) (by omega)
  omega
 ·rw[cD]at h3
  subst h1
  rw[en _ _ (by omega),e0]
  exact h.col r c h2 b2 (by omega) (by omega)
theorem Sl.left{q:List Int}{g:List (List Int)}{i c:Nat}(h:Sl q g i (c+1))(hi:Inn q g)(hv:cel g i c≠0)(hu:zM g i (c+1)<cel g i c):Sl q (lC g i (c+1) (cel g i c)) i c:=by
 obtain⟨b1,b2⟩:=xI hv
 have hq:q.getD i 0≤c:=Int.not_lt.1 fun hlt=>hv (hi i c hlt)
 have hqm:=h.qm i
 have hvn:=h.num i c hq b2 (by omega)
 have e0:=kO (cel g i c) h.hi h.hc
 have en: ∀r x,¬(r=i∧x=c+1)→cel (lC g i (c+1) (cel g i c)) r x=cel g r x:=fun r x hh=>jC _ hh
 have hll:=h.lm i
 refine⟨h.q0,h.qm,fun r=> ?_,?_,?_,hq,fun r x=> ?_,fun r x h1 h2 h3=> ?_,fun r x h1 h2 h3 h4=> ?_,fun r x h1 h2 h3 h4=> ?_,fun x h1 h2 h3=> ?_,fun r h1 h2 h3=> ?_⟩
 ·rw[cD,cD];exact h.lm r
 ·rw[jv];exact b1
 ·rw[cD];exact b2
 ·by_cases e:r=i∧x=c+1
  ·rw[e.1,e.2,e0];exact h.pos _ _
  ·rw[en r x e];exact h.pos _ _
 ·rw[cD]at h2
  by_cases e:r=i∧x=c+1
  ·rw[e.1,e.2,e0];exact hvn
  ·rw[en r x e];exact h.num r x h1 h2 e
 ·rw[cD]at h2
  by_cases e:r=i∧x=c+1
  ·obtain⟨rfl,rfl⟩:=e
   rw[e0,en _ _ (by omega)]
   exact h.FV c rfl hq h2
  ·rw[en r x e]
   by_cases e':r=i∧x+1=c+1
   ·exact(h3 ⟨e'.1,by omega⟩).elim
   ·rw[en r (x+1) e'];exact h.row r x h1 h2 e e'
 ·rw[cD]at h2
  by_cases e:r=i∧x=c+1
  ·obtain⟨rfl,rfl⟩:=e
   rw[e0,en _ _ (by omega)]
   have h5:=h.col r c hq (by omega) (by omega) (by omega)
   have h6:=h.row (r+1) c (by omega) h2 (by omega) (by omega)
   omega
  ·rw[en r x e]
   by_cases e':r+1=i∧x=c+1
   ·obtain⟨rfl,rfl⟩:=e'
    rw[e0]
    unfold zM at hu
    rw[if_neg (by omega),show r+1-1=r by omega]at hu
    exact hu
   ·rw[en (r+1) x e']
    exact h.col r x h1 h2 e e'
 ·rw[cD]at h3
  subst h1
  rw[en _ _ (by omega),e0]
  exact h.row i x h2 b2 (by omega) (by omega)
 ·rw[cD]at h3
  rw[en _ _ (by omega),en _ _ (by omega)]
  subst h1
  have h5:=h.col r c h2 b2 (by omega) (by omega)
  have h6:=h.col (r+1) c hq h3 (by omega) (by omega)
  omega
end Go.Am.Pu
end
section
/- What a slide outwards leaves is a tableau; slides in and out undo each other. Plain words. -/
namespace Go.Am.Pu
section
variable {t : Tab} {n : Nat} {p : List Int}
def rT(t:Tab)(n:Nat)(p:List Int):List (List Int)×(Nat×Nat):=sy 18 (Ez t n) n (p.getD n 0-1).toNat
structure Ge (t : Tab) (n : Nat) (p : List Int) (g : List (List Int)) (i c : Nat) (q : List Int) : Prop where
  sl : Sl t.1 g i c
  inn : Inn t.1 g
  len : g.length = p.length
  row : ∀ r, ((g.getD r []).length : Int) = p.getD r 0
  l0 : leftOf g i c = 0
  u0 : zM g i c = 0
  add : yk t.1 i = (q, true)
  qi : q.getD i 0 = c + 1
  qr : ∀ r, q.getD r 0 = if r = i then (c : Int) + 1 else t.1.getD r 0
  qp : cM q = true
  ins : ∀ r, q.getD r 0 ≤ p.getD r 0
def tQ(t:Tab)(n:Nat):Tab×Nat:=
 let p:=(yk (outer t) n).1
 let s:=rT t n p
 let q:=(yk t.1 s.2.1).1
 ((q,gr q s.1 p.length),s.2.1)
theorem Ge.eq{q:List Int}(E:Ge t n p (rT t n p).1 (rT t n p).2.1 (rT t n p).2.2 q)(hp:yk (outer t) n=(p,true)):tQ t n=((q,gr q (rT t n p).1 p.length),(rT t n p).2.1):=by
 unfold tQ
 rw[hp]
 simp only[E.add]
end
section
variable {t : Tab} {n : Nat}
end
end Go.Am.Pu
end
section
/- Words of tableaux; the rows of a slide outwards. Plain words. -/
namespace Go.Am.Pu
end Go.Am.Pu
end
section
/- Partitions that are drawn; chains of partitions. Plain words. -/
namespace Go.Am.Pu
end Go.Am.Pu
end
section
/- Plain laws: tableaux side by side; a number's copies. -/
namespace Go.Am.Pu
open Go Go.Am
attribute [local instance] D.real
end Go.Am.Pu
end
section
/- Plain laws: boxes that lead on to an outer partition; chains. -/
namespace Go.Am.Pu
open Go Go.Am
attribute [local instance] D.real
end Go.Am.Pu
end
section
/- Plain laws: the local rule of insertion; exchanging places and numbers exchanges the two tableaux. -/
namespace Go.Am.Pu
end Go.Am.Pu
end
section
/- Plain laws: places and numbers exchanged: the tableau of the one is the recording of the other. -/
namespace Go.Am.Pu
def wd(L:List (Int×Int)):List Int:=L.map Prod.snd
def at1(s r:Nat):Nat:=if s=r then 1 else 0
structure Tr (L M : List (Int × Int)) : Prop where
  sl : L.Pairwise fun p q => p.1 < q.1
  sm : M.Pairwise fun p q => p.1 < q.1
  perm : M.Perm (L.map Prod.swap)
theorem Tr.symm{L M:List (Int×Int)}(h:Tr L M):Tr M L:=by
 refine⟨h.sm,h.sl,?_⟩
 have:=(h.perm.map Prod.swap).symm
 rwa [List.map_map,Prod.swap_swap_eq,List.map_id]at this
theorem Tr.len{L M:List (Int×Int)}(h:Tr L M):M.length=L.length:=by simpa using h.perm.length_eq
theorem Tr.mem{L M:List (Int×Int)}(h:Tr L M){p:Int×Int}(hp:p∈L):p.swap∈M:=h.perm.mem_iff.2 (List.mem_map_of_mem hp)
theorem EC{A B:List (Int×Int)}{x:Int×Int}:(A++B).Sublist (A++x::B):=(List.Sublist.refl A).append (List.sublist_cons_self x B)
theorem Tr.cut{L0 A B:List (Int×Int)}{p:Int×Int}(h:Tr (L0++ [p]) (A++p.swap::B)):Tr L0 (A++B):=by
 refine⟨(List.pairwise_append.1 h.sl).1,h.sm.sublist EC,?_⟩
 have h1:(A++p.swap::B).Perm (p.swap::(A++B)):=List.perm_middle
 have h2:((L0++ [p]).map Prod.swap).Perm (p.swap::L0.map Prod.swap):=by
  rw[List.map_append]
  exact List.perm_append_comm
 exact(List.perm_cons _).1 (h1.symm.trans (h.perm.trans h2))
theorem D7{L0:List (Int×Int)}{p:Int×Int}(h:(L0++ [p]).Pairwise fun p q=>p.1<q.1): ∀x∈L0,x.1<p.1:=fun x hx=>(List.pairwise_append.1 h).2.2 x hx p (by simp)
theorem Tr.top{L M0:List (Int×Int)}{q:Int×Int}(h:Tr L (M0++ [q])): ∀x∈L,x≠q.swap→x.2<q.1:=fun x hx hne=>by
 have hm:=h.mem hx
 rcases List.mem_append.1 hm with h1|h1
 ·exact D7 h.sm _ h1
 ·simp only[List.mem_singleton]at h1
  exact absurd (by rw[←h1,Prod.swap_swap]) hne
def AT:List (Int×Int)→List (List Int)→List (List Int)→List (List Int)
 | [],_,Q=>Q
 |p::L,P,Q=>AT L (bn P p.2).1 (gT Q (bn P p.2).2 p.1)
end Go.Am.Pu
end
section
/- Plain laws: taking a cell out undoes an insertion. -/
namespace Go.Am.Pu
structure Tk (rs : List (List Int)) (a : Nat) (R : List (List Int)) (y : Int) : Prop where
  ins : bn R y = (rs, a)
  ssr : SSR R
  pos : ∃ p, p < (rs.getD 0 []).length ∧ y = (rs.getD 0 []).getD p 0 ∧ (R.getD 0 []).length ≤ (rs.getD 0 []).length ∧ (∀ i, i < (R.getD 0 []).length → (rs.getD 0 []).getD i 0 ≤ (R.getD 0 []).getD i 0) ∧
    ∀ i, p ≤ i → i < (R.getD 0 []).length → y < (R.getD 0 []).getD i 0
end Go.Am.Pu
end
section
/- Plain laws: a removed number inserted again; a pair is what its word makes; the inverse of a permutation. -/
namespace Go.Am.Pu
end Go.Am.Pu
end
section
/- Plain laws: the inverse of a permutation; words that are their own standardization. -/
namespace Go.Am.Pu
section
variable {w : List Int} (h : isWord w = true) (ho : mL w = true)
include h ho
end
def plc(w:List Int)(i:Nat):Nat:=((List.range w.length).filter fun k=>decide (w.getD k 0<w.getD i 0)||(decide (w.getD k 0=w.getD i 0)&&decide (k<i))).length
def Fx(w:List Int):List Int:=if isWord w=true then(List.range w.length).map fun i=>((plc w i+1:Nat):Int)else []
end Go.Am.Pu
end
section
/- Standardization step by step; what the law of the pairs wants, with no program in sight. -/
namespace Go.Am.Pu
set_option linter.unusedSimpArgs false
set_option linter.unusedVariables false
def pc(w:List Int)(i q:Nat):Nat:=((List.range q).filter fun k=>decide (w.getD k 0<w.getD i 0)||(decide (w.getD k 0=w.getD i 0)&&decide (k<i))).length
theorem GC(w:List Int)(i q:Nat):pc w i q≤q:=by
 have:=List.length_filter_le (fun k=>decide (w.getD k 0<w.getD i 0)||(decide (w.getD k 0=w.getD i 0)&&decide (k<i))) (List.range q)
 rw[List.length_range]at this
 exact this
theorem GA{w:List Int}{i q:Nat}(h:w.getD q 0<w.getD i 0):pc w i (q+1)=pc w i q+1:=by
 simp only[pc,List.range_succ,List.filter_append,h,List.filter_cons,decide_true,Bool.true_or,List.filter_nil,if_true,List.length_append,List.length_singleton]
theorem F6{w:List Int}{i q:Nat}(h:w.getD q 0=w.getD i 0):pc w i (q+1)=pc w i q+(if decide ((q:Int)<(i:Int))=true then 1 else 0):=by
 have e:decide ((q:Int)<(i:Int))=decide (q<i):=by simp
 rw[e]
 simp only[pc,List.range_succ,List.filter_append,h,List.filter_cons,decide_true,Int.lt_irrefl,decide_false,Bool.false_or,Bool.true_and,List.filter_nil,List.length_append]
 cases decide (q<i)<;>rfl
theorem GF{w:List Int}{i q:Nat}(h: ¬w.getD q 0<w.getD i 0)(h': ¬w.getD q 0=w.getD i 0):pc w i (q+1)=pc w i q:=by
 simp only[pc,List.range_succ,List.filter_append,h,h',List.filter_cons,decide_false,Bool.false_and,Bool.or_false,List.filter_nil,List.append_nil,Bool.false_eq_true,if_false]
theorem F1(w:List Int)(i:Nat):pc w i w.length=plc w i:=rfl
end Go.Am.Pu
end
section
/- Plain laws: insertion of letters told anew; insertion and recording of pairs in order, with repeats. -/
namespace Go.Am.Pu
set_option linter.unusedVariables false
section
variable {f : Int → Int} (hf : ∀ a b, a ≤ b → f a ≤ f b)
include hf
omit hf in
end
def Lex(p q:Int×Int):Prop:=p.1<q.1∨(p.1=q.1∧p.2≤q.2)
end Go.Am.Pu
end
section
/- Plain laws: the word of a recorded pair is the word; a recording with repeats, told by standard numbers. -/
namespace Go.Am.Pu
set_option linter.unusedVariables false
theorem Cf{X Y:List (List Int)}(h:eU X Y)(he: ∀r x,r<X.length→x<(X.getD r []).length→cel X r x=cel Y r x):X=Y:=by
 refine D5 (d:= []) h.1 fun r hr=>D5 (d:=0) (h.2 r) fun x hx=>he r x hr hx
end Go.Am.Pu
end
section
/- Plain laws: pairs in order and their two tableaux. -/
namespace Go.Am.Pu
set_option linter.unusedVariables false
theorem Ej: ∀{a b:List Int},a.length=b.length→wd (a.zip b)=b∧(a.zip b).map Prod.fst=a
 | [],[],_=>⟨rfl,rfl⟩
 | [],b::B,h=>by simp at h
 |a::A,[],h=>by simp at h
 |a::A,b::B,h=>by
  obtain⟨i1,i2⟩:=Ej (a:=A) (b:=B) (by simpa using h)
  exact⟨congrArg (b:: ·) i1,congrArg (a:: ·) i2⟩
def POK(L:List (Int×Int)):Prop:=L.length≤9∧ ∀p∈L,(1≤p.1∧p.1≤9)∧1≤p.2∧p.2≤9
theorem POK.word{L:List (Int×Int)}(h:POK L):isWord (wd L)=true:=by
 unfold isWord within
 simp only[Bool.and_eq_true,decide_eq_true_eq,List.all_eq_true,wd,List.length_map]
 refine⟨h.1,fun x hx=> ?_⟩
 obtain⟨p,hp,rfl⟩:=List.mem_map.1 hx
 exact(h.2 p hp).2
section
variable {L : List (Int × Int)} (h : POK L) (hl : L.Pairwise Lex)
include h
theorem Fu:cK (([],mq (wd L) [] [] 0):Tab)=true∧jt (([],mq (wd L) [] [] 0):Tab)=true∧(mq (wd L) [] [] 0).flatten.length=L.length:=by
 have hw:=h.word
 have:=oY hw
 unfold dk at this
 rw[if_pos hw]at this
 simpa[wd]using this
theorem iC{r x i:Nat}(hi:i<L.length)(hr:r<(mq (wd L) [] [] 0).length)(hx:x<((mq (wd L) [] [] 0).getD r []).length)(e:cel (mq (wd L) [] [] 0) r x=((i+1:Nat):Int)):(BA (wd L) []).getD i 0=r:=by
 obtain⟨p1,p2,p3⟩:=Fu h
 have a:=(vF h.word).2 i (by simpa[wd]using hi)
 have b:=kM p1 p2 hr hx e
 omega
include hl
end
end Go.Am.Pu
end
section
/- Plain laws: matrices and their pairs. -/
namespace Go.Am.Pu
set_option linter.unusedVariables false
set_option linter.unusedSimpArgs false
def Gh(c:Nat)(r:List Int):Bool:=decide (r.length=c)&&(decide (r.length≤9)&&r.all fun n=>within n 0 9)
def vJ(m:List (List Int)):Bool:=decide (m.length≤9)&&(m.all (Gh (m.getD 0 []).length)&&decide (gM m.flatten≤9))
structure FN (r c : Nat) (m : List (List Int)) : Prop where
  len : m.length = r
  r9 : r ≤ 9
  row : ∀ x ∈ m, x.length = c
  c9 : ∀ x ∈ m, x.length ≤ 9
  num : ∀ x ∈ m, ∀ n ∈ x, 0 ≤ n ∧ n ≤ 9
  sum : gM m.flatten ≤ 9
theorem ye{m:List (List Int)}:vJ m=true↔FN m.length (m.getD 0 []).length m:=by
 unfold vJ Gh within
 simp only[Bool.and_eq_true,decide_eq_true_eq,List.all_eq_true]
 constructor
 ·rintro⟨a,b,c⟩
  exact⟨rfl,a,fun x hx=>(b x hx).1,fun x hx=>(b x hx).2.1,fun x hx=>(b x hx).2.2,c⟩
 ·rintro⟨_,a,b,c,d,e⟩
  exact⟨a,fun x hx=>⟨b x hx,c x hx,d x hx⟩,e⟩
theorem FN.is{r c:Nat}{m:List (List Int)}(h:FN r c m):vJ m=true:=by
 rw[ye]
 cases m with
 |nil=>exact⟨rfl,Nat.zero_le _,fun x hx=>(by cases hx),fun x hx=>(by cases hx),fun x hx=>(by cases hx),h.sum⟩
 |cons a m=>
  have:=h.row a (List.mem_cons_self ..)
  exact⟨rfl,by rw[h.len];exact h.r9,fun x hx=>by rw[List.getD_cons_zero,this];exact h.row x hx,h.c9,h.num,h.sum⟩
end Go.Am.Pu
end
section
/- Plain laws: a matrix is told by its two tableaux, and turning it exchanges them. -/
namespace Go.Am.Pu
set_option linter.unusedVariables false
end Go.Am.Pu
end
section
/- Plain laws: what the functions on matrices make step by step. -/
namespace Go.Am.Pu
set_option linter.unusedVariables false
theorem AJ{Q Q':List (List Int)}(h:eU Q Q'){a:Nat}(ha:a≤Q.length)(z z':Int):eU (gT Q a z) (gT Q' a z'):=by
 refine⟨by rw[lK,lK,h.1],fun i=> ?_⟩
 rw[pE z ha,pE z' (by rw[←h.1];exact ha)]
 have h1:=h.2 i
 have h2:=h.2 a
 split
 ·rw[List.length_append,List.length_append,h2];rfl
 ·exact h1
theorem yG: ∀(L:List (Int×Int)) (P Q:List (List Int)) (k:Nat),(∀i,i<L.length→(L.getD i (0,0)).1=((k+i+1:Nat):Int))→AT L P Q=mq (wd L) P Q k
 | [],_,_,_,_=>rfl
 |p::L,P,Q,k,h=>by
  have h0:=h 0 (Nat.zero_lt_succ _)
  rw[Nat.add_zero]at h0
  simp only[List.getD_cons_zero]at h0
  show AT L (bn P p.2).1 (gT Q (bn P p.2).2 p.1)=_
  rw[h0]
  exact yG L _ _ (k+1) fun i hi=>by
   have:=h (i+1) (by simpa using hi)
   rw[show k+1+i+1=k+(i+1)+1 by omega,←this,List.getD_cons_succ]
theorem Ch{W:List Int}:AT ((mV W.length).zip W) [] []=mq W [] [] 0:=by
 have hl:(mV W.length).length=W.length:=nh _
 rw[yG _ _ _ 0 fun i hi=>by
  rw[aB hi,List.getElem_zip]
  simp only[mV,List.getElem_map,List.getElem_range]
  omega]
 rw[(Ej hl).1]
end Go.Am.Pu
end
section
/- Plain laws: insertion by columns keeps the word's class. -/
namespace Go.Am.Pu
set_option linter.unusedVariables false
def hM(c:List Int)(x:Int):Nat:=c.findIdx fun n=>decide (x≤n)
def AN:List (List Int)→Int→List (List Int)
 | [],x=> [[x]]
 |c::cs,x=>if hM c x<c.length then c.set (hM c x) x::AN cs (c.getD (hM c x) 0)else(c++ [x])::cs
end Go.Am.Pu
end
section
/- Plain laws: columns and rows of a tableau; insertion by columns keeps it a tableau. -/
namespace Go.Am.Pu
set_option linter.unusedVariables false
def BN(c:List Int):List (List Int)→Prop
 | []=>True
 |d::_=>d.length≤c.length∧ ∀q,q<d.length→c.getD q 0≤d.getD q 0
def CC:List (List Int)→Prop
 | []=>True
 |c::cs=>0<c.length∧c.Pairwise (· < ·)∧BN c cs∧CC cs
theorem BP{c:List Int}(h:c.Pairwise (· < ·)){i j:Nat}(hij:i<j)(hj:j<c.length):c.getD i 0<c.getD j 0:=by
 rw[List.pairwise_iff_getElem]at h
 rw[aB (by omega),aB hj]
 exact h i j (by omega) hj hij
theorem Gk{c:List Int}(h:c.Pairwise (· < ·)){i j:Nat}(hij:i≤j)(hj:j<c.length):c.getD i 0≤c.getD j 0:=by
 rcases Nat.lt_or_ge i j with q|q
 ·have:=BP h q hj;omega
 ·rw[show i=j by omega];exact Int.le_refl _
theorem y9{c:List Int}(h: ∀i j,i<j→j<c.length→c.getD i 0<c.getD j 0):c.Pairwise (· < ·):=by
 rw[List.pairwise_iff_getElem]
 intro i j hi hj hij
 have:=h i j hij hj
 rwa [aB hi,aB hj]at this
theorem Bv{c:List Int}{x:Int}(h:hM c x<c.length):x≤c.getD (hM c x) 0:=by
 have:=List.findIdx_getElem (w:=h) (p:=fun n=>decide (x≤n))
 rw[aB h];exact of_decide_eq_true this
theorem xB{c:List Int}{x:Int}{i:Nat}(h:i<hM c x):c.getD i 0<x:=by
 have hl:i<c.length:=Nat.lt_of_lt_of_le h List.findIdx_le_length
 have:=List.not_of_lt_findIdx (p:=fun n=>decide (x≤n)) (xs:=c) h
 have:=of_decide_eq_false this
 rw[aB hl];omega
theorem xr{c:List Int}{x:Int}:hM c x≤c.length:=List.findIdx_le_length
theorem Ew{c:List Int}{x:Int}(h:c.Pairwise (· < ·))(hk:hM c x<c.length):(c.set (hM c x) x).Pairwise (· < ·):=y9 fun i j hij hj=>by
 rw[List.length_set]at hj
 rw[iG x hk,iG x hk]
 have ha:=Bv hk
 by_cases ci:i=hM c x
 ·rw[if_pos ci,if_neg (by omega)]
  have:=BP h (i:=hM c x) (j:=j) (by omega) hj
  omega
 ·rw[if_neg ci]
  by_cases cj:j=hM c x
  ·rw[if_pos cj];exact xB (by omega)
  ·rw[if_neg cj];exact BP h hij hj
theorem E8{c:List Int}{x:Int}(h:c.Pairwise (· < ·))(hk: ¬hM c x<c.length):(c++ [x]).Pairwise (· < ·):=y9 fun i j hij hj=>by
 rw[List.length_append,List.length_singleton]at hj
 rw[fA,fA]
 by_cases cj:j=c.length
 ·rw[if_neg (by omega),if_pos cj];exact xB (by have:= @xr c x;omega)
 ·rw[if_neg (by omega),if_neg cj];exact BP h hij (by omega)
theorem C3{c:List Int}{x:Int}{cs:List (List Int)}(h:c.Pairwise (· < ·))(hk:hM c x<c.length)(ho:BN c cs)(hc:CC cs):BN (c.set (hM c x) x) (AN cs (c.getD (hM c x) 0)):=by
 have hy:=Bv hk
 have hle: ∀q,q<c.length→(c.set (hM c x) x).getD q 0≤c.getD q 0:=fun q hq=>by
  rw[iG x hk]
  split
  ·next e=>rw[e];exact hy
  ·exact Int.le_refl _
 have hset: ∀q,q≤hM c x→(c.set (hM c x) x).getD q 0≤c.getD (hM c x) 0:=fun q hq=>by
  have:=hle q (by omega)
  have:=Gk h hq hk
  omega
 cases cs with
 |nil=>
  refine⟨by show 1≤_;rw[List.length_set];omega,fun q hq=> ?_⟩
  have hq:q<1:=hq
  rw[show q=0 by omega]
  exact hset 0 (Nat.zero_le _)
 |cons d ds=>
  obtain⟨o1,o2⟩:=ho
  have hk':hM d (c.getD (hM c x) 0)≤hM c x:=Nat.le_of_not_lt fun hlt=>by
   have hd:hM c x<d.length:=by have:= @xr d (c.getD (hM c x) 0);omega
   have a:=xB hlt
   have b:=o2 _ hd
   omega
  show BN _ (if hM d (c.getD (hM c x) 0)<d.length then _ else _)
  by_cases g:hM d (c.getD (hM c x) 0)<d.length
  ·rw[if_pos g]
   refine⟨by rw[List.length_set,List.length_set];exact o1,fun q hq=> ?_⟩
   rw[List.length_set]at hq
   rw[iG _ g]
   split
   ·next e=>exact hset q (by omega)
   ·have:=hle q (by omega)
    have:=o2 q hq
    omega
  ·rw[if_neg g]
   have e:hM d (c.getD (hM c x) 0)=d.length:=by have:= @xr d (c.getD (hM c x) 0);omega
   refine⟨by rw[List.length_set,List.length_append,List.length_singleton];omega,fun q hq=> ?_⟩
   rw[List.length_append,List.length_singleton]at hq
   rw[fA]
   split
   ·next e2=>exact hset q (by omega)
   ·have:=hle q (by omega)
    have:=o2 q (by omega)
    omega
theorem DE: ∀(C:List (List Int)) (x:Int),CC C→CC (AN C x)
 | [],x,_=>⟨by simp,by simp,trivial,trivial⟩
 |c::cs,x,⟨h1,h2,h3,h4⟩=>by
  show CC (if hM c x<c.length then _ else _)
  by_cases g:hM c x<c.length
  ·rw[if_pos g]
   exact⟨by rw[List.length_set];exact h1,Ew h2 g,C3 h2 g h3 h4,DE cs _ h4⟩
  ·rw[if_neg g]
   refine⟨by rw[List.length_append,List.length_singleton];omega,E8 h2 g,?_,h4⟩
   cases cs with
   |nil=>trivial
   |cons d ds=>
    obtain⟨o1,o2⟩:=h3
    exact⟨by rw[List.length_append,List.length_singleton];omega,fun q hq=>by rw[fA,if_neg (by omega)];exact o2 q hq⟩
theorem yh: ∀{C:List (List Int)},CC C→(∀c∈C,0<c.length∧c.Pairwise (· < ·))∧ ∀i,i+1<C.length→(C.getD (i+1) []).length≤(C.getD i []).length∧ ∀q,q<(C.getD (i+1) []).length→(C.getD i []).getD q 0≤(C.getD (i+1) []).getD q 0
 | [],_=>⟨fun c hc=>(by cases hc),fun i hi=>(by simp at hi)⟩
 |c::cs,⟨h1,h2,h3,h4⟩=>by
  obtain⟨a,b⟩:=yh h4
  refine⟨fun d hd=> ?_,fun i hi=> ?_⟩
  ·rcases List.mem_cons.1 hd with rfl|hd
   ·exact⟨h1,h2⟩
   ·exact a d hd
  ·cases i with
   |zero=>
    cases cs with
    |nil=>simp at hi
    |cons d ds=>exact h3
   |succ i=>exact b i (by simpa using hi)
def mF:List Int→List (List Int)→List (List Int)
 | [],C=>C
 |n::r,[]=> [n]::mF r []
 |n::r,c::C=>(n::c)::mF r C
def dN:List (List Int)→List (List Int)
 | []=> []
 |r::rs=>mF r (dN rs)
def Reg(t:List (List Int)):Prop:=(∀r∈t,0<r.length)∧ ∀i,i+1<t.length→(t.getD (i+1) []).length≤(t.getD i []).length
theorem Reg.tail{r:List Int}{rs:List (List Int)}(h:Reg (r::rs)):Reg rs∧(rs.getD 0 []).length≤r.length:=by
 refine⟨⟨fun s hs=>h.1 s (List.mem_cons_of_mem _ hs),fun i hi=>h.2 (i+1) (by simpa using hi)⟩,?_⟩
 cases rs with
 |nil=>exact Nat.zero_le _
 |cons s rs=>exact h.2 0 (by simp)
theorem sn: ∀(r:List Int) (C:List (List Int)),C.length≤r.length→(mF r C).length=r.length
 | [],C,h=>by simp at h;subst h;rfl
 |n::r,[],_=>by simp[mF,sn r [] (Nat.zero_le _)]
 |n::r,c::C,h=>by simp[mF,sn r C (by simpa using h)]
theorem sA: ∀(r:List Int) (C:List (List Int)) (q:Nat),C.length≤r.length→(mF r C).getD q []=if q<r.length then r.getD q 0::C.getD q []else []
 | [],C,q,h=>by simp at h;subst h;simp[mF]
 |n::r,[],0,_=>by simp[mF]
 |n::r,[],q+1,_=>by
  have:=sA r [] q (Nat.zero_le _)
  simp only[mF,List.getD_cons_succ,this,List.length_cons]
  by_cases h:q<r.length
  ·rw[if_pos h,if_pos (by omega)];simp
  ·rw[if_neg h,if_neg (by omega)]
 |n::r,c::C,0,_=>by simp[mF]
 |n::r,c::C,q+1,h=>by
  have:=sA r C q (by simpa using h)
  simp only[mF,List.getD_cons_succ,this,List.length_cons]
  by_cases g:q<r.length
  ·rw[if_pos g,if_pos (by omega)]
  ·rw[if_neg g,if_neg (by omega)]
theorem oz: ∀{t:List (List Int)},Reg t→(dN t).length=(t.getD 0 []).length
 | [],_=>rfl
 |r::rs,h=>by
  have:=oz h.tail.1
  exact sn r _ (by rw[this];exact h.tail.2)
theorem lE: ∀{t:List (List Int)},Reg t→ ∀q i,(i<((dN t).getD q []).length↔q<(t.getD i []).length)∧((dN t).getD q []).getD i 0=(t.getD i []).getD q 0
 | [],_,q,i=>by simp[dN]
 |r::rs,h,q,i=>by
  have hl:=oz h.tail.1
  have ht:=h.tail.2
  have e:=sA r (dN rs) q (by rw[hl];exact ht)
  show(i<((mF r (dN rs)).getD q []).length↔_)∧((mF r (dN rs)).getD q []).getD i 0=_
  rw[e]
  by_cases g:q<r.length
  ·rw[if_pos g]
   cases i with
   |zero=>simp[g]
   |succ i=>
    have:=lE h.tail.1 q i
    simp only[List.length_cons,List.getD_cons_succ]
    exact⟨by rw[←this.1];omega,this.2⟩
  ·rw[if_neg g]
   have hle: ∀i,((r::rs).getD i []).length≤r.length:=by
    intro i
    induction i with
    |zero=>simp
    |succ i ih=>
     by_cases hi:i+1<(r::rs).length
     ·exact Nat.le_trans (h.2 i hi) ih
     ·rw[List.getD_eq_getElem?_getD,List.getElem?_eq_none (by omega)];exact Nat.zero_le _
   have:=hle i
   refine⟨⟨fun h=>by simp at h,fun h=>by omega⟩,?_⟩
   rw[List.getD_eq_getElem?_getD (l:=(r::rs).getD i []),List.getElem?_eq_none (by omega)]
   simp
theorem Dc{C:List (List Int)}(h:CC C):Reg C:=⟨fun c hc=>((yh h).1 c hc).1,fun i hi=>((yh h).2 i hi).1⟩
end Go.Am.Pu
end
section
/- Plain laws: one step of insertion by columns, seen in the rows. -/
namespace Go.Am.Pu
set_option linter.unusedVariables false
theorem uR{α:Type}{l:List α}{i:Nat}(h:l.length≤i)(d:α):l.getD i d=d:=by
 rw[List.getD_eq_getElem?_getD,List.getElem?_eq_none h];rfl
theorem gss{l:List (List Int)}{i:Nat}(h:i<l.length)(v:List Int):(l.set i v).getD i []=v:=by
 rw[aB (by rw[List.length_set];exact h),List.getElem_set_self]
def mo(D:List (List Int))(c:Nat)(x:Int):List (List Int):=if c=D.length then D++ [[x]]else D.set c (D.getD c []++ [x])
theorem zF{D:List (List Int)}{c:Nat}(x:Int)(hc:c≤D.length)(i:Nat):(mo D c x).getD i []=if i=c then D.getD c []++ [x]else D.getD i []:=pE (Q:=D) (a:=c) x hc i
theorem DL{D:List (List Int)}(h:Reg D){c:Nat}(hc:c≤D.length)(x:Int)(h':Reg (mo D c x)):dN (mo D c x)=mo (dN D) (D.getD c []).length x∧(D.getD c []).length≤(dN D).length∧((dN D).getD (D.getD c []).length []).length=c:=by
 have hg:=zF x hc
 have hlen: ∀i,((mo D c x).getD i []).length=if i=c then(D.getD c []).length+1 else(D.getD i []).length:=fun i=>by
  rw[hg];split
  ·rw[List.length_append,List.length_singleton]
  ·rfl
 have ant: ∀d,(D.getD d []).length≤(D.getD 0 []).length:=by
  intro d
  induction d with
  |zero=>exact Nat.le_refl _
  |succ d ih=>
   by_cases hd:d+1<D.length
   ·exact Nat.le_trans (h.2 d hd) ih
   ·rw[uR (by omega)];exact Nat.zero_le _
 have hrl:(D.getD c []).length≤(dN D).length:=by rw[oz h];exact ant c
 have hrc:((dN D).getD (D.getD c []).length []).length=c:=by
  refine Nat.le_antisymm (Nat.le_of_not_lt fun hlt=> ?_) (Nat.le_of_not_lt fun hlt=> ?_)
  ·have:=(lE h _ c).1.1 hlt
   omega
  ·
   have a:=(lE h (D.getD c []).length ((dN D).getD (D.getD c []).length []).length).1
   have hc':((dN D).getD (D.getD c []).length []).length<D.length:=by omega
   generalize hm:((dN D).getD (D.getD c []).length []).length=m at*
   have b: ¬(D.getD c []).length<(D.getD m []).length:=fun hh=>by have:=a.2 hh;omega
   have mono: ∀e,m+e≤c→((mo D c x).getD (m+e) []).length≤((mo D c x).getD m []).length:=by
    intro e
    induction e with
    |zero=>intro _;exact Nat.le_refl _
    |succ e ih=>
     intro he
     have hl2:(mo D c x).length=if c=D.length then D.length+1 else D.length:=lK x
     exact Nat.le_trans (h'.2 (m+e) (by rw[hl2];split<;>omega)) (ih (by omega))
   have:=mono (c-m) (by omega)
   rw[show m+(c-m)=c by omega,hlen,hlen,if_pos rfl,if_neg (by omega)]at this
   omega
 refine⟨?_,hrl,hrc⟩
 have hg2:=zF (D:=dN D) (c:=(D.getD c []).length) x hrl
 have hl2:(mo (dN D) (D.getD c []).length x).length=if(D.getD c []).length=(dN D).length then(dN D).length+1 else(dN D).length:=lK x
 have hrow2: ∀i,((mo (dN D) (D.getD c []).length x).getD i []).length=if i=(D.getD c []).length then c+1 else((dN D).getD i []).length:=fun i=>by
  rw[hg2];split
  ·rw[List.length_append,List.length_singleton,hrc]
  ·rfl
 have key: ∀i q,q<((dN (mo D c x)).getD i []).length↔q<((mo (dN D) (D.getD c []).length x).getD i []).length:=fun i q=>by
  rw[(lE h' i q).1,hlen,hrow2]
  have a:=(lE h i q).1
  by_cases e:q=c
  ·subst e
   rw[if_pos rfl]
   by_cases e2:i=(D.getD q []).length
   ·rw[if_pos e2];omega
   ·rw[if_neg e2,a];omega
  ·rw[if_neg e]
   by_cases e2:i=(D.getD c []).length
   ·rw[if_pos e2,←a,e2,hrc];omega
   ·rw[if_neg e2,a]
 have hl:(dN (mo D c x)).length=(mo (dN D) (D.getD c []).length x).length:=by
  rw[oz h',hlen,hl2,oz h]
  by_cases e:0=c
  ·subst e
   rw[if_pos rfl,if_pos rfl]
  ·rw[if_neg e]
   split
   ·next e2=>
    exfalso
    have mono: ∀e,e≤c→((mo D c x).getD e []).length≤((mo D c x).getD 0 []).length:=by
     intro e
     induction e with
     |zero=>intro _;exact Nat.le_refl _
     |succ e ih=>
      intro he
      have hl3:(mo D c x).length=if c=D.length then D.length+1 else D.length:=lK x
      exact Nat.le_trans (h'.2 e (by rw[hl3];split<;>omega)) (ih (by omega))
    have:=mono c (Nat.le_refl _)
    rw[hlen,hlen,if_pos rfl,if_neg e]at this
    omega
   ·rfl
 refine Cf ⟨hl,fun i=> ?_⟩ fun i q hi hq=> ?_
 ·refine Nat.le_antisymm (Nat.le_of_not_lt fun hlt=> ?_) (Nat.le_of_not_lt fun hlt=> ?_)
  ·have:=(key i _).1 hlt;omega
  ·have:=(key i _).2 hlt;omega
 ·show((dN (mo D c x)).getD i []).getD q 0=((mo (dN D) (D.getD c []).length x).getD i []).getD q 0
  rw[(lE h' i q).2,hg,hg2]
  by_cases e:q=c
  ·rw[if_pos e]
   by_cases e2:i=(D.getD c []).length
   ·rw[if_pos e2,e2,fA,if_pos rfl,fA,if_pos (by rw[hrc];exact e)]
   ·rw[if_neg e2,fA,if_neg e2,(lE h i q).2,e]
  ·rw[if_neg e]
   by_cases e2:i=(D.getD c []).length
   ·rw[if_pos e2,fA,if_neg (by rw[hrc];exact e),(lE h _ q).2,e2]
   ·rw[if_neg e2,(lE h i q).2]
structure wi (C : List (List Int)) (z : Int) (D : List (List Int)) (c : Nat) (x : Int) : Prop where
  same : eU D C
  rest : D.drop c = C.drop c
  inv : D.take c ++ AN (D.drop c) x = AN C z
  le : c ≤ D.length
section
variable {C D : List (List Int)} {z x : Int} {c : Nat} (h : CC C) (s : wi C z D c x)
include s
theorem wi.col:D.getD c []=C.getD c []:=by
 have:=congrArg (fun l:List (List Int)=>l.getD 0 []) s.rest
 simp only[List.getD_eq_getElem?_getD,List.getElem?_drop,Nat.add_zero]at this⊢
 exact this
include h
theorem wi.reg:Reg D:=by
 have hr:=Dc h
 refine⟨fun d hd=> ?_,fun i hi=> ?_⟩
 ·obtain⟨i,hi,rfl⟩:=List.getElem_of_mem hd
  rw[←aB hi [],s.same.2 i]
  have:i<C.length:=by rw[←s.same.1];exact hi
  exact hr.1 _ (by rw[aB this];exact List.getElem_mem this)
 ·rw[s.same.2,s.same.2];exact hr.2 i (by rw[←s.same.1];exact hi)
theorem wi.up:(D.getD c []).Pairwise (· < ·):=by
 rw[s.col]
 by_cases hc:c<C.length
 ·rw[aB hc];exact((yh h).1 _ (List.getElem_mem hc)).2
 ·rw[uR (by omega)];exact List.Pairwise.nil
theorem wi.step(hr:hM (D.getD c []) x<(D.getD c []).length):c<D.length∧wi C z (D.set c ((D.getD c []).set (hM (D.getD c []) x) x)) (c+1) ((D.getD c []).getD (hM (D.getD c []) x) 0):=by
 have hc:c<D.length:=Nat.lt_of_not_le fun hle=>by rw[uR hle]at hr;simp at hr
 refine⟨hc,⟨⟨by rw[List.length_set];exact s.same.1,fun i=> ?_⟩,?_,?_,by rw[List.length_set];exact hc⟩⟩
 ·rw[←s.same.2 i]
  by_cases e:i=c
  ·subst e;rw[gss hc,List.length_set]
  ·rw[getD_set_ne (fun h=>e h.symm)]
 ·have:=congrArg List.tail s.rest
  rw[List.tail_drop,List.tail_drop]at this
  rw[List.drop_set_of_lt (Nat.lt_succ_self _)]
  exact this
 ·rw[←s.inv,drop_cons hc [],List.drop_set_of_lt (Nat.lt_succ_self _),List.take_succ_eq_append_getElem (by rw[List.length_set];exact hc),List.take_set_of_le (Nat.le_refl _),List.getElem_set_self]
  show _=D.take c++(if hM (D.getD c []) x<(D.getD c []).length then _ else _)
  rw[if_pos hr]
  simp only[List.append_assoc,List.singleton_append]
theorem wi.fin(hr: ¬hM (D.getD c []) x<(D.getD c []).length):dN (AN C z)=mo (dN D) (D.getD c []).length x∧(D.getD c []).length≤(dN D).length∧((dN D).getD (D.getD c []).length []).length=c:=by
 have e:mo D c x=AN C z:=by
  rw[←s.inv]
  unfold mo
  by_cases hc:c=D.length
  ·rw[if_pos hc,hc,List.take_length,List.drop_length];rfl
  ·have hlt:c<D.length:=by have:=s.le;omega
   rw[if_neg hc,drop_cons hlt []]
   show _=D.take c++(if hM (D.getD c []) x<(D.getD c []).length then _ else _)
   rw[if_neg hr,List.set_eq_take_append_cons_drop,if_pos hlt]
 have:=DL (s.reg h) s.le x (by rw[e];exact Dc (DE C z h))
 rw[e]at this
 exact this
end
end Go.Am.Pu
end
section
/- Plain laws: columns gathered row by row. -/
namespace Go.Am.Pu
set_option linter.unusedVariables false
section
variable {C : List (List Int)} {x : Int} {c : Nat}
end
end Go.Am.Pu
end
section
/- Plain laws: a word turned about and complemented. -/
namespace Go.Am.Pu
set_option linter.unusedVariables false
end Go.Am.Pu
end
section
/- Plain laws: evacuation is insertion of the word turned about. -/
namespace Go.Am.Pu
set_option linter.unusedVariables false
theorem Kn.perm{u v:List Int}(h:Kn u v):u.Perm v:=by
 induction h with
 |refl w=>exact .refl _
 |symm _ ih=>exact ih.symm
 |trans _ _ h1 h2=>exact h1.trans h2
 |tri a b t=>
  refine(List.Perm.append_left a ?_).append_right b
  obtain⟨x,y,z,⟨_,_,rfl,rfl⟩|⟨_,_,rfl,rfl⟩⟩:=t
  ·exact(List.Perm.swap x z []).cons y
  ·exact List.Perm.swap z x [y]
end Go.Am.Pu
end
section
/- Plain laws: evacuating a standard tableau twice. -/
namespace Go.Am.Pu
set_option linter.unusedVariables false
end Go.Am.Pu
end
section
/- Texts as lists of bytes. Plain words. -/
namespace Go.Am.Pu
open Go Go.Am
def tx(l:List UInt8):ByteArray:=⟨l.toArray⟩
theorem eT(l:List UInt8):(tx l).size=l.length:=rfl
theorem lT(a b:List UInt8):tx a++tx b=tx (a++b):=by
 apply ByteArray.ext
 rw[ByteArray.data_append]
 show a.toArray++b.toArray=(a++b).toArray
 simp
theorem B5(l:List UInt8):(tx l).data.toList=l:=rfl
theorem ok_eq{α:Type}{x:Option α}{v:α}(h:Ok x (· =v)):x=some v:=by
 obtain⟨y,e,hy⟩:=h
 rw[e,hy]
def dcm(n:Int):List UInt8:=Lib.decDigits n.toNat
theorem nk{n:Int}(h:n<10):dcm n= [UInt8.ofNat (48+n.toNat)]:=by
 unfold dcm
 rw[Lib.decDigits,dif_pos (by omega)]
theorem Bo{n:Int}(h0:10≤n)(h:n<100):dcm n= [UInt8.ofNat (48+n.toNat/10),UInt8.ofNat (48+n.toNat % 10)]:=by
 unfold dcm
 rw[Lib.decDigits,dif_neg (by omega),Lib.decDigits,dif_pos (by omega)]
 rfl
theorem kW{n:Int}(h:n<100):(dcm n).length≤2:=by
 by_cases c:n<10
 ·rw[nk c];simp
 ·rw[Bo (by omega) h];simp
theorem CA{n:Int}(h0:0≤n)(h:n<100):sK n=some (tx (dcm n)):=by
 unfold sK
 rw[if_pos ⟨h0,h⟩];rfl
theorem BX: ∀(ws:List (List UInt8)) (m:Nat),(∀w∈ws,w.length≤m)→Lib.lens ws≤ws.length*m
 | [],m,_=>by simp[Lib.lens]
 |w::r,m,h=>by
  have h1:=h w (by simp)
  have h2:=BX r m (fun x hx=>h x (by simp[hx]))
  have e:Lib.lens (w::r)=w.length+Lib.lens r:=by simp[Lib.lens]
  rw[e,List.length_cons,Nat.succ_mul]
  omega
theorem qW(ws:List (List UInt8))(sep:List UInt8)(m:Nat)(h: ∀w∈ws,w.length≤m):(Lib.join ws sep).length≤ws.length*(m+sep.length):=by
 cases ws with
 |nil=>simp[Lib.join_nil]
 |cons w r=>
  rw[Lib.join_cons,List.length_append,Lib.joinTail_length,List.length_cons,Nat.succ_mul,Nat.mul_add]
  have h1:=h w (by simp)
  have h2:=BX r m (fun x hx=>h x (by simp[hx]))
  have:=Nat.mul_comm sep.length r.length
  omega
theorem Cw{ws:List (List UInt8)}{sep:List UInt8}(h1:ws.length≤1000)(h2: ∀w∈ws,w.length≤10000)(hs:sep.length≤10):rV (ws.map tx) (tx sep)=some (tx (Lib.join ws sep)):=by
 unfold rV
 have e:(ws.map tx).map (fun s:ByteArray=>s.data.toList)=ws:=by
  rw[List.map_map]
  conv=>rhs;rw[←List.map_id ws]
  rfl
 have e2:(tx sep).data.toList=sep:=rfl
 simp only[e,e2]
 have hl:=qW ws sep 10000 h2
 have:ws.length*(10000+sep.length)≤1000*10010:=Nat.mul_le_mul h1 (by omega)
 rw[if_pos ⟨by rw[List.length_map];omega,by omega⟩]
 rfl
theorem tv: ∀n:Nat,Lib.repeatL [46] n=List.replicate n 46
 |0=>rfl
 |n+1=>by rw[Lib.repeatL,tv n];rfl
theorem Dk{n:Int}(h0:0≤n)(h:n≤1000):xb (tx [46]) n=some (tx (List.replicate n.toNat 46)):=by
 unfold xb
 have e:(tx [46]).size=1:=rfl
 have e2:(tx [46]).data.toList= [46]:=rfl
 rw[e,e2,if_pos ⟨h0,by omega,by omega⟩,tv]
 rfl
theorem AG(ws:List (List UInt8)):Lib.join ws []=ws.flatten:=by
 cases ws with
 |nil=>rfl
 |cons w r=>
  rw[Lib.join_cons]
  unfold Lib.joinTail
  simp
def gQ(w:List Int):List UInt8:=w.flatMap dcm
theorem tk(w:List Int):Lib.join (w.map dcm) []=gQ w:=by
 rw[AG];rfl
theorem oc{w:List Int}(h: ∀x∈w,x<100):(gQ w).length≤w.length*2:=by
 induction w with
 |nil=>simp[gQ]
 |cons x r ih=>
  have:=kW (h x (by simp))
  have:=ih (fun y hy=>h y (by simp[hy]))
  simp only[gQ,List.flatMap_cons,List.length_append,List.length_cons]at*
  omega
def eI(w:List Int):List UInt8:=if isWord w=true then(if w= []then [45]else gQ w)else []
def jF(p:List Int):List UInt8:=if cM p=true then(if p= []then [45]else Lib.join (p.map dcm) [44])else []
def oU(t:Tab)(i:Nat):List UInt8:=List.replicate (atI t.1 i).toNat 46++gQ (t.2.getD i [])
def jU(t:Tab):List UInt8:=if iD t=true then(if t.2= []then [45]else Lib.join ((List.range t.2.length).map (oU t)) [47])else []
theorem oQ(w:List Int):(eI w).length≤20:=by
 unfold eI
 split
 ·next h=>
  split
  ·simp
  ·obtain⟨h1,h2⟩:=bY h
   have:=oc (w:=w) (fun x hx=>by have:=(h2 x hx).2;omega)
   omega
 ·simp
def cU(s:List UInt8):List Int:=s.map fun b=>(b.toNat:Int)-48
def gm(s:ByteArray):List Int×Bool:=
 if(tx (eI (if s.toList==(tx [45]).toList then []else cU s.data.toList))).toList==s.toList then((if s.toList==(tx [45]).toList then []else cU s.data.toList),true)else([],false)
end Go.Am.Pu
namespace Go.Am.Pu
def eF(n:Int):List UInt8:=
 if n=1 then [51,49,50]else if n=2 then [50,49,49,51]else if n=3 then [53,52,51,50,49]else if n=4 then [49,50,49,50]else if n=5 then [45]else if n=6 then [51,53,49,52,50]else []
end Go.Am.Pu
namespace Go.Am.Pu
theorem mP(s:List UInt8):(cU s).length=s.length:=by unfold cU;rw[List.length_map]
theorem qn(s:ByteArray):(gm s).1.length≤s.size:=by
 unfold gm
 have key:(if(s.toList==(tx [45]).toList)=true then []else cU s.data.toList).length≤s.size:=by
  split
  ·simp
  ·rw[mP];exact Nat.le_refl _
 generalize(if(s.toList==(tx [45]).toList)=true then []else cU s.data.toList)=w at*
 by_cases c:((tx (eI w)).toList==s.toList)=true
 ·rw[if_pos c];exact key
 ·rw[if_neg c];exact Nat.zero_le _
theorem qy(n:Int):(eF n).length≤5:=by
 unfold eF
 repeat' split
 all_goals simp
end Go.Am.Pu
namespace Go.Am.Pu
theorem iv{t:Tab}(h:iD t=true):fU 9 9 t.2:=by
 obtain⟨h1,h2,h3,h4⟩:=jN h
 obtain⟨b1,_,b3,_⟩:=cW h2
 have hl:(outer t).length=t.2.length:=eO t
 refine⟨by omega,fun r hr=> ?_⟩
 obtain⟨i,hi,rfl⟩:=List.getElem_of_mem hr
 have e:=iT t.1 t.2 0 i hi
 have hm:(outer t).getD i 0∈outer t:=by rw[aB (show i<(outer t).length by omega) _];exact List.getElem_mem _
 have h9:=(b1 _ hm).2
 have h0:=(E4 h1 (0+i)).1
 have e':(outer t).getD i 0=t.1.getD (0+i) 0+(t.2.getD i []).length:=e
 rw[aB hi]at e'
 omega
theorem sB{t:Tab}(h:iD t=true){i:Nat}{x:Int}(hx:x∈t.2.getD i []):1≤x∧x≤9:=by
 obtain⟨q,hq,rfl⟩:=List.getElem_of_mem hx
 have hi:i<t.2.length:=by
  by_cases c:i<t.2.length
  ·exact c
  ·rw[List.getD_eq_getElem?_getD,List.getElem?_eq_none (by omega)]at hq;simp at hq
 have:=(jN h).2.2.2 i q hi hq
 simp only[gU,within,Bool.and_eq_true,decide_eq_true_eq]at this
 rw[aB hq]at this
 exact this.1
theorem py{t:Tab}(h:iD t=true)(i:Nat):(oU t i).length≤100:=by
 unfold oU
 rw[List.length_append,List.length_replicate]
 have h1:=fK (jN h).1 i
 have h2:=oc (w:=t.2.getD i []) (fun x hx=>by have:=(sB h hx).2;omega)
 have h3:=(iv h).at i
 omega
theorem kQ(t:Tab):(jU t).length≤2000:=by
 unfold jU
 split
 ·next h=>
  split
  ·simp
  ·have:=qW ((List.range t.2.length).map (oU t)) [47] 100 (fun w hw=>by
    obtain⟨i,_,rfl⟩:=List.mem_map.1 hw
    exact py h i)
   have h2:=(iv h).1
   rw[List.length_map,List.length_range]at this
   have h3:t.2.length*(100+([47]:List UInt8).length)≤9*101:=Nat.mul_le_mul h2 (by simp)
   omega
 ·simp
theorem ou(p:List Int):(jF p).length≤100:=by
 unfold jF
 split
 ·next h=>
  obtain⟨h1,_,h3,_⟩:=cW h
  split
  ·simp
  ·have:=qW (p.map dcm) [44] 2 (fun w hw=>by
    obtain⟨i,hi,rfl⟩:=List.mem_map.1 hw
    exact kW (by have:=(h1 i hi).2;omega))
   rw[List.length_map]at this
   have h3:p.length*(2+([44]:List UInt8).length)≤9*3:=Nat.mul_le_mul h3 (by simp)
   omega
 ·simp
theorem EH(l:List UInt8):(⟨(((tx l).data.toList.map fun b=>(b.toNat:Int)).map fun n=>UInt8.ofNat n.toNat).toArray⟩:ByteArray)=tx l:=by
 rw[B5,List.map_map]
 have:((fun n:Int=>UInt8.ofNat n.toNat)∘fun b:UInt8=>(b.toNat:Int))=id:=by
  funext b;simp
 rw[this,List.map_id];rfl
def oK(ws:List (List UInt8))(sep:List UInt8)(i:Nat):List UInt8:=Lib.join (ws.take i) sep
theorem zD{ws:List (List UInt8)}{sep:List UInt8}{i:Nat}(h:i<ws.length):oK ws sep (i+1)=oK ws sep i++(if i=0 then []else sep)++ws.getD i []:=by
 unfold oK
 cases ws with
 |nil=>simp at h
 |cons w r=>
  cases i with
  |zero=>
   rw[List.take_succ_cons,List.take_zero,Lib.join_one,List.take_zero,Lib.join_nil]
   rfl
  |succ i=>
   have hr:i<r.length:=by simpa using h
   rw[List.take_succ_cons,List.take_succ_cons,Lib.join_cons,Lib.join_cons,Lib.joinTail_take_succ sep r i (r.getD i []) (by rw[aB hr];exact List.getElem?_eq_getElem hr)]
   simp only[List.getD_cons_succ,List.append_assoc,Nat.succ_ne_zero,if_false]
end Go.Am.Pu
end
section
/- Inversions, major index, lattice words, raising: plain words. -/
namespace Go.Am.Pu
open Go Go.Am
def mK(w:List Int)(k:Nat):Nat→Nat→Int
 |0,_=>0
 |m+1,i=>(if w.getD k 0<w.getD i 0 then 1 else 0)+mK w k m (i+1)
def mG(w:List Int):Nat→Nat→Int
 |0,_=>0
 |m+1,k=>mK w k k 0+mG w m (k+1)
def inv(w:List Int):Int:=if isWord w=true then mG w w.length 0 else-1
theorem qL(w:List Int)(k:Nat): ∀m i,0≤mK w k m i∧mK w k m i≤m
 |0,_=>by simp[mK]
 |m+1,i=>by
  have:=qL w k m (i+1)
  unfold mK
  split<;>omega
theorem zB(w:List Int): ∀m k,m+k≤9→0≤mG w m k∧mG w m k≤m*9
 |0,_,_=>by simp[mG]
 |m+1,k,h=>by
  have h1:=zB w m (k+1) (by omega)
  have h2:=qL w k k 0
  unfold mG
  omega
theorem sb{w:List Int}(h:isWord w=true):0≤inv w∧inv w<100:=by
 have hl:=(bY h).1
 have:=zB w w.length 0 (by omega)
 unfold inv
 rw[if_pos h]
 omega
def nI(w:List Int):Nat→Nat→Int
 |0,_=>0
 |m+1,k=>(if w.getD k 0<w.getD (k-1) 0 then(k:Int)else 0)+nI w m (k+1)
def maj(w:List Int):Int:=if isWord w=true then nI w (w.length-1) 1 else-1
theorem yW(w:List Int): ∀m k,m+k≤9→0≤nI w m k∧nI w m k≤m*9
 |0,_,_=>by simp[nI]
 |m+1,k,h=>by
  have h1:=yW w m (k+1) (by omega)
  unfold nI
  split<;>omega
theorem sR{w:List Int}(h:isWord w=true):0≤maj w∧maj w<100:=by
 have hl:=(bY h).1
 unfold maj
 rw[if_pos h]
 by_cases c:w.length=0
 ·rw[c];simp[nI]
 ·have:=yW w (w.length-1) 1 (by omega)
  omega
def ta(w:List Int):Nat→List Int→Bool
 |0,_=>true
 |m+1,c=>
  if 1<w.getD m 0∧(c.set (w.getD m 0).toNat (c.getD (w.getD m 0).toNat 0+1)).getD ((w.getD m 0).toNat-1) 0<(c.set (w.getD m 0).toNat (c.getD (w.getD m 0).toNat 0+1)).getD (w.getD m 0).toNat 0 then false
  else ta w m (c.set (w.getD m 0).toNat (c.getD (w.getD m 0).toNat 0+1))
def lat(w:List Int):Bool:=isWord w&&ta w w.length (List.replicate 10 0)
def gK(w:List Int)(k:Int):Nat→Nat→List Int→List Int→List Int×List Int
 |0,_,low,high=>(low,high)
 |m+1,i,low,high=>
  if w.getD i 0=k+1 then gK w k m (i+1) low (high++ [(i:Int)])
  else if w.getD i 0=k then(if 0<high.length then gK w k m (i+1) low (high.take (high.length-1))else gK w k m (i+1) (low++ [(i:Int)]) high)
  else gK w k m (i+1) low high
theorem mg(w:List Int)(k:Int): ∀(m i:Nat) (low high:List Int),i+m=w.length→(∀x∈high,∃n:Nat,x=n∧n<w.length∧w.getD n 0=k+1)→ ∀x∈(gK w k m i low high).2,∃n:Nat,x=n∧n<w.length∧w.getD n 0=k+1
 |0,i,low,high,_,h=>h
 |m+1,i,low,high,hi,h=>by
  unfold gK
  split
  ·next e=>
   refine mg w k m (i+1) _ _ (by omega) (fun x hx=> ?_)
   rcases List.mem_append.1 hx with hx|hx
   ·exact h x hx
   ·simp only[List.mem_singleton]at hx
    exact⟨i,hx,by omega,e⟩
  ·split
   ·split
    ·exact mg w k m (i+1) _ _ (by omega) (fun x hx=>h x (List.mem_of_mem_take hx))
    ·exact mg w k m (i+1) _ _ (by omega) h
   ·exact mg w k m (i+1) _ _ (by omega) h
def free(w:List Int)(k:Int):List Int×List Int:=gK w k w.length 0 [] []
def raise(w:List Int)(k:Int):List Int×Bool:=
 if(isWord w&&within k 1 8)=true then(if(free w k).2= []then([],false)else(w.set ((free w k).2.getD 0 0).toNat k,true))else([],false)
theorem sQ{w:List Int}{k:Int}(h:(free w k).2≠ []): ∃n:Nat,(free w k).2.getD 0 0=n∧n<w.length∧w.getD n 0=k+1:=by
 have:=mg w k w.length 0 [] [] (by omega) (fun x hx=>by cases hx)
 refine this _ ?_
 show(free w k).2.getD 0 0∈(free w k).2
 cases e:(free w k).2 with
 |nil=>exact absurd e h
 |cons x r=>simp
theorem vH{w v:List Int}{k:Int}(h:raise w k=(v,true)):isWord w=true∧isWord v=true∧gM v=gM w-1:=by
 unfold raise at h
 split at h
 ·next c=>
  split at h
  ·simp at h
  ·next hn=>
   obtain⟨n,e1,e2,e3⟩:=sQ hn
   simp only[Bool.and_eq_true,within,decide_eq_true_eq]at c
   obtain⟨hw,hk⟩:=c
   rw[e1,Int.toNat_natCast]at h
   simp only[Prod.mk.injEq,and_true]at h
   subst h
   refine⟨hw,?_,?_⟩
   ·obtain⟨h1,h2⟩:=bY hw
    simp only[isWord,Bool.and_eq_true,decide_eq_true_eq,List.all_eq_true,within,List.length_set]
    refine⟨h1,fun x hx=> ?_⟩
    rcases List.mem_or_eq_of_mem_set hx with hx|rfl
    ·exact h2 x hx
    ·omega
   ·rw[rG w n k e2,e3];omega
 ·simp at h
def nX:Nat→Int→List Int→List Int
 |0,_,w=>w
 |m+1,k,w=>if k<9 then(if(raise w k).2=true then nX m 1 (raise w k).1 else nX m (k+1) w)else w
def kV(w:List Int):List Int×Bool:=if isWord w=true then(nX 2000 1 w,true)else([],false)
theorem rA{w:List Int}(h:isWord w=true):0≤gM w∧gM w≤81:=by
 obtain⟨h1,h2⟩:=bY h
 have key: ∀w:List Int,(∀x∈w,1≤x∧x≤9)→0≤gM w∧gM w≤w.length*9:=by
  intro w
  induction w with
  |nil=>intro _;simp[gM]
  |cons x r ih=>
   intro h
   have:=ih (fun y hy=>h y (by simp[hy]))
   have:=h x (by simp)
   simp only[gM,List.length_cons]
   omega
 have:=key w h2
 omega
theorem oR: ∀(m:Nat) (k:Int) (w:List Int),isWord w=true→isWord (nX m k w)=true
 |0,_,w,h=>h
 |m+1,k,w,h=>by
  unfold nX
  split
  ·split
   ·next hr=>
    refine oR m 1 _ ?_
    exact(vH (v:=(raise w k).1) (k:=k) (w:=w) (by rw[←hr])).2.1
   ·exact oR m _ w h
  ·exact h
theorem rk(w:List Int):isWord (kV w).1=true:=by
 unfold kV
 split
 ·next h=>exact oR _ _ _ h
 ·rfl
def iQ (w : List Int) : List (List UInt8) :=
  [[105, 110, 115, 101, 114, 116], jU (bc w).1, [114, 101, 99, 111, 114, 100], jU (dk w).1, [115, 104, 97, 112, 101], jF (fw w),
   [105, 110, 118, 101, 114, 115, 105, 111, 110, 115], dcm (inv w), [109, 97, 106, 111, 114], dcm (maj w), (if lat w = true then [108, 97, 116, 116, 105, 99, 101] else [111, 116, 104, 101, 114]),
   [104, 105, 103, 104, 101, 115, 116], eI (kV w).1]
def say(w:List Int):List UInt8:=if isWord w=true then Lib.join (iQ w) [32]else []
theorem xF{w:List Int}(h:isWord w=true): ∀x∈iQ w,x.length≤10000:=by
 intro x hx
 simp only[iQ,List.mem_cons,List.not_mem_nil,or_false]at hx
 have a1:=kQ (bc w).1
 have a2:=kQ (dk w).1
 have a3:=ou (fw w)
 have a4:=kW (sb h).2
 have a5:=kW (sR h).2
 have a6:=oQ (kV w).1
 rcases hx with rfl|rfl|rfl|rfl|rfl|rfl|rfl|rfl|rfl|rfl|rfl|rfl|rfl
 all_goals first|(simp;done)|omega|(split<;>simp)
end Go.Am.Pu
namespace Go.Am.Pu
def iq(n:Int):List UInt8:=if(gm (tx (eF n))).2=true then say (gm (tx (eF n))).1 else []
end Go.Am.Pu
end
section
/- Examples are words, and are described. Plain words. -/
namespace Go.Am.Pu
open Go Go.Am
theorem vh(a b:List UInt8):((tx a).toList==(tx b).toList)=decide (a=b):=by
 rw[Lib.toList_data,Lib.toList_data]
 show(a==b)=_
 by_cases h:a=b
 ·subst h;simp
 ·rw[decide_eq_false h]
  exact beq_false_of_ne h
theorem wN(l:List UInt8):gm (tx l)=if eI (if l= [45]then []else cU l)=l then((if l= [45]then []else cU l),true)else([],false):=by
 unfold gm
 simp only[vh,decide_eq_true_eq,B5]
theorem Ay{l:List UInt8}(h:l≠ [])(hl:l.length≤9)(hb: ∀b∈l,49≤b.toNat∧b.toNat≤57):eI (cU l)=l:=by
 have hw:isWord (cU l)=true:=by
  simp only[isWord,Bool.and_eq_true,decide_eq_true_eq,List.all_eq_true,within,mP]
  refine⟨hl,fun x hx=> ?_⟩
  obtain⟨b,hb',rfl⟩:=List.mem_map.1 hx
  have:=hb b hb'
  omega
 have hn:cU l≠ []:=fun e=>h (by
  have:=mP l
  rw[e]at this
  exact List.eq_nil_of_length_eq_zero this.symm)
 unfold eI
 rw[if_pos hw,if_neg hn]
 clear h hl hw hn
 induction l with
 |nil=>rfl
 |cons b r ih=>
  have h1:=hb b (by simp)
  have h2:=ih (fun c hc=>hb c (by simp[hc]))
  simp only[gQ,cU,List.map_cons,List.flatMap_cons]at h2⊢
  rw[h2,nk (by omega)]
  have e:48+((b.toNat:Int)-48).toNat=b.toNat:=by omega
  rw[e]
  simp
theorem Ds(n:Int):eF n= []∨eF n= [45]∨(eF n≠ []∧eF n≠ [45]∧(eF n).length≤9∧ ∀b∈eF n,49≤b.toNat∧b.toNat≤57):=by
 unfold eF
 repeat' split
 all_goals first
  |(left;rfl)
  |(right;left;rfl)
  |(right;right;decide)
theorem sW(n:Int):(gm (tx (eF n))).2=decide (eF n≠ []):=by
 rw[wN]
 rcases Ds n with h|h|⟨h1,h2,h3,h4⟩
 ·rw[h];rfl
 ·rw[h];rfl
 ·rw[if_neg h2,Ay h1 h3 h4,if_pos rfl,decide_eq_true h1]
theorem zj{l:List UInt8}(h:(gm (tx l)).2=true)(hl:l≠ []):isWord (gm (tx l)).1=true:=by
 rw[wN]at h⊢
 generalize(if l= [45]then []else cU l)=w at h⊢
 by_cases e:eI w=l
 ·rw[if_pos e]
  show isWord w=true
  cases c:isWord w with
  |true=>rfl
  |false=>
   unfold eI at e
   rw[c]at e
   exact absurd e.symm hl
 ·rw[if_neg e]at h;cases h
theorem FR{w:List Int}(h:isWord w=true):say w≠ []:=by
 unfold say iQ
 rw[if_pos h,Lib.join_cons]
 simp
theorem uM(n:Int):(iq n= [])↔eF n= []:=by
 unfold iq
 rw[sW]
 by_cases h:eF n= []
 ·rw[if_neg (by simp[h])];exact⟨fun _=>h,fun _=>rfl⟩
 ·rw[if_pos (by simp[h])]
  have hp:(gm (tx (eF n))).2=true:=by rw[sW];simp[h]
  exact⟨fun e=>absurd e (FR (zj hp h)),fun e=>absurd e h⟩
end Go.Am.Pu
end
