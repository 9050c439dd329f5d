/- Plain laws of lists, partitions, shapes and tableaux; no program in sight. -/
import Derived.Test.YtlfpegcoaebmkaaGreatAmP
set_option linter.unusedSimpArgs false
set_option linter.unusedVariables false
set_option linter.unnecessarySimpa false
set_option linter.unusedSectionVars false
section
/- Rules for loops over data: a loop that looks at all, a loop that folds. -/
namespace Go.Am.Pu
open Go.Am
theorem w64{n:Int}(h1: -9223372036854775808≤n)(h2:n≤9223372036854775807):IntKind.i64.wrap n=n:=Go.Am.w64 h1 h2
theorem lE{R:Type}(L:Nat→Nat→Option R)(n:Nat)(p:Nat→Bool)(bad D7:Option R)
  (hs: ∀j i,i<n→L (j+1) i=if p i=true then L j (i+1)else bad) (he: ∀j,L (j+1) n=D7):
  ∀(m j i:Nat),i+m=n→m<j→L j i=if(List.range' i m).all p=true then D7 else bad
 |m,0,i,_,h=>by omega
 |0,j+1,i,h,_=>by
  have:i=n:=by omega
  subst this
  rw[he];rfl
 |m+1,j+1,i,h,hj=>by
  rw[hs j i (by omega),lE L n p bad D7 hs he m j (i+1) (by omega) (by omega),List.range'_succ,List.all_cons]
  cases p i
  ·rw[if_neg (by simp),Bool.false_and,if_neg (by simp)]
  ·rw[if_pos rfl,Bool.true_and]
theorem dM{p:Nat→Bool}{n:Nat}:(List.range' 0 n).all p=true↔ ∀i,i<n→p i=true:=by
 simp[List.all_eq_true,List.mem_range'_1]
theorem aw{α:Type}{xs:List α}{i:Nat}(h:i<xs.length)(d:α):xs.getD i d=xs[i]:=by
 simp only[List.getD_eq_getElem?_getD,List.getElem?_eq_getElem h,Option.getD_some]
theorem bW{α:Type}{xs:List α}{i:Nat}(h:xs.length≤i)(d:α):xs.getD i d=d:=by
 simp only[List.getD_eq_getElem?_getD,List.getElem?_eq_none h,Option.getD_none]
theorem drop_cons{α:Type}{xs:List α}{i:Nat}(h:i<xs.length)(d:α):xs.drop i=xs.getD i d::xs.drop (i+1):=by
 rw[aw h,List.drop_eq_getElem_cons h]
theorem take_succ{α:Type}{xs:List α}{i:Nat}(h:i<xs.length)(d:α):xs.take (i+1)=xs.take i++ [xs.getD i d]:=by
 rw[aw h,List.take_succ_eq_append_getElem h]
end Go.Am.Pu
end
section
/- Marking memory and looking whether the marks are held. -/
namespace Go.Am.Pu
def held:List Int→Int→Int
 | [],q=>q
 |x::xs,q=>if x=q then held xs (q+1)else-1
def y0:List (List Int)→Nat
 | []=>0
 |x::xs=>x.length+y0 xs
theorem zu: ∀(xs:List (List Int)) (n:Nat),(∀x∈xs,x.length≤n)→y0 xs≤xs.length*n
 | [],n,_=>by simp[y0]
 |x::xs,n,h=>by
  have h1:=h x (by simp)
  have h2:=zu xs n fun y hy=>h y (by simp[hy])
  simp only[y0,List.length_cons,Nat.succ_mul]
  omega
end Go.Am.Pu
end
section
/- Partitions, shapes and tableaux as plain words. -/
namespace Go.Am.Pu
def within(x lo hi:Int):Bool:=decide (lo≤x)&&decide (x≤hi)
def atI(p:List Int)(i:Int):Int:=if i<0 then 0 else p.getD i.toNat 0
theorem fb(p:List Int)(i:Nat):atI p (i:Int)=p.getD i 0:=by simp[atI];omega
theorem pH{p:List Int}{i:Int}(h:i<0):atI p i=0:=by simp[atI,h]
theorem Bu{p:List Int}{i:Int}(h:(p.length:Int)≤i):atI p i=0:=by
 unfold atI
 split
 ·rfl
 ·exact bW (by omega) 0
def gE:List Int→Int→Int→Bool
 | [],_,_=>true
 |x::xs,prev,s=>decide (1≤x)&&(decide (x≤prev)&&(decide (s+x≤9)&&gE xs x (s+x)))
def bK(p:List Int):Bool:=gE p 9 0
def dm:List Int→Int
 | []=>0
 |x::xs=>x+dm xs
theorem tW: ∀(p:List Int) (prev s:Int),gE p prev s=true→(∀x∈p,1≤x∧x≤prev)∧(p≠ []→s+dm p≤9)∧(p.length:Int)≤dm p
 | [],prev,s,_=>⟨fun x h=>(by cases h),fun h=>absurd rfl h,(by simp[dm])⟩
 |x::xs,prev,s,h=>by
  simp only[gE,Bool.and_eq_true,decide_eq_true_eq]at h
  obtain⟨h1,h2,h3,h4⟩:=h
  obtain⟨k1,k2,k3⟩:=tW xs x (s+x) h4
  refine⟨fun y hy=> ?_,fun _=> ?_,?_⟩
  ·rcases List.mem_cons.1 hy with rfl|hy
   ·exact⟨h1,h2⟩
   ·have:=k1 y hy;omega
  ·simp only[dm]
   by_cases e:xs= []
   ·subst e;simp[dm];omega
   ·have:=k2 e;omega
  ·simp only[dm,List.length_cons];omega
theorem bw{p:List Int}(h:bK p=true):(∀x∈p,1≤x∧x≤9)∧dm p≤9∧p.length≤9∧(p.length:Int)≤dm p:=by
 obtain⟨h1,h2,h3⟩:=tW p 9 0 h
 have:dm p≤9:=by
  by_cases e:p= []
  ·subst e;simp[dm]
  ·have:=h2 e;omega
 exact⟨h1,this,by omega,h3⟩
theorem iC{p:List Int}(h:bK p=true)(i:Int):0≤atI p i∧atI p i≤9:=by
 unfold atI
 split
 ·omega
 ·by_cases hl:i.toNat<p.length
  ·rw[aw hl]
   have:=(bw h).1 _ (List.getElem_mem hl)
   omega
  ·rw[bW (by omega)];omega
def cz(q p:List Int):Bool:=bK q&&(bK p&&(decide (q.length≤p.length)&&(List.range' 0 q.length).all fun i=>decide (q.getD i 0≤p.getD i 0)))
theorem Bw{q p:List Int}(hq:bK q=true)(h:(List.range' 0 q.length).all (fun i=>decide (q.getD i 0≤p.getD i 0))=true):q.length≤p.length:=by
 rw[dM]at h
 refine Nat.le_of_not_lt fun hlt=> ?_
 have h1:=h p.length hlt
 rw[decide_eq_true_eq,bW (Nat.le_refl _),aw hlt]at h1
 have:=(bw hq).1 _ (List.getElem_mem hlt)
 omega
theorem mS{q p:List Int}:cz q p=(bK q&&(bK p&&(List.range' 0 q.length).all fun i=>decide (q.getD i 0≤p.getD i 0))):=by
 unfold cz
 cases hq:bK q with
 |false=>rfl
 |true=>
  cases hp:bK p with
  |false=>rfl
  |true=>
   simp only[Bool.true_and]
   cases ha:(List.range' 0 q.length).all fun i=>decide (q.getD i 0≤p.getD i 0)with
   |false=>simp
   |true=>simp[Bw hq ha]
def gd(inner:List Int):Nat→List (List Int)→List Int
 |_,[]=> []
 |i,r::rs=>(inner.getD i 0+r.length)::gd inner (i+1) rs
theorem lJ(inner:List Int): ∀(rs:List (List Int)) (i:Nat),(gd inner i rs).length=rs.length
 | [],_=>rfl
 |_::rs,i=>by simp[gd,lJ inner rs]
theorem gJ(inner:List Int): ∀(rs:List (List Int)) (i q:Nat),q<rs.length→(gd inner i rs).getD q 0=inner.getD (i+q) 0+(rs.getD q []).length
 | [],i,q,h=>by simp at h
 |r::rs,i,0,_=>by simp[gd]
 |r::rs,i,q+1,h=>by
  have:=gJ inner rs (i+1) q (by simpa using h)
  simp only[gd,List.getD_cons_succ]
  rw[this]
  have e:i+1+q=i+(q+1):=by omega
  rw[e]
abbrev Tab:=List Int×List (List Int)
def outer(t:Tab):List Int:=gd t.1 0 t.2
def dz(t:Tab):Bool:=bK t.1&&(decide (t.1.length≤t.2.length)&&cz t.1 (outer t))
def shapeOf(t:Tab):(List Int×List Int)×Bool:=if dz t=true then((outer t,t.1),true)else(([],[]),false)
theorem Ab{t:Tab}(h:dz t=true):t.2.length≤9:=by
 simp only[dz,cz,Bool.and_eq_true]at h
 have:=(bw h.2.2.2.1).2.2.1
 rw[outer,lJ]at this
 exact this
def entry(t:Tab)(r c:Int):Int:=if r<0 then 0 else if(t.2.length:Int)≤r then 0 else atI (t.2.getD r.toNat []) (c-atI t.1 r)
theorem nB{t:Tab}{r:Nat}(h:r<t.2.length)(c:Int):entry t r c=atI (t.2.getD r []) (c-t.1.getD r 0):=by
 unfold entry
 rw[if_neg (by omega),if_neg (by omega),fb]
 rfl
theorem C6{t:Tab}{r c:Int}(h:r<0):entry t r c=0:=by unfold entry;rw[if_pos h]
theorem AE{t:Tab}{r q:Nat}(h:r<t.2.length):entry t r (t.1.getD r 0+q)=(t.2.getD r []).getD q 0:=by
 rw[nB h]
 have e:t.1.getD r 0+(q:Int)-t.1.getD r 0=q:=by omega
 rw[e,fb]
theorem Bm{t:Tab}{r q:Nat}(h:r<t.2.length):entry t r (t.1.getD r 0+q-1)=if q=0 then 0 else(t.2.getD r []).getD (q-1) 0:=by
 rw[nB h]
 by_cases e:q=0
 ·subst e
  rw[if_pos rfl,pH (by omega)]
 ·rw[if_neg e]
  have e:t.1.getD r 0+(q:Int)-1-t.1.getD r 0=((q-1:Nat):Int):=by omega
  rw[e,fb]
def ij(t:Tab)(i k:Nat):Bool:=within ((t.2.getD i []).getD k 0) 1 9&&((decide (k=0)||decide ((t.2.getD i []).getD (k-1) 0≤(t.2.getD i []).getD k 0))&&
 (decide (i=0)||decide (entry t ((i:Int)-1) (t.1.getD i 0+k)<(t.2.getD i []).getD k 0)))
def g8(t:Tab):Bool:=dz t&&(List.range' 0 t.2.length).all fun i=>(List.range' 0 (t.2.getD i []).length).all fun k=>ij t i k
def bk(t:Tab):Bool:=g8 t&&decide (t.1.length=0)
theorem ke{t:Tab}(h:g8 t=true):dz t=true:=by
 simp only[g8,Bool.and_eq_true]at h;exact h.1
theorem pL(inner:List Int): ∀(rs:List (List Int)) (i:Nat),(∀q,i≤q→inner.getD q 0=0)→dm (gd inner i rs)=rs.flatten.length
 | [],i,_=>rfl
 |r::rs,i,h=>by
  simp only[gd,dm,List.flatten_cons,List.length_append]
  rw[pL inner rs (i+1) (fun q hq=>h q (by omega)),h i (Nat.le_refl _)]
  omega
theorem jo{t:Tab}(h:bk t=true):t.2.flatten.length≤9:=by
 simp only[bk,Bool.and_eq_true,decide_eq_true_eq]at h
 have hs:=ke h.1
 simp only[dz,cz,Bool.and_eq_true]at hs
 have h9:=(bw hs.2.2.2.1).2.1
 have:t.1= []:=List.eq_nil_of_length_eq_zero h.2
 rw[outer,pL t.1 t.2 0 (fun q _=>by rw[this];rfl)]at h9
 omega
def aP:List (List Int)→Int→List (List Int)×Nat
 | [],x=>([[x]],0)
 |r::rs,x=>if r.findIdx (fun n=>decide (x<n))<r.length
   then(r.set (r.findIdx fun n=>decide (x<n)) x::(aP rs (r.getD (r.findIdx fun n=>decide (x<n)) 0)).1,(aP rs (r.getD (r.findIdx fun n=>decide (x<n)) 0)).2+1)
   else((r++ [x])::rs,0)
def mc(t:Tab)(x:Int):Tab×(Int×Bool):=
 if bk t=true∧within x 1 9=true∧t.2.flatten.length<9 then((t.1,(aP t.2 x).1),(((aP t.2 x).2:Nat),true))else(([],[]),(0,false))
def kr(t:Tab):Prop:=t.1.length≤1048576∧t.2.length≤1048576∧ ∀x∈t.2,x.length≤1048576
theorem kr.nil:kr ([],[]):=⟨by simp,by simp,fun x h=>by cases h⟩
theorem wM: ∀{rs:List (List Int)} {r:List Int},r∈rs→r.length≤rs.flatten.length
 |q::rs,r,h=>by
  simp only[List.flatten_cons,List.length_append]
  rcases List.mem_cons.1 h with rfl|h
  ·omega
  ·have:=wM h;omega
theorem findIdx_le{p:Int→Bool}{r:List Int}{i:Nat}(hlt:i<r.length)(h:p (r.getD i 0)=true):r.findIdx p≤i:=
 Nat.le_of_not_lt fun h'=>by
  have:=List.not_of_lt_findIdx h'
  rw[aw hlt]at h
  rw[h]at this;cases this
theorem wq{p:Int→Bool}{r:List Int}(h:r.findIdx p<r.length):p (r.getD (r.findIdx p) 0)=true:=by
 rw[aw h];exact List.findIdx_getElem
theorem xj{α:Type}{xs:List α}{i:Nat}(h:i<xs.length)(x:α):xs.set i x=xs.take i++x::xs.drop (i+1):=by
 rw[List.set_eq_take_append_cons_drop,if_pos h]
theorem qh{α:Type}{xs:List α}{i:Nat}(h:i<xs.length)(x:α):(xs.set i x).take (i+1)=xs.take i++ [x]:=by
 have h':i<(xs.set i x).length:=by rw[List.length_set];exact h
 rw[take_succ h' x,List.take_set_of_le (Nat.le_refl _),aw h',List.getElem_set_self]
theorem qv{α:Type}{xs:List α}{i:Nat}(x:α):(xs.set i x).drop (i+1)=xs.drop (i+1):=by
 rw[List.drop_set_of_lt (by omega)]
end Go.Am.Pu
end
section
/- Standard tableaux, weights, descents: plain words. -/
namespace Go.Am.Pu
theorem oM{α R:Type}(r:List α)(d:α)(p:α→Bool)(L:Nat→Nat→Option R)(hit:Nat→Option R)(miss:Option R)
  (hs: ∀j i,i<r.length→L (j+1) i=if p (r.getD i d)=true then hit i else L j (i+1)) (he: ∀j,L (j+1) r.length=miss):
  ∀(m j i:Nat),i+m=r.length→m<j→i≤r.findIdx p→L j i=if r.findIdx p<r.length then hit (r.findIdx p)else miss
 |m,0,i,_,hj,_=>by omega
 |0,j+1,i,hm,_,hi=>by
  have e:i=r.length:=by omega
  rw[if_neg (by omega),e,he]
 |m+1,j+1,i,hm,hj,hi=>by
  have hlt:i<r.length:=by omega
  rw[hs j i hlt]
  by_cases c:p (r.getD i d)=true
  ·have e:r.findIdx p=i:=Nat.le_antisymm (Nat.le_of_not_lt fun h'=>by
    have:=List.not_of_lt_findIdx h'
    rw[aw hlt]at c
    rw[c]at this;cases this) hi
   rw[if_pos c,e,if_pos hlt]
  ·rw[if_neg c]
   refine oM r d p L hit miss hs he m j (i+1) (by omega) (by omega) ?_
   refine Nat.succ_le_of_lt (Nat.lt_of_le_of_ne hi fun e=>c ?_)
   have hlt':r.findIdx p<r.length:=by omega
   have:=List.findIdx_getElem (p:=p) (xs:=r) (w:=hlt')
   rw[←aw hlt' d,←e]at this
   exact this
def wX{α:Type}(p:α→Bool)(r:List α):Int:=if r.findIdx p<r.length then(r.findIdx p:Int)else-1
theorem u3{α:Type}(p:α→Bool)(r:List α):decide (0≤wX p r)=r.any p:=by
 unfold wX
 by_cases h:r.findIdx p<r.length
 ·rw[if_pos h,List.any_eq_true.2 ⟨_,List.getElem_mem h,List.findIdx_getElem⟩]
  simp
 ·rw[if_neg h]
  have:r.any p=false:=by
   rw[List.any_eq_false]
   intro x hx hp
   exact h (List.findIdx_lt_length_of_exists ⟨x,hx,hp⟩)
  rw[this];rfl
theorem EI{α:Type}(p:α→Bool)(r:List α):r.any p=decide (r.findIdx p<r.length):=by
 rw[←u3]
 unfold wX
 by_cases h:r.findIdx p<r.length<;>simp[h]
def has(l:List Int)(x:Int):Bool:=l.any fun y=>decide (x=y)
theorem mR{l:List Int}{x:Int}:has l x=true↔x∈l:=by
 simp[has,List.any_eq_true]
def gR(l:List Int):Bool:=(List.range' 0 l.length).all fun i=>has l ((i:Int)+1)
theorem uN: ∀(R l:List Int),R.Nodup→(∀x∈R,x∈l)→R.length≤l.length
 | [],l,_,_=>by simp
 |x::R,l,hn,h=>by
  rw[List.nodup_cons]at hn
  have hx:=h x (by simp)
  have:=uN R (l.erase x) hn.2 fun y hy=>(List.mem_erase_of_ne fun(e:y=x)=>hn.1 (e▸hy)).2 (h y (by simp[hy]))
  rw[List.length_erase_of_mem hx]at this
  have:0<l.length:=List.length_pos_of_mem hx
  simp only[List.length_cons]
  omega
def mr(n:Nat):List Int:=(List.range n).map fun(i:Nat)=>(i:Int)+1
theorem iQ{n:Nat}{x:Int}:x∈mr n↔1≤x∧x≤n:=by
 simp only[mr,List.mem_map,List.mem_range]
 constructor
 ·rintro⟨i,h,rfl⟩;omega
 ·rintro⟨h1,h2⟩;exact⟨(x-1).toNat,by omega,by omega⟩
theorem qG(n:Nat):(mr n).Nodup:=by
 unfold mr
 refine List.Pairwise.map _ (fun(a b:Nat) (h:a≠b)=> ?_) List.nodup_range
 intro e
 exact h (by omega)
theorem mz(n:Nat):(mr n).length=n:=by simp[mr]
theorem lQ{l:List Int}:gR l=true↔ ∀x∈mr l.length,x∈l:=by
 unfold gR
 rw[dM]
 constructor
 ·intro h x hx
  rw[iQ]at hx
  have:=h (x-1).toNat (by omega)
  rw[mR]at this
  have e:(((x-1).toNat:Nat):Int)+1=x:=by omega
  rw[e]at this;exact this
 ·intro h i hi
  rw[mR]
  exact h _ (iQ.2 (by omega))
theorem og{l:List Int}(h1: ∀x∈l,1≤x):gR l=true↔l.Nodup∧ ∀x∈l,x≤l.length:=by
 rw[lQ]
 constructor
 ·intro h
  refine⟨?_,fun x hx=> ?_⟩
  ·
   refine Classical.byContradiction fun hn=> ?_
   have: ∃x,x∈l∧x∈l.erase x:=by
    have key: ∀l:List Int,¬l.Nodup→ ∃x,x∈l∧x∈l.erase x:=by
     intro l
     induction l with
     |nil=>intro h;exact absurd List.nodup_nil h
     |cons a l ih=>
      intro h
      by_cases ha:a∈l
      ·exact⟨a,by simp,by simpa using ha⟩
      ·have: ¬l.Nodup:=fun hl=>h (List.nodup_cons.2 ⟨ha,hl⟩)
       obtain⟨x,h1,h2⟩:=ih this
       refine⟨x,by simp[h1],?_⟩
       have hne:a≠x:=fun e=>ha (e▸h1)
       rw[List.erase_cons_tail (by simpa using hne)]
       exact List.mem_cons_of_mem _ h2
    exact key l hn
   obtain⟨x,hx,hx2⟩:=this
   have:=uN (mr l.length) (l.erase x) (qG _) fun y hy=>by
    by_cases e:y=x
    ·rw[e];exact hx2
    ·exact(List.mem_erase_of_ne e).2 (h y hy)
   rw[mz,List.length_erase_of_mem hx]at this
   have:0<l.length:=List.length_pos_of_mem hx
   omega
  ·refine Int.not_lt.1 fun hlt=> ?_
   have:=uN (mr l.length) (l.erase x) (qG _) fun y hy=>by
    have hy':=iQ.1 hy
    exact(List.mem_erase_of_ne (by omega)).2 (h y hy)
   rw[mz,List.length_erase_of_mem hx]at this
   have:0<l.length:=List.length_pos_of_mem hx
   omega
 ·rintro⟨hn,hb⟩ x hx
  refine Classical.byContradiction fun hxl=> ?_
  have:=uN (x::l) (mr l.length) (List.nodup_cons.2 ⟨hxl,hn⟩) fun y hy=>by
   rcases List.mem_cons.1 hy with rfl|hy
   ·exact hx
   ·exact iQ.2 ⟨h1 y hy,hb y hy⟩
  rw[mz,List.length_cons]at this
  omega
def l9(n:Int):List Int→List Int→Bool
 |_,[]=>true
 |seen,x::xs=>decide (x≤n)&&(!has seen x&&l9 n (seen++ [x]) xs)
theorem tP(n:Int): ∀(xs seen:List Int),l9 n seen xs=true↔(∀x∈xs,x≤n)∧xs.Nodup∧ ∀x∈xs,x∉seen
 | [],seen=>by simp[l9]
 |x::xs,seen=>by
  simp only[l9,Bool.and_eq_true,decide_eq_true_eq,tP n xs,Bool.not_eq_true',List.nodup_cons]
  have hh:has seen x=false↔x∉seen:=by rw[←mR];simp
  rw[hh]
  constructor
  ·rintro⟨h1,h2,h3,h4,h5⟩
   refine⟨fun y hy=> ?_,⟨fun hx=>h5 x hx (by simp),h4⟩,fun y hy=> ?_⟩
   ·rcases List.mem_cons.1 hy with rfl|hy
    ·exact h1
    ·exact h3 y hy
   ·rcases List.mem_cons.1 hy with rfl|hy
    ·exact h2
    ·exact fun h=>h5 y hy (by simp[h])
  ·rintro⟨h1,⟨h2,h3⟩,h4⟩
   refine⟨h1 x (by simp),h4 x (by simp),fun y hy=>h1 y (by simp[hy]),h3,fun y hy h=> ?_⟩
   rcases List.mem_append.1 h with h|h
   ·exact h4 y (by simp[hy]) h
   ·simp only[List.mem_singleton]at h;exact h2 (h▸hy)
theorem A0{l:List Int}(h1: ∀x∈l,1≤x):l9 l.length [] l=gR l:=by
 have a:=tP l.length l []
 have b:=og h1
 cases h:l9 l.length [] l with
 |true=>
  have:=a.1 h
  exact(b.2 ⟨this.2.1,this.1⟩).symm
 |false=>
  cases h':gR l with
  |false=>rfl
  |true=>
   have:=b.1 h'
   rw[a.2 ⟨this.2,this.1,fun _ _ h=>by cases h⟩]at h
   cases h
theorem pj{t:Tab}(h:g8 t=true): ∀x∈t.2.flatten,1≤x∧x≤9:=by
 intro x hx
 simp only[g8,Bool.and_eq_true]at h
 obtain⟨r,hr,hxr⟩:=List.mem_flatten.1 hx
 obtain⟨i,hi,e⟩:=List.mem_iff_getElem.1 hr
 obtain⟨q,hq,e2⟩:=List.mem_iff_getElem.1 hxr
 have h1:=dM.1 h.2 i hi
 rw[aw hi,e]at h1
 have h2:=dM.1 h1 q hq
 simp only[ij,within,Bool.and_eq_true,decide_eq_true_eq]at h2
 rw[aw hi,e,aw hq,e2]at h2
 exact h2.1
theorem rI(inner:List Int)(h: ∀q,0≤inner.getD q 0): ∀(rs:List (List Int)) (i:Nat),(rs.flatten.length:Int)≤dm (gd inner i rs)
 | [],i=>by simp[gd,dm]
 |r::rs,i=>by
  have:=rI inner h rs (i+1)
  have:=h i
  simp only[gd,dm,List.flatten_cons,List.length_append]
  omega
theorem Aq{t:Tab}(h:g8 t=true):t.2.flatten.length≤9:=by
 have hs:=ke h
 simp only[dz,cz,Bool.and_eq_true]at hs
 have h9:=(bw hs.2.2.2.1).2.1
 have:=rI t.1 (fun q=>by
  have:=(iC hs.1 q).1
  rw[fb]at this;exact this) t.2 0
 unfold outer at h9
 omega
def gh(t:Tab):Bool:=g8 t&&gR t.2.flatten
def rowOf(t:Tab)(n:Int):Int:=wX (fun r=>has r n) t.2
theorem tJ: ∀(w:List Int),(∀x∈w,0≤x)→0≤dm w
 | [],_=>by simp[dm]
 |x::xs,h=>by
  have:=tJ xs fun y hy=>h y (by simp[hy])
  have:=h x (by simp)
  simp only[dm];omega
theorem s9(w:List Int)(h: ∀x∈w,0≤x)(i:Nat):0≤dm (w.take i)∧dm (w.take i)≤dm w:=by
 induction w generalizing i with
 |nil=>simp[dm]
 |cons x xs ih=>
  have hx:=h x (by simp)
  have h': ∀y∈xs,0≤y:=fun y hy=>h y (by simp[hy])
  cases i with
  |zero=>simp only[List.take_zero,dm];have:=tJ xs h';omega
  |succ i=>
   simp only[List.take_succ_cons,dm]
   have:=ih h' i
   omega
theorem Av(a b:List Int):dm (a++b)=dm a+dm b:=by
 induction a with
 |nil=>simp[dm]
 |cons x a ih=>simp only[List.cons_append,dm,ih];omega
end Go.Am.Pu
end
section
/- Plain laws of draws, and of boxes. -/
namespace Go.Am.Pu
open Go Go.Am
attribute [local instance] D.real
theorem yd(a:Int):0≤D.andI .i64 a 255∧D.andI .i64 a 255≤255:=by
 have h:(BitVec.ofInt 64 a&&&BitVec.ofInt 64 255).toNat≤255:=by
  rw[BitVec.toNat_and]
  exact Nat.le_trans Nat.and_le_right (by decide)
 have e:D.andI .i64 a 255=(((BitVec.ofInt 64 a&&&BitVec.ofInt 64 255).toNat:Nat):Int):=by
  show IntKind.i64.wrap (((BitVec.ofInt 64 a&&&BitVec.ofInt 64 255).toNat:Nat):Int)=_
  rw[w64 (by omega) (by omega)]
 rw[e]
 omega
theorem yf{α:Type}(a b:Int)(x y:Option α):D.test (D.lt a b) x y=if a<b then x else y:=by
 show(if decide (a<b)=true then x else y)=_
 simp only[decide_eq_true_eq]
def yh:Nat→Nat
 |0=>1
 |n+1=>2^n
def Br(n:Nat):Nat→Nat
 |0=>0
 |p+1=>yh (n-(p+1))+Br n p
theorem Fc{n p:Nat}(hn:n≤9)(h1:1≤n)(hp:p≤n):Br n p≤yh n:=by
 have key: ∀n<10,∀p<10,1≤n→p≤n→Br n p≤yh n:=by decide
 exact key n (by omega) p (by omega) h1 hp
theorem BM{n:Nat}(hn:n≤9):yh n≤256:=by
 have key: ∀n<10,yh n≤256:=by decide
 exact key n (by omega)
def nu(n:Nat)(x:List Int):Prop:=x.length≤n∧ ∀y∈x,1≤y∧y≤9
def jf (p : List Int) (r : Int) : List Int × Bool :=
  if bK p = true ∧ 0 ≤ r ∧ r ≤ p.length then
    (let q := if r = p.length then p ++ [0] else p
     let o := q.set r.toNat (q.getD r.toNat 0 + 1)
     if bK o = true then (o, true) else ([], false))
  else ([], false)
end Go.Am.Pu
end
section
/- Steps over equations: what a word comes to, told by what must hold of it. -/
namespace Go.Am.Pu
open Go Go.Am
attribute [local instance] D.real
section
variable {α β : Type}
def Ok(x:Option α)(Q:α→Prop):Prop:= ∃y,x=some y∧Q y
theorem Ok.ret{y:α}{Q:α→Prop}(h:Q y):Ok (some y) Q:=⟨y,rfl,h⟩
theorem Ok.mono{x:Option α}{P Q:α→Prop}(h:Ok x P)(g: ∀y,P y→Q y):Ok x Q:=
 let⟨y,e,hp⟩:=h
 ⟨y,e,g y hp⟩
theorem Ok.bnd{x:Option α}{f:α→Option β}{P:α→Prop}{Q:β→Prop}(h:Ok x P)(g: ∀y,P y→Ok (f y) Q):Ok (D.bnd x f) Q:=by
 obtain⟨y,e,hp⟩:=h
 rw[e]
 exact g y hp
theorem Ok.gX{x:Option α}{y:α}{f:α→Option β}{Q:β→Prop}(h:x=some y)(g:Ok (f y) Q):Ok (D.bnd x f) Q:=by
 rw[h]
 exact g
theorem Ok.t{p:Prop} [Decidable p]{x y:Option α}{Q:α→Prop}(h1:p→Ok x Q)(h2: ¬p→Ok y Q):Ok (D.test (decide p) x y) Q:=by
 show Ok (if decide p=true then x else y) Q
 by_cases h:p
 ·rw[if_pos (decide_eq_true h)];exact h1 h
 ·rw[if_neg (by rw[decide_eq_false h];simp)];exact h2 h
theorem Ok.tb{b:Bool}{x y:Option α}{Q:α→Prop}(h1:b=true→Ok x Q)(h2:b=false→Ok y Q):Ok (D.test b x y) Q:=by
 cases b
 ·exact h2 rfl
 ·exact h1 rfl
theorem Ok.tn{b:Bool}{x y:Option α}{Q:α→Prop}(h1:b=false→Ok x Q)(h2:b=true→Ok y Q):Ok (D.test (!b) x y) Q:=by
 cases b
 ·exact h1 rfl
 ·exact h2 rfl
theorem Ok.g{p:Prop} [Decidable p]{x y:Option α}{Q:α→Prop}(h:p)(g:Ok x Q):Ok (D.test (decide p) x y) Q:=Ok.t (fun _=>g) (fun h'=>absurd h h')
theorem Ok.no{p:Prop} [Decidable p]{x y:Option α}{Q:α→Prop}(h: ¬p)(g:Ok y Q):Ok (D.test (decide p) x y) Q:=Ok.t (fun h'=>absurd h' h) (fun _=>g)
theorem Ok.some{x:Option α}{Q:α→Prop}(h:Ok x Q): ∃y,x=Option.some y:=let⟨y,e,_⟩:=h;⟨y,e⟩
end
def cI(n m:Nat)(rs:List (List Int)):Prop:=rs.length≤n∧ ∀r∈rs,r.length≤m
theorem cI.at{n m:Nat}{rs:List (List Int)}(h:cI n m rs)(i:Nat):(rs.getD i []).length≤m:=by
 by_cases hi:i<rs.length
 ·rw[aw hi];exact h.2 _ (List.getElem_mem hi)
 ·rw[bW (by omega)];simp
theorem cI.set{n m:Nat}{rs:List (List Int)}(h:cI n m rs)(i:Nat){r:List Int}(hr:r.length≤m):cI n m (rs.set i r):=by
 refine⟨by rw[List.length_set];exact h.1,fun x hx=> ?_⟩
 rcases List.mem_or_eq_of_mem_set hx with h'|rfl
 ·exact h.2 x h'
 ·exact hr
theorem cI.mono{n m n' m':Nat}{rs:List (List Int)}(h:cI n m rs)(hn:n≤n')(hm:m≤m'):cI n' m' rs:=
 ⟨Nat.le_trans h.1 hn,fun x hx=>Nat.le_trans (h.2 x hx) hm⟩
theorem cI.app{n m:Nat}{rs:List (List Int)}(h:cI n m rs){r:List Int}(hr:r.length≤m):cI (n+1) m (rs++ [r]):=by
 refine⟨by rw[List.length_append];simp;exact h.1,fun x hx=> ?_⟩
 rcases List.mem_append.1 hx with h'|h'
 ·exact h.2 x h'
 ·simp only[List.mem_singleton]at h';subst h';exact hr
theorem Bn(p:List Int)(r:Int):(jf p r).1.length≤p.length+1:=by
 unfold jf
 split
 ·simp only
  generalize hq:(if r=(p.length:Int)then p++ [0]else p)=q
  have hl:q.length≤p.length+1:=by
   rw[←hq]
   split
   ·simp
   ·omega
  split
  ·rw[List.length_set];exact hl
  ·simp
 ·simp
end Go.Am.Pu
end
section
/- Corners; a number taken out of rows. Plain words. -/
namespace Go.Am.Pu
def jY(p:List Int):Nat→Nat→List Int
 |0,_=> []
 |m+1,i=>if p.getD (i+1) 0<p.getD i 0 then(i:Int)::jY p m (i+1)else jY p m (i+1)
def iY(p:List Int):List Int:=if bK p=true then jY p p.length 0 else []
theorem wh(p:List Int): ∀(m i:Nat),(jY p m i).length≤m
 |0,_=>by simp[jY]
 |m+1,i=>by
  have:=wh p m (i+1)
  unfold jY
  split<;>simp<;>omega
theorem q9(p:List Int): ∀(m i:Nat) (x:Int),x∈jY p m i→ ∃n:Nat,x=n∧i≤n∧n<i+m∧p.getD (n+1) 0<p.getD n 0
 |0,_,_,h=>by simp[jY]at h
 |m+1,i,x,h=>by
  unfold jY at h
  split at h
  ·next hc=>
   rcases List.mem_cons.1 h with rfl|h
   ·exact⟨i,rfl,Nat.le_refl _,by omega,hc⟩
   ·obtain⟨n,h1,h2,h3,h4⟩:=q9 p m (i+1) x h
    exact⟨n,h1,by omega,by omega,h4⟩
  ·obtain⟨n,h1,h2,h3,h4⟩:=q9 p m (i+1) x h
   exact⟨n,h1,by omega,by omega,h4⟩
theorem tw(p:List Int):(iY p).length≤p.length:=by
 unfold iY
 split
 ·exact wh _ _ _
 ·simp
theorem tv{p:List Int}{x:Int}(h:x∈iY p):bK p=true∧ ∃n:Nat,x=n∧n<p.length∧p.getD (n+1) 0<p.getD n 0:=by
 unfold iY at h
 split at h
 ·next hp=>
  obtain⟨n,h1,_,h3,h4⟩:=q9 _ _ _ _ h
  exact⟨hp,n,h1,by omega,h4⟩
 ·cases h
theorem sU: ∀{p:List Int} {prev s:Int},gE p prev s=true→ ∀i,i+1<p.length→p.getD (i+1) 0≤p.getD i 0
 | [],_,_,_,i,h=>by simp at h
 | [x],_,_,_,i,h=>by simp at h
 |x::y::xs,prev,s,hp,i,h=>by
  simp only[gE,Bool.and_eq_true,decide_eq_true_eq]at hp
  cases i with
  |zero=>simpa using hp.2.2.2.2.1
  |succ i=>
   have h2:gE (y::xs) x (s+x)=true:=by
    simp only[gE,Bool.and_eq_true,decide_eq_true_eq]
    exact hp.2.2.2
   have:=sU h2 i (by simpa using h)
   simpa using this
def dT(r:List Int)(y:Int):Nat→Option Nat
 |0=>none
 |i+1=>if r.getD i 0<y then some i else dT r y i
theorem m7{r:List Int}{y:Int}: ∀{m q:Nat},dT r y m=some q→q<m∧r.getD q 0<y
 |0,q,h=>by simp[dT]at h
 |m+1,q,h=>by
  unfold dT at h
  split at h
  ·next hc=>injection h with h;subst h;exact⟨by omega,hc⟩
  ·have:=m7 h;exact⟨by omega,this.2⟩
theorem pO{r:List Int}{y:Int}: ∀{m i:Nat},i<m→r.getD i 0<y→ ∃q,dT r y m=some q
 |0,i,h,_=>by omega
 |m+1,i,h,hi=>by
  unfold dT
  split
  ·exact⟨_,rfl⟩
  ·next hc=>
   have:i≠m:=fun e=>hc (e▸hi)
   exact pO (by omega) hi
def eP:Nat→List (List Int)→Int→List (List Int)×Int
 |0,rs,y=>(rs,y)
 |r+1,rs,y=>match dT (rs.getD r []) y (rs.getD r []).length with
  |some q=>eP r (rs.set r ((rs.getD r []).set q y)) ((rs.getD r []).getD q 0)
  |none=>eP r rs y
def Be:Nat→List (List Int)→Int→Prop
 |0,_,_=>True
 |r+1,rs,y=> ∃q,dT (rs.getD r []) y (rs.getD r []).length=some q∧Be r (rs.set r ((rs.getD r []).set q y)) ((rs.getD r []).getD q 0)
theorem getD_set_ne{α:Type}{xs:List α}{i j:Nat}(h:j≠i)(x d:α):(xs.set j x).getD i d=xs.getD i d:=by
 simp only[List.getD_eq_getElem?_getD,List.getElem?_set]
 rw[if_neg h]
theorem yu: ∀(r:Nat) (rs:List (List Int)) (y:Int),(∀i,i+1<r→(rs.getD (i+1) []).length≤(rs.getD i []).length∧ ∀q,q<(rs.getD (i+1) []).length→(rs.getD i []).getD q 0<(rs.getD (i+1) []).getD q 0)→
  (∀i,i+1=r→ ∃q,q<(rs.getD i []).length∧(rs.getD i []).getD q 0<y)→Be r rs y
 |0,_,_,_,_=>trivial
 |r+1,rs,y,h,he=>by
  obtain⟨q0,h1,h2⟩:=he r rfl
  obtain⟨q,hq⟩:=pO h1 h2
  obtain⟨q1,q2⟩:=m7 hq
  refine⟨q,hq,yu r _ _ (fun i hi=> ?_) (fun i hi=> ?_)⟩
  ·rw[getD_set_ne (by omega),getD_set_ne (by omega)]
   exact h i (by omega)
  ·subst hi
   rw[getD_set_ne (by omega)]
   obtain⟨k1,k2⟩:=h i (by omega)
   exact⟨q,by omega,k2 q q1⟩
theorem q8{n m:Nat}: ∀(r:Nat) (rs:List (List Int)) (y:Int),cI n m rs→cI n m (eP r rs y).1
 |0,_,_,h=>h
 |r+1,rs,y,h=>by
  unfold eP
  split
  ·exact q8 r _ _ (h.set r (by rw[List.length_set];exact h.at r))
  ·exact q8 r rs y h
def bV (rs : List (List Int)) (row : Nat) : List (List Int) × Int :=
  ((if (rs.getD row []).length = 1 then (eP row (rs.set row ((rs.getD row []).take ((rs.getD row []).length - 1))) ((rs.getD row []).getD ((rs.getD row []).length - 1) 0)).1.take row
    else (eP row (rs.set row ((rs.getD row []).take ((rs.getD row []).length - 1))) ((rs.getD row []).getD ((rs.getD row []).length - 1) 0)).1),
   (eP row (rs.set row ((rs.getD row []).take ((rs.getD row []).length - 1))) ((rs.getD row []).getD ((rs.getD row []).length - 1) 0)).2)
def ep(t:Tab)(row:Int):Tab×(Int×Bool):=
 if bk t=true∧has (iY (outer t)) row=true then((t.1,(bV t.2 row.toNat).1),((bV t.2 row.toNat).2,true))else(([],[]),(0,false))
theorem sx{n m:Nat}{rs:List (List Int)}(h:cI n m rs)(row:Nat):cI n m (bV rs row).1:=by
 have h1:=q8 row (rs.set row ((rs.getD row []).take ((rs.getD row []).length-1))) ((rs.getD row []).getD ((rs.getD row []).length-1) 0) (h.set row (by rw[List.length_take];have:=h.at row;omega))
 unfold bV
 simp only
 split
 ·exact⟨by rw[List.length_take];have:=h1.1;omega,fun x hx=>h1.2 x (List.mem_of_mem_take hx)⟩
 ·exact h1
theorem dG{t:Tab}(h:bk t=true):t.1= []:=by
 simp only[bk,Bool.and_eq_true,decide_eq_true_eq]at h
 exact List.eq_nil_of_length_eq_zero h.2
theorem e9{t:Tab}(h:bk t=true){i:Nat}(hi:i<t.2.length):(outer t).getD i 0=(t.2.getD i []).length:=by
 have e:=gJ t.1 t.2 0 i hi
 rw[dG h]at e
 unfold outer
 rw[dG h,e]
 simp
theorem ji{t:Tab}(h:bk t=true):bK (outer t)=true:=by
 simp only[bk,Bool.and_eq_true]at h
 have hs:=ke h.1
 simp only[dz,cz,Bool.and_eq_true]at hs
 exact hs.2.2.2.1
theorem cp(t:Tab):(outer t).length=t.2.length:=by unfold outer;rw[lJ]
theorem fH{t:Tab}(h:bk t=true):cI 9 9 t.2:=by
 have h9:=jo h
 have hl:=(bw (ji h)).2.2.1
 rw[cp]at hl
 exact⟨hl,fun r hr=>by have:=wM hr;omega⟩
theorem j6{t:Tab}(h:bk t=true): ∀i,i+1<t.2.length→(t.2.getD (i+1) []).length≤(t.2.getD i []).length∧ ∀q,q<(t.2.getD (i+1) []).length→(t.2.getD i []).getD q 0<(t.2.getD (i+1) []).getD q 0:=by
 intro i hi
 have hm:=sU (show gE (outer t) 9 0=true from ji h) i (by rw[cp];exact hi)
 rw[e9 h hi,e9 h (by omega)]at hm
 have hl:(t.2.getD (i+1) []).length≤(t.2.getD i []).length:=by omega
 refine⟨hl,fun q hq=> ?_⟩
 have ht:=h
 simp only[bk,Bool.and_eq_true]at ht
 have ht:=ht.1
 simp only[g8,Bool.and_eq_true]at ht
 have h1:=dM.1 (dM.1 ht.2 (i+1) hi) q hq
 simp only[ij,Bool.and_eq_true,Bool.or_eq_true,decide_eq_true_eq]at h1
 have h2:=h1.2.2.resolve_left (by omega)
 rw[dG h]at h2
 have e:((i+1:Nat):Int)-1=(i:Int):=by omega
 have e2:([]:List Int).getD (i+1) 0+(q:Int)=([]:List Int).getD i 0+(q:Int):=by simp
 rw[e,e2]at h2
 have ee:entry t (i:Int) (([]:List Int).getD i 0+(q:Int))=(t.2.getD i []).getD q 0:=by
  have:=AE (t:=t) (r:=i) (q:=q) (by omega)
  rw[dG h]at this
  exact this
 rw[ee]at h2
 exact h2
theorem vw{t:Tab}{row:Int}(h:bk t=true)(hc:has (iY (outer t)) row=true): ∃n:Nat,row=n∧n<t.2.length∧1≤(t.2.getD n []).length:=by
 obtain⟨_,n,h1,h2,h3⟩:=tv (mR.1 hc)
 rw[cp]at h2
 refine⟨n,h1,h2,?_⟩
 have hp:=(bw (ji h)).1 _ (List.getElem_mem (show n<(outer t).length by rw[cp];exact h2))
 rw[←aw _ 0,e9 h h2]at hp
 omega
theorem BI{t:Tab}(h:bk t=true){n:Nat}(hn:n<t.2.length)(hl:1≤(t.2.getD n []).length):
  Be n (t.2.set n ((t.2.getD n []).take ((t.2.getD n []).length-1))) ((t.2.getD n []).getD ((t.2.getD n []).length-1) 0):=by
 refine yu n _ _ (fun i hi=> ?_) (fun i hi=> ?_)
 ·rw[getD_set_ne (by omega),getD_set_ne (by omega)]
  exact j6 h i (by omega)
 ·subst hi
  rw[getD_set_ne (by omega)]
  obtain⟨k1,k2⟩:=j6 h i hn
  exact⟨(t.2.getD (i+1) []).length-1,by omega,k2 _ (by omega)⟩
theorem xb{t:Tab}(h:kr t)(row:Int):kr (ep t row).1:=by
 unfold ep
 split
 ·next hc=>
  have h1:=sx (fH hc.1) row.toNat
  exact⟨h.1,by have:=h1.1;dsimp only;omega,fun x hx=>by have:=h1.2 x hx;omega⟩
 ·exact kr.nil
end Go.Am.Pu
end
section
/- Rows with noughts in front; a box taken from a partition. Plain words. -/
namespace Go.Am.Pu
def jE(t:Tab):List (List Int):=(List.range' 0 t.2.length).map fun i=>List.replicate (t.1.getD i 0).toNat 0++t.2.getD i []
def bj(p:List Int)(n:Nat):List Int:=if p.getD n 0-1=0 then p.take n else p.set n (p.getD n 0-1)
theorem yP(p:List Int)(n:Nat):(bj p n).length≤p.length:=by
 unfold bj
 split
 ·rw[List.length_take];omega
 ·rw[List.length_set];exact Nat.le_refl _
end Go.Am.Pu
end
section
/- A slide: the hole goes right or down until nothing is there. Plain words. -/
namespace Go.Am.Pu
def cel(g:List (List Int))(r c:Nat):Int:=(g.getD r []).getD c 0
def lW(g:List (List Int))(r c:Nat)(v:Int):List (List Int):=g.set r ((g.getD r []).set c v)
theorem ym{g:List (List Int)}{r c:Nat}(h:cel g r c≠0):r<g.length∧c<(g.getD r []).length:=by
 unfold cel at h
 by_cases h1:r<g.length
 ·refine⟨h1,?_⟩
  by_cases h2:c<(g.getD r []).length
  ·exact h2
  ·exact absurd (bW (by omega) 0) h
 ·rw[bW (xs:=g) (by omega)]at h
  simp at h
theorem jI(g:List (List Int))(r c:Nat)(v:Int):(lW g r c v).length=g.length:=by unfold lW;rw[List.length_set]
theorem cM(g:List (List Int))(r c:Nat)(v:Int)(q:Nat):((lW g r c v).getD q []).length=(g.getD q []).length:=by
 unfold lW
 by_cases e:q=r
 ·subst e
  by_cases h:q<g.length
  ·rw[aw (by rw[List.length_set];exact h),List.getElem_set_self,List.length_set]
  ·rw[bW (by rw[List.length_set];omega),bW (by omega)]
 ·rw[getD_set_ne (Ne.symm e)]
theorem lC{g:List (List Int)}{r c:Nat}(v:Int)(h1:r<g.length)(h2:c<(g.getD r []).length):cel (lW g r c v) r c=v:=by
 unfold cel lW
 rw[aw (xs:=g.set r _) (by rw[List.length_set];exact h1),List.getElem_set_self,aw (by rw[List.length_set];exact h2),List.getElem_set_self]
theorem jR{g:List (List Int)}{r c q x:Nat}(v:Int)(h: ¬(q=r∧x=c)):cel (lW g r c v) q x=cel g q x:=by
 unfold cel lW
 by_cases e:q=r
 ·subst e
  have hx:x≠c:=fun e=>h ⟨rfl,e⟩
  by_cases hl:q<g.length
  ·rw[aw (xs:=g.set q _) (by rw[List.length_set];exact hl),List.getElem_set_self,getD_set_ne (Ne.symm hx)]
  ·rw[bW (xs:=g.set q _) (by rw[List.length_set];omega),bW (xs:=g) (by omega)]
 ·rw[getD_set_ne (Ne.symm e)]
structure Sl (q : List Int) (g : List (List Int)) (i c : Nat) : Prop where
  q0 : ∀ r, 0 ≤ q.getD r 0
  qm : ∀ r, q.getD (r + 1) 0 ≤ q.getD r 0
  lm : ∀ r, (g.getD (r + 1) []).length ≤ (g.getD r []).length
  hi : i < g.length
  hc : c < (g.getD i []).length
  hq : q.getD i 0 ≤ c
  pos : ∀ r x, 0 ≤ cel g r x
  num : ∀ r x : Nat, q.getD r 0 ≤ x → x < (g.getD r []).length → ¬ (r = i ∧ x = c) → 1 ≤ cel g r x ∧ cel g r x ≤ 9
  row : ∀ r x : Nat, q.getD r 0 ≤ x → x + 1 < (g.getD r []).length → ¬ (r = i ∧ x = c) → ¬ (r = i ∧ x + 1 = c) → cel g r x ≤ cel g r (x + 1)
  col : ∀ r x : Nat, q.getD r 0 ≤ x → x < (g.getD (r + 1) []).length → ¬ (r = i ∧ x = c) → ¬ (r + 1 = i ∧ x = c) → cel g r x < cel g (r + 1) x
  FP : ∀ x : Nat, x + 1 = c → q.getD i 0 ≤ x → c + 1 < (g.getD i []).length → cel g i x ≤ cel g i (c + 1)
  colH : ∀ r : Nat, r + 1 = i → q.getD r 0 ≤ c → c < (g.getD (i + 1) []).length → cel g r c < cel g (i + 1) c
theorem Sl.right{q:List Int}{g:List (List Int)}{i c:Nat}(h:Sl q g i c)(hr:cel g i (c+1)≠0)(hb: ¬(0<cel g (i+1) c∧cel g (i+1) c≤cel g i (c+1))):
  Sl q (lW g i c (cel g i (c+1))) i (c+1):=by
 obtain⟨b1,b2⟩:=ym hr
 have hq:=h.hq
 have hrn:=h.num i (c+1) (by omega) b2 (by omega)
 have e0:=lC (cel g i (c+1)) h.hi h.hc
 have en: ∀r x,¬(r=i∧x=c)→cel (lW g i c (cel g i (c+1))) r x=cel g r x:=fun r x hh=>jR _ hh
 refine⟨h.q0,h.qm,fun r=> ?_,?_,?_,by omega,fun r x=> ?_,fun r x h1 h2 h3=> ?_,fun r x h1 h2 h3 h4=> ?_,fun r x h1 h2 h3 h4=> ?_,fun x h1 h2 h3=> ?_,fun r h1 h2 h3=> ?_⟩
 ·rw[cM,cM];exact h.lm r
 ·rw[jI];exact b1
 ·rw[cM];exact b2
 ·by_cases e:r=i∧x=c
  ·rw[e.1,e.2,e0];exact h.pos _ _
  ·rw[en r x e];exact h.pos _ _
 ·rw[cM]at h2
  by_cases e:r=i∧x=c
  ·rw[e.1,e.2,e0];exact hrn
  ·rw[en r x e];exact h.num r x h1 h2 e
 ·rw[cM]at h2
  by_cases e:r=i∧x=c
  ·exact(h4 ⟨e.1,by omega⟩).elim
  ·rw[en r x e]
   by_cases e':r=i∧x+1=c
   ·obtain⟨rfl,rfl⟩:=e'
    rw[e0]
    exact h.FP x rfl h1 b2
   ·rw[en r (x+1) e'];exact h.row r x h1 h2 e e'
 ·rw[cM]at h2
  by_cases e:r=i∧x=c
  ·obtain⟨rfl,rfl⟩:=e
   rw[e0,en _ _ (by omega)]
   have hqm:=h.qm r
   have h5:=(h.num (r+1) x (by omega) h2 (by omega)).1
   omega
  ·rw[en r x e]
   by_cases e':r+1=i∧x=c
   ·obtain⟨rfl,rfl⟩:=e'
    rw[e0]
    have hl:=h.lm r
    have h5:=h.row r x h1 (by omega) (by omega) (by omega)
    have h6:=h.col r (x+1) (by omega) b2 (by omega) (by omega)
    omega
   ·rw[en (r+1) x e']
    exact h.col r x h1 h2 e e'
 ·rw[cM]at h3
  have:x=c:=by omega
  subst this
  rw[e0,en _ _ (by omega)]
  exact h.row i (x+1) (by omega) h3 (by omega) (by omega)
 ·rw[cM]at h3
  rw[en _ _ (by omega),en _ _ (by omega)]
  subst h1
  have h5:=h.col r (c+1) h2 (by omega) (by omega) (by omega)
  have h6:=h.col (r+1) (c+1) (by omega) h3 (by omega) (by omega)
  omega
end Go.Am.Pu
end
section
/- A slide's end and its start. Plain words. -/
namespace Go.Am.Pu
theorem iO{p:List Int}(hp:bK p=true)(r:Nat):p.getD (r+1) 0≤p.getD r 0:=by
 by_cases h:r+1<p.length
 ·exact sU hp r h
 ·rw[bW (by omega)]
  have:=(iC hp r).1
  rw[fb]at this
  exact this
theorem rk{p:List Int}{n:Nat}(hp:bK p=true)(hn:n<p.length)(hc:p.getD (n+1) 0<p.getD n 0)(r:Nat):(bj p n).getD r 0=if r=n then p.getD n 0-1 else p.getD r 0:=by
 unfold bj
 by_cases h:p.getD n 0-1=0
 ·rw[if_pos h]
  have h0:=(iC hp (n+1:Nat)).1
  rw[fb]at h0
  have hl:p.length≤n+1:=by
   refine Nat.le_of_not_lt fun hlt=> ?_
   have:=(bw hp).1 _ (List.getElem_mem hlt)
   rw[←aw hlt 0]at this
   omega
  by_cases e:r=n
  ·subst e
   rw[if_pos rfl,h,bW (by rw[List.length_take];omega)]
  ·rw[if_neg e]
   by_cases e2:r<n
   ·rw[aw (by rw[List.length_take];omega),List.getElem_take,aw (by omega)]
   ·rw[bW (by rw[List.length_take];omega),bW (by omega)]
 ·rw[if_neg h]
  by_cases e:r=n
  ·subst e
   rw[if_pos rfl,aw (by rw[List.length_set];exact hn),List.getElem_set_self]
  ·rw[if_neg e,getD_set_ne (Ne.symm e)]
structure Ie (t : Tab) : Prop where
  q0 : ∀ r, 0 ≤ t.1.getD r 0
  qm : ∀ r, t.1.getD (r + 1) 0 ≤ t.1.getD r 0
  lm : ∀ r, ((jE t).getD (r + 1) []).length ≤ ((jE t).getD r []).length
  num : ∀ r x : Nat, t.1.getD r 0 ≤ x → x < ((jE t).getD r []).length → 1 ≤ cel (jE t) r x ∧ cel (jE t) r x ≤ 9
  row : ∀ r x : Nat, t.1.getD r 0 ≤ x → x + 1 < ((jE t).getD r []).length → cel (jE t) r x ≤ cel (jE t) r (x + 1)
  col : ∀ r x : Nat, t.1.getD r 0 ≤ x → x < ((jE t).getD (r + 1) []).length → cel (jE t) r x < cel (jE t) (r + 1) x
end Go.Am.Pu
end
section
/- A tableau cell by cell; a slide's start. Plain words. -/
namespace Go.Am.Pu
theorem xK{t:Tab}(h:g8 t=true):bK t.1=true∧bK (outer t)=true∧t.1.length≤t.2.length∧(∀i k,i<t.2.length→k<(t.2.getD i []).length→ij t i k=true):=by
 simp only[g8,dz,cz,Bool.and_eq_true,decide_eq_true_eq]at h
 obtain⟨⟨h1,h2,h3,h4,h5⟩,h6⟩:=h
 refine⟨h1,h4,h2,fun i k hi hk=> ?_⟩
 rw[dM]at h6
 have:=h6 i hi
 rw[dM]at this
 exact this k hk
end Go.Am.Pu
end
section
/- A partition less a box; the tableau that a slide leaves. Plain words. -/
namespace Go.Am.Pu
theorem kG: ∀(p:List Int) (prev s:Int),(∀x∈p,1≤x)→(0<p.length→p.getD 0 0≤prev)→(∀i,i+1<p.length→p.getD (i+1) 0≤p.getD i 0)→s+dm p≤9→gE p prev s=true
 | [],_,_,_,_,_,_=>rfl
 |x::xs,prev,s,h1,h2,h3,h4=>by
  have hs: ∀(l:List Int),(∀y∈l,1≤y)→0≤dm l:=by
   intro l
   induction l with
   |nil=>intro _;simp[dm]
   |cons y l ih=>
    intro h
    have a:=h y List.mem_cons_self
    have b:=ih (fun z hz=>h z (List.mem_cons_of_mem _ hz))
    simp only[dm];omega
  have hx:=h1 x List.mem_cons_self
  have hxs:=hs xs (fun z hz=>h1 z (List.mem_cons_of_mem _ hz))
  have h2':=h2 (by simp)
  simp only[List.getD_cons_zero]at h2'
  simp only[dm]at h4
  have ih:=kG xs x (s+x) (fun z hz=>h1 z (List.mem_cons_of_mem _ hz)) (fun hl=>by have:=h3 0 (by simpa using hl);simpa using this) (fun i hi=>by have:=h3 (i+1) (by simpa using hi);simpa using this) (by omega)
  simp only[gE,Bool.and_eq_true,decide_eq_true_eq]
  exact⟨hx,h2',by omega,ih⟩
theorem oY: ∀(p:List Int) (n:Nat) (v:Int),n<p.length→dm (p.set n v)=dm p-p.getD n 0+v
 | [],n,v,h=>by simp at h
 |x::xs,0,v,_=>by simp[dm];omega
 |x::xs,n+1,v,h=>by
  have:=oY xs n v (by simpa using h)
  simp only[List.set_cons_succ,dm,List.getD_cons_succ,this]
  omega
theorem yM: ∀(p:List Int) (n:Nat),p.length=n+1→dm (p.take n)=dm p-p.getD n 0
 | [],n,h=>by simp at h
 | [x],0,_=>by simp[dm]
 |x::xs,n+1,h=>by
  have:=yM xs n (by simpa using h)
  simp only[List.take_succ_cons,dm,List.getD_cons_succ,this]
  omega
 |x::y::xs,0,h=>by simp at h
theorem xw{p:List Int}{n:Nat}(hp:bK p=true)(hc:p.getD (n+1) 0<p.getD n 0)(h:p.getD n 0-1=0):p.length≤n+1:=by
 have h0:=(iC hp (n+1:Nat)).1
 rw[fb]at h0
 refine Nat.le_of_not_lt fun hlt=> ?_
 have:=(bw hp).1 _ (List.getElem_mem hlt)
 rw[←aw hlt 0]at this
 omega
theorem zW{p:List Int}{n:Nat}(hp:bK p=true)(hn:n<p.length)(hc:p.getD (n+1) 0<p.getD n 0){i:Nat}(hi:i<(bj p n).length):1≤(bj p n).getD i 0:=by
 rw[rk hp hn hc]
 have hl:=yP p n
 have h1: ∀i,i<p.length→1≤p.getD i 0:=fun i hi=>by
  rw[aw hi]
  exact((bw hp).1 _ (List.getElem_mem hi)).1
 by_cases h:p.getD n 0-1=0
 ·unfold bj at hi
  rw[if_pos h,List.length_take]at hi
  rw[if_neg (by omega)]
  exact h1 i (by omega)
 ·have a:=h1 n hn
  have b:=h1 i (by omega)
  split<;>omega
theorem pJ{p:List Int}{n:Nat}(hp:bK p=true)(hn:n<p.length)(hc:p.getD (n+1) 0<p.getD n 0):bK (bj p n)=true:=by
 have hs:=bw hp
 have hg:=rk hp hn hc
 have hpn:1≤p.getD n 0:=by
  rw[aw hn]
  exact(hs.1 _ (List.getElem_mem hn)).1
 refine kG _ _ _ (fun x hx=> ?_) (fun _=> ?_) (fun i _=> ?_) ?_
 ·obtain⟨i,hi,rfl⟩:=List.getElem_of_mem hx
  rw[←aw hi 0]
  exact zW hp hn hc hi
 ·rw[hg]
  have: ∀i,p.getD i 0≤9:=fun i=>by
   have:=(iC hp i).2
   rw[fb]at this
   exact this
  have a:=this 0
  have b:=this n
  split<;>omega
 ·rw[hg,hg]
  have:=iO hp i
  by_cases e:i=n
  ·subst e
   rw[if_neg (by omega),if_pos rfl];omega
  ·rw[if_neg e]
   by_cases e2:i+1=n
   ·subst e2;rw[if_pos rfl];omega
   ·rw[if_neg e2];exact this
 ·have h9:=hs.2.1
  unfold bj
  split
  ·next h=>
   have hl:=xw hp hc h
   rw[yM p n (by omega)]
   omega
  ·rw[oY p n _ hn]
   omega
def eD(q:List Int)(g:List (List Int))(n:Nat):List (List Int):=(List.range' 0 n).map fun r=>(g.getD r []).drop (q.getD r 0).toNat
theorem jO(q:List Int)(g:List (List Int))(n:Nat):(eD q g n).length=n:=by simp[eD]
theorem ly{q:List Int}{g:List (List Int)}{n r:Nat}(h:r<n):(eD q g n).getD r []=(g.getD r []).drop (q.getD r 0).toNat:=by
 rw[aw (by rw[jO];exact h)]
 simp[eD]
def pd(g:List (List Int))(i c:Nat):List (List Int):=g.set i ((g.getD i []).take c)
end Go.Am.Pu
namespace Go.Am.Pu
end Go.Am.Pu
end
section
/- What a slide leaves. Plain words. -/
namespace Go.Am.Pu
theorem BN{g:List (List Int)}{i c r:Nat}(hi:i<g.length):(pd g i c).getD r []=if r=i then(g.getD i []).take c else g.getD r []:=by
 unfold pd
 by_cases e:r=i
 ·subst e
  rw[if_pos rfl,aw (by rw[List.length_set];exact hi),List.getElem_set_self]
 ·rw[if_neg e,getD_set_ne (Ne.symm e)]
theorem od(g:List (List Int))(i c:Nat):(pd g i c).length=g.length:=by unfold pd;rw[List.length_set]
theorem EA{g:List (List Int)}{i c r x:Nat}(hi:i<g.length)(hx:x<((pd g i c).getD r []).length):cel (pd g i c) r x=cel g r x:=by
 unfold cel
 rw[BN hi]at hx⊢
 by_cases e:r=i
 ·subst e
  rw[if_pos rfl]at hx⊢
  rw[List.length_take]at hx
  rw[aw (by rw[List.length_take];exact hx),List.getElem_take]
  exact(aw (by omega) 0).symm
 ·rw[if_neg e]
structure yT (t : Tab) (n : Nat) (g : List (List Int)) (i c : Nat) : Prop where
  sl : Sl (bj t.1 n) g i c
  len : g.length = t.2.length
  row : ∀ r, (g.getD r []).length = ((jE t).getD r []).length
  hi : i < (outer t).length
  end_ : (outer t).getD i 0 = c + 1
  cor : (outer t).getD (i + 1) 0 < (outer t).getD i 0
  cutl : ∀ r, (((pd g i c).getD r []).length : Int) = (bj (outer t) i).getD r 0
  ins : ∀ r, (bj t.1 n).getD r 0 ≤ (bj (outer t) i).getD r 0
  rows : cI 9 9 (pd g i c)
end Go.Am.Pu
end
section
/- The square that the reference slides in. Plain words. -/
namespace Go.Am.Pu
structure Sq (s g : List (List Int)) (i c : Nat) : Prop where
  len : s.length = 11
  row : ∀ r, r < 11 → (s.getD r []).length = 11
  at_ : ∀ r x, r < 11 → x < 11 → ¬ (r = i ∧ x = c) → cel s r x = cel g r x
  hole : cel s i c = 0
theorem Sq.step{s g:List (List Int)}{i c i' c':Nat}(h:Sq s g i c)(hi:i<g.length)(hc:c<(g.getD i []).length)(h1:i<11)(h2:c<11)(h3:i'<11)(h4:c'<11)(hne: ¬(i'=i∧c'=c))(v:Int):
  Sq (lW (lW s i c v) i' c' 0) (lW g i c v) i' c':=by
 refine⟨by rw[jI,jI];exact h.len,fun r hr=>by rw[cM,cM];exact h.row r hr,fun r x hr hx hn=> ?_,?_⟩
 ·rw[jR _ hn]
  by_cases e:r=i∧x=c
  ·obtain⟨rfl,rfl⟩:=e
   rw[lC _ (by rw[h.len];exact h1) (by rw[h.row _ h1];exact h2),lC _ hi hc]
  ·rw[jR _ e,jR _ e];exact h.at_ r x hr hx e
 ·rw[lC _ (by rw[jI,h.len];exact h3) (by rw[cM,h.row _ h3];exact h4)]
end Go.Am.Pu
end
section
/- What a slide leaves is a tableau. Plain words. -/
namespace Go.Am.Pu
theorem xd{α:Type}(l:List α)(a x:Nat)(d:α):(l.drop a).getD x d=l.getD (a+x) d:=by
 simp[List.getD_eq_getElem?_getD,List.getElem?_drop]
section
variable {t : Tab} {n : Nat} {g : List (List Int)} {i c : Nat}
theorem yT.cell(E:yT t n g i c){r k:Nat}(hr:r<(bj (outer t) i).length)
  (hk:k<((eD (bj t.1 n) (pd g i c) (bj (outer t) i).length).getD r []).length):
  ((bj t.1 n).getD r 0).toNat+k<(g.getD r []).length∧((((bj t.1 n).getD r 0).toNat+k:Nat):Int)<(bj (outer t) i).getD r 0∧ ¬(r=i∧((bj t.1 n).getD r 0).toNat+k=c)∧
   ((eD (bj t.1 n) (pd g i c) (bj (outer t) i).length).getD r []).getD k 0=cel g r (((bj t.1 n).getD r 0).toNat+k):=by
 have hq:=E.sl.q0 r
 rw[ly hr]at hk⊢
 rw[List.length_drop]at hk
 have hx:((bj t.1 n).getD r 0).toNat+k<((pd g i c).getD r []).length:=by omega
 have hl:=E.cutl r
 have hcut:=BN (c:=c) (r:=r) E.sl.hi
 refine⟨?_,by omega,fun e=> ?_,?_⟩
 ·rw[hcut]at hx
  by_cases e:r=i
  ·subst e;rw[if_pos rfl,List.length_take]at hx;omega
  ·rw[if_neg e]at hx;exact hx
 ·rw[hcut,if_pos e.1,List.length_take]at hx
  omega
 ·rw[xd]
  exact EA E.sl.hi hx
theorem yT.y5(E:yT t n g i c){r:Nat}(hr:r<(bj (outer t) i).length):
  (bj (outer t) i).getD r 0=(bj t.1 n).getD r 0+(((eD (bj t.1 n) (pd g i c) (bj (outer t) i).length).getD r []).length:Int):=by
 have hq:=E.sl.q0 r
 have hi:=E.ins r
 have hl:=E.cutl r
 rw[ly hr,List.length_drop]
 omega
theorem yT.tab(E:yT t n g i c)(h:g8 t=true)(hn:n<t.1.length)(hc:t.1.getD (n+1) 0<t.1.getD n 0):
  g8 (bj t.1 n,eD (bj t.1 n) (pd g i c) (bj (outer t) i).length)=true:=by
 obtain⟨hp,ho,hl,_⟩:=xK h
 have hqp:=pJ hp hn hc
 have hop:=pJ ho E.hi E.cor
 generalize hR:eD (bj t.1 n) (pd g i c) (bj (outer t) i).length=R
 have hRl:R.length=(bj (outer t) i).length:=by rw[←hR,jO]
 have cell: ∀{r k:Nat},r<R.length→k<(R.getD r []).length→((bj t.1 n).getD r 0).toNat+k<(g.getD r []).length∧((((bj t.1 n).getD r 0).toNat+k:Nat):Int)<(bj (outer t) i).getD r 0∧ ¬(r=i∧((bj t.1 n).getD r 0).toNat+k=c)∧(R.getD r []).getD k 0=cel g r (((bj t.1 n).getD r 0).toNat+k):=by
  intro r k hr hk
  subst hR
  exact E.cell (by omega) hk
 have y5: ∀{r:Nat},r<R.length→(bj (outer t) i).getD r 0=(bj t.1 n).getD r 0+((R.getD r []).length:Int):=by
  intro r hr
  subst hR
  exact E.y5 (by omega)
 have q0:=E.sl.q0
 have hout:outer (bj t.1 n,R)=bj (outer t) i:=by
  refine List.ext_getElem (by rw[cp];exact hRl) fun r h1 h2=> ?_
  rw[←aw h1 0,←aw h2 0]
  have h3:r<R.length:=by omega
  have:=gJ (bj t.1 n) R 0 r h3
  rw[Nat.zero_add]at this
  unfold outer
  rw[this]
  exact(y5 h3).symm
 have hlen:(bj t.1 n).length≤R.length:=by
  refine Nat.le_of_not_lt fun hlt=> ?_
  have a:=zW hp hn hc hlt
  have b:=E.ins R.length
  rw[bW (xs:=bj (outer t) i) (by omega)]at b
  omega
 have om:=iO hop
 simp only[g8,dz,cz,Bool.and_eq_true,decide_eq_true_eq]
 rw[hout]
 refine⟨⟨hqp,hlen,hqp,hop,by omega,?_⟩,?_⟩
 ·rw[dM]
  intro r _
  exact decide_eq_true (E.ins r)
 ·rw[dM]
  intro r hr
  rw[dM]
  intro k hk
  have hq:=q0 r
  obtain⟨c1,c2,c3,c4⟩:=cell hr hk
  have hx:(bj t.1 n).getD r 0≤((((bj t.1 n).getD r 0).toNat+k:Nat):Int):=by omega
  have hnum:=E.sl.num r _ hx c1 c3
  simp only[ij,within,Bool.and_eq_true,Bool.or_eq_true,decide_eq_true_eq]
  rw[c4]
  refine⟨hnum,?_,?_⟩
  ·cases k with
   |zero=>exact .inl rfl
   |succ k=>
    obtain⟨d1,d2,d3,d4⟩:=cell hr (show k<(R.getD r []).length by omega)
    right
    rw[show k+1-1=k from rfl,d4]
    exact E.sl.row r (((bj t.1 n).getD r 0).toNat+k) (by omega) (by omega) d3 (by omega)
  ·cases r with
   |zero=>exact .inl rfl
   |succ r=>
    right
    have hr':r<R.length:=by omega
    have em:((r+1:Nat):Int)-1=(r:Int):=by omega
    rw[em,nB hr']
    have hqr:=q0 r
    have hrl:=y5 hr'
    have hom:=om r
    simp only
    by_cases e:(bj t.1 n).getD (r+1) 0+(k:Int)<(bj t.1 n).getD r 0
    ·rw[pH (by omega)];omega
    ·obtain⟨y,hy⟩: ∃y:Nat,(bj t.1 n).getD (r+1) 0+(k:Int)-(bj t.1 n).getD r 0=y:=⟨((bj t.1 n).getD (r+1) 0+(k:Int)-(bj t.1 n).getD r 0).toNat,by omega⟩
     rw[hy,fb]
     obtain⟨d1,d2,d3,d4⟩:=cell hr' (show y<(R.getD r []).length by omega)
     have ey:((bj t.1 n).getD r 0).toNat+y=((bj t.1 n).getD (r+1) 0).toNat+k:=by omega
     rw[d4,ey]
     rw[ey]at d3
     exact E.sl.col r _ (by omega) c1 d3 c3
end
theorem Ak{p:List Int}{n:Nat}(hp:bK p=true)(hn:n<p.length)(hc:p.getD (n+1) 0<p.getD n 0):dm (bj p n)=dm p-1:=by
 unfold bj
 split
 ·next h=>
  have hl:=xw hp hc h
  rw[yM p n (by omega)]
  omega
 ·rw[oY p n _ hn]
  omega
end Go.Am.Pu
namespace Go.Am.Pu
end Go.Am.Pu
end
section
/- Taking the least number out of a plain tableau; evacuation. Plain words. -/
namespace Go.Am.Pu
theorem yT.out{t:Tab}{n:Nat}{g:List (List Int)}{i c:Nat}(E:yT t n g i c):
  outer (bj t.1 n,eD (bj t.1 n) (pd g i c) (bj (outer t) i).length)=bj (outer t) i:=by
 refine List.ext_getElem (by rw[cp];exact jO _ _ _) fun r h1 h2=> ?_
 rw[←aw h1 0,←aw h2 0]
 have h3:r<(eD (bj t.1 n) (pd g i c) (bj (outer t) i).length).length:=by rw[jO];exact h2
 have:=gJ (bj t.1 n) (eD (bj t.1 n) (pd g i c) (bj (outer t) i).length) 0 r h3
 rw[Nat.zero_add]at this
 exact this.trans (E.y5 h2).symm
theorem ox{t:Tab}(h:bk t=true){r:Nat}(hr:r<t.2.length):1≤(t.2.getD r []).length:=by
 have hl:=e9 h hr
 have hp:=(bw (ji h)).1 ((outer t)[r]'(by rw[cp];exact hr)) (List.getElem_mem _)
 rw[aw (by rw[cp];exact hr)]at hl
 omega
theorem sL{t:Tab}(h:bk t=true):dm (outer t)=t.2.flatten.length:=by
 unfold outer
 exact pL t.1 t.2 0 fun q _=>by rw[dG h];rfl
end Go.Am.Pu
end
section
/- Promotion. Plain words. -/
namespace Go.Am.Pu
def Small(rs:List (List Int)):Prop:= ∀i q,-100≤(rs.getD i []).getD q 0∧(rs.getD i []).getD q 0≤100
end Go.Am.Pu
end
section
/- Slides undone. Plain words. -/
namespace Go.Am.Pu
def leftOf(g:List (List Int))(i c:Nat):Int:=if c=0 then 0 else cel g i (c-1)
def zz(g:List (List Int))(i c:Nat):Int:=if i=0 then 0 else cel g (i-1) c
def sQ:Nat→List (List Int)→Nat→Nat→List (List Int)×(Nat×Nat)
 |0,g,i,c=>(g,(i,c))
 |m+1,g,i,c=>if leftOf g i c=0∧zz g i c=0 then(g,(i,c))
  else if leftOf g i c≤zz g i c then sQ m (lW g i c (zz g i c)) (i-1) c
  else sQ m (lW g i c (leftOf g i c)) i (c-1)
structure Ag (f : Int → Int) (g h : List (List Int)) (i c : Nat) : Prop where
  len : h.length = g.length
  row : ∀ r, (h.getD r []).length = (g.getD r []).length
  at_ : ∀ r x, ¬ (r = i ∧ x = c) → cel h r x = f (cel g r x)
def Inn(q:List Int)(g:List (List Int)):Prop:= ∀r x:Nat,(x:Int)<q.getD r 0→cel g r x=0
theorem Inn.step{q:List Int}{g:List (List Int)}{i c:Nat}(h:Inn q g)(hq:q.getD i 0≤c)(v:Int):Inn q (lW g i c v):=by
 intro r x hx
 by_cases e:r=i∧x=c
 ·obtain⟨rfl,rfl⟩:=e;omega
 ·rw[jR _ e];exact h r x hx
theorem Ag.right{f:Int→Int}{q:List Int}{g h:List (List Int)}{i c:Nat}(hs:Sl q g i c)(hi:Inn q g)(hf: ∀a b x y,cel g a b<cel g x y→f (cel g a b)<f (cel g x y))(f0:f 0=0)
  (hr:cel g i (c+1)≠0) (ha:Ag f (lW g i c (cel g i (c+1))) h i (c+1)):
  ∃h',Ag f g h' i c∧ ∀m,sQ (m+1) h i (c+1)=sQ m h' i c:=by
 obtain⟨b1,b2⟩:=ym hr
 have f0': ∀a b,cel g a b=0→f (cel g a b)=0:=fun a b e=>by rw[e];exact f0
 have hl:leftOf h i (c+1)=f (cel g i (c+1)):=by
  unfold leftOf
  rw[if_neg (by omega),show c+1-1=c by omega,ha.at_ i c (by omega),lC _ hs.hi hs.hc]
 have hpos:0<f (cel g i (c+1)):=by
  have hp:=hs.pos i (c+1)
  have e:cel g g.length 0=0:=by unfold cel;rw[bW (Nat.le_refl _)];rfl
  have:=hf g.length 0 i (c+1) (by omega)
  rw[e,f0]at this
  exact this
 have hu:zz h i (c+1)<f (cel g i (c+1)):=by
  unfold zz
  by_cases e:i=0
  ·rw[if_pos e];exact hpos
  ·rw[if_neg e,ha.at_ _ _ (by omega),jR _ (by omega)]
   by_cases hq:q.getD (i-1) 0≤((c+1:Nat):Int)
   ·have hc:=hs.col (i-1) (c+1) hq (by rw[show i-1+1=i by omega];exact b2) (by omega) (by omega)
    rw[show i-1+1=i by omega]at hc
    exact hf _ _ _ _ hc
   ·rw[f0' _ _ (hi (i-1) (c+1) (by omega))];exact hpos
 have hhi:i<h.length:=by rw[ha.len,jI];exact b1
 have hhc:c+1<(h.getD i []).length:=by rw[ha.row,cM];exact b2
 refine⟨lW h i (c+1) (leftOf h i (c+1)),⟨by rw[jI,ha.len,jI],fun r=>by rw[cM,ha.row,cM],fun r x hn=> ?_⟩,fun m=> ?_⟩
 ·by_cases e:r=i∧x=c+1
  ·obtain⟨rfl,rfl⟩:=e
   rw[lC _ hhi hhc,hl]
  ·rw[jR _ e,ha.at_ r x e,jR _ hn]
 ·conv=>lhs;unfold sQ
  rw[if_neg (by omega),if_neg (by omega)]
  rfl
def Occ(q:List Int)(v:Int)(g:List (List Int))(i c:Nat):Prop:= ∃r x:Nat,¬(r=i∧x=c)∧x<(g.getD r []).length∧q.getD r 0≤x∧cel g r x=v
theorem Occ.step{q:List Int}{v:Int}{g:List (List Int)}{i c a b:Nat}(h:Occ q v g i c)(hi:i<g.length)(hc:c<(g.getD i []).length)(hq:q.getD i 0≤c)(hne: ¬(a=i∧b=c)):Occ q v (lW g i c (cel g a b)) a b:=by
 obtain⟨r,x,h1,h2,h3,h4⟩:=h
 by_cases e:r=a∧x=b
 ·obtain⟨rfl,rfl⟩:=e
  exact⟨i,c,fun e=>hne ⟨e.1.symm,e.2.symm⟩,by rw[cM];exact hc,hq,by rw[lC _ hi hc];exact h4⟩
 ·exact⟨r,x,e,by rw[cM];exact h2,h3,by rw[jR _ h1];exact h4⟩
end Go.Am.Pu
end
section
/- Promotion of a standard tableau is standard, of the same shape, and can be undone. Plain words. -/
namespace Go.Am.Pu
theorem uv{t:Tab}(h0:t.1= [])(hp:bK (outer t)=true)(hn: ∀r x,r<t.2.length→x<(t.2.getD r []).length→1≤cel t.2 r x∧cel t.2 r x≤9)
  (hr: ∀r x,r<t.2.length→x+1<(t.2.getD r []).length→cel t.2 r x≤cel t.2 r (x+1)) (hc: ∀r x,r+1<t.2.length→x<(t.2.getD (r+1) []).length→cel t.2 r x<cel t.2 (r+1) x):bk t=true:=by
 simp only[bk,g8,dz,cz,Bool.and_eq_true,decide_eq_true_eq,h0]
 refine⟨⟨⟨rfl,by simp,rfl,hp,by simp,?_⟩,?_⟩,rfl⟩
 ·rw[dM]
  intro i hi
  simp at hi
 ·rw[dM]
  intro r hr'
  rw[dM]
  intro k hk
  simp only[ij,within,Bool.and_eq_true,Bool.or_eq_true,decide_eq_true_eq]
  refine⟨hn r k hr' hk,?_,?_⟩
  ·by_cases e:k=0
   ·exact .inl e
   ·right
    have:=hr r (k-1) hr' (by omega)
    rw[show k-1+1=k by omega]at this
    exact this
  ·by_cases e:r=0
   ·exact .inl e
   ·right
    have:=hc (r-1) k (by omega) (by rw[show r-1+1=r by omega];exact hk)
    rw[show r-1+1=r by omega]at this
    rw[show(r:Int)-1=((r-1:Nat):Int) by omega,nB (by omega),h0]
    simp only[List.getD_nil]
    rw[show(0:Int)+(k:Int)-0=(k:Int) by omega,fb]
    exact this
theorem mW{t:Tab}(h:bk t=true):(∀r x,r<t.2.length→x<(t.2.getD r []).length→1≤cel t.2 r x∧cel t.2 r x≤9)∧(∀r x,r<t.2.length→x+1<(t.2.getD r []).length→cel t.2 r x≤cel t.2 r (x+1)):=by
 have h':=h
 simp only[bk,Bool.and_eq_true]at h'
 obtain⟨_,_,_,hc⟩:=xK h'.1
 refine⟨fun r x hr hx=> ?_,fun r x hr hx=> ?_⟩
 ·have:=hc r x hr hx
  simp only[ij,within,Bool.and_eq_true,decide_eq_true_eq]at this
  exact this.1
 ·have:=hc r (x+1) hr hx
  simp only[ij,within,Bool.and_eq_true,Bool.or_eq_true,decide_eq_true_eq]at this
  exact this.2.1.resolve_left (by omega)
theorem kF{rs:List (List Int)}{r x:Nat}(hr:r<rs.length)(hx:x<(rs.getD r []).length):cel rs r x∈rs.flatten:=by
 refine List.mem_flatten.2 ⟨rs.getD r [],by rw[aw hr];exact List.getElem_mem hr,?_⟩
 unfold cel
 rw[aw hx]
 exact List.getElem_mem hx
theorem rH{rs:List (List Int)}{v:Int}(h:v∈rs.flatten): ∃r x,r<rs.length∧x<(rs.getD r []).length∧cel rs r x=v:=by
 obtain⟨l,hl,hv⟩:=List.mem_flatten.1 h
 obtain⟨r,hr,rfl⟩:=List.getElem_of_mem hl
 obtain⟨x,hx,rfl⟩:=List.getElem_of_mem hv
 have e:=aw hr ([]:List Int)
 refine⟨r,x,hr,by rw[e];exact hx,?_⟩
 unfold cel
 rw[e,aw hx]
theorem oz{t:Tab}(h:bk t=true)(hs:gh t=true):t.2.flatten.Nodup∧(∀x∈t.2.flatten,1≤x∧x≤t.2.flatten.length):=by
 simp only[gh,Bool.and_eq_true]at hs
 have h1:=pj hs.1
 obtain⟨a,b⟩:=(og fun x hx=>(h1 x hx).1).1 hs.2
 exact⟨a,fun x hx=>⟨(h1 x hx).1,b x hx⟩⟩
end Go.Am.Pu
end
section
/- Promotion keeps shapes and standardness. Plain words. -/
namespace Go.Am.Pu
section
variable {t : Tab}
theorem CF{a b:Tab}(ha:a.1= [])(hb:b.1= [])(hl:a.2.length=b.2.length)(hr: ∀r,(a.2.getD r []).length=(b.2.getD r []).length):outer a=outer b:=by
 refine List.ext_getElem (by rw[cp,cp];exact hl) fun r h1 h2=> ?_
 rw[cp]at h1 h2
 have e1:=gJ a.1 a.2 0 r h1
 have e2:=gJ b.1 b.2 0 r h2
 rw[←aw (by rw[cp];exact h1) 0,←aw (by rw[cp];exact h2) 0]
 unfold outer
 rw[e1,e2,ha,hb,hr]
theorem lk{xs ys:List Int}{x:Nat}(h:x<xs.length):(xs++ys).getD x 0=xs.getD x 0:=by
 simp only[List.getD_eq_getElem?_getD,List.getElem?_append_left h]
theorem nN{xs ys:List Int}{x:Nat}(h:xs.length≤x):(xs++ys).getD x 0=ys.getD (x-xs.length) 0:=by
 simp only[List.getD_eq_getElem?_getD,List.getElem?_append_right h]
end
end Go.Am.Pu
end
section
/- Promotion undone: it is one to one. Plain words. -/
namespace Go.Am.Pu
def Fi(t:Tab)(n:Nat):List (List Int):=
 (if n=t.2.length then jE t++ [[]]else jE t).set n ((if n=t.2.length then jE t++ [[]]else jE t).getD n []++ [0])
section
variable {t : Tab}
end
end Go.Am.Pu
end
section
/- Orbits of promotion come back. Plain words. -/
namespace Go.Am.Pu
structure Good (t : Tab) : Prop where
  pl : bk t = true
  st : gh t = true
  ne : t.2.flatten.length ≠ 0
end Go.Am.Pu
end
section
/- A slide outwards, as the program has it; demotion. Plain words. -/
namespace Go.Am.Pu
theorem nx{p q:List Int}{n:Nat}(h:jf p n=(q,true)):n≤p.length∧n<q.length∧q.length≤p.length+1∧(∀r,q.getD r 0=if r=n then p.getD n 0+1 else p.getD r 0)∧bK q=true:=by
 have hl:=Bn p n
 rw[h]at hl
 unfold jf at h
 by_cases hc:bK p=true∧(0:Int)≤n∧(n:Int)≤p.length
 ·rw[if_pos hc]at h
  have hn:n≤p.length:=by omega
  generalize hw:(if(n:Int)=p.length then p++ [0]else p)=w at h
  have hb: ∀r,w.getD r 0=p.getD r 0:=fun r=>by
   rw[←hw]
   split
   ·by_cases hr:r<p.length
    ·rw[lk hr]
    ·rw[nN (by omega),bW (xs:=p) (by omega)]
     cases r-p.length<;>rfl
   ·rfl
  have hwl:n<w.length:=by
   rw[←hw]
   split
   ·rw[List.length_append,List.length_singleton];omega
   ·omega
  simp only[Int.toNat_natCast]at h
  by_cases hp:bK (w.set n (w.getD n 0+1))=true
  ·rw[if_pos hp]at h
   have h1:=congrArg Prod.fst h
   simp only at h1
   subst h1
   refine⟨hn,by rw[List.length_set];exact hwl,hl,fun r=> ?_,hp⟩
   by_cases e:r=n
   ·subst e
    rw[if_pos rfl,aw (by rw[List.length_set];exact hwl),List.getElem_set_self,hb]
   ·rw[if_neg e,getD_set_ne (Ne.symm e),hb]
  ·rw[if_neg hp]at h
   have h2:=congrArg Prod.snd h
   simp at h2
 ·rw[if_neg hc]at h
  have h2:=congrArg Prod.snd h
  simp at h2
theorem Dw{l m:List Int}(hl:l.length=m.length)(h: ∀x,x<m.length→l.getD x 0=m.getD x 0):l=m:=
 List.ext_getElem hl fun x h1 h2=>by rw[←aw h1 0,←aw h2 0];exact h x h2
section
variable {u : Tab}
end
end Go.Am.Pu
end
section
/- The last promotion of an orbit; orbits' sizes. Plain words. -/
namespace Go.Am.Pu
theorem CK{t:Tab}(h:bk t=true)(hn:t.2.flatten.length=0):t=([],[]):=by
 refine Prod.ext (dG h) ?_
 refine List.eq_nil_of_length_eq_zero (Nat.eq_zero_of_not_pos fun hp=> ?_)
 have:=ox h hp
 have hl:=kF hp (show 0<(t.2.getD 0 []).length by omega)
 rw[List.eq_nil_of_length_eq_zero hn]at hl
 simp at hl
def Cm(t:Tab):Prop:=t.1= []∧cI 10 10 t.2
theorem Cm.ok{t:Tab}(h:Cm t):kr t:=⟨by rw[h.1];simp,by have:=h.2.1;omega,fun r hr=>by have:=h.2.2 r hr;omega⟩
theorem Cm.size{t:Tab}(h:Cm t):y0 t.2≤100:=by
 have a:=zu t.2 10 h.2.2
 have b:=h.2.1
 omega
section
attribute [local instance] D.real
variable {α β : Type} {x y v : Option α}
theorem bE{x:Option β}{z:β}{f:β→Option α}(h:x=some z)(g:f z=v):D.bnd x f=v:=by rw[h];exact g
theorem tN(g:x=v):D.test (D.no true) y x=v:=g
theorem tY(g:x=v):D.test true x y=v:=g
theorem tF(g:y=v):D.test false x y=v:=g
theorem tM(g:y=v):D.test (D.no false) y x=v:=g
theorem tG{p:Prop} [Decidable p](h:p)(g:x=v):D.test (decide p) x y=v:=by
 show(if decide p=true then x else y)=v
 rw[if_pos (decide_eq_true h)];exact g
theorem tX{p:Prop} [Decidable p](h: ¬p)(g:y=v):D.test (decide p) x y=v:=by
 show(if decide p=true then x else y)=v
 rw[decide_eq_false h];exact g
theorem tE{a b:Int}(h:a=b)(g:x=v):D.test (D.no (D.eq a b)) y x=v:=by
 show(if(!decide (a=b))=true then y else x)=v
 rw[decide_eq_true h];exact g
theorem tB{b:Bool}(g:x=v):D.test (D.no (D.eqB b b)) y x=v:=by
 show(if(!(b==b))=true then y else x)=v
 rw[beq_self_eq_true];exact g
end
end Go.Am.Pu
end
section
/- The rewriting rules of the plain laws, in one. -/
namespace Go.Am.Pu
open Go Go.Am
attribute [local instance] D.real
theorem sss:type_of% @gB∧type_of% @fZ∧type_of% @dP∧type_of% @dX∧type_of% @ed∧type_of% @cy∧type_of% @cK∧type_of% @cS∧type_of% @fe∧type_of% @dB∧type_of% @dD∧type_of% @cO∧type_of% @cP∧type_of% @dL∧type_of% @bZ∧type_of% @cZ∧type_of% @dw∧type_of% @fT∧type_of% @fX∧type_of% @dY∧type_of% @dW∧type_of% @bU∧type_of% @w64∧type_of% @Int.toNat_natCast∧type_of% @decide_eq_true_eq∧type_of% @Int.ofNat_lt∧type_of% @Int.ofNat_le∧type_of% @Int.natCast_nonneg∧type_of% @decide_true∧type_of% @decide_false∧type_of% @Bool.not_true∧type_of% @Bool.not_false∧type_of% @Bool.false_eq_true∧type_of% @Bool.not_eq_true∧type_of% @Bool.true_and∧type_of% @Bool.and_true∧type_of% @Bool.false_and∧type_of% @Bool.and_false:=
 ⟨@gB,@fZ,@dP,@dX,@ed,@cy,@cK,@cS,@fe,@dB,@dD,@cO,@cP,@dL,@bZ,@cZ,@dw,@fT,@fX,@dY,@dW,@bU,@w64,@Int.toNat_natCast,@decide_eq_true_eq,@Int.ofNat_lt,@Int.ofNat_le,@Int.natCast_nonneg,@decide_true,@decide_false,@Bool.not_true,@Bool.not_false,@Bool.false_eq_true,@Bool.not_eq_true,@Bool.true_and,@Bool.and_true,@Bool.false_and,@Bool.and_false⟩
end Go.Am.Pu
end
section
/- Cells taken out of plain tableaux, one behind another. Plain words. -/
namespace Go.Am.Pu
def qy(rs:List (List Int)):Prop:= ∀i,i+1<rs.length→(rs.getD (i+1) []).length≤(rs.getD i []).length∧ ∀q,q<(rs.getD (i+1) []).length→(rs.getD i []).getD q 0<(rs.getD (i+1) []).getD q 0
theorem q7{r:List Int}{y:Int}: ∀{m q:Nat},dT r y m=some q→ ∀c,q<c→c<m→y≤r.getD c 0
 |0,q,h,_,_,_=>by simp[dT]at h
 |m+1,q,h,c,h1,h2=>by
  unfold dT at h
  split at h
  ·next hc=>injection h with h;omega
  ·next hc=>
   by_cases e:c=m
   ·subst e;omega
   ·exact q7 h c h1 (by omega)
theorem sN: ∀(r:Nat) (rs:List (List Int)) (y:Int),(eP r rs y).1.length=rs.length∧ ∀i,((eP r rs y).1.getD i []).length=(rs.getD i []).length
 |0,_,_=>⟨rfl,fun _=>rfl⟩
 |r+1,rs,y=>by
  unfold eP
  split
  ·next q hq=>
   obtain⟨a,b⟩:=sN r (rs.set r ((rs.getD r []).set q y)) ((rs.getD r []).getD q 0)
   refine⟨by rw[a,List.length_set],fun i=> ?_⟩
   rw[b]
   by_cases e:i=r
   ·subst e
    by_cases h:i<rs.length
    ·rw[aw (by rw[List.length_set];exact h),List.getElem_set_self,List.length_set]
    ·rw[bW (by rw[List.length_set];omega),bW (xs:=rs) (by omega)]
   ·rw[getD_set_ne (Ne.symm e)]
  ·exact sN r rs y
theorem xA: ∀(r:Nat) (rs:List (List Int)) (y:Int) (q:Nat),r<rs.length→(∀i,i+1<r→(rs.getD (i+1) []).length≤(rs.getD i []).length∧ ∀q,q<(rs.getD (i+1) []).length→(rs.getD i []).getD q 0<(rs.getD (i+1) []).getD q 0)→
  (∀i,r≤i→i+1<rs.length→(rs.getD (i+1) []).length≤(rs.getD i []).length∧ ∀q,q<(rs.getD (i+1) []).length→(rs.getD i []).getD q 0<(rs.getD (i+1) []).getD q 0)→
  (∀i,i+1=r→(rs.getD r []).length≤(rs.getD i []).length∧q<(rs.getD i []).length∧(rs.getD i []).getD q 0<y∧(∀c,c<(rs.getD r []).length→c≠q→(rs.getD i []).getD c 0<(rs.getD r []).getD c 0)∧(∀c,q≤c→c<(rs.getD r []).length→y<(rs.getD r []).getD c 0))→
  qy (eP r rs y).1
 |0,rs,y,q,hr,_,hB,_=>fun i hi=>hB i (Nat.zero_le _) hi
 |r+1,rs,y,q,hr,hA,hB,hI=>by
  obtain⟨i1,i2,i3,i4,i5⟩:=hI r rfl
  obtain⟨q0,hq0⟩:=pO i2 i3
  have hmax:=q7 hq0
  obtain⟨k1,k2⟩:=m7 hq0
  have hqq:q≤q0:=Nat.le_of_not_lt fun hlt=>by
   have:=hmax q hlt i2
   omega
  unfold eP
  rw[hq0]
  have hrow:(rs.set r ((rs.getD r []).set q0 y)).getD r []=(rs.getD r []).set q0 y:=by
   rw[aw (by rw[List.length_set];omega),List.getElem_set_self]
  have hne: ∀i,i≠r→(rs.set r ((rs.getD r []).set q0 y)).getD i []=rs.getD i []:=fun i h=>getD_set_ne (Ne.symm h) _ _
  have hset: ∀c,c≠q0→((rs.getD r []).set q0 y).getD c 0=(rs.getD r []).getD c 0:=fun c h=>getD_set_ne (Ne.symm h) _ _
  have hself:((rs.getD r []).set q0 y).getD q0 0=y:=by rw[aw (by rw[List.length_set];exact k1),List.getElem_set_self]
  refine xA r _ _ q0 (by rw[List.length_set];omega) (fun i hi=> ?_) (fun i hi hl=> ?_) (fun i hi=> ?_)
  ·rw[hne _ (by omega),hne _ (by omega)]
   exact hA i (by omega)
  ·rw[List.length_set]at hl
   by_cases e:i=r
   ·subst e
    rw[hne (i+1) (by omega),hrow,List.length_set]
    refine⟨i1,fun c hc=> ?_⟩
    by_cases e2:c=q0
    ·subst e2;rw[hself];exact i5 c hqq hc
    ·rw[hset c e2]
     by_cases e3:c=q
     ·subst e3
      have:=i5 c (Nat.le_refl _) hc
      omega
     ·exact i4 c hc e3
   ·rw[hne (i+1) (by omega),hne i e]
    exact hB i (by omega) hl
  ·subst hi
   obtain⟨a1,a2⟩:=hA i (by omega)
   rw[hrow,hne i (by omega),List.length_set]
   refine⟨a1,by omega,a2 q0 k1,fun c hc e=> ?_,fun c h1 h2=> ?_⟩
   ·rw[hset c e];exact a2 c hc
   ·by_cases e:c=q0
    ·subst e;rw[hself];exact k2
    ·rw[hset c e]
     have:=hmax c (by omega) h2
     omega
def cw(rs:List (List Int))(r:Nat):List (List Int):=
 if(rs.getD r []).length=1 then(rs.set r ((rs.getD r []).take ((rs.getD r []).length-1))).take r else rs.set r ((rs.getD r []).take ((rs.getD r []).length-1))
def gF(a b:List (List Int)):Prop:=a.length=b.length∧ ∀i,(a.getD i []).length=(b.getD i []).length
theorem iE{α:Type}{l:List α}{n i:Nat}(h:i<n)(d:α):(l.take n).getD i d=l.getD i d:=by
 simp only[List.getD_eq_getElem?_getD,List.getElem?_take,if_pos h]
theorem xG{a b:List (List Int)}(h:gF a b)(n:Nat):gF (a.take n) (b.take n):=by
 refine⟨by rw[List.length_take,List.length_take,h.1],fun i=> ?_⟩
 by_cases hi:i<n
 ·rw[iE hi,iE hi];exact h.2 i
 ·rw[bW (xs:=a.take n) (by rw[List.length_take];omega),bW (xs:=b.take n) (by rw[List.length_take];omega)]
theorem yz(rs:List (List Int))(r:Nat):gF (bV rs r).1 (cw rs r):=by
 have a:=sN r (rs.set r ((rs.getD r []).take ((rs.getD r []).length-1))) ((rs.getD r []).getD ((rs.getD r []).length-1) 0)
 unfold bV cw
 simp only
 split
 ·exact xG a r
 ·exact a
theorem yQ{a b:List (List Int)}(h:gF a b)(r:Nat):gF (cw a r) (cw b r):=by
 have hs:gF (a.set r ((a.getD r []).take ((a.getD r []).length-1))) (b.set r ((b.getD r []).take ((b.getD r []).length-1))):=by
  refine⟨by rw[List.length_set,List.length_set,h.1],fun i=> ?_⟩
  by_cases e:i=r
  ·subst e
   by_cases hi:i<a.length
   ·rw[aw (xs:=a.set _ _) (by rw[List.length_set];exact hi),List.getElem_set_self,aw (xs:=b.set _ _) (by rw[List.length_set,←h.1];exact hi),List.getElem_set_self,List.length_take,List.length_take,h.2 i]
   ·rw[bW (xs:=a.set _ _) (by rw[List.length_set];omega),bW (xs:=b.set _ _) (by rw[List.length_set,←h.1];omega)]
  ·rw[getD_set_ne (Ne.symm e),getD_set_ne (Ne.symm e)];exact h.2 i
 unfold cw
 rw[h.2 r]
 split
 ·rw[←h.2 r];rw[h.2 r]at*;exact xG hs r
 ·rw[h.2 r]at hs;exact hs
theorem gF.trans{a b c:List (List Int)}(h:gF a b)(h':gF b c):gF a c:=⟨h.1.trans h'.1,fun i=>(h.2 i).trans (h'.2 i)⟩
theorem D6{rs:List (List Int)}(h:qy rs)(n:Nat):qy (rs.take n):=by
 intro i hi
 rw[List.length_take]at hi
 rw[iE (by omega),iE (by omega)]
 exact h i (by omega)
theorem Al{rs:List (List Int)}{r:Nat}(h:qy rs)(hr:r<rs.length)(hl:1≤(rs.getD r []).length)(hc:(rs.getD (r+1) []).length<(rs.getD r []).length):qy (bV rs r).1:=by
 have hrow:(rs.set r ((rs.getD r []).take ((rs.getD r []).length-1))).getD r []=(rs.getD r []).take ((rs.getD r []).length-1):=by
  rw[aw (by rw[List.length_set];exact hr),List.getElem_set_self]
 have hne: ∀i,i≠r→(rs.set r ((rs.getD r []).take ((rs.getD r []).length-1))).getD i []=rs.getD i []:=fun i h=>getD_set_ne (Ne.symm h) _ _
 have key:qy (eP r (rs.set r ((rs.getD r []).take ((rs.getD r []).length-1))) ((rs.getD r []).getD ((rs.getD r []).length-1) 0)).1:=by
  refine xA r _ _ ((rs.getD r []).length-1) (by rw[List.length_set];exact hr) (fun i hi=> ?_) (fun i hi hil=> ?_) (fun i hi=> ?_)
  ·rw[hne _ (by omega),hne _ (by omega)];exact h i (by omega)
  ·rw[List.length_set]at hil
   by_cases e:i=r
   ·subst e
    rw[hne (i+1) (by omega),hrow,List.length_take]
    refine⟨by omega,fun c hc'=> ?_⟩
    rw[iE (by omega)]
    exact(h i hil).2 c hc'
   ·rw[hne (i+1) (by omega),hne i e];exact h i hil
  ·subst hi
   obtain⟨a1,a2⟩:=h i hr
   rw[hrow,hne i (by omega),List.length_take]
   refine⟨by omega,by omega,a2 _ (by omega),fun c h1 h2=> ?_,fun c h1 h2=>by omega⟩
   rw[iE (by omega)]
   exact a2 c (by omega)
 unfold bV
 simp only
 split
 ·exact D6 key r
 ·exact key
end Go.Am.Pu
end
section
/- The greatest number of a standard tableau, and the tableau without it; a pair of tableaux unrolled. Plain words. -/
namespace Go.Am.Pu
section
variable {t : Tab}
theorem vG(h:bk t=true)(hs:gh t=true){a b x y:Nat}(ha:a<t.2.length)(hx:x<(t.2.getD a []).length)(hb:b<t.2.length)(hy:y<(t.2.getD b []).length)(e:cel t.2 a x=cel t.2 b y):a=b∧x=y:=by
 have nd:=(oz h hs).1
 rw[List.Nodup,List.pairwise_flatten]at nd
 have mem: ∀{r z:Nat},r<t.2.length→(hz:z<(t.2.getD r []).length)→cel t.2 r z∈t.2.getD r []:=fun{r z} _ hz=>by
  unfold cel
  rw[aw hz]
  exact List.getElem_mem hz
 have ab: ∀{a b x y:Nat},a<b→a<t.2.length→x<(t.2.getD a []).length→b<t.2.length→y<(t.2.getD b []).length→cel t.2 a x≠cel t.2 b y:=fun{a b x y} hab ha hx hb hy=>by
  have:=List.pairwise_iff_getElem.1 nd.2 a b ha hb hab
  exact this _ (by rw[←aw ha []];exact mem ha hx) _ (by rw[←aw hb []];exact mem hb hy)
 have e1:a=b:=by
  rcases Nat.lt_trichotomy a b with hl|hl|hl
  ·exact absurd e (ab hl ha hx hb hy)
  ·exact hl
  ·exact absurd e.symm (ab hl hb hy ha hx)
 subst e1
 refine⟨rfl,?_⟩
 have n2:=nd.1 _ (by rw[aw ha];exact List.getElem_mem ha:t.2.getD a []∈t.2)
 unfold cel at e
 rw[aw hx,aw hy]at e
 rcases Nat.lt_trichotomy x y with hl|hl|hl
 ·exact absurd e (List.pairwise_iff_getElem.1 n2 x y hx hy hl)
 ·exact hl
 ·exact absurd e.symm (List.pairwise_iff_getElem.1 n2 y x hy hx hl)
theorem mj(h:bk t=true)(hs:gh t=true){a x:Nat}{v:Int}(ha:a<t.2.length)(hx:x<(t.2.getD a []).length)(e:cel t.2 a x=v):rowOf t v=a:=by
 have hf:t.2.findIdx (fun r=>has r v)=a:=by
  rw[List.findIdx_eq ha]
  refine⟨?_,fun j hj=> ?_⟩
  ·rw[←aw ha [],mR,←e]
   unfold cel
   rw[aw hx]
   exact List.getElem_mem hx
  ·rw[Bool.eq_false_iff]
   intro hc
   rw[mR]at hc
   obtain⟨y,hy,e2⟩:=List.getElem_of_mem hc
   have hjl:j<t.2.length:=by omega
   have hy':y<(t.2.getD j []).length:=by rw[aw hjl];exact hy
   have e3:cel t.2 j y=v:=by
    unfold cel
    rw[aw hy']
    simp only[aw hjl]
    exact e2
   have:=vG h hs hjl hy' ha hx (by rw[e,e3])
   omega
 unfold rowOf wX
 rw[hf,if_pos ha]
theorem DB(h:bk t=true)(hs:gh t=true)(hn:t.2.flatten.length≠0): ∃a:Nat,a<t.2.length∧1≤(t.2.getD a []).length∧cel t.2 a ((t.2.getD a []).length-1)=t.2.flatten.length∧(t.2.getD (a+1) []).length<(t.2.getD a []).length∧rowOf t t.2.flatten.length=a:=by
 have ho:gR t.2.flatten=true:=by
  have:=hs
  simp only[gh,Bool.and_eq_true]at this
  exact this.2
 obtain⟨a,x,ha,hx,e⟩:=rH (lQ.1 ho t.2.flatten.length (iQ.2 (by omega)))
 have hb:=(oz h hs).2
 obtain⟨c1,c2⟩:=mW h
 have hx1:x+1=(t.2.getD a []).length:=by
  refine Nat.le_antisymm hx (Nat.le_of_not_lt fun hlt=> ?_)
  have k1:=c2 a x ha hlt
  have k2:=(hb _ (kF ha hlt)).2
  have:=vG h hs ha hx ha hlt (by omega)
  omega
 have hbel:(t.2.getD (a+1) []).length≤x:=by
  refine Nat.le_of_not_lt fun hlt=> ?_
  have ha1:a+1<t.2.length:=Nat.lt_of_not_le fun hle=>by rw[bW hle]at hlt;simp at hlt
  have k1:=(j6 h a ha1).2 x hlt
  have k2:=(hb _ (kF ha1 hlt)).2
  unfold cel at e k2
  omega
 refine⟨a,ha,by omega,by rw[show(t.2.getD a []).length-1=x by omega];exact e,by omega,mj h hs ha hx e⟩
theorem oi{rs:List (List Int)}{a:Nat}(ha:a<rs.length)(hc:(rs.getD (a+1) []).length<(rs.getD a []).length)(hp: ∀r,r<rs.length→1≤(rs.getD r []).length)(r:Nat):(cw rs a).getD r []=if r=a then(rs.getD a []).take ((rs.getD a []).length-1)else rs.getD r []:=by
 have hset:(rs.set a ((rs.getD a []).take ((rs.getD a []).length-1))).getD r []=if r=a then(rs.getD a []).take ((rs.getD a []).length-1)else rs.getD r []:=by
  by_cases e:r=a
  ·subst e;rw[if_pos rfl,aw (by rw[List.length_set];exact ha),List.getElem_set_self]
  ·rw[if_neg e,getD_set_ne (Ne.symm e)]
 unfold cw
 split
 ·next h1=>
  by_cases hr:r<a
  ·rw[iE hr,hset]
  ·rw[bW (by rw[List.length_take];omega)]
   by_cases e:r=a
   ·subst e;rw[if_pos rfl,h1];rfl
   ·rw[if_neg e]
    have hlast:rs.length≤a+1:=Nat.le_of_not_lt fun hlt=>by
     have:=hp (a+1) hlt
     omega
    rw[bW (by omega)]
 ·exact hset
theorem qI{rs:List (List Int)}{a:Nat}(ha:a<rs.length):(cw rs a).length=if(rs.getD a []).length=1 then a else rs.length:=by
 unfold cw
 split
 ·rw[List.length_take,List.length_set];omega
 ·rw[List.length_set]
theorem E1(h:bk t=true)(hs:gh t=true){a:Nat}(hn:t.2.flatten.length≠0)(ha:a<t.2.length)(h1:1≤(t.2.getD a []).length)(htop:cel t.2 a ((t.2.getD a []).length-1)=t.2.flatten.length)(hc:(t.2.getD (a+1) []).length<(t.2.getD a []).length):
  bk (([],cw t.2 a):Tab)=true∧gh (([],cw t.2 a):Tab)=true∧(cw t.2 a).flatten.length+1=t.2.flatten.length∧ ∀v,1≤v→v<(t.2.flatten.length:Int)→rowOf ([],cw t.2 a) v=rowOf t v:=by
 have hpos:=fun r (hr:r<t.2.length)=>ox h hr
 have hrow:=oi ha hc hpos
 have hlen:=qI ha
 obtain⟨c1,c2⟩:=mW h
 have c3:=j6 h
 have hcorner:(outer t).getD (a+1) 0<(outer t).getD a 0:=by
  rw[e9 h ha]
  by_cases e:a+1<t.2.length
  ·rw[e9 h e];omega
  ·rw[bW (by rw[cp];omega)];omega
 have hal:a<(outer t).length:=by rw[cp];exact ha
 have hout:outer (([],cw t.2 a):Tab)=bj (outer t) a:=by
  have hdl:(bj (outer t) a).length=(cw t.2 a).length:=by
   rw[hlen]
   unfold bj
   rw[e9 h ha]
   by_cases e:(t.2.getD a []).length=1
   ·rw[if_pos (by omega),if_pos e,List.length_take,cp];omega
   ·rw[if_neg (by omega),if_neg e,List.length_set,cp]
  refine List.ext_getElem (by rw[cp,hdl]) fun r k1 k2=> ?_
  rw[←aw k1 0,←aw k2 0,rk (ji h) hal hcorner]
  have k3:r<(cw t.2 a).length:=by rw[cp]at k1;exact k1
  have:=gJ [] (cw t.2 a) 0 r k3
  unfold outer at this⊢
  rw[this,hrow]
  have hrl:r<t.2.length:=by
   rw[hlen]at k3
   split at k3<;>omega
  have po:=e9 h hrl
  have pa:=e9 h ha
  unfold outer at po pa
  by_cases e:r=a
  ·subst e
   rw[if_pos rfl,if_pos rfl,List.length_take,pa]
   simp only[List.getD_nil]
   omega
  ·rw[if_neg e,if_neg e,po]
   simp only[List.getD_nil]
   omega
 have hcel: ∀{r x:Nat},x<((cw t.2 a).getD r []).length→x<(t.2.getD r []).length∧cel (cw t.2 a) r x=cel t.2 r x:=fun{r x} hx=>by
  unfold cel
  rw[hrow]at hx⊢
  by_cases e:r=a
  ·subst e
   rw[if_pos rfl,List.length_take]at hx
   rw[if_pos rfl,iE (by omega)]
   exact⟨by omega,rfl⟩
  ·rw[if_neg e]at hx⊢
   exact⟨hx,rfl⟩
 have hrl: ∀{r:Nat},r<(cw t.2 a).length→r<t.2.length:=fun{r} hr=>by
  rw[hlen]at hr
  split at hr<;>omega
 have hin: ∀{r x:Nat},x<(t.2.getD r []).length→ ¬(r=a∧x+1=(t.2.getD a []).length)→x<((cw t.2 a).getD r []).length:=fun{r x} hx hne=>by
  rw[hrow]
  by_cases e:r=a
  ·subst e
   rw[if_pos rfl,List.length_take]
   have: ¬x+1=(t.2.getD r []).length:=fun e=>hne ⟨rfl,e⟩
   omega
  ·rw[if_neg e];exact hx
 have hpl:bk (([],cw t.2 a):Tab)=true:=by
  refine uv rfl (by rw[hout];exact pJ (ji h) hal hcorner) (fun r x hr hx=> ?_) (fun r x hr hx=> ?_) (fun r x hr hx=> ?_)
  ·obtain⟨k1,k2⟩:=hcel hx
   rw[k2];exact c1 r x (hrl hr) k1
  ·obtain⟨k1,k2⟩:=hcel hx
   obtain⟨_,k4⟩:=hcel (show x<((cw t.2 a).getD r []).length from Nat.lt_of_succ_lt hx)
   rw[k2,k4];exact c2 r x (hrl hr) k1
  ·obtain⟨k1,k2⟩:=hcel hx
   have hr1:=hrl hr
   obtain⟨d1,d2⟩:=c3 r hr1
   have hxr:x<((cw t.2 a).getD r []).length:=by
    refine hin (by omega) fun e=> ?_
    rw[e.1]at k1
    omega
   obtain⟨_,k4⟩:=hcel hxr
   rw[k2,k4]
   exact d2 x k1
 have hfl:(cw t.2 a).flatten.length+1=t.2.flatten.length:=by
  have e1:=sL hpl
  rw[hout,Ak (ji h) hal hcorner,sL h]at e1
  simp only at e1
  omega
 have ho:gR t.2.flatten=true:=by
  have:=hs
  simp only[gh,Bool.and_eq_true]at this
  exact this.2
 have hcells: ∀v,1≤v→v<(t.2.flatten.length:Int)→ ∃r x,r<(cw t.2 a).length∧x<((cw t.2 a).getD r []).length∧cel (cw t.2 a) r x=v∧r<t.2.length∧x<(t.2.getD r []).length∧cel t.2 r x=v:=by
  intro v v1 v2
  obtain⟨r,x,hr,hx,e⟩:=rH (lQ.1 ho v (iQ.2 (by omega)))
  have hx':x<((cw t.2 a).getD r []).length:=by
   refine hin hx fun e2=> ?_
   rw[e2.1,show x=(t.2.getD a []).length-1 by omega,htop]at e
   omega
  exact⟨r,x,Nat.lt_of_not_le fun hle=>by rw[bW hle]at hx';simp at hx',hx',by rw[(hcel hx').2];exact e,hr,hx,e⟩
 have hst:gh (([],cw t.2 a):Tab)=true:=by
  have hp':=hpl
  simp only[bk,Bool.and_eq_true]at hp'
  simp only[gh,Bool.and_eq_true]
  refine⟨hp'.1,lQ.2 fun v hv=> ?_⟩
  rw[iQ]at hv
  obtain⟨r,x,q1,q2,q3,_⟩:=hcells v hv.1 (by omega)
  rw[←q3]
  exact kF q1 q2
 refine⟨hpl,hst,hfl,fun v v1 v2=> ?_⟩
 obtain⟨r,x,q1,q2,q3,q4,q5,q6⟩:=hcells v v1 v2
 rw[mj h hs q4 q5 q6,mj hpl hst q1 q2 q3]
end
def wop(q:Tab):Nat→List (List Int)→List Int
 |0,_=> []
 |k+1,P=>wop q k (bV P (rowOf q ((k+1:Nat):Int)).toNat).1++ [(bV P (rowOf q ((k+1:Nat):Int)).toNat).2]
theorem uM(q:Tab): ∀(k:Nat) (P:List (List Int)),(wop q k P).length=k
 |0,_=>rfl
 |k+1,P=>by simp[wop,uM q k]
structure Unr (q : Tab) (k : Nat) (P Q : List (List Int)) : Prop where
  pl : bk (([], Q) : Tab) = true
  st : gh (([], Q) : Tab) = true
  fl : Q.flatten.length = k
  col : qy P
  same : gF P Q
  p9 : cI 9 9 P
  row : ∀ v, 1 ≤ v → v ≤ (k : Int) → rowOf ([], Q) v = rowOf q v
theorem Unr.step{q:Tab}{k:Nat}{P Q:List (List Int)}(h:Unr q (k+1) P Q): ∃a:Nat,rowOf q ((k+1:Nat):Int)=a∧a<Q.length∧1≤(Q.getD a []).length∧cel Q a ((Q.getD a []).length-1)=(k+1:Nat)∧(Q.getD (a+1) []).length<(Q.getD a []).length∧Unr q k (bV P a).1 (cw Q a):=by
 have hfl:(([],Q):Tab).2.flatten.length=k+1:=h.fl
 obtain⟨a,a1,a2,a3,a4,a5⟩:=DB h.pl h.st (by omega)
 obtain⟨b1,b2,b3,b4⟩:=E1 h.pl h.st (by omega) a1 a2 a3 a4
 simp only at a1 a2 a3 a4 b3
 have hP1:a<P.length:=by rw[h.same.1];exact a1
 refine⟨a,?_,a1,a2,by rw[a3,h.fl],a4,⟨b1,b2,by have:=h.fl;omega,Al h.col hP1 (by rw[h.same.2];exact a2) (by rw[h.same.2,h.same.2];exact a4),(yz P a).trans (yQ h.same a),sx h.p9 a,fun v v1 v2=> ?_⟩⟩
 ·rw[←h.row _ (by omega) (Int.le_refl _),←a5,hfl]
 ·rw[b4 v v1 (by rw[hfl];omega)]
  exact h.row v v1 (by omega)
end Go.Am.Pu
namespace Go.Am.Pu
def prs(q:Tab):Nat→List (List Int)→List (Int×Int)
 |0,_=> []
 |k+1,P=>(((k+1:Nat):Int),(bV P (rowOf q ((k+1:Nat):Int)).toNat).2)::prs q k (bV P (rowOf q ((k+1:Nat):Int)).toNat).1
theorem yG(q:Tab): ∀(k:Nat) (P:List (List Int)),(prs q k P).length=k
 |0,_=>rfl
 |k+1,P=>by simp[prs,yG q k]
theorem Cb(q:Tab): ∀(k:Nat) (P:List (List Int)),(prs q k P).reverse.map Prod.snd=wop q k P
 |0,_=>rfl
 |k+1,P=>by
  unfold prs wop
  rw[List.reverse_cons,List.map_append,Cb q k]
  rfl
theorem D8{rs:List (List Int)}(h:qy rs){n:Nat}(hn:n<rs.length)(hl:1≤(rs.getD n []).length):Be n (rs.set n ((rs.getD n []).take ((rs.getD n []).length-1))) ((rs.getD n []).getD ((rs.getD n []).length-1) 0):=by
 refine yu n _ _ (fun i hi=> ?_) (fun i hi=> ?_)
 ·rw[getD_set_ne (by omega),getD_set_ne (by omega)]
  exact h i (by omega)
 ·subst hi
  rw[getD_set_ne (by omega)]
  obtain⟨k1,k2⟩:=h i hn
  exact⟨(rs.getD (i+1) []).length-1,by omega,k2 _ (by omega)⟩
theorem sT{p q:Tab}(hp:bk p=true)(hq:bk q=true)(hs:gh q=true)(ho:outer p=outer q):Unr q q.2.flatten.length p.2 q.2:=by
 have e:(([],q.2):Tab)=q:=Prod.ext (dG hq).symm rfl
 have hl:p.2.length=q.2.length:=by rw[←cp,←cp,ho]
 refine⟨by rw[e];exact hq,by rw[e];exact hs,rfl,j6 hp,⟨hl,fun i=> ?_⟩,fH hp,fun v _ _=>by rw[e]⟩
 by_cases hi:i<p.2.length
 ·have a:=e9 hp hi
  have b:=e9 hq (show i<q.2.length by omega)
  rw[ho]at a
  omega
 ·rw[bW (xs:=p.2) (by omega),bW (xs:=q.2) (by omega)]
def ez(p q:Tab):List Int×Bool:=if bk p=true∧bk q=true∧gh q=true∧outer p=outer q then(wop q q.2.flatten.length p.2,true)else([],false)
theorem wS{p q:Tab}:(ez p q).1.length≤9:=by
 unfold ez
 split
 ·next h=>rw[uM];exact jo h.2.1
 ·simp
end Go.Am.Pu
end
section
/- Insertion keeps tableaux; where the new cells lie; a tableau from its word. Plain words. -/
namespace Go.Am.Pu
def nG(r:List Int):Prop:= ∀i,i+1<r.length→r.getD i 0≤r.getD (i+1) 0
theorem nG.le{r:List Int}(h:nG r): ∀(d i:Nat),i+d<r.length→r.getD i 0≤r.getD (i+d) 0
 |0,i,_=>Int.le_refl _
 |d+1,i,hi=>by
  have a:=nG.le h d i (by omega)
  have b:=h (i+d) (by omega)
  rw[show i+(d+1)=i+d+1 by omega]
  omega
theorem nG.mono{r:List Int}(h:nG r){i j:Nat}(hij:i≤j)(hj:j<r.length):r.getD i 0≤r.getD j 0:=by
 have:=h.le (j-i) i (by omega)
 rw[show i+(j-i)=j by omega]at this
 exact this
def fst(r:List Int)(x:Int):Nat:=r.findIdx fun n=>decide (x<n)
theorem sX{r:List Int}{x:Int}:fst r x≤r.length:=List.findIdx_le_length
theorem v7{r:List Int}{x:Int}(h:fst r x<r.length):x<r.getD (fst r x) 0:=by
 have:=wq (p:=fun n=>decide (x<n)) h
 exact of_decide_eq_true this
theorem re{r:List Int}{x:Int}{i:Nat}(h:i<fst r x):r.getD i 0≤x:=by
 have h1:i<r.length:=Nat.lt_of_lt_of_le h sX
 have h2:=List.not_of_lt_findIdx h
 rw[aw h1]
 exact Int.not_lt.1 (of_decide_eq_false h2)
theorem fst_eq{r:List Int}{x:Int}{i:Nat}(h1:i<r.length)(h2:x<r.getD i 0)(h3: ∀j,j<i→r.getD j 0≤x):fst r x=i:=by
 rcases Nat.lt_trichotomy (fst r x) i with h|h|h
 ·have a:=v7 (Nat.lt_trans h h1)
  have b:=h3 _ h
  omega
 ·exact h
 ·have:=re h
  omega
theorem zc{r:List Int}{x:Int}(h: ∀j,j<r.length→r.getD j 0≤x):fst r x=r.length:=by
 refine Nat.le_antisymm sX (Nat.le_of_not_lt fun hlt=> ?_)
 have a:=v7 hlt
 have b:=h _ hlt
 omega
theorem dJ(r:List Int)(rs:List (List Int))(x:Int):aP (r::rs) x=if fst r x<r.length then(r.set (fst r x) x::(aP rs (r.getD (fst r x) 0)).1,(aP rs (r.getD (fst r x) 0)).2+1)else((r++ [x])::rs,0):=rfl
def FQ(r:List Int):List (List Int)→Prop
 | []=>True
 |s::_=>s.length≤r.length∧ ∀q,q<s.length→r.getD q 0<s.getD q 0
def SSR:List (List Int)→Prop
 | []=>True
 |r::rs=>0<r.length∧nG r∧FQ r rs∧SSR rs
theorem jx{r:List Int}{i:Nat}(x:Int)(h:i<r.length)(q:Nat):(r.set i x).getD q 0=if q=i then x else r.getD q 0:=by
 by_cases e:q=i
 ·subst e;rw[if_pos rfl,aw (by rw[List.length_set];exact h),List.getElem_set_self]
 ·rw[if_neg e,getD_set_ne (Ne.symm e)]
theorem jP{r:List Int}(x:Int)(q:Nat):(r++ [x]).getD q 0=if q=r.length then x else r.getD q 0:=by
 by_cases h:q<r.length
 ·rw[lk h,if_neg (by omega)]
 ·rw[nN (by omega)]
  by_cases e:q=r.length
  ·rw[if_pos e,e,Nat.sub_self];rfl
  ·rw[if_neg e,bW (by simp;omega),bW (by omega)]
theorem Ep{r:List Int}{x:Int}(h:nG r)(hf:fst r x<r.length):nG (r.set (fst r x) x):=by
 intro i hi
 rw[List.length_set]at hi
 rw[jx x hf,jx x hf]
 have h0:=h i hi
 by_cases e1:i=fst r x
 ·rw[if_pos e1,if_neg (by omega)]
  have:=v7 hf
  rw[←e1]at this
  omega
 ·rw[if_neg e1]
  by_cases e2:i+1=fst r x
  ·rw[if_pos e2];exact re (by omega)
  ·rw[if_neg e2];exact h0
theorem Ev{r:List Int}{x:Int}(h:nG r)(hf: ¬fst r x<r.length):nG (r++ [x]):=by
 intro i hi
 rw[List.length_append,List.length_singleton]at hi
 rw[jP,jP,if_neg (by omega)]
 by_cases e:i+1=r.length
 ·rw[if_pos e]
  have:= @sX r x
  exact re (by omega)
 ·rw[if_neg e];exact h i (by omega)
theorem Ee{r:List Int}{x:Int}{rs:List (List Int)}(h:nG r)(hf:fst r x<r.length)(ho:FQ r rs):FQ (r.set (fst r x) x) (aP rs (r.getD (fst r x) 0)).1:=by
 have hy:=v7 hf
 have hle: ∀q,q<r.length→(r.set (fst r x) x).getD q 0≤r.getD q 0:=fun q hq=>by
  rw[jx x hf]
  split
  ·next e=>rw[e];omega
  ·exact Int.le_refl _
 have hlow: ∀p,p≤fst r x→(r.set (fst r x) x).getD p 0<r.getD (fst r x) 0:=fun p hp=>by
  rw[jx x hf]
  split
  ·exact hy
  ·have:=re (r:=r) (x:=x) (i:=p) (by omega)
   omega
 cases rs with
 |nil=>
  show([r.getD (fst r x) 0]:List Int).length≤_∧_
  refine⟨by rw[List.length_set];simp;omega,fun q hq=> ?_⟩
  have e:q=0:=by simp at hq;exact hq
  subst e
  exact hlow 0 (by omega)
 |cons s rs=>
  obtain⟨o1,o2⟩:=ho
  have hp:fst s (r.getD (fst r x) 0)≤fst r x:=by
   refine Nat.le_of_not_lt fun hlt=> ?_
   have hs:fst r x<s.length:=Nat.lt_of_lt_of_le hlt sX
   have a:=re hlt
   have b:=o2 _ hs
   omega
  rw[dJ]
  by_cases c:fst s (r.getD (fst r x) 0)<s.length
  ·rw[if_pos c]
   refine⟨by rw[List.length_set,List.length_set];exact o1,fun q hq=> ?_⟩
   rw[List.length_set]at hq
   rw[jx (r:=s) _ c]
   split
   ·next e=>rw[e];exact hlow _ hp
   ·have a:=hle q (by omega)
    have b:=o2 q hq
    omega
  ·rw[if_neg c]
   have hsl:fst s (r.getD (fst r x) 0)=s.length:=Nat.le_antisymm sX (Nat.le_of_not_lt c)
   refine⟨by rw[List.length_set,List.length_append,List.length_singleton];omega,fun q hq=> ?_⟩
   rw[List.length_append,List.length_singleton]at hq
   rw[jP]
   split
   ·next e=>rw[e];exact hlow _ (by omega)
   ·have a:=hle q (by omega)
    have b:=o2 q (by omega)
    omega
theorem Co: ∀(rs:List (List Int)) (x:Int),SSR rs→SSR (aP rs x).1
 | [],x,_=>⟨by simp,fun i hi=>by simp at hi,trivial,trivial⟩
 |r::rs,x,h=>by
  obtain⟨h1,h2,h3,h4⟩:=h
  rw[dJ]
  split
  ·next c=>exact⟨by rw[List.length_set];exact h1,Ep h2 c,Ee h2 c h3,Co rs _ h4⟩
  ·next c=>
   refine⟨by simp,Ev h2 c,?_,h4⟩
   cases rs with
   |nil=>trivial
   |cons s rs=>
    obtain⟨o1,o2⟩:=h3
    refine⟨by rw[List.length_append];omega,fun q hq=> ?_⟩
    rw[jP,if_neg (by omega)]
    exact o2 q hq
end Go.Am.Pu
end
section
/- Plain tableaux, row by row; a tableau from its word; words inserted. Plain words. -/
namespace Go.Am.Pu
theorem yE: ∀{rs:List (List Int)},SSR rs→ ∀r,r<rs.length→0<(rs.getD r []).length∧nG (rs.getD r [])
 |r::rs,h,0,_=>⟨h.1,h.2.1⟩
 |r::rs,h,q+1,hq=>yE h.2.2.2 q (by simpa using hq)
theorem yg: ∀{rs:List (List Int)},SSR rs→qy rs
 | [],_,i,hi=>by simp at hi
 | [r],_,i,hi=>by simp at hi
 |r::s::rs,h,0,_=>h.2.2.1
 |r::s::rs,h,i+1,hi=>yg h.2.2.2 i (by simpa using hi)
theorem tj: ∀{rs:List (List Int)},(∀r,r<rs.length→0<(rs.getD r []).length∧nG (rs.getD r []))→qy rs→SSR rs
 | [],_,_=>trivial
 |r::rs,h1,h2=>by
  refine⟨(h1 0 (by simp)).1,(h1 0 (by simp)).2,?_,tj (fun q hq=>h1 (q+1) (by simpa using hq)) (fun i hi=>h2 (i+1) (by simpa using hi))⟩
  cases rs with
  |nil=>trivial
  |cons s rs=>exact h2 0 (by simp)
theorem rZ{t:Tab}(h:bk t=true):SSR t.2:=by
 refine tj (fun r hr=>⟨ox h hr,fun i hi=> ?_⟩) (j6 h)
 exact(mW h).2 r i hr hi
theorem pP(rs:List (List Int)){i:Nat}(h:i<rs.length):(outer (([],rs):Tab)).getD i 0=(rs.getD i []).length:=by
 have:=gJ [] rs 0 i h
 unfold outer
 rw[this]
 simp
theorem oc{rs:List (List Int)}(h:SSR rs)(hn: ∀x∈rs.flatten,1≤x∧x≤9)(h9:rs.flatten.length≤9):bk (([],rs):Tab)=true:=by
 have hr:=fun r hr=>yE h r hr
 have hc:=yg h
 have hrl: ∀r,r<rs.length→(rs.getD r []).length≤9:=fun r h1=>by
  have:=wM (rs:=rs) (r:=rs.getD r []) (by rw[aw h1];exact List.getElem_mem h1)
  omega
 refine uv rfl ?_ (fun r x h1 h2=>hn _ (kF h1 h2)) (fun r x h1 h2=>(hr r h1).2 x h2) (fun r x h1 h2=>(hc r h1).2 x h2)
 have hs:dm (outer (([],rs):Tab))=rs.flatten.length:=pL [] rs 0 fun q _=>by simp
 refine kG _ 9 0 (fun x hx=> ?_) (fun h0=> ?_) (fun i hi=> ?_) (by omega)
 ·obtain⟨i,hi,rfl⟩:=List.getElem_of_mem hx
  have hi':i<rs.length:=by rw[cp]at hi;exact hi
  rw[←aw hi 0,pP rs hi']
  have:=(hr i hi').1
  omega
 ·have h0':0<rs.length:=by rw[cp]at h0;exact h0
  rw[pP rs h0']
  have:=hrl 0 h0'
  omega
 ·have hi':i+1<rs.length:=by rw[cp]at hi;exact hi
  rw[pP rs hi',pP rs (by omega)]
  have:=(hc i hi').1
  omega
theorem uJ: ∀(rs:List (List Int)) (x z:Int),z∈(aP rs x).1.flatten→z=x∨z∈rs.flatten
 | [],x,z,h=>by simp[aP]at h;exact .inl h
 |r::rs,x,z,h=>by
  rw[dJ]at h
  split at h
  ·next c=>
   simp only[List.flatten_cons,List.mem_append]at h⊢
   rcases h with h|h
   ·rcases List.mem_or_eq_of_mem_set h with h|h
    ·exact .inr (.inl h)
    ·exact .inl h
   ·rcases uJ rs _ z h with h|h
    ·right;left
     rw[h,aw c]
     exact List.getElem_mem c
    ·exact .inr (.inr h)
  ·simp only[List.flatten_cons,List.mem_append,List.mem_singleton]at h⊢
   rcases h with(h|h)|h
   ·exact .inr (.inl h)
   ·exact .inl h
   ·exact .inr (.inr h)
theorem vn: ∀(rs:List (List Int)) (x:Int),(aP rs x).1.flatten.length=rs.flatten.length+1
 | [],x=>by simp[aP]
 |r::rs,x=>by
  rw[dJ]
  split
  ·have:=vn rs (r.getD (fst r x) 0)
   simp only[List.flatten_cons,List.length_append,List.length_set]
   omega
  ·simp only[List.flatten_cons,List.length_append,List.length_singleton]
   omega
theorem si: ∀(rs:List (List Int)) (x:Int),(aP rs x).2≤rs.length∧((aP rs x).1.length=if(aP rs x).2=rs.length then rs.length+1 else rs.length)∧ ∀i,((aP rs x).1.getD i []).length=if i=(aP rs x).2 then(rs.getD i []).length+1 else(rs.getD i []).length
 | [],x=>by
  refine⟨Nat.le_refl _,rfl,fun i=> ?_⟩
  cases i with
  |zero=>rfl
  |succ i=>simp[aP]
 |r::rs,x=>by
  rw[dJ]
  split
  ·next c=>
   obtain⟨a,b,d⟩:=si rs (r.getD (fst r x) 0)
   refine⟨by simp only[List.length_cons];omega,?_,fun i=> ?_⟩
   ·simp only[List.length_cons,b,Nat.add_right_cancel_iff]
    split<;>rfl
   ·cases i with
    |zero=>simp
    |succ i=>
     have:=d i
     simp only[Nat.add_right_cancel_iff]
     exact this
  ·refine⟨Nat.zero_le _,by simp,fun i=> ?_⟩
   cases i with
   |zero=>simp
   |succ i=>simp
def fN:List Int→List (List Int)→List (List Int)
 | [],P=>P
 |x::w,P=>fN w (aP P x).1
theorem kB: ∀(v w:List Int) (P:List (List Int)),fN (v++w) P=fN w (fN v P)
 | [],_,_=>rfl
 |x::v,w,P=>kB v w _
end Go.Am.Pu
end
section
/- The recording tableau is standard, and its descents are the word's. Plain words. -/
namespace Go.Am.Pu
def gW(Q:List (List Int))(a:Nat)(v:Int):List (List Int):=if a=Q.length then Q++ [[v]]else Q.set a (Q.getD a []++ [v])
theorem xL{Q:List (List Int)}{a:Nat}(v:Int)(ha:a≤Q.length)(i:Nat):(gW Q a v).getD i []=if i=a then Q.getD a []++ [v]else Q.getD i []:=by
 unfold gW
 by_cases e:a=Q.length
 ·rw[if_pos e]
  by_cases h:i<Q.length
  ·rw[if_neg (by omega)]
   simp only[List.getD_eq_getElem?_getD,List.getElem?_append_left h]
  ·by_cases e2:i=a
   ·rw[if_pos e2,e2,e,bW (xs:=Q) (Nat.le_refl _)]
    simp
   ·rw[if_neg e2,bW (xs:=Q) (by omega),bW (by rw[List.length_append,List.length_singleton];omega)]
 ·rw[if_neg e]
  by_cases e2:i=a
  ·subst e2;rw[if_pos rfl,aw (by rw[List.length_set];omega),List.getElem_set_self]
  ·rw[if_neg e2,getD_set_ne (Ne.symm e2)]
theorem xr{Q:List (List Int)}{a:Nat}(v:Int):(gW Q a v).length=if a=Q.length then Q.length+1 else Q.length:=by
 unfold gW
 split
 ·rw[List.length_append,List.length_singleton]
 ·rw[List.length_set]
theorem Bq{Q:List (List Int)}{a:Nat}(v:Int)(ha:a≤Q.length):(gW Q a v).flatten.length=Q.flatten.length+1:=by
 unfold gW
 split
 ·simp
 ·next e=>
  have: ∀(Q:List (List Int)) (a:Nat),a<Q.length→(Q.set a (Q.getD a []++ [v])).flatten.length=Q.flatten.length+1:=by
   intro Q
   induction Q with
   |nil=>intro a h;simp at h
   |cons r rs ih=>
    intro a h
    cases a with
    |zero=>simp;omega
    |succ a=>
     have:=ih a (by simpa using h)
     simp only[List.set_cons_succ,List.getD_cons_succ,List.flatten_cons,List.length_append,this]
     omega
  exact this Q a (by omega)
theorem E9{Q P:List (List Int)}{a k:Nat}(hp:bk (([],Q):Tab)=true)(hs:gh (([],Q):Tab)=true)(hk:Q.flatten.length=k)(h9:k+1≤9)(hP:SSR P)(ha:a≤Q.length)(hPl:P.length=if a=Q.length then Q.length+1 else Q.length)
  (hl: ∀i,(P.getD i []).length=if i=a then(Q.getD i []).length+1 else(Q.getD i []).length):
  bk (([],gW Q a ((k+1:Nat):Int)):Tab)=true∧gh (([],gW Q a ((k+1:Nat):Int)):Tab)=true∧(gW Q a ((k+1:Nat):Int)).flatten.length=k+1∧gF P (gW Q a ((k+1:Nat):Int))∧
   rowOf ([],gW Q a ((k+1:Nat):Int)) ((k+1:Nat):Int)=a∧ ∀v,1≤v→v≤(k:Int)→rowOf ([],gW Q a ((k+1:Nat):Int)) v=rowOf ([],Q) v:=by
 have hget:=xL ((k+1:Nat):Int) ha
 have hlen:= @xr Q a ((k+1:Nat):Int)
 have hfl:=Bq ((k+1:Nat):Int) ha
 generalize hN:gW Q a ((k+1:Nat):Int)=N at*
 have hNl: ∀i,(N.getD i []).length=if i=a then(Q.getD i []).length+1 else(Q.getD i []).length:=fun i=>by
  rw[hget]
  split
  ·next e=>rw[e,List.length_append,List.length_singleton]
  ·rfl
 have hsame:gF P N:=⟨by rw[hPl,hlen],fun i=>by rw[hl,hNl]⟩
 have hcel: ∀r x,cel N r x=if r=a∧x=(Q.getD a []).length then((k+1:Nat):Int)else cel Q r x:=fun r x=>by
  unfold cel
  rw[hget]
  by_cases e:r=a
  ·subst e
   rw[if_pos rfl,jP]
   by_cases e2:x=(Q.getD r []).length
   ·rw[if_pos e2,if_pos ⟨rfl,e2⟩]
   ·rw[if_neg e2,if_neg (fun h=>e2 h.2)]
  ·rw[if_neg e,if_neg (fun h=>e h.1)]
 have hb:=(oz hp hs).2
 simp only at hb
 rw[hk]at hb
 have hQ: ∀{r x:Nat},x<(Q.getD r []).length→1≤cel Q r x∧cel Q r x≤(k:Int):=fun{r x} hx=>by
  have hr:r<Q.length:=Nat.lt_of_not_le fun hle=>by rw[bW hle]at hx;simp at hx
  exact hb _ (kF hr hx)
 obtain⟨q1,q2⟩:=mW hp
 have q3:=j6 hp
 simp only at q2 q3
 have pc:=yg hP
 have pr:=fun r hr=>yE hP r hr
 have hqlen: ∀i,(Q.getD (i+1) []).length≤(Q.getD i []).length:=fun i=>by
  by_cases h:i+1<Q.length
  ·exact(q3 i h).1
  ·rw[bW (by omega)];exact Nat.zero_le _
 have hssr:SSR N:=by
  refine tj (fun r hr=>⟨?_,fun x hx=> ?_⟩) (fun i hi=> ?_)
  ·rw[←hsame.2];exact(pr r (by rw[hsame.1];exact hr)).1
  ·have e1:=hcel r x
   have e2:=hcel r (x+1)
   unfold cel at e1 e2
   rw[e1,e2]
   rw[hNl]at hx
   have hxQ:x<(Q.getD r []).length:=by
    split at hx<;>omega
   rw[if_neg (fun h=>by rw[h.1]at hxQ;omega)]
   have hv:=hQ hxQ
   unfold cel at hv
   by_cases e:r=a∧x+1=(Q.getD a []).length
   ·rw[if_pos e];omega
   ·rw[if_neg e]
    have hx1:x+1<(Q.getD r []).length:=by
     split at hx
     ·next e3=>
      have: ¬x+1=(Q.getD a []).length:=fun h=>e ⟨e3,h⟩
      rw[←e3]at this
      omega
     ·exact hx
    have hr:r<Q.length:=Nat.lt_of_not_le fun hle=>by rw[bW hle]at hx1;simp at hx1
    exact q2 r x hr hx1
  ·obtain⟨c1,c2⟩:=pc i (by rw[hsame.1];exact hi)
   rw[hsame.2,hsame.2]at c1
   refine⟨c1,fun x hx=> ?_⟩
   have e1:=hcel i x
   have e2:=hcel (i+1) x
   unfold cel at e1 e2
   rw[e1,e2]
   rw[hNl]at hx
   have hxi:x<(N.getD i []).length:=by
    have:=hNl (i+1)
    omega
   rw[hNl]at hxi
   by_cases e:i+1=a∧x=(Q.getD a []).length
   ·rw[if_pos e,if_neg (fun h=>by omega)]
    have hxQ:x<(Q.getD i []).length:=by rw[if_neg (by omega)]at hxi;exact hxi
    have hv:=hQ hxQ
    unfold cel at hv
    omega
   ·rw[if_neg e]
    have hx1:x<(Q.getD (i+1) []).length:=by
     split at hx
     ·next e3=>
      have: ¬x=(Q.getD a []).length:=fun h=>e ⟨e3,h⟩
      rw[←e3]at this
      omega
     ·exact hx
    have hxQ:x<(Q.getD i []).length:=Nat.lt_of_lt_of_le hx1 (hqlen i)
    rw[if_neg (fun h=>by rw[h.1]at hxQ;omega)]
    have hr:i+1<Q.length:=Nat.lt_of_not_le fun hle=>by rw[bW hle]at hx1;simp at hx1
    exact(q3 i hr).2 x hx1
 have hflk:N.flatten.length=k+1:=by omega
 have hmem: ∀z∈N.flatten,1≤z∧z≤9:=fun z hz=>by
  obtain⟨r,x,hr,hx,e⟩:=rH hz
  rw[←e,hcel]
  split
  ·omega
  ·next hc=>
   rw[hNl]at hx
   have hxQ:x<(Q.getD r []).length:=by
    split at hx
    ·next e3=>
     have: ¬x=(Q.getD a []).length:=fun h=>hc ⟨e3,h⟩
     rw[←e3]at this
     omega
    ·exact hx
   have:=hQ hxQ
   omega
 have hpl:=oc hssr hmem (by omega)
 have haN:a<N.length:=by
  rw[hlen]
  split<;>omega
 have hxN:(Q.getD a []).length<(N.getD a []).length:=by rw[hNl,if_pos rfl];omega
 have hnew:cel N a (Q.getD a []).length=((k+1:Nat):Int):=by rw[hcel,if_pos ⟨rfl,rfl⟩]
 have hold: ∀{r x:Nat},x<(Q.getD r []).length→r<N.length∧x<(N.getD r []).length∧cel N r x=cel Q r x:=fun{r x} hx=>by
  have hx':x<(N.getD r []).length:=by
   rw[hNl]
   split<;>omega
  refine⟨Nat.lt_of_not_le fun hle=>by rw[bW hle]at hx';simp at hx',hx',?_⟩
  rw[hcel,if_neg (fun h=>by rw[h.1]at hx;omega)]
 have ho:gR Q.flatten=true:=by
  have:=hs
  simp only[gh,Bool.and_eq_true]at this
  exact this.2
 have hst:gh (([],N):Tab)=true:=by
  have hp':=hpl
  simp only[bk,Bool.and_eq_true]at hp'
  simp only[gh,Bool.and_eq_true]
  refine⟨hp'.1,lQ.2 fun v hv=> ?_⟩
  rw[hflk,iQ]at hv
  by_cases e:v=((k+1:Nat):Int)
  ·rw[e,←hnew];exact kF haN hxN
  ·obtain⟨r,x,hr,hx,e2⟩:=rH (lQ.1 ho v (iQ.2 (by omega)))
   obtain⟨d1,d2,d3⟩:=hold hx
   rw[←e2,←d3]
   exact kF d1 d2
 refine⟨hpl,hst,hflk,hsame,mj hpl hst haN hxN hnew,fun v v1 v2=> ?_⟩
 obtain⟨r,x,hr,hx,e2⟩:=rH (lQ.1 ho v (iQ.2 (by omega)))
 obtain⟨d1,d2,d3⟩:=hold hx
 rw[mj hpl hst d1 d2 (by rw[d3];exact e2),mj hp hs hr hx e2]
def nH:List Int→List (List Int)→List (List Int)→Nat→List (List Int)
 | [],_,Q,_=>Q
 |x::w,P,Q,k=>nH w (aP P x).1 (gW Q (aP P x).2 ((k+1:Nat):Int)) (k+1)
def DS:List Int→List (List Int)→List Nat
 | [],_=> []
 |x::w,P=>(aP P x).2::DS w (aP P x).1
structure Ins (P Q : List (List Int)) (k : Nat) : Prop where
  ssr : SSR P
  num : ∀ x ∈ P.flatten, 1 ≤ x ∧ x ≤ 9
  fl : P.flatten.length = k
  pl : bk (([], Q) : Tab) = true
  st : gh (([], Q) : Tab) = true
  qf : Q.flatten.length = k
  same : gF P Q
theorem Ins.step{P Q:List (List Int)}{k:Nat}{x:Int}(h:Ins P Q k)(hx:1≤x∧x≤9)(h9:k+1≤9):
  Ins (aP P x).1 (gW Q (aP P x).2 ((k+1:Nat):Int)) (k+1)∧rowOf ([],gW Q (aP P x).2 ((k+1:Nat):Int)) ((k+1:Nat):Int)=((aP P x).2:Nat)∧ ∀v,1≤v→v≤(k:Int)→rowOf ([],gW Q (aP P x).2 ((k+1:Nat):Int)) v=rowOf ([],Q) v:=by
 obtain⟨a,b,c⟩:=si P x
 have hs:=Co P x h.ssr
 obtain⟨d1,d2,d3,d4,d5,d6⟩:=E9 (a:=(aP P x).2) h.pl h.st h.qf h9 hs (by rw[←h.same.1];exact a) (by rw[←h.same.1];exact b) (fun i=>by rw[←h.same.2];exact c i)
 refine⟨⟨hs,fun z hz=> ?_,by rw[vn,h.fl],d1,d2,d3,d4⟩,d5,d6⟩
 rcases uJ P x z hz with e|e
 ·rw[e];exact hx
 ·exact h.num z e
theorem Ins.nil:Ins [] [] 0:=⟨trivial,fun x hx=>by simp at hx,rfl,rfl,rfl,rfl,⟨rfl,fun _=>rfl⟩⟩
theorem Ins.word: ∀(w:List Int) {P Q:List (List Int)} {k:Nat},Ins P Q k→(∀x∈w,1≤x∧x≤9)→k+w.length≤9→
  Ins (fN w P) (nH w P Q k) (k+w.length)∧(∀v,1≤v→v≤(k:Int)→rowOf ([],nH w P Q k) v=rowOf ([],Q) v)∧ ∀i,i<w.length→rowOf ([],nH w P Q k) ((k+i+1:Nat):Int)=((DS w P).getD i 0:Nat)
 | [],P,Q,k,h,_,_=>⟨h,fun _ _ _=>rfl,fun i hi=>by simp at hi⟩
 |x::w,P,Q,k,h,hx,hl=>by
  simp only[List.length_cons]at hl
  obtain⟨a,b,c⟩:=h.step (hx x (List.mem_cons_self ..)) (by omega)
  obtain⟨d,e,f⟩:=Ins.word w a (fun z hz=>hx z (List.mem_cons_of_mem _ hz)) (by omega)
  refine⟨by rw[List.length_cons,show k+(w.length+1)=k+1+w.length by omega];exact d,fun v v1 v2=> ?_,fun i hi=> ?_⟩
  ·show rowOf ([],nH w _ _ (k+1)) v=_
   rw[e v v1 (by omega)]
   exact c v v1 v2
  ·show rowOf ([],nH w _ _ (k+1)) _=_
   cases i with
   |zero=>
    have:=e ((k+1:Nat):Int) (by omega) (Int.le_refl _)
    rw[Nat.add_zero,this,b]
    rfl
   |succ i=>
    have:=f i (by simpa using hi)
    rw[show k+1+i+1=k+(i+1)+1 by omega]at this
    exact this
end Go.Am.Pu
end
section
/- Words, and what inserting makes of them. Plain words. -/
namespace Go.Am.Pu
def isWord(w:List Int):Bool:=decide (w.length≤9)&&w.all fun n=>within n 1 9
theorem g6{w:List Int}(h:isWord w=true):w.length≤9∧ ∀x∈w,1≤x∧x≤9:=by
 simp only[isWord,Bool.and_eq_true,decide_eq_true_eq,List.all_eq_true,within]at h
 exact⟨h.1,fun x hx=>h.2 x hx⟩
def j3(w:List Int):Tab×Bool:=if isWord w=true then(([],fN w []),true)else(([],[]),false)
def fy(w:List Int):Tab×Bool:=if isWord w=true then(([],nH w [] [] 0),true)else(([],[]),false)
theorem DG{w:List Int}(h:isWord w=true):Ins (fN w []) (nH w [] [] 0) w.length∧ ∀i,i<w.length→rowOf ([],nH w [] [] 0) ((i+1:Nat):Int)=((DS w []).getD i 0:Nat):=by
 obtain⟨h1,h2⟩:=g6 h
 obtain⟨a,_,c⟩:=Ins.word w Ins.nil h2 (by omega)
 rw[Nat.zero_add]at a
 refine⟨a,fun i hi=> ?_⟩
 have:=c i hi
 rw[Nat.zero_add]at this
 exact this
theorem C8{P Q:List (List Int)}{k:Nat}(h:Ins P Q k)(h9:k≤9):bk (([],P):Tab)=true:=oc h.ssr h.num (by rw[h.fl];exact h9)
theorem wP{w:List Int}(h:isWord w=true):bk (fy w).1=true∧gh (fy w).1=true∧(fy w).1.2.flatten.length=w.length:=by
 unfold fy
 rw[if_pos h]
 have a:=(DG h).1
 exact⟨a.pl,a.st,a.qf⟩
theorem EB{t:Tab}(h:bk t=true):kr t:=by
 have hr:=fH h
 exact⟨by rw[dG h];simp,by have:=hr.1;omega,fun r hm=>by have:=hr.2 r hm;omega⟩
theorem w8{w:List Int}:kr (fy w).1:=by
 cases h:isWord w with
 |true=>exact EB (wP h).1
 |false=>unfold fy;rw[h];exact kr.nil
end Go.Am.Pu
end
section
/- Standardizing a tableau: the cells numbered by number and column. Plain words. -/
namespace Go.Am.Pu
def jN(Q:List (List Int))(v:Int)(c r:Nat)(s:Nat×List (List Int)):Nat×List (List Int):=
 if c<(Q.getD r []).length∧cel Q r c=v then(s.1+1,lW s.2 r c ((s.1+1:Nat):Int))else s
structure Num (Q : List (List Int)) (D : Nat → Nat → Prop) (s : Nat × List (List Int)) (F : List Int) : Prop where
  same : gF s.2 Q
  len : F.length = s.1
  val : ∀ r x, r < Q.length → x < (Q.getD r []).length → D r x → ∃ k, k < s.1 ∧ cel s.2 r x = ((k + 1 : Nat) : Int) ∧ F.getD k 0 = cel Q r x
  inj : ∀ r x r' x', r < Q.length → x < (Q.getD r []).length → D r x → r' < Q.length → x' < (Q.getD r' []).length → D r' x' → cel s.2 r x = cel s.2 r' x' → r = r' ∧ x = x'
  all : ∀ k, k < s.1 → ∃ r x, r < Q.length ∧ x < (Q.getD r []).length ∧ D r x ∧ cel s.2 r x = ((k + 1 : Nat) : Int)
  lex : ∀ r x r' x', r < Q.length → x < (Q.getD r []).length → D r x → r' < Q.length → x' < (Q.getD r' []).length → D r' x' → cel s.2 r x < cel s.2 r' x' → cel Q r x < cel Q r' x' ∨ (cel Q r x = cel Q r' x' ∧ x ≤ x')
theorem Num.congr{Q:List (List Int)}{D D':Nat→Nat→Prop}{s:Nat×List (List Int)}{F:List Int}(h:Num Q D s F)(e: ∀r x,r<Q.length→x<(Q.getD r []).length→(D r x↔D' r x)):Num Q D' s F:=
 ⟨h.same,h.len,fun r x a b d=>h.val r x a b ((e r x a b).2 d),fun r x r' x' a b d a' b' d'=>h.inj r x r' x' a b ((e r x a b).2 d) a' b' ((e r' x' a' b').2 d'),
  fun k hk=>by obtain⟨r,x,a,b,d,q⟩:=h.all k hk;exact⟨r,x,a,b,(e r x a b).1 d,q⟩,fun r x r' x' a b d a' b' d'=>h.lex r x r' x' a b ((e r x a b).2 d) a' b' ((e r' x' a' b').2 d')⟩
def Dn(Q:List (List Int))(v:Int)(c r:Nat)(a i:Nat):Prop:=cel Q a i<v∨(cel Q a i=v∧(i<c∨(i=c∧a<r)))
theorem Num.step{Q:List (List Int)}{v:Int}{c r:Nat}{s:Nat×List (List Int)}{F:List Int}(h:Num Q (Dn Q v c r) s F)(hr:r<Q.length): ∃F',Num Q (Dn Q v c (r+1)) (jN Q v c r s) F':=by
 unfold jN
 split
 ·next hc=>
  obtain⟨hc,hv⟩:=hc
  have hnd: ¬Dn Q v c r r c:=by unfold Dn;omega
  have hsr:r<s.2.length:=by rw[h.same.1];exact hr
  have hsc:c<(s.2.getD r []).length:=by rw[h.same.2];exact hc
  have new: ∀a i,Dn Q v c (r+1) a i→(a=r∧i=c)∨(¬(a=r∧i=c)∧Dn Q v c r a i):=fun a i d=>by
   by_cases e:a=r∧i=c
   ·exact .inl e
   ·refine .inr ⟨e,?_⟩
    unfold Dn at d⊢
    omega
  have at1:=lC (g:=s.2) (r:=r) (c:=c) ((s.1+1:Nat):Int) hsr hsc
  have ne1: ∀a i,¬(a=r∧i=c)→cel (lW s.2 r c ((s.1+1:Nat):Int)) a i=cel s.2 a i:=fun a i e=>jR _ e
  refine⟨F++ [v],⟨⟨by rw[jI];exact h.same.1,fun i=>by rw[cM];exact h.same.2 i⟩,by rw[List.length_append,List.length_singleton,h.len],?_,?_,?_,?_⟩⟩
  ·intro a i ha hi d
   rcases new a i d with⟨rfl,rfl⟩|⟨e,d'⟩
   ·refine⟨s.1,by simp only;omega,at1,?_⟩
    rw[hv,←h.len,List.getD_eq_getElem?_getD]
    simp
   ·obtain⟨k,k1,k2,k3⟩:=h.val a i ha hi d'
    refine⟨k,by simp only;omega,by rw[ne1 a i e];exact k2,?_⟩
    rw[←k3,List.getD_eq_getElem?_getD,List.getD_eq_getElem?_getD,List.getElem?_append_left (by rw[h.len];exact k1)]
  ·intro a i b j ha hi d hb hj d' e
   rcases new a i d with⟨rfl,rfl⟩|⟨ea,da⟩
   ·rcases new b j d' with⟨rfl,rfl⟩|⟨eb,db⟩
    ·exact⟨rfl,rfl⟩
    ·obtain⟨k,k1,k2,_⟩:=h.val b j hb hj db
     simp only at e
     rw[at1,ne1 b j eb,k2]at e
     omega
   ·rcases new b j d' with⟨rfl,rfl⟩|⟨eb,db⟩
    ·obtain⟨k,k1,k2,_⟩:=h.val a i ha hi da
     simp only at e
     rw[at1,ne1 a i ea,k2]at e
     omega
    ·simp only at e
     rw[ne1 a i ea,ne1 b j eb]at e
     exact h.inj a i b j ha hi da hb hj db e
  ·intro k hk
   simp only at hk
   by_cases ek:k=s.1
   ·subst ek
    exact⟨r,c,hr,hc,by unfold Dn;omega,at1⟩
   ·obtain⟨a,i,ha,hi,d,e⟩:=h.all k (by omega)
    have hne: ¬(a=r∧i=c):=fun q=>by rw[q.1,q.2]at d;exact hnd d
    exact⟨a,i,ha,hi,by unfold Dn at d⊢;omega,by simp only;rw[ne1 a i hne];exact e⟩
  ·intro a i b j ha hi d hb hj d' e
   simp only at e
   rcases new a i d with⟨rfl,rfl⟩|⟨ea,da⟩
   ·rcases new b j d' with⟨rfl,rfl⟩|⟨eb,db⟩
    ·omega
    ·obtain⟨k,k1,k2,_⟩:=h.val b j hb hj db
     rw[at1,ne1 b j eb,k2]at e
     omega
   ·rcases new b j d' with⟨rfl,rfl⟩|⟨eb,db⟩
    ·unfold Dn at da
     omega
    ·rw[ne1 a i ea,ne1 b j eb]at e
     exact h.lex a i b j ha hi da hb hj db e
 ·next hc=>
  refine⟨F,h.congr fun a i ha hi=> ?_⟩
  unfold Dn
  constructor
  ·intro d;omega
  ·intro d
   by_cases e:a=r∧i=c
   ·obtain⟨rfl,rfl⟩:=e
    have:cel Q a i≠v:=fun q=>hc ⟨hi,q⟩
    omega
   ·omega
structure qj (Q X : List (List Int)) (f : Int → Int) : Prop where
  same : gF X Q
  val : ∀ r x, r < X.length → x < (X.getD r []).length → cel Q r x = f (cel X r x)
  lex : ∀ r x r' x', r < X.length → x < (X.getD r []).length → r' < X.length → x' < (X.getD r' []).length → cel X r x < cel X r' x' → cel Q r x < cel Q r' x' ∨ (cel Q r x = cel Q r' x' ∧ x < x')
theorem xP: ∀{A B:List (List Int)},gF A B→A.flatten.length=B.flatten.length
 | [],[],_=>rfl
 | [],b::B,h=>by have:=h.1;simp at this
 |a::A,[],h=>by have:=h.1;simp at this
 |a::A,b::B,h=>by
  have h0:=h.2 0
  have hs:gF A B:=⟨by have:=h.1;simpa using this,fun i=>by have:=h.2 (i+1);simpa using this⟩
  have:=xP hs
  simp at h0
  simp[h0,this]
end Go.Am.Pu
end
section
/- A pair of tableaux unrolled, the second one semistandard; sorting; the matrix of a pair. Plain words. -/
namespace Go.Am.Pu
def AN(R:Int→Prop)(rs:List (List Int)):Prop:= ∀r∈rs,∀v∈r,R v
theorem AN.at{R:Int→Prop}{rs:List (List Int)}(h:AN R rs){r x:Nat}(hr:r<rs.length)(hx:x<(rs.getD r []).length):R ((rs.getD r []).getD x 0):=by
 rw[aw hx]
 exact h (rs.getD r []) (by rw[aw hr];exact List.getElem_mem hr) _ (List.getElem_mem hx)
theorem AN.set{R:Int→Prop}{rs:List (List Int)}(h:AN R rs)(i:Nat){r:List Int}(hr: ∀v∈r,R v):AN R (rs.set i r):=fun y hy=>by
 rcases List.mem_or_eq_of_mem_set hy with h'|rfl
 ·exact h y h'
 ·exact hr
theorem AN.row{R:Int→Prop}{rs:List (List Int)}(h:AN R rs)(i:Nat): ∀v∈rs.getD i [],R v:=by
 by_cases hi:i<rs.length
 ·exact h _ (by rw[aw hi];exact List.getElem_mem hi)
 ·rw[bW (by omega)];simp
theorem Unr.top{q:Tab}{m:Nat}{P X:List (List Int)}(h:Unr q (m+1) P X){a:Nat}(ha:a<X.length)(htop:cel X a ((X.getD a []).length-1)=((m+1:Nat):Int)):
  (∀r,r<X.length→1≤(X.getD r []).length)∧(∀r,r<X.length→r≠a→cel X r ((X.getD r []).length-1)<((m+1:Nat):Int)):=by
 have hp:=fun r hr=>ox h.pl (r:=r) hr
 refine⟨hp,fun r hr hne=> ?_⟩
 have h1:=hp r hr
 have h2:=hp a ha
 simp only at h1 h2
 have hb:=((oz h.pl h.st).2 _ (kF (rs:=X) hr (show(X.getD r []).length-1<(X.getD r []).length by omega))).2
 have hf:=h.fl
 simp only at hb
 rw[hf]at hb
 have hx:cel X r ((X.getD r []).length-1)≠((m+1:Nat):Int):=fun e=>hne (vG h.pl h.st (a:=r) (b:=a) (x:=(X.getD r []).length-1) (y:=(X.getD a []).length-1) hr (show _<(X.getD r []).length by omega) ha (show _<(X.getD a []).length by omega) (by rw[htop];exact e)).1
 omega
theorem CP{n m:Nat}{A B:List (List Int)}(h:cI n m A)(s:gF A B):cI n m B:=by
 refine⟨by rw[←s.1];exact h.1,fun x hx=> ?_⟩
 obtain⟨i,hi,rfl⟩:=List.getElem_of_mem hx
 have:=h.at i
 rw[s.2 i,aw hi]at this
 exact this
theorem qj.cut{Q X:List (List Int)}{f:Int→Int}(s:qj Q X f){a:Nat}(ha:a<X.length)(hc:(X.getD (a+1) []).length<(X.getD a []).length)(hp: ∀r,r<X.length→1≤(X.getD r []).length):qj (cw Q a) (cw X a) f:=by
 have hq: ∀r,r<Q.length→1≤(Q.getD r []).length:=fun r hr=>by rw[←s.same.2];exact hp r (by rw[s.same.1];exact hr)
 have rX:=oi ha hc hp
 have rQ:=oi (rs:=Q) (a:=a) (by rw[←s.same.1];exact ha) (by rw[←s.same.2,←s.same.2];exact hc) hq
 have old: ∀{r x},r<(cw X a).length→x<((cw X a).getD r []).length→r<X.length∧x<(X.getD r []).length∧cel (cw X a) r x=cel X r x∧cel (cw Q a) r x=cel Q r x:=fun{r x} hr hx=>by
  have hl:=qI (rs:=X) ha
  have hr':r<X.length:=by rw[hl]at hr;split at hr<;>omega
  have e1:=rX r
  have e2:=rQ r
  unfold cel
  by_cases e:r=a
  ·rw[if_pos e]at e1 e2
   rw[e1]at hx
   rw[List.length_take]at hx
   subst e
   refine⟨hr',by omega,by rw[e1,iE (by omega)],?_⟩
   rw[e2,iE (by have:=s.same.2 r;omega)]
  ·rw[if_neg e]at e1 e2
   rw[e1]at hx
   exact⟨hr',hx,by rw[e1],by rw[e2]⟩
 refine⟨yQ s.same a,fun r x hr hx=> ?_,fun r x r' x' hr hx hr' hx' hlt=> ?_⟩
 ·obtain⟨o1,o2,o3,o4⟩:=old hr hx
  rw[o3,o4]
  exact s.val r x o1 o2
 ·obtain⟨o1,o2,o3,o4⟩:=old hr hx
  obtain⟨p1,p2,p3,p4⟩:=old hr' hx'
  rw[o3,p3]at hlt
  rw[o4,p4]
  exact s.lex r x r' x' o1 o2 p1 p2 hlt
theorem qj.step{q:Tab}{m:Nat}{P X Q:List (List Int)}{f:Int→Int}(s:qj Q X f)(h:Unr q (m+1) P X):
  ∃a:Nat,rowOf q ((m+1:Nat):Int)=a∧a<Q.length∧1≤(Q.getD a []).length∧(Q.getD a []).getD ((Q.getD a []).length-1) 0=f ((m+1:Nat):Int)∧(∀r,r<Q.length→1≤(Q.getD r []).length)∧
   (∀r,r<Q.length→r≠a→(Q.getD r []).getD ((Q.getD r []).length-1) 0<f ((m+1:Nat):Int)∨((Q.getD r []).getD ((Q.getD r []).length-1) 0=f ((m+1:Nat):Int)∧(Q.getD r []).length<(Q.getD a []).length))∧
   cI 9 9 Q∧a<P.length∧1≤(P.getD a []).length∧Unr q m (bV P a).1 (cw X a)∧qj (cw Q a) (cw X a) f:=by
 obtain⟨a,a1,a2,a3,a4,a5,a6⟩:=h.step
 obtain⟨t1,t2⟩:=h.top a2 a4
 have v0:=s.val a ((X.getD a []).length-1) a2 (by omega)
 rw[a4]at v0
 unfold cel at v0
 rw[s.same.2]at v0
 refine⟨a,a1,by rw[←s.same.1];exact a2,by rw[←s.same.2];exact a3,v0,fun r hr=>by rw[←s.same.2];exact t1 r (by rw[s.same.1];exact hr),fun r hr hne=> ?_,CP (fH h.pl) s.same,
  by rw[h.same.1];exact a2,by rw[h.same.2];exact a3,a6,s.cut a2 a5 t1⟩
 have hr':r<X.length:=by rw[s.same.1];exact hr
 have u1:=t1 r hr'
 have hl:=s.lex r ((X.getD r []).length-1) a ((X.getD a []).length-1) hr' (by omega) a2 (by omega) (by rw[a4];exact t2 r hr' hne)
 have v:=s.val a ((X.getD a []).length-1) a2 (by omega)
 rw[v,a4]at hl
 unfold cel at hl
 rw[s.same.2 r,s.same.2 a]at hl
 have e1:=s.same.2 r
 rcases hl with hl|hl
 ·exact .inl hl
 ·exact .inr ⟨hl.1,by omega⟩
def prf(q:Tab)(f:Int→Int)(k:Nat)(P:List (List Int)):List (Int×Int):=(prs q k P).map fun p=>(f p.1,p.2)
theorem FK(q:Tab)(k:Nat)(P:List (List Int)):prf q (fun v=>v) k P=prs q k P:=by
 unfold prf
 exact List.map_id _
structure Ic (r c : Nat) (b : Int) (M : List (List Int)) : Prop where
  len : M.length = r
  row : ∀ i, i < r → (M.getD i []).length = c
  sm : ∀ x ∈ M, ∀ v ∈ x, 0 ≤ v ∧ v ≤ b
end Go.Am.Pu
end
section
/- Standardizing any tableau: its cells in the order of number and column. Plain words. -/
namespace Go.Am.Pu
theorem yU{p:List Int}(hp:bK p=true)(r:Nat): ∀d:Nat,p.getD (r+d) 0≤p.getD r 0
 |0=>Int.le_refl _
 |d+1=>Int.le_trans (iO hp (r+d)) (yU hp r d)
def Dr(t:Tab)(r:Nat):List (Int×Int×Int):=(List.range (t.2.getD r []).length).map fun x=>(cel t.2 r x,t.1.getD r 0+x,(r:Int))
def cellsOf(t:Tab):List (Int×Int×Int):=((List.range t.2.length).map (Dr t)).flatten
def KLt(a b:Int×Int×Int):Prop:=a.1<b.1∨(a.1=b.1∧a.2.1<b.2.1)
end Go.Am.Pu
end
section
/- Sorting cells by insertion, as the library does. Plain words. -/
namespace Go.Am.Pu
instance(a b:Int×Int×Int):Decidable (KLt a b):=by unfold KLt;infer_instance
end Go.Am.Pu
end
section
/- All standard tableaux of given rows, found by taking out the greatest number. Plain words. -/
namespace Go.Am.Pu
def iS(ls:List Nat)(a:Nat):List Nat:=if ls.getD a 0=1 then ls.take a else ls.set a (ls.getD a 0-1)
theorem FI{α:Type}{d:α}{A B:List α}(hl:A.length=B.length)(h: ∀i,i<A.length→A.getD i d=B.getD i d):A=B:=by
 refine List.ext_getElem hl fun i h1 h2=> ?_
 have:=h i h1
 rw[aw h1,aw h2]at this
 exact this
theorem EH{rs:List (List Int)}{a:Nat}{v:Int}(ha:a<rs.length)(hc:(rs.getD (a+1) []).length<(rs.getD a []).length)(hp: ∀r,r<rs.length→1≤(rs.getD r []).length)(hv:cel rs a ((rs.getD a []).length-1)=v):gW (cw rs a) a v=rs:=by
 have hr:=oi ha hc hp
 have hl:=qI (rs:=rs) ha
 have hpa:=hp a ha
 have lastRow:(rs.getD a []).length=1→a+1=rs.length:=fun h1=>by
  refine Nat.le_antisymm ha (Nat.le_of_not_lt fun hlt=> ?_)
  have:=hp (a+1) hlt
  omega
 have hal:a≤(cw rs a).length:=by rw[hl];split<;>omega
 refine FI (d:= []) ?_ fun i hi=> ?_
 ·have:= @xr (cw rs a) a v
  rw[this,hl]
  by_cases h1:(rs.getD a []).length=1
  ·have:=lastRow h1
   rw[if_pos h1,if_pos rfl]
   omega
  ·rw[if_neg h1,if_neg (by omega)]
 ·rw[xL v hal i]
  by_cases ei:i=a
  ·subst ei
   rw[if_pos rfl,hr i,if_pos rfl]
   have hlt:(rs.getD i []).length-1<(rs.getD i []).length:=by omega
   have h2:=take_succ hlt 0
   unfold cel at hv
   rw[hv,show(rs.getD i []).length-1+1=(rs.getD i []).length by omega,List.take_length]at h2
   exact h2.symm
  ·rw[if_neg ei,hr i,if_neg ei]
end Go.Am.Pu
end
section
/- Promotion of a rectangle comes back after as many steps as there are cells (reckoned over all of them). Plain words. -/
namespace Go.Am.Pu
end Go.Am.Pu
end
section
/- The length of an orbit divides every number of steps that come back. Plain words. -/
namespace Go.Am.Pu
end Go.Am.Pu
end
section
/- Knuth's relations: insertion does not tell related words apart, and a row and a number are related to what an insertion makes of them. Plain words. -/
namespace Go.Am.Pu
abbrev Up(r:List Int):Prop:=r.Pairwise (· ≤ ·)
def fO:List Int→Int→List Int×List Int
 | [],x=>([x],[])
 |a::r,x=>if x<a then(x::r,[a])else(a::(fO r x).1,(fO r x).2)
theorem gl{a x:Int}{r:List Int}(h:x<a):fO (a::r) x=(x::r,[a]):=by unfold fO;rw[if_pos h]
theorem fD{a x:Int}{r:List Int}(h:a≤x):fO (a::r) x=(a::(fO r x).1,(fO r x).2):=by
 conv=>lhs;unfold fO
 rw[if_neg (by omega)]
theorem wH: ∀(r:List Int) (x z:Int),z∈(fO r x).1→z=x∨z∈r
 | [],x,z,h=>by simp only[fO,List.mem_singleton]at h;exact .inl h
 |a::r,x,z,h=>by
  by_cases c:x<a
  ·rw[gl c]at h
   rcases List.mem_cons.1 h with h|h
   ·exact .inl h
   ·exact .inr (List.mem_cons_of_mem _ h)
  ·rw[fD (by omega)]at h
   rcases List.mem_cons.1 h with h|h
   ·exact .inr (by rw[h];exact List.mem_cons_self ..)
   ·rcases wH r x z h with h|h
    ·exact .inl h
    ·exact .inr (List.mem_cons_of_mem _ h)
theorem yO: ∀{r:List Int} (x:Int),Up r→Up (fO r x).1
 | [],x,_=>List.pairwise_singleton ..
 |a::r,x,h=>by
  have h':=List.pairwise_cons.1 h
  by_cases c:x<a
  ·rw[gl c]
   exact List.pairwise_cons.2 ⟨fun z hz=>by have:=h'.1 z hz;omega,h'.2⟩
  ·rw[fD (by omega)]
   refine List.pairwise_cons.2 ⟨fun z hz=> ?_,yO x h'.2⟩
   rcases wH r x z hz with e|e
   ·omega
   ·exact h'.1 z e
theorem lD: ∀(r:List Int) (x:Int),(fO r x).2= []∨ ∃b,(fO r x).2= [b]∧x<b∧b∈r
 | [],x=> .inl rfl
 |a::r,x=>by
  by_cases c:x<a
  ·rw[gl c];exact .inr ⟨a,rfl,c,List.mem_cons_self ..⟩
  ·rw[fD (by omega)]
   rcases lD r x with h|⟨b,h1,h2,h3⟩
   ·exact .inl h
   ·exact .inr ⟨b,h1,h2,List.mem_cons_of_mem _ h3⟩
theorem BZ: ∀{r:List Int} {y z:Int},Up r→y≤z→((fO r y).2= []→(fO (fO r y).1 z).2= [])∧ ∀p q,(fO r y).2= [p]→(fO (fO r y).1 z).2= [q]→p≤q
 | [],y,z,_,hz=>by
  refine⟨fun _=> ?_,fun p q h=>by simp[fO]at h⟩
  show(fO [y] z).2= []
  rw[fD hz];rfl
 |a::r,y,z,h,hz=>by
  have h':=List.pairwise_cons.1 h
  by_cases c:y<a
  ·rw[gl c]
   refine⟨fun e=>by simp at e,fun p q e1 e2=> ?_⟩
   rw[fD hz]at e2
   rcases lD r z with o|⟨b,o1,_,o3⟩
   ·simp only at e2;rw[o]at e2;simp at e2
   ·simp only at e2
    rw[o1]at e2
    simp only[List.cons.injEq,and_true]at e1 e2
    have:=h'.1 b o3
    omega
  ·rw[fD (show a≤y by omega)]
   show((fO r y).2= []→(fO (a::(fO r y).1) z).2= [])∧ ∀p q,(fO r y).2= [p]→(fO (a::(fO r y).1) z).2= [q]→p≤q
   rw[fD (show a≤z by omega)]
   exact BZ h'.2 hz
theorem Ce: ∀{r:List Int} {y z:Int},Up r→y<z→z∈r→ ∃c,(fO r y).2= [c]∧y<c∧c≤z
 | [],_,_,_,_,hm=>by simp at hm
 |a::r,y,z,h,hz,hm=>by
  have h':=List.pairwise_cons.1 h
  by_cases c:y<a
  ·rw[gl c]
   refine⟨a,rfl,c,?_⟩
   rcases List.mem_cons.1 hm with e|e
   ·omega
   ·exact h'.1 z e
  ·rw[fD (by omega)]
   rcases List.mem_cons.1 hm with e|e
   ·omega
   ·exact Ce h'.2 hz e
theorem xN: ∀(r:List Int) (x:Int),x∈(fO r x).1
 | [],x=>List.mem_singleton.2 rfl
 |a::r,x=>by
  by_cases c:x<a
  ·rw[gl c];exact List.mem_cons_self ..
  ·rw[fD (by omega)];exact List.mem_cons_of_mem _ (xN r x)
def Tri(u v:List Int):Prop:= ∃x y z:Int,(x<y∧y≤z∧u= [y,z,x]∧v= [y,x,z])∨(x≤y∧y<z∧u= [x,z,y]∧v= [z,x,y])
theorem Tri.a{x y z:Int}(h1:x<y)(h2:y≤z):Tri [y,z,x] [y,x,z]:=⟨x,y,z,.inl ⟨h1,h2,rfl,rfl⟩⟩
theorem Tri.b{x y z:Int}(h1:x≤y)(h2:y<z):Tri [x,z,y] [z,x,y]:=⟨x,y,z,.inr ⟨h1,h2,rfl,rfl⟩⟩
def jC:List Int→List Int→List Int×List Int
 |r,[]=>(r,[])
 |r,x::w=>((jC (fO r x).1 w).1,(fO r x).2++(jC (fO r x).1 w).2)
def Cd(p q:List Int×List Int):Prop:=p.1=q.1∧(p.2=q.2∨Tri p.2 q.2)
theorem pb{a:Int}: ∀{w r:List Int},(∀x∈w,a≤x)→jC (a::r) w=(a::(jC r w).1,(jC r w).2)
 | [],_,_=>rfl
 |x::w,r,h=>by
  show((jC (fO (a::r) x).1 w).1,(fO (a::r) x).2++(jC (fO (a::r) x).1 w).2)=_
  rw[fD (h x (List.mem_cons_self ..))]
  simp only
  rw[pb fun y hy=>h y (List.mem_cons_of_mem _ hy)]
  rfl
theorem m9(r:List Int)(x y z:Int):jC r [x,y,z]=((fO (fO (fO r x).1 y).1 z).1,(fO r x).2++((fO (fO r x).1 y).2++(fO (fO (fO r x).1 y).1 z).2)):=by
 simp[jC]
theorem Fs: ∀{r:List Int} {x y z:Int},Up r→x<y→y≤z→Cd (jC r [y,z,x]) (jC r [y,x,z])
 | [],x,y,z,_,h1,h2=>by
  refine⟨?_,.inl ?_⟩
  ·simp[jC,fO,h1,show¬z<y by omega,show¬z<x by omega]
  ·simp[jC,fO,h1,show¬z<y by omega,show¬z<x by omega]
 |a::r,x,y,z,h,h1,h2=>by
  have h':=List.pairwise_cons.1 h
  by_cases c:y<a
  ·rw[m9,m9,gl c]
   simp only
   rw[fD (r:=r) h2,gl (r:=r) h1]
   simp only
   rw[gl h1,fD (show x≤z by omega)]
   refine⟨rfl,?_⟩
   rcases lD r z with o|⟨b,o1,o2,o3⟩
   ·simp only;rw[o];exact .inl rfl
   ·simp only;rw[o1]
    exact .inr (Tri.a c (h'.1 b o3))
  ·by_cases c2:x<a
   ·rw[m9,m9,fD (show a≤y by omega)]
    simp only
    rw[fD (show a≤z by omega),gl c2]
    simp only
    rw[gl c2,fD (show x≤z by omega)]
    refine⟨rfl,?_⟩
    simp only
    obtain⟨e1,e2⟩:=BZ h'.2 h2
    rcases lD r y with o|⟨b,o1,o2,o3⟩
    ·rw[o,e1 o];exact .inl rfl
    ·rcases lD (fO r y).1 z with p|⟨d,p1,p2,p3⟩
     ·rw[p,o1];exact .inl rfl
     ·rw[o1,p1]
      exact .inr (Tri.a (by omega) (e2 _ _ o1 p1))
   ·have ih:=Fs h'.2 h1 h2
    rw[pb (by simp;omega),pb (by simp;omega)]
    exact⟨congrArg (a:: ·) ih.1,ih.2⟩
theorem Ft: ∀{r:List Int} {x y z:Int},Up r→x≤y→y<z→Cd (jC r [x,z,y]) (jC r [z,x,y])
 | [],x,y,z,_,h1,h2=>by
  refine⟨?_,.inl ?_⟩
  ·simp[jC,fO,h2,show x<z by omega,show¬z<x by omega,show¬y<x by omega]
  ·simp[jC,fO,h2,show x<z by omega,show¬z<x by omega,show¬y<x by omega]
 |a::r,x,y,z,h,h1,h2=>by
  have h':=List.pairwise_cons.1 h
  by_cases c:z<a
  ·rw[m9,m9,gl (show x<a by omega),gl c]
   simp only
   rw[fD (r:=r) (show x≤z by omega),gl (r:=r) (show x<z by omega)]
   simp only
   rw[fD h1,fD h1]
   cases r with
   |nil=>simp[fO,h2,Cd]
   |cons b r=>
    have hb:=h'.1 b (List.mem_cons_self ..)
    rw[gl (show z<b by omega),gl (show y<b by omega)]
    simp only
    rw[gl h2]
    exact⟨rfl,.inr (Tri.a c hb)⟩
  ·by_cases c2:x<a
   ·rw[m9,m9,gl c2,fD (show a≤z by omega)]
    simp only
    rw[gl c2,fD (show x≤z by omega)]
    simp only
    rw[fD h1]
    refine⟨rfl,?_⟩
    simp only
    rcases lD r z with o|⟨b,o1,o2,o3⟩
    ·rw[o];exact .inl rfl
    ·rw[o1]
     obtain⟨d,d1,d2,d3⟩:=Ce (yO z h'.2) h2 (xN r z)
     rw[d1]
     refine .inr (Tri.b ?_ (by omega))
     rcases lD (fO r z).1 y with p|⟨q,p1,p2,p3⟩
     ·rw[p]at d1;simp at d1
     ·rw[p1]at d1
      have:q=d:=by simpa using d1
      subst this
      rcases wH r z q p3 with e|e
      ·omega
      ·exact h'.1 q e
   ·have ih:=Ft h'.2 h1 h2
    rw[pb (by simp;omega),pb (by simp;omega)]
    exact⟨congrArg (a:: ·) ih.1,ih.2⟩
theorem EJ{r u v:List Int}(h:Up r)(t:Tri u v):Cd (jC r u) (jC r v):=by
 obtain⟨x,y,z,⟨h1,h2,rfl,rfl⟩|⟨h1,h2,rfl,rfl⟩⟩:=t
 ·exact Fs h h1 h2
 ·exact Ft h h1 h2
theorem DU(a x:Int)(r:List Int):fst (a::r) x=if x<a then 0 else fst r x+1:=by
 unfold fst
 rw[List.findIdx_cons]
 by_cases c:x<a
 ·rw[if_pos c,decide_eq_true c];rfl
 ·rw[if_neg c,decide_eq_false c];rfl
theorem zP: ∀(r:List Int) (x:Int),fO r x=if fst r x<r.length then(r.set (fst r x) x,[r.getD (fst r x) 0])else(r++ [x],[])
 | [],x=>rfl
 |a::r,x=>by
  rw[DU]
  by_cases c:x<a
  ·rw[gl c,if_pos c,if_pos (by simp)];rfl
  ·rw[fD (by omega),if_neg c,zP r x]
   by_cases d:fst r x<r.length
   ·rw[if_pos d,if_pos (by simpa using d)];rfl
   ·rw[if_neg d,if_neg (by simpa using d)];rfl
theorem zy(r:List Int)(rs:List (List Int))(x:Int):(aP (r::rs) x).1=(fO r x).1::fN (fO r x).2 rs:=by
 rw[dJ,zP]
 by_cases c:fst r x<r.length
 ·rw[if_pos c,if_pos c];rfl
 ·rw[if_neg c,if_neg c];rfl
theorem tp: ∀(w r:List Int) (rs:List (List Int)),fN w (r::rs)=(jC r w).1::fN (jC r w).2 rs
 | [],_,_=>rfl
 |x::w,r,rs=>by
  show fN w (aP (r::rs) x).1=_
  rw[zy,tp w]
  simp only[jC]
  rw[kB]
theorem ER{u v:List Int}(t:Tri u v):fN u []=fN v []:=by
 obtain⟨x,y,z,⟨h1,h2,rfl,rfl⟩|⟨h1,h2,rfl,rfl⟩⟩:=t
 ·simp[fN,aP,List.findIdx_cons,h1,show¬z<y by omega,show¬z<x by omega]
 ·simp[fN,aP,List.findIdx_cons,h2,show x<z by omega,show¬z<x by omega,show¬y<x by omega]
theorem BT: ∀{P:List (List Int)} {u v:List Int},(∀r∈P,Up r)→Tri u v→fN u P=fN v P
 | [],_,_,_,t=>ER t
 |r::rs,u,v,h,t=>by
  rw[tp,tp]
  obtain⟨a,b|b⟩:=EJ (h r (List.mem_cons_self ..)) t
  ·rw[a,b]
  ·rw[a,BT (fun q hq=>h q (List.mem_cons_of_mem _ hq)) b]
inductive Kn : List Int → List Int → Prop
  | refl (w) : Kn w w
  | symm {v w} : Kn v w → Kn w v
  | trans {u v w} : Kn u v → Kn v w → Kn u w
  | tri {u v} (a b) : Tri u v → Kn (a ++ u ++ b) (a ++ v ++ b)
theorem Kn.ctx{u v:List Int}(c d:List Int)(h:Kn u v):Kn (c++u++d) (c++v++d):=by
 induction h with
 |refl w=>exact .refl _
 |symm _ ih=>exact .symm ih
 |trans _ _ h1 h2=>exact .trans h1 h2
 |tri a b t=>
  have:=Kn.tri (c++a) (b++d) t
  simp only[List.append_assoc]at this⊢
  exact this
theorem Kn.left{u v:List Int}(c:List Int)(h:Kn u v):Kn (c++u) (c++v):=by
 have:=h.ctx c []
 simpa using this
theorem Kn.right{u v:List Int}(d:List Int)(h:Kn u v):Kn (u++d) (v++d):=by
 have:=h.ctx [] d
 simpa using this
theorem Kn.cons{u v:List Int}(c:Int)(h:Kn u v):Kn (c::u) (c::v):=h.left [c]
theorem Kn.of{u v:List Int}(t:Tri u v):Kn u v:=by
 have:=Kn.tri [] [] t
 simpa using this
theorem Kn.app{u v u' v':List Int}(h:Kn u u')(g:Kn v v'):Kn (u++v) (u'++v'):=(h.right v).trans (g.left u')
theorem Cf: ∀{P:List (List Int)} (x:Int),(∀r∈P,Up r)→ ∀r∈(aP P x).1,Up r
 | [],x,_=>fun r hr=>by
  have:r= [x]:=by simpa[aP]using hr
  rw[this];exact List.pairwise_singleton ..
 |q::P,x,h=>by
  rw[zy]
  intro r hr
  have hP: ∀r∈P,Up r:=fun r hr=>h r (List.mem_cons_of_mem _ hr)
  rcases List.mem_cons.1 hr with e|e
  ·rw[e];exact yO x (h q (List.mem_cons_self ..))
  ·rcases lD q x with o|⟨b,o,_,_⟩
   ·rw[o]at e;exact hP r e
   ·rw[o]at e;exact Cf b hP r e
theorem B5: ∀{w:List Int} {P:List (List Int)},(∀r∈P,Up r)→ ∀r∈fN w P,Up r
 | [],_,h=>h
 |x::w,P,h=>show∀r∈fN w (aP P x).1,Up r from B5 (Cf x h)
theorem Kn.ins{u v:List Int}(h:Kn u v): ∀{P:List (List Int)},(∀r∈P,Up r)→fN u P=fN v P:=by
 induction h with
 |refl w=>intro P _;rfl
 |symm _ ih=>intro P hP;exact(ih hP).symm
 |trans _ _ h1 h2=>intro P hP;rw[h1 hP,h2 hP]
 |tri a b t=>
  intro P hP
  rw[kB,kB,kB,kB,BT (B5 hP) t]
end Go.Am.Pu
end
section
/- Rows and slides keep words related. Plain words. -/
namespace Go.Am.Pu
def FP(q:List Int)(g:List (List Int))(i c r:Nat):List Int:=
 if r=i then((g.getD r []).take c).drop (q.getD r 0).toNat++(g.getD r []).drop (c+1)else(g.getD r []).drop (q.getD r 0).toNat
end Go.Am.Pu
end
section
/- The rectification is the tableau of the word. Plain words. -/
namespace Go.Am.Pu
end Go.Am.Pu
end
section
/- Slides outwards: what holds on the way, what they leave; slides in and out undo each other. Plain words. -/
namespace Go.Am.Pu
theorem lz{p:List Int}(hp:bK p=true)(r:Nat):0≤p.getD r 0∧p.getD r 0≤9:=by
 have:=iC hp r
 rwa [fb]at this
theorem ru{p:List Int}(hp:bK p=true){r:Nat}(hr:r<p.length):1≤p.getD r 0:=by
 rw[aw hr];exact((bw hp).1 _ (List.getElem_mem hr)).1
theorem DV{p q:List Int}(hp:bK p=true)(hq:bK q=true)(h: ∀r,p.getD r 0=q.getD r 0):p=q:=by
 have hl:p.length=q.length:=by
  rcases Nat.lt_trichotomy p.length q.length with c|c|c
  ·have:=ru hq c
   rw[←h,bW (Nat.le_refl _)]at this;omega
  ·exact c
  ·have:=ru hp c
   rw[h,bW (Nat.le_refl _)]at this;omega
 exact Dw hl fun x _=>h x
theorem qU: ∀{a b:List Int},(∀i,a.getD i 0≤b.getD i 0)→dm a≤dm b∧ ∀j,a.getD j 0<b.getD j 0→dm a<dm b
 | [],[],_=>⟨Int.le_refl _,fun j h=>by simp at h⟩
 | [],y::b,h=>by
  have h0:=h 0
  obtain⟨i1,i2⟩:=qU (a:= []) (b:=b) fun i=>by have:=h (i+1);simpa using this
  simp only[List.getD_nil,List.getD_cons_zero]at h0
  simp only[dm]at*
  refine⟨by omega,fun j hj=> ?_⟩
  cases j with
  |zero=>simp at hj;omega
  |succ j=>have:=i2 j (by simpa using hj);omega
 |x::a,[],h=>by
  have h0:=h 0
  obtain⟨i1,i2⟩:=qU (a:=a) (b:= []) fun i=>by have:=h (i+1);simpa using this
  simp only[List.getD_nil,List.getD_cons_zero]at h0
  simp only[dm]at*
  refine⟨by omega,fun j hj=> ?_⟩
  cases j with
  |zero=>simp at hj;omega
  |succ j=>have:=i2 j (by simpa using hj);omega
 |x::a,y::b,h=>by
  have h0:=h 0
  obtain⟨i1,i2⟩:=qU (a:=a) (b:=b) fun i=>by have:=h (i+1);simpa using this
  simp only[List.getD_cons_zero]at h0
  simp only[dm]at*
  refine⟨by omega,fun j hj=> ?_⟩
  cases j with
  |zero=>simp at hj;omega
  |succ j=>have:=i2 j (by simpa using hj);omega
theorem DD{q:List Int}{i:Nat}: ∀r,(if(i:Int)=q.length then q++ [0]else q).getD r 0=q.getD r 0:=fun r=>by
 split
 ·by_cases hr:r<q.length
  ·rw[lk hr]
  ·rw[nN (by omega),bW (xs:=q) (by omega)]
   cases r-q.length<;>rfl
 ·rfl
theorem CY{q:List Int}{i:Nat}(hq:bK q=true)(hi:i≤q.length)(hm:i=0∨q.getD i 0+1≤q.getD (i-1) 0)(hs:dm q+1≤9): ∃o,jf q i=(o,true):=by
 have hlen:i<(if(i:Int)=q.length then q++ [0]else q).length:=by
  split
  ·rw[List.length_append,List.length_singleton];omega
  ·omega
 have hsum:dm (if(i:Int)=q.length then q++ [0]else q)=dm q:=by
  split
  ·rw[Av];simp[dm]
  ·rfl
 have hg:=DD (q:=q) (i:=i)
 unfold jf
 rw[if_pos ⟨hq,by omega,by omega⟩]
 simp only[Int.toNat_natCast]
 generalize hw:(if(i:Int)=q.length then q++ [0]else q)=w at*
 have hset: ∀r,(w.set i (w.getD i 0+1)).getD r 0=if r=i then q.getD i 0+1 else q.getD r 0:=fun r=>by
  rw[jx _ hlen,hg]
  by_cases e:r=i
  ·rw[if_pos e,if_pos e]
  ·rw[if_neg e,if_neg e,hg]
 have hpart:bK (w.set i (w.getD i 0+1))=true:=by
  have hle:dm q≤8:=by omega
  have h1: ∀r,q.getD r 0≤8:=fun r=>by
   have h0:=(lz hq r).1
   by_cases hr:r<q.length
   ·have:=qU (a:=List.replicate (r+1) 0|>.set r (q.getD r 0)) (b:=q) fun i=>by
     rw[jx _ (by simp)]
     by_cases e:i=r
     ·rw[if_pos e,e];exact Int.le_refl _
     ·rw[if_neg e]
      have:(List.replicate (r+1) (0:Int)).getD i 0=0:=by
       by_cases hi:i<r+1
       ·rw[aw (by simpa using hi)];simp
       ·rw[bW (by simp;omega)]
      rw[this];exact(lz hq i).1
    have h2:=this.1
    rw[oY _ _ _ (by simp)]at h2
    have h3: ∀n,dm (List.replicate n 0)=0:=fun n=>by
     induction n with
     |zero=>rfl
     |succ n ih=>rw[List.replicate_succ];simp[dm,ih]
    have h4:(List.replicate (r+1) (0:Int)).getD r 0=0:=by rw[aw (by simp)];simp
    rw[h3,h4]at h2
    omega
   ·rw[bW (by omega)];omega
  refine kG _ _ _ (fun x hx=> ?_) (fun _=> ?_) (fun r _=> ?_) ?_
  ·obtain⟨r,hr,rfl⟩:=List.getElem_of_mem hx
   rw[←aw hr 0,hset]
   by_cases e:r=i
   ·rw[if_pos e]
    have:=(lz hq i).1
    omega
   ·rw[if_neg e]
    rw[List.length_set]at hr
    refine ru hq ?_
    rw[←hw]at hr
    split at hr
    ·rw[List.length_append,List.length_singleton]at hr;omega
    ·exact hr
  ·rw[hset]
   have:=h1 0
   have:=h1 i
   split<;>omega
  ·rw[hset,hset]
   have:=iO hq r
   by_cases e:r=i
   ·subst e
    rw[if_neg (by omega),if_pos rfl];omega
   ·rw[if_neg e]
    by_cases e2:r+1=i
    ·subst e2
     rw[if_pos rfl]
     rcases hm with hm|hm
     ·omega
     ·simpa using hm
    ·rw[if_neg e2];exact this
  ·rw[oY _ _ _ hlen,hg,hsum];omega
 rw[if_pos hpart]
 exact⟨_,rfl⟩
theorem Dq{p q:List Int}{n:Nat}(hp:bK p=true)(h:jf p n=(q,true)):bj q n=p∧q.getD (n+1) 0<q.getD n 0:=by
 obtain⟨b1,b2,b3,b4,b5⟩:=nx h
 have hc:q.getD (n+1) 0<q.getD n 0:=by
  rw[b4,b4,if_neg (by omega),if_pos rfl]
  have:=iO hp n
  omega
 refine⟨DV (pJ b5 b2 hc) hp fun r=> ?_,hc⟩
 rw[rk b5 b2 hc,b4,b4,if_pos rfl]
 by_cases e:r=n
 ·rw[if_pos e,e];omega
 ·rw[if_neg e,if_neg e]
theorem Sl.up{q:List Int}{g:List (List Int)}{i c:Nat}(h:Sl q g (i+1) c)(hi:Inn q g)(hu:cel g i c≠0)(hl:leftOf g (i+1) c≤cel g i c):Sl q (lW g (i+1) c (cel g i c)) i c:=by
 obtain⟨b1,b2⟩:=ym hu
 have hq:q.getD i 0≤c:=Int.not_lt.1 fun hlt=>hu (hi i c hlt)
 have hqm:=h.qm i
 have hun:=h.num i c hq b2 (by omega)
 have e0:=lC (cel g i c) h.hi h.hc
 have en: ∀r x,¬(r=i+1∧x=c)→cel (lW g (i+1) c (cel g i c)) r x=cel g r x:=fun r x hh=>jR _ hh
 have hll:=h.lm i
 refine⟨h.q0,h.qm,fun r=> ?_,?_,?_,hq,fun r x=> ?_,fun r x h1 h2 h3=> ?_,fun r x h1 h2 h3 h4=> ?_,fun r x h1 h2 h3 h4=> ?_,fun x h1 h2 h3=> ?_,fun r h1 h2 h3=> ?_⟩
 ·rw[cM,cM];exact h.lm r
 ·rw[jI];exact b1
 ·rw[cM];exact b2
 ·by_cases e:r=i+1∧x=c
  ·rw[e.1,e.2,e0];exact h.pos _ _
  ·rw[en r x e];exact h.pos _ _
 ·rw[cM]at h2
  by_cases e:r=i+1∧x=c
  ·rw[e.1,e.2,e0];exact hun
  ·rw[en r x e];exact h.num r x h1 h2 e
 ·rw[cM]at h2
  by_cases e:r=i+1∧x=c
  ·obtain⟨rfl,rfl⟩:=e
   rw[e0,en _ _ (by omega)]
   have h5:=h.row i x hq (by omega) (by omega) (by omega)
   have h6:=h.col i (x+1) (by omega) h2 (by omega) (by omega)
   omega
  ·rw[en r x e]
   by_cases e':r=i+1∧x+1=c
   ·obtain⟨rfl,rfl⟩:=e'
    rw[e0]
    unfold leftOf at hl
    rw[if_neg (by omega),show x+1-1=x by omega]at hl
    exact hl
   ·rw[en r (x+1) e'];exact h.row r x h1 h2 e e'
 ·rw[cM]at h2
  by_cases e:r=i+1∧x=c
  ·obtain⟨rfl,rfl⟩:=e
   rw[e0,en _ _ (by omega)]
   exact h.colH i rfl hq h2
  ·rw[en r x e]
   by_cases e':r+1=i+1∧x=c
   ·exact(h3 ⟨by omega,e'.2⟩).elim
   ·rw[en (r+1) x e']
    exact h.col r x h1 h2 e e'
 ·rw[cM]at h3
  rw[en _ _ (by omega),en _ _ (by omega)]
  subst h1
  have h5:=h.row i x h2 (by omega) (by omega) (by omega)
  have h6:=h.row i (x+1) (by omega) h3 (by omega) (by omega)
  omega
 ·rw[cM]at h3
  subst h1
  rw[en _ _ (by omega),e0]
  exact h.col r c h2 b2 (by omega) (by omega)
theorem Sl.left{q:List Int}{g:List (List Int)}{i c:Nat}(h:Sl q g i (c+1))(hi:Inn q g)(hv:cel g i c≠0)(hu:zz g i (c+1)<cel g i c):Sl q (lW g i (c+1) (cel g i c)) i c:=by
 obtain⟨b1,b2⟩:=ym hv
 have hq:q.getD i 0≤c:=Int.not_lt.1 fun hlt=>hv (hi i c hlt)
 have hqm:=h.qm i
 have hvn:=h.num i c hq b2 (by omega)
 have e0:=lC (cel g i c) h.hi h.hc
 have en: ∀r x,¬(r=i∧x=c+1)→cel (lW g i (c+1) (cel g i c)) r x=cel g r x:=fun r x hh=>jR _ hh
 have hll:=h.lm i
 refine⟨h.q0,h.qm,fun r=> ?_,?_,?_,hq,fun r x=> ?_,fun r x h1 h2 h3=> ?_,fun r x h1 h2 h3 h4=> ?_,fun r x h1 h2 h3 h4=> ?_,fun x h1 h2 h3=> ?_,fun r h1 h2 h3=> ?_⟩
 ·rw[cM,cM];exact h.lm r
 ·rw[jI];exact b1
 ·rw[cM];exact b2
 ·by_cases e:r=i∧x=c+1
  ·rw[e.1,e.2,e0];exact h.pos _ _
  ·rw[en r x e];exact h.pos _ _
 ·rw[cM]at h2
  by_cases e:r=i∧x=c+1
  ·rw[e.1,e.2,e0];exact hvn
  ·rw[en r x e];exact h.num r x h1 h2 e
 ·rw[cM]at h2
  by_cases e:r=i∧x=c+1
  ·obtain⟨rfl,rfl⟩:=e
   rw[e0,en _ _ (by omega)]
   exact h.FP c rfl hq h2
  ·rw[en r x e]
   by_cases e':r=i∧x+1=c+1
   ·exact(h3 ⟨e'.1,by omega⟩).elim
   ·rw[en r (x+1) e'];exact h.row r x h1 h2 e e'
 ·rw[cM]at h2
  by_cases e:r=i∧x=c+1
  ·obtain⟨rfl,rfl⟩:=e
   rw[e0,en _ _ (by omega)]
   have h5:=h.col r c hq (by omega) (by omega) (by omega)
   have h6:=h.row (r+1) c (by omega) h2 (by omega) (by omega)
   omega
  ·rw[en r x e]
   by_cases e':r+1=i∧x=c+1
   ·obtain⟨rfl,rfl⟩:=e'
    rw[e0]
    unfold zz at hu
    rw[if_neg (by omega),show r+1-1=r by omega]at hu
    exact hu
   ·rw[en (r+1) x e']
    exact h.col r x h1 h2 e e'
 ·rw[cM]at h3
  subst h1
  rw[en _ _ (by omega),e0]
  exact h.row i x h2 b2 (by omega) (by omega)
 ·rw[cM]at h3
  rw[en _ _ (by omega),en _ _ (by omega)]
  subst h1
  have h5:=h.col r c h2 b2 (by omega) (by omega)
  have h6:=h.col (r+1) c hq h3 (by omega) (by omega)
  omega
end Go.Am.Pu
end
section
/- What a slide outwards leaves is a tableau; slides in and out undo each other. Plain words. -/
namespace Go.Am.Pu
theorem CJ{q o:List Int}{g:List (List Int)}(hq:bK q=true)(ho:bK o=true)(hin: ∀r,q.getD r 0≤o.getD r 0)(hl: ∀r,r<o.length→((g.getD r []).length:Int)=o.getD r 0)
  (num: ∀r x:Nat,r<o.length→q.getD r 0≤x→(x:Int)<o.getD r 0→1≤cel g r x∧cel g r x≤9)
  (row: ∀r x:Nat,r<o.length→q.getD r 0≤x→(x:Int)+1<o.getD r 0→cel g r x≤cel g r (x+1))
  (col: ∀r x:Nat,r+1<o.length→q.getD r 0≤x→(x:Int)<o.getD (r+1) 0→cel g r x<cel g (r+1) x):
  g8 (q,eD q g o.length)=true∧outer (q,eD q g o.length)=o:=by
 have q0:=fun r=>(lz hq r).1
 generalize hR:eD q g o.length=R
 have hRl:R.length=o.length:=by rw[←hR,jO]
 have cell: ∀{r k:Nat},r<R.length→k<(R.getD r []).length→((q.getD r 0).toNat+k:Int)<o.getD r 0∧(R.getD r []).getD k 0=cel g r ((q.getD r 0).toNat+k):=by
  intro r k hr hk
  subst hR
  rw[ly (by omega)]at hk⊢
  rw[List.length_drop]at hk
  have:=hl r (by omega)
  refine⟨by omega,?_⟩
  rw[xd];rfl
 have y5: ∀{r:Nat},r<R.length→o.getD r 0=q.getD r 0+((R.getD r []).length:Int):=by
  intro r hr
  subst hR
  rw[ly (by omega),List.length_drop]
  have:=hl r (by omega)
  have:=hin r
  have:=q0 r
  omega
 have hout:outer (q,R)=o:=by
  refine List.ext_getElem (by rw[cp];exact hRl) fun r h1 h2=> ?_
  rw[←aw h1 0,←aw h2 0]
  have h3:r<R.length:=by omega
  have:=gJ q R 0 r h3
  rw[Nat.zero_add]at this
  unfold outer
  rw[this]
  exact(y5 h3).symm
 refine⟨?_,hout⟩
 have hlen:q.length≤R.length:=by
  refine Nat.le_of_not_lt fun hlt=> ?_
  have a:=ru hq hlt
  have b:=hin R.length
  rw[bW (xs:=o) (by omega)]at b
  omega
 have om:=iO ho
 have qm:=iO hq
 simp only[g8,dz,cz,Bool.and_eq_true,decide_eq_true_eq]
 rw[hout]
 refine⟨⟨hq,hlen,hq,ho,by omega,?_⟩,?_⟩
 ·rw[dM]
  intro r _
  exact decide_eq_true (hin r)
 ·rw[dM]
  intro r hr
  rw[dM]
  intro k hk
  have hqr:=q0 r
  obtain⟨c1,c4⟩:=cell hr hk
  have hnum:=num r ((q.getD r 0).toNat+k) (by omega) (by omega) (by omega)
  simp only[ij,within,Bool.and_eq_true,Bool.or_eq_true,decide_eq_true_eq]
  rw[c4]
  refine⟨hnum,?_,?_⟩
  ·cases k with
   |zero=>exact .inl rfl
   |succ k=>
    obtain⟨d1,d4⟩:=cell hr (show k<(R.getD r []).length by omega)
    right
    rw[show k+1-1=k from rfl,d4]
    exact row r ((q.getD r 0).toNat+k) (by omega) (by omega) (by omega)
  ·cases r with
   |zero=>exact .inl rfl
   |succ r=>
    right
    have hr':r<R.length:=by omega
    have em:((r+1:Nat):Int)-1=(r:Int):=by omega
    rw[em,nB hr']
    have hqr:=q0 r
    have hqm:=qm r
    have hrl:=y5 hr'
    have hom:=om r
    simp only
    by_cases e:q.getD (r+1) 0+(k:Int)<q.getD r 0
    ·rw[pH (by omega)];omega
    ·obtain⟨y,hy⟩: ∃y:Nat,q.getD (r+1) 0+(k:Int)-q.getD r 0=y:=⟨(q.getD (r+1) 0+(k:Int)-q.getD r 0).toNat,by omega⟩
     rw[hy,fb]
     obtain⟨d1,d4⟩:=cell hr' (show y<(R.getD r []).length by omega)
     have ey:(q.getD r 0).toNat+y=(q.getD (r+1) 0).toNat+k:=by omega
     rw[d4,ey]
     exact col r _ (by omega) (by omega) (by omega)
section
variable {t : Tab} {n : Nat} {p : List Int}
def sO(t:Tab)(n:Nat)(p:List Int):List (List Int)×(Nat×Nat):=sQ 18 (Fi t n) n (p.getD n 0-1).toNat
structure Eu (t : Tab) (n : Nat) (p : List Int) (g : List (List Int)) (i c : Nat) (q : List Int) : Prop where
  sl : Sl t.1 g i c
  inn : Inn t.1 g
  len : g.length = p.length
  row : ∀ r, ((g.getD r []).length : Int) = p.getD r 0
  l0 : leftOf g i c = 0
  u0 : zz g i c = 0
  add : jf t.1 i = (q, true)
  qi : q.getD i 0 = c + 1
  qr : ∀ r, q.getD r 0 = if r = i then (c : Int) + 1 else t.1.getD r 0
  qp : bK q = true
  ins : ∀ r, q.getD r 0 ≤ p.getD r 0
def ud(t:Tab)(n:Nat):Tab×Nat:=
 let p:=(jf (outer t) n).1
 let s:=sO t n p
 let q:=(jf t.1 s.2.1).1
 ((q,eD q s.1 p.length),s.2.1)
theorem Eu.tab{g:List (List Int)}{i c:Nat}{q:List Int}(E:Eu t n p g i c q)(hp:jf (outer t) n=(p,true)):g8 (q,eD q g p.length)=true∧outer (q,eD q g p.length)=p:=by
 obtain⟨b1,b2,b3,b4,b5⟩:=nx hp
 have hq:=E.sl.hq
 have old: ∀r x:Nat,q.getD r 0≤x→t.1.getD r 0≤x∧ ¬(r=i∧x=c):=fun r x hx=>by
  rw[E.qr]at hx
  by_cases e:r=i
  ·rw[if_pos e]at hx
   rw[e]
   exact⟨by omega,by omega⟩
  ·rw[if_neg e]at hx;exact⟨hx,fun e'=>e e'.1⟩
 refine CJ E.qp b5 E.ins (fun r _=>E.row r) (fun r x _ h1 h2=> ?_) (fun r x _ h1 h2=> ?_) (fun r x _ h1 h2=> ?_)
 ·have:=E.row r
  exact E.sl.num r x (old r x h1).1 (by omega) (old r x h1).2
 ·have:=E.row r
  exact E.sl.row r x (old r x h1).1 (by omega) (old r x h1).2 (by have:=(old r (x+1) (by omega)).2;exact this)
 ·have:=E.row (r+1)
  have hm:=iO E.qp r
  exact E.sl.col r x (old r x h1).1 (by omega) (old r x h1).2 (by have:=(old (r+1) x (by omega)).2;exact this)
theorem Eu.eq{q:List Int}(E:Eu t n p (sO t n p).1 (sO t n p).2.1 (sO t n p).2.2 q)(hp:jf (outer t) n=(p,true)):ud t n=((q,eD q (sO t n p).1 p.length),(sO t n p).2.1):=by
 unfold ud
 rw[hp]
 simp only[E.add]
end
section
variable {t : Tab} {n : Nat}
end
end Go.Am.Pu
end
section
/- Words of tableaux; the rows of a slide outwards. Plain words. -/
namespace Go.Am.Pu
def fg(a n m:Nat)(t:Tab):Prop:=t.1.length≤a∧cI n m t.2
theorem fg.tab{a n m:Nat}{t:Tab}(h:fg a n m t)(ha:a≤1048576)(hn:n≤1048576)(hm:m≤1048576):t.1.length≤1048576∧t.2.length≤1048576∧ ∀x∈t.2,x.length≤1048576:=
 ⟨Nat.le_trans h.1 ha,Nat.le_trans h.2.1 hn,fun x hx=>Nat.le_trans (h.2.2 x hx) hm⟩
end Go.Am.Pu
end
section
/- Partitions that are drawn; chains of partitions. Plain words. -/
namespace Go.Am.Pu
def DY(n:Nat)(m:Int)(x:List Int):Prop:=nu n x∧(∀s:Int,0≤s→s+n≤9→gE x m s=true)∧dm x=n
theorem Ay: ∀(x:List Int) {m m' s:Int},m≤m'→gE x m s=true→gE x m' s=true
 | [],_,_,_,_,_=>rfl
 |y::x,m,m',s,h,h1=>by
  simp only[gE,Bool.and_eq_true,decide_eq_true_eq]at h1⊢
  exact⟨h1.1,by omega,h1.2.2⟩
end Go.Am.Pu
end
section
/- Plain laws: tableaux side by side; a number's copies. -/
namespace Go.Am.Pu
open Go Go.Am
attribute [local instance] D.real
end Go.Am.Pu
end
section
/- Plain laws: boxes that lead on to an outer partition; chains. -/
namespace Go.Am.Pu
open Go Go.Am
attribute [local instance] D.real
theorem pQ{p q:List Int}(h:cz p q=true)(i:Nat):p.getD i 0≤q.getD i 0:=by
 rw[mS]at h
 simp only[Bool.and_eq_true]at h
 rcases Nat.lt_or_ge i p.length with hi|hi
 ·have:=dM.1 h.2.2 i hi
  simpa using this
 ·rw[bW hi];exact(lz h.2.1 i).1
theorem l7{p q:List Int}(h:cz p q=true):bK p=true∧bK q=true:=by
 rw[mS]at h
 simp only[Bool.and_eq_true]at h
 exact⟨h.1,h.2.1⟩
theorem oy{p q:List Int}(hp:bK p=true)(hq:bK q=true)(h: ∀i,p.getD i 0≤q.getD i 0):cz p q=true:=by
 rw[mS,hp,hq]
 simp only[Bool.true_and]
 exact dM.2 fun i _=>decide_eq_true (h i)
theorem sum_add{p o:List Int}{r:Nat}(hp:bK p=true)(h:jf p r=(o,true)):dm o=dm p+1:=by
 obtain⟨_,b2,_,_,b5⟩:=nx h
 obtain⟨e,hc⟩:=Dq hp h
 have:=Ak b5 b2 hc
 rw[e]at this
 omega
theorem Cq{P:Nat→Prop} [DecidablePred P]: ∀(n:Nat),P n→ ∃m,P m∧ ∀i,i<m→ ¬P i:=by
 intro n
 induction n using Nat.strongRecOn with
 |_ n ih=>
  intro h
  by_cases hm: ∃m,m<n∧P m
  ·obtain⟨m,h1,h2⟩:=hm;exact ih m h1 h2
  ·exact⟨n,h,fun i hi hP=>hm ⟨i,hi,hP⟩⟩
theorem EN{p q:List Int}(h:cz p q=true)(hs:dm p<dm q): ∃(r:Nat) (o:List Int),r≤p.length∧jf p r=(o,true)∧cz o q=true:=by
 obtain⟨hp,hq⟩:=l7 h
 have hle:=pQ h
 have hex: ∃i,p.getD i 0<q.getD i 0:=by
  refine Classical.byContradiction fun hn=> ?_
  have: ∀i,q.getD i 0≤p.getD i 0:=fun i=>Int.not_lt.1 fun hlt=>hn ⟨i,hlt⟩
  have:=(qU this).1
  omega
 obtain⟨i,hi⟩:=hex
 obtain⟨r,hr,hmin⟩:=Cq (P:=fun i=>p.getD i 0<q.getD i 0) i hi
 have hrl:r≤p.length:=by
  refine Nat.le_of_not_lt fun hlt=> ?_
  have h1:=hmin p.length hlt
  have h2:p.getD p.length 0=0:=bW (Nat.le_refl _) 0
  have h3:=yU hq p.length (r-p.length)
  rw[show p.length+(r-p.length)=r by omega]at h3
  have h4:=(lz hp r).1
  omega
 have hsq:=(bw hq).2.1
 obtain⟨o,ho⟩:=CY hp hrl (by
  rcases Nat.eq_zero_or_pos r with h0|h0
  ·exact .inl h0
  ·right
   have h1:=hmin (r-1) (by omega)
   have h2:=iO hq (r-1)
   rw[show r-1+1=r by omega]at h2
   omega) (by omega)
 refine⟨r,o,hrl,ho,?_⟩
 obtain⟨_,_,_,b4,b5⟩:=nx ho
 refine oy b5 hq fun i=> ?_
 rw[b4]
 split
 ·next e=>subst e;omega
 ·exact hle i
def Ch(c:List (List Int)):Prop:=1≤c.length∧c.length≤10∧ ∀x∈c,nu 9 x
theorem fL{p:List Int}(h:bK p=true):nu 9 p:=⟨(bw h).2.2.1,(bw h).1⟩
def iX(c:List (List Int)):List Int:=c.getD (c.length-1) []
theorem CW(c:List (List Int))(o:List Int):iX (c++ [o])=o:=by
 unfold iX
 rw[List.length_append,List.length_singleton,Nat.add_sub_cancel,List.getD_eq_getElem?_getD,List.getElem?_append_right (Nat.le_refl _),Nat.sub_self]
 rfl
def fct:Nat→Nat
 |0=>1
 |n+1=>(n+1)*fct n
theorem DF{d:Nat}(h:d≤9):1≤fct d∧fct d≤362880:=by
 have: ∀d,d<10→1≤fct d∧fct d≤362880:=by decide
 exact this d (by omega)
theorem wV(w:List Int)(r:Nat):dm (w.take (r+1))=dm (w.take r)+w.getD r 0:=by
 rcases Nat.lt_or_ge r w.length with h|h
 ·rw[take_succ h 0,Av];simp[dm]
 ·rw[List.take_of_length_le (by omega),List.take_of_length_le (by omega),bW h];simp
end Go.Am.Pu
end
section
/- Plain laws: the local rule of insertion; exchanging places and numbers exchanges the two tableaux. -/
namespace Go.Am.Pu
def n4:List (List Int)→Nat→Int→List (List Int)
 | [],_,v=> [[v]]
 |r::rs,0,v=>(r++ [v])::rs
 |r::rs,a+1,v=>r::n4 rs a v
theorem BS: ∀(rs:List (List Int)) (a:Nat) (v:Int),a≤rs.length→gW rs a v=n4 rs a v
 | [],a,v,h=>by
  have:a=0:=by simpa using h
  subst this;rfl
 |r::rs,0,v,_=>by
  unfold gW
  rw[if_neg (by simp)];rfl
 |r::rs,a+1,v,h=>by
  have ih:=BS rs a v (by simpa using h)
  unfold gW at ih⊢
  show _=r::n4 rs a v
  rw[←ih]
  by_cases e:a=rs.length
  ·rw[if_pos (by simp[e]),if_pos e];rfl
  ·rw[if_neg (by simp[e]),if_neg e];rfl
theorem vY: ∀(rs:List (List Int)) (a:Nat) (v:Int),a≤rs.length→ ∀s,((n4 rs a v).getD s []).length=(rs.getD s []).length+if s=a then 1 else 0
 | [],a,v,h,s=>by
  have:a=0:=by simpa using h
  subst this
  cases s<;>simp[n4]
 |r::rs,0,v,_,s=>by cases s<;>simp[n4]
 |r::rs,a+1,v,h,s=>by
  cases s with
  |zero=>simp[n4]
  |succ s=>simpa[n4]using vY rs a v (by simpa using h) s
theorem yA{rs:List (List Int)}{v:Int}(h: ∀z∈rs.flatten,z<v):aP rs v=(n4 rs 0 v,0):=by
 cases rs with
 |nil=>rfl
 |cons r rs=>
  have hr: ∀z∈r,z<v:=fun z hz=>h z (by simp[hz])
  rw[dJ,if_neg ?_]
  ·rfl
  ·rw[zc (fun q hq=>by rw[aw hq];have:=hr _ (List.getElem_mem hq);omega)]
   omega
theorem tu: ∀(R:List (List Int)) (r:Nat) (x v:Int),r≤R.length→(∀z∈R.flatten,z<v)→x<v→
  aP (n4 R r v) x=if(aP R x).2=r then(n4 (aP R x).1 (r+1) v,r+1)else(n4 (aP R x).1 r v,(aP R x).2)
 | [],r,x,v,h,_,hx=>by
  have:r=0:=by simpa using h
  subst this
  have e1:aP [] x=([[x]],0):=rfl
  rw[e1,if_pos rfl]
  show aP [[v]] x=_
  have hf:fst [v] x=0:=fst_eq (by simp) (by simpa using hx) (fun j hj=>by omega)
  rw[dJ,hf,if_pos (by simp)]
  rfl
 |row::rest,0,x,v,_,hR,hx=>by
  have hrow: ∀z∈row,z<v:=fun z hz=>hR z (by simp[hz])
  have hrest: ∀z∈rest.flatten,z<v:=fun z hz=>hR z (by simp[hz])
  show aP ((row++ [v])::rest) x=_
  rw[dJ (row++ [v]),dJ row]
  by_cases c:fst row x<row.length
  ·have hf:fst (row++ [v]) x=fst row x:=by
    refine fst_eq (by simp;omega) ?_ (fun q hq=> ?_)
    ·rw[lk c];exact v7 c
    ·rw[lk (by omega)];exact re hq
   rw[hf,if_pos (by simp;omega),if_pos c,lk c,if_neg (by simp)]
   have:(row++ [v]).set (fst row x) x=row.set (fst row x) x++ [v]:=by rw[List.set_append_left _ _ c]
   rw[this];rfl
  ·have he:fst row x=row.length:=by have:= @sX row x;omega
   have hf:fst (row++ [v]) x=row.length:=by
    refine fst_eq (by simp) ?_ (fun q hq=> ?_)
    ·rw[nN (Nat.le_refl _),Nat.sub_self];exact hx
    ·rw[lk hq];exact re (by omega)
   rw[hf,if_pos (by simp),if_neg c,if_pos rfl,nN (Nat.le_refl _),Nat.sub_self]
   have h1:(row++ [v]).set row.length x=row++ [x]:=by
    rw[List.set_append_right _ _ (Nat.le_refl _),Nat.sub_self];rfl
   have h2:([v]:List Int).getD 0 0=v:=rfl
   rw[h1,h2,yA hrest]
   rfl
 |row::rest,r+1,x,v,h,hR,hx=>by
  have hrow: ∀z∈row,z<v:=fun z hz=>hR z (by simp[hz])
  have hrest: ∀z∈rest.flatten,z<v:=fun z hz=>hR z (by simp[hz])
  show aP (row::n4 rest r v) x=_
  rw[dJ row (n4 rest r v),dJ row rest]
  by_cases c:fst row x<row.length
  ·rw[if_pos c,if_pos c]
   have hy:row.getD (fst row x) 0<v:=by rw[aw c];exact hrow _ (List.getElem_mem c)
   rw[tu rest r _ v (by simpa using h) hrest hy]
   by_cases e:(aP rest (row.getD (fst row x) 0)).2=r
   ·rw[if_pos e,if_pos (by show(aP rest _).2+1=r+1;rw[e])];rfl
   ·rw[if_neg e,if_neg (by show¬(aP rest _).2+1=r+1;omega)];rfl
  ·rw[if_neg c,if_neg c,if_neg (by simp)];rfl
theorem uK{v:Int}: ∀(w:List Int) (R:List (List Int)),(∀z∈R.flatten,z<v)→(∀z∈w,z<v)→ ∀z∈(fN w R).flatten,z<v
 | [],R,h,_=>h
 |x::w,R,h,hw=>uK w _ (fun z hz=>by
  rcases uJ R x z hz with e|e
  ·rw[e];exact hw x (List.mem_cons_self ..)
  ·exact h z e) fun z hz=>hw z (List.mem_cons_of_mem _ hz)
theorem wj{v:Int}: ∀(w:List Int) (R:List (List Int)) (r:Nat),r≤R.length→(∀z∈R.flatten,z<v)→(∀z∈w,z<v)→ ∃r',r'≤(fN w R).length∧fN w (n4 R r v)=n4 (fN w R) r' v
 | [],R,r,h,_,_=>⟨r,h,rfl⟩
 |x::w,R,r,h,hR,hw=>by
  have hx:=hw x (List.mem_cons_self ..)
  obtain⟨a,b,_⟩:=si R x
  have hl:=tu R r x v h hR hx
  have hR': ∀z∈(aP R x).1.flatten,z<v:=fun z hz=>by
   rcases uJ R x z hz with e|e
   ·rw[e];exact hx
   ·exact hR z e
  show∃r',r'≤(fN w (aP R x).1).length∧fN w (aP (n4 R r v) x).1=n4 (fN w (aP R x).1) r' v
  rw[hl]
  split
  ·next e=>
   refine wj w _ (r+1) ?_ hR' fun z hz=>hw z (List.mem_cons_of_mem _ hz)
   rw[b];split<;>omega
  ·next e=>
   refine wj w _ r ?_ hR' fun z hz=>hw z (List.mem_cons_of_mem _ hz)
   rw[b];split<;>omega
theorem wQ{v:Int}{u1 u2:List Int}(h1: ∀z∈u1,z<v)(h2: ∀z∈u2,z<v): ∃r,r≤(fN (u1++u2) []).length∧fN (u1++v::u2) []=n4 (fN (u1++u2) []) r v:=by
 rw[kB,kB]
 have hR:=uK (v:=v) u1 [] (fun z hz=>by simp at hz) h1
 show∃r,r≤(fN u2 (fN u1 [])).length∧fN u2 (aP (fN u1 []) v).1=_
 rw[yA hR]
 exact wj u2 _ 0 (Nat.zero_le _) hR h2
end Go.Am.Pu
end
section
/- Plain laws: places and numbers exchanged: the tableau of the one is the recording of the other. -/
namespace Go.Am.Pu
def wd(L:List (Int×Int)):List Int:=L.map Prod.snd
def shp(w:List Int)(s:Nat):Nat:=((fN w []).getD s []).length
def at1(s r:Nat):Nat:=if s=r then 1 else 0
theorem xZ{r a:Nat}(h: ∀s,at1 s r=at1 s a):r=a:=by
 have:=h r
 unfold at1 at this
 rw[if_pos rfl]at this
 split at this
 ·assumption
 ·omega
theorem xE(w:List Int)(x:Int):fN (w++ [x]) []=(aP (fN w []) x).1:=by rw[kB];rfl
theorem rF(w:List Int)(x:Int)(s:Nat):shp (w++ [x]) s=shp w s+at1 s (aP (fN w []) x).2:=by
 unfold shp at1
 rw[xE,(si _ _).2.2]
 split<;>rfl
theorem Ca{w:List Int}{v:Int}(h: ∀z∈w,z<v)(s:Nat):shp (w++ [v]) s=shp w s+at1 s 0:=by
 rw[rF,yA (uK w [] (fun z hz=>by simp at hz) h)]
theorem zB{A B:List Int}{v x:Int}(hA: ∀z∈A,z<v)(hB: ∀z∈B,z<v)(hx:x<v):
  ∃r a,(∀s,shp (A++v::B) s=shp (A++B) s+at1 s r)∧(∀s,shp (A++B++ [x]) s=shp (A++B) s+at1 s a)∧
   ∀s,shp (A++v::B++ [x]) s=shp (A++B) s+at1 s r+if a=r then at1 s (r+1)else at1 s a:=by
 obtain⟨r,h1,h2⟩:=wQ hA hB
 have hR: ∀z∈(fN (A++B) []).flatten,z<v:=uK _ [] (fun z hz=>by simp at hz) fun z hz=>by
  rcases List.mem_append.1 hz with h|h
  ·exact hA z h
  ·exact hB z h
 have e1: ∀s,shp (A++v::B) s=shp (A++B) s+at1 s r:=fun s=>by
  unfold shp
  rw[h2,vY _ _ _ h1];rfl
 refine⟨r,(aP (fN (A++B) []) x).2,e1,fun s=>rF _ _ s,fun s=> ?_⟩
 rw[rF,e1,h2,tu _ r x v h1 hR hx]
 split<;>rfl
structure Tr (L M : List (Int × Int)) : Prop where
  sl : L.Pairwise fun p q => p.1 < q.1
  sm : M.Pairwise fun p q => p.1 < q.1
  perm : M.Perm (L.map Prod.swap)
theorem Tr.symm{L M:List (Int×Int)}(h:Tr L M):Tr M L:=by
 refine⟨h.sm,h.sl,?_⟩
 have:=(h.perm.map Prod.swap).symm
 rwa [List.map_map,Prod.swap_swap_eq,List.map_id]at this
theorem Tr.len{L M:List (Int×Int)}(h:Tr L M):M.length=L.length:=by simpa using h.perm.length_eq
theorem Tr.mem{L M:List (Int×Int)}(h:Tr L M){p:Int×Int}(hp:p∈L):p.swap∈M:=h.perm.mem_iff.2 (List.mem_map_of_mem hp)
theorem EX{A B:List (Int×Int)}{x:Int×Int}:(A++B).Sublist (A++x::B):=(List.Sublist.refl A).append (List.sublist_cons_self x B)
theorem Tr.cut{L0 A B:List (Int×Int)}{p:Int×Int}(h:Tr (L0++ [p]) (A++p.swap::B)):Tr L0 (A++B):=by
 refine⟨(List.pairwise_append.1 h.sl).1,h.sm.sublist EX,?_⟩
 have h1:(A++p.swap::B).Perm (p.swap::(A++B)):=List.perm_middle
 have h2:((L0++ [p]).map Prod.swap).Perm (p.swap::L0.map Prod.swap):=by
  rw[List.map_append]
  exact List.perm_append_comm
 exact(List.perm_cons _).1 (h1.symm.trans (h.perm.trans h2))
theorem vl{L0:List (Int×Int)}{p:Int×Int}(h:(L0++ [p]).Pairwise fun p q=>p.1<q.1): ∀x∈L0,x.1<p.1:=fun x hx=>(List.pairwise_append.1 h).2.2 x hx p (by simp)
theorem Tr.top{L M0:List (Int×Int)}{q:Int×Int}(h:Tr L (M0++ [q])): ∀x∈L,x≠q.swap→x.2<q.1:=fun x hx hne=>by
 have hm:=h.mem hx
 rcases List.mem_append.1 hm with h1|h1
 ·exact vl h.sm _ h1
 ·simp only[List.mem_singleton]at h1
  exact absurd (by rw[←h1,Prod.swap_swap]) hne
theorem wO(A B:List (Int×Int)):wd (A++B)=wd A++wd B:=List.map_append ..
theorem tV{L:List (Int×Int)}{v:Int}(h: ∀x∈L,x.2<v): ∀z∈wd L,z<v:=fun z hz=>by
 obtain⟨x,hx,rfl⟩:=List.mem_map.1 hz
 exact h x hx
theorem yF{L:List (Int×Int)}(h:L.Pairwise fun p q=>p.1<q.1): ∀{A B:List (Int×Int)} {q:Int×Int},L=A++q::B→ ∀x∈A++B,x≠q:=by
 intro A B q e x hx hxq
 subst e;subst hxq
 have h1:=List.pairwise_append.1 h
 rcases List.mem_append.1 hx with hx|hx
 ·have:=h1.2.2 x hx x (by simp);omega
 ·have:=(List.pairwise_cons.1 h1.2.1).1 x hx;omega
theorem xM: ∀(n:Nat) (L M:List (Int×Int)),L.length=n→Tr L M→ ∀s,shp (wd L) s=shp (wd M) s:=by
 intro n
 induction n using Nat.strongRecOn with
 |_ n ih=>
 intro L M hn h s
 rcases List.eq_nil_or_concat L with e|⟨L0,p,e⟩
 ·subst e
  have:M= []:=List.eq_nil_of_length_eq_zero (by rw[h.len];rfl)
  subst this;rfl
 rcases List.eq_nil_or_concat M with e'|⟨M0,q,e'⟩
 ·subst e'
  have:=h.len
  rw[e]at this
  simp at this
 rw[List.concat_eq_append]at e e'
 subst e;subst e'
 rw[List.length_append,List.length_singleton]at hn
 have hp:=h.mem (show p∈L0++ [p] by simp)
 have hq:=h.symm.mem (show q∈M0++ [q] by simp)
 have t1:=h.top
 have t2:=h.symm.top
 by_cases hpq:p=q.swap
 ·
  have e:q=p.swap:=by rw[hpq,Prod.swap_swap]
  subst e
  have h0:Tr L0 (M0++ []):=Tr.cut (A:=M0) (B:= []) (by simpa using h)
  rw[List.append_nil]at h0
  have hL: ∀z∈wd L0,z<p.2:=tV fun x hx=>by
   have:=t1 x (by simp[hx]) (fun e=>by
    rw[Prod.swap_swap]at e
    have:=vl h.sl x hx
    rw[e]at this;omega)
   exact this
  have hM: ∀z∈wd M0,z<p.1:=tV fun x hx=>by
   have:=t2 x (by simp[hx]) (fun e=>by
    have:=vl h.sm x hx
    rw[e]at this;omega)
   exact this
  have w1:wd (L0++ [p])=wd L0++ [p.2]:=wO ..
  have w2:wd (M0++ [p.swap])=wd M0++ [p.1]:=wO ..
  rw[w1,w2,Ca hL,Ca hM,ih L0.length (by omega) L0 M0 rfl h0]
 ·have hq0:q.swap∈L0:=by
   rcases List.mem_append.1 hq with hx|hx
   ·exact hx
   ·simp only[List.mem_singleton]at hx;exact absurd hx.symm hpq
  have hp0:p.swap∈M0:=by
   rcases List.mem_append.1 hp with hx|hx
   ·exact hx
   ·simp only[List.mem_singleton]at hx;exact absurd (by rw[←hx,Prod.swap_swap]) hpq
  obtain⟨A,B,rfl⟩:=List.append_of_mem hq0
  obtain⟨C,E,rfl⟩:=List.append_of_mem hp0
  have nA:=yF h.sl (A:=A) (B:=B++ [p]) (q:=q.swap) (by simp)
  have nC:=yF h.sm (A:=C) (B:=E++ [q]) (q:=p.swap) (by simp)
  have bA: ∀x∈A++(B++ [p]),x.2<q.1:=fun x hx=>t1 x (by simp only[List.mem_append,List.mem_cons]at hx⊢;rcases hx with h|h|h<;>simp_all) (nA x hx)
  have bC: ∀x∈C++(E++ [q]),x.2<p.1:=fun x hx=>t2 x (by simp only[List.mem_append,List.mem_cons]at hx⊢;rcases hx with h|h|h<;>simp_all) (nC x hx)
  obtain⟨r,a,r1,r2,r3⟩:=zB (A:=wd A) (B:=wd B) (v:=q.1) (x:=p.2) (tV fun x hx=>bA x (by simp[hx])) (tV fun x hx=>bA x (by simp[hx])) (bA p (by simp))
  obtain⟨r',a',s1,s2,s3⟩:=zB (A:=wd C) (B:=wd E) (v:=p.1) (x:=q.2) (tV fun x hx=>bC x (by simp[hx])) (tV fun x hx=>bC x (by simp[hx])) (bC q (by simp))
  have hlA:(A++q.swap::B).length=(A++B).length+1:=by simp only[List.length_append,List.length_cons];omega
  have hlM:=h.len
  simp only[List.length_append,List.length_cons,List.length_nil]at hn hlM hlA
  have T1:Tr (A++q.swap::B) (C++(E++ [q])):=Tr.cut (by simpa using h)
  have T2:Tr (C++p.swap::E) (A++(B++ [p])):=Tr.cut (by simpa using h.symm)
  have T3:Tr (C++E) (A++B):=Tr.cut (L0:=C++E) (p:=q) (by simpa using T1.symm)
  have i1: ∀s,shp (wd A++q.1::wd B) s=shp (wd C++wd E++ [q.2]) s:=fun s=>by
   have:=ih (A++q.swap::B).length (by simp only[List.length_append,List.length_cons];omega) _ _ rfl T1 s
   simpa[wd]using this
  have i2: ∀s,shp (wd C++p.1::wd E) s=shp (wd A++wd B++ [p.2]) s:=fun s=>by
   have:=ih (C++p.swap::E).length (by simp only[List.length_append,List.length_cons];omega) _ _ rfl T2 s
   simpa[wd]using this
  have i3: ∀s,shp (wd C++wd E) s=shp (wd A++wd B) s:=fun s=>by
   have:=ih (C++E).length (by simp only[List.length_append];omega) _ _ rfl T3 s
   simpa[wd]using this
  have e1:r=a':=xZ fun s=>by have:=i1 s;rw[r1,s2,i3]at this;omega
  have e2:r'=a:=xZ fun s=>by have:=i2 s;rw[s1,r2,i3]at this;omega
  have g1:=r3 s
  have g2:=s3 s
  have w1:wd (A++q.swap::B++ [p])=wd A++q.1::wd B++ [p.2]:=by simp[wd]
  have w2:wd (C++p.swap::E++ [q])=wd C++p.1::wd E++ [q.2]:=by simp[wd]
  rw[w1,w2,g1,g2,i3]
  subst e1;subst e2
  by_cases c:r'=r
  ·rw[if_pos c,if_pos c.symm,c]
  ·rw[if_neg c,if_neg fun e=>c e.symm];omega
def Ei:List (Int×Int)→List (List Int)→List (List Int)→List (List Int)
 | [],_,Q=>Q
 |p::L,P,Q=>Ei L (aP P p.2).1 (gW Q (aP P p.2).2 p.1)
theorem xm: ∀(L:List (Int×Int)) (p:Int×Int) (P Q:List (List Int)),Ei (L++ [p]) P Q=gW (Ei L P Q) (aP (fN (wd L) P) p.2).2 p.1
 | [],_,_,_=>rfl
 |_::L,p,_,_=>xm L p _ _
theorem Er: ∀(n:Nat) (L M:List (Int×Int)),L.length=n→Tr L M→fN (wd M) []=Ei L [] []:=by
 intro n
 induction n with
 |zero=>
  intro L M hn h
  have:L= []:=List.eq_nil_of_length_eq_zero hn
  subst this
  have:M= []:=List.eq_nil_of_length_eq_zero (by rw[h.len];rfl)
  subst this;rfl
 |succ n ih=>
  intro L M hn h
  rcases List.eq_nil_or_concat L with e|⟨L0,p,e⟩
  ·subst e;simp at hn
  rw[List.concat_eq_append]at e
  subst e
  rw[List.length_append,List.length_singleton]at hn
  have hp:=h.mem (show p∈L0++ [p] by simp)
  obtain⟨C,E,rfl⟩:=List.append_of_mem hp
  have h0:Tr L0 (C++E):=Tr.cut h
  have t2:=h.symm.top
  have nC:=yF h.sm (A:=C) (B:=E) (q:=p.swap) rfl
  have bC: ∀x∈C++E,x.2<p.1:=fun x hx=>t2 x (by simp only[List.mem_append,List.mem_cons]at hx⊢;rcases hx with h|h<;>simp_all) (nC x hx)
  obtain⟨r,r1,r2⟩:=wQ (v:=p.1) (u1:=wd C) (u2:=wd E) (tV fun x hx=>bC x (by simp[hx])) (tV fun x hx=>bC x (by simp[hx]))
  have ih0:=ih L0 _ (by omega) h0
  rw[wO]at ih0
  have hw:wd (C++p.swap::E)=wd C++p.1::wd E:=by simp[wd]
  have hs: ∀s,shp (wd C++p.1::wd E) s=shp (wd L0) s+at1 s (aP (fN (wd L0) []) p.2).2:=fun s=>by
   rw[←hw,←xM _ _ _ rfl h s,wO]
   exact rF _ _ _
  have h3: ∀s,shp (wd L0) s=shp (wd C++wd E) s:=fun s=>by rw[xM _ _ _ rfl h0 s,wO]
  have e:r=(aP (fN (wd L0) []) p.2).2:=xZ fun s=>by
   have h4:=hs s
   have h5:shp (wd C++p.1::wd E) s=shp (wd C++wd E) s+at1 s r:=by
    unfold shp
    rw[r2,vY _ _ _ r1];rfl
   rw[h5,h3]at h4
   omega
  rw[hw,r2,xm,←e,BS _ _ _ (by rw[←ih0];exact r1),ih0]
end Go.Am.Pu
end
section
/- Plain laws: taking a cell out undoes an insertion. -/
namespace Go.Am.Pu
def upR(r:List Int)(s:List (List Int)×Int):List (List Int)×Int:=match dT r s.2 r.length with
 |some q=>(r.set q s.2::s.1,r.getD q 0)
 |none=>(r::s.1,s.2)
theorem qL: ∀(n:Nat) (x:List Int) (rs:List (List Int)) (y:Int),eP (n+1) (x::rs) y=upR x (eP n rs y)
 |0,x,rs,y=>by
  unfold upR eP
  simp only[List.getD_cons_zero]
  cases dT x y x.length with
  |none=>rfl
  |some q=>rfl
 |n+1,x,rs,y=>by
  unfold eP
  simp only[List.getD_cons_succ]
  cases dT (rs.getD n []) y (rs.getD n []).length with
  |none=>exact qL n x rs y
  |some q=>exact qL n x _ _
def tk:List (List Int)→Nat→List (List Int)×Int
 | [],_=>([],0)
 |r::rs,0=>(if r.length=1 then []else r.take (r.length-1)::rs,r.getD (r.length-1) 0)
 |r::rs,a+1=>upR r (tk rs a)
theorem qY: ∀(rs:List (List Int)) (a:Nat),a<rs.length→bV rs a=tk rs a
 | [],a,h=>by simp at h
 |r::rs,0,_=>by
  unfold bV tk
  simp only[List.getD_cons_zero,eP,List.set_cons_zero,List.take_zero]
 |r::rs,a+1,h=>by
  have ih:=qY rs a (by simpa using h)
  unfold bV at ih⊢
  simp only[List.getD_cons_succ,List.set_cons_succ,qL]
  show _=upR r (tk rs a)
  rw[←ih]
  generalize eP a (rs.set a ((rs.getD a []).take ((rs.getD a []).length-1))) ((rs.getD a []).getD ((rs.getD a []).length-1) 0)=s
  by_cases c:(rs.getD a []).length=1
  ·rw[if_pos c,if_pos c]
   unfold upR
   simp only
   cases dT r s.2 r.length<;>rfl
  ·rw[if_neg c,if_neg c]
structure Tk (rs : List (List Int)) (a : Nat) (R : List (List Int)) (y : Int) : Prop where
  ins : aP R y = (rs, a)
  ssr : SSR R
  pos : ∃ p, p < (rs.getD 0 []).length ∧ y = (rs.getD 0 []).getD p 0 ∧ (R.getD 0 []).length ≤ (rs.getD 0 []).length ∧ (∀ i, i < (R.getD 0 []).length → (rs.getD 0 []).getD i 0 ≤ (R.getD 0 []).getD i 0) ∧
    ∀ i, p ≤ i → i < (R.getD 0 []).length → y < (R.getD 0 []).getD i 0
theorem D3: ∀(rs:List (List Int)) (a:Nat),SSR rs→a<rs.length→(rs.getD (a+1) []).length<(rs.getD a []).length→Tk rs a (tk rs a).1 (tk rs a).2
 | [],a,_,h,_=>by simp at h
 |r::rs,0,hs,_,hc=>by
  obtain⟨h1,h2,h3,h4⟩:=hs
  simp only[List.getD_cons_zero,List.getD_cons_succ]at hc
  by_cases c:r.length=1
  ·have hrs:rs= []:=by
    cases rs with
    |nil=>rfl
    |cons s rs=>simp only[List.getD_cons_zero]at hc;have:=h4.1;omega
   subst hrs
   have e:tk [r] 0=([],r.getD 0 0):=by unfold tk;rw[if_pos c,c]
   rw[e]
   obtain⟨x,rfl⟩: ∃x,r= [x]:=List.length_eq_one_iff.1 c
   exact⟨rfl,trivial,0,by simp,rfl,by simp,fun i hi=>by simp at hi,fun i _ hi=>by simp at hi⟩
  ·have e:tk (r::rs) 0=(r.take (r.length-1)::rs,r.getD (r.length-1) 0):=by unfold tk;rw[if_neg c]
   rw[e]
   have hl:(r.take (r.length-1)).length=r.length-1:=by rw[List.length_take];omega
   have hg: ∀i,i<r.length-1→(r.take (r.length-1)).getD i 0=r.getD i 0:=fun i hi=>by
    simp only[List.getD_eq_getElem?_getD,List.getElem?_take,if_pos hi]
   refine⟨?_,⟨by omega,fun i hi=> ?_,?_,h4⟩,r.length-1,by simp;omega,rfl,by simp,fun i hi=> ?_,fun i hp hi=> ?_⟩
   ·have hf:fst (r.take (r.length-1)) (r.getD (r.length-1) 0)=(r.take (r.length-1)).length:=zc fun j hj=>by
     rw[hl]at hj
     rw[hg j hj];exact h2.mono (by omega) (by omega)
    rw[dJ,hf,if_neg (Nat.lt_irrefl _)]
    have:r.take (r.length-1)++ [r.getD (r.length-1) 0]=r:=by
     have h:=take_succ (xs:=r) (i:=r.length-1) (by omega) 0
     rw[show r.length-1+1=r.length by omega,List.take_length]at h
     exact h.symm
    rw[this]
   ·rw[hl]at hi
    rw[hg i (by omega),hg (i+1) (by omega)];exact h2 i (by omega)
   ·cases rs with
    |nil=>trivial
    |cons s rs=>
     simp only[List.getD_cons_zero]at hc
     refine⟨by rw[hl];omega,fun q hq=> ?_⟩
     rw[hg q (by omega)];exact h3.2 q hq
   ·simp only[List.getD_cons_zero]at hi⊢
    rw[hl]at hi
    rw[hg i hi];exact Int.le_refl _
   ·simp only[List.getD_cons_zero]at hi
    omega
 |r::rs,a+1,hs,h,hc=>by
  obtain⟨h1,h2,h3,h4⟩:=hs
  simp only[List.getD_cons_succ]at hc
  obtain⟨k1,k2,p,p1,p2,p3,p4,p5⟩:=D3 rs a h4 (by simpa using h) hc
  have hne:0<rs.length:=by simp at h;omega
  have e:tk (r::rs) (a+1)=upR r (tk rs a):=rfl
  rw[e]
  generalize tk rs a=T at*
  obtain⟨R,y⟩:=T
  simp only at k1 k2 p2 p3 p4 p5
  have hov:(rs.getD 0 []).length≤r.length∧ ∀q,q<(rs.getD 0 []).length→r.getD q 0<(rs.getD 0 []).getD q 0:=by
   cases rs with
   |nil=>simp at hne
   |cons s rs=>exact h3
  have hrp:r.getD p 0<y:=by rw[p2];exact hov.2 p p1
  obtain⟨q,hq⟩:=pO (r:=r) (y:=y) (m:=r.length) (i:=p) (by have:=hov.1;omega) hrp
  obtain⟨q1,q2⟩:=m7 hq
  have qmax:=fun i (h1:q<i) (h2:i<r.length)=>q7 hq i h1 h2
  have hpq:p≤q:=Nat.le_of_not_lt fun hlt=>by have:=qmax p hlt (by have:=hov.1;omega);omega
  have eu:upR r (R,y)=(r.set q y::R,r.getD q 0):=by unfold upR;simp only[hq]
  rw[eu]
  have hset: ∀i,(r.set q y).getD i 0=if i=q then y else r.getD i 0:=jx y q1
  refine⟨?_,⟨by rw[List.length_set];exact h1,fun i hi=> ?_,?_,k2⟩,q,by simpa using q1,rfl,by simp,fun i hi=> ?_,fun i hqi hi=> ?_⟩
  ·have hf:fst (r.set q y) (r.getD q 0)=q:=by
    refine fst_eq (by rw[List.length_set];exact q1) (by rw[hset,if_pos rfl];exact q2) fun j hj=> ?_
    rw[hset,if_neg (by omega)];exact h2.mono (by omega) q1
   rw[dJ,hf,if_pos (by rw[List.length_set];exact q1),hset,if_pos rfl,k1,List.set_set]
   have:r.set q (r.getD q 0)=r:=by rw[aw q1,List.set_getElem_self]
   rw[this]
  ·rw[List.length_set]at hi
   rw[hset,hset]
   by_cases e1:i=q
   ·rw[if_pos e1,if_neg (by omega)];exact qmax _ (by omega) hi
   ·rw[if_neg e1]
    by_cases e2:i+1=q
    ·rw[if_pos e2];have:=h2 i hi;rw[e2]at this;omega
    ·rw[if_neg e2];exact h2 i hi
  ·cases R with
   |nil=>trivial
   |cons s' R=>
    simp only[List.getD_cons_zero]at p3 p4 p5
    refine⟨by rw[List.length_set];have:=hov.1;omega,fun i hi=> ?_⟩
    rw[hset]
    split
    ·next e=>exact p5 i (by omega) hi
    ·have:=hov.2 i (by omega);have:=p4 i hi;omega
  ·simp only[List.getD_cons_zero]at hi⊢
   rw[hset]
   split
   ·next e=>rw[e];omega
   ·exact Int.le_refl _
  ·simp only[List.getD_cons_zero]at hi⊢
   rw[List.length_set]at hi
   rw[hset]
   split
   ·exact q2
   ·have:=qmax i (by omega) hi;omega
end Go.Am.Pu
end
section
/- Plain laws: a removed number inserted again; a pair is what its word makes; the inverse of a permutation. -/
namespace Go.Am.Pu
theorem rL: ∀(rs:List (List Int)) (x z:Int),z=x∨z∈rs.flatten→z∈(aP rs x).1.flatten
 | [],x,z,h=>by simpa[aP]using h
 |r::rs,x,z,h=>by
  rw[dJ]
  by_cases c:fst r x<r.length
  ·rw[if_pos c]
   simp only[List.flatten_cons,List.mem_append]at h⊢
   have hy:r.getD (fst r x) 0∈(aP rs (r.getD (fst r x) 0)).1.flatten:=rL rs _ _ (.inl rfl)
   rcases h with rfl|h|h
   ·left
    rw[List.mem_iff_getElem]
    exact⟨fst r z,by rw[List.length_set];exact c,by simp⟩
   ·obtain⟨i,hi,rfl⟩:=List.getElem_of_mem h
    by_cases e:i=fst r x
    ·right
     rw[aw c]at hy
     simp only[e]
     rw[aw c]
     exact hy
    ·left
     rw[List.mem_iff_getElem]
     exact⟨i,by rw[List.length_set];exact hi,by rw[List.getElem_set_ne (fun h=>e h.symm)]⟩
   ·exact .inr (rL rs _ _ (.inr h))
  ·rw[if_neg c]
   simp only[List.flatten_cons,List.mem_append,List.mem_singleton]at h⊢
   rcases h with h|h|h
   ·exact .inl (.inr h)
   ·exact .inl (.inl h)
   ·exact .inr h
theorem FY{t:Tab}(h:bk t=true){a:Nat}(ha:a<t.2.length)(hc:(t.2.getD (a+1) []).length<(t.2.getD a []).length):Tk t.2 a (bV t.2 a).1 (bV t.2 a).2:=by
 rw[qY _ _ ha]
 exact D3 _ _ (rZ h) ha hc
theorem xS{t:Tab}(h:bk t=true): ∀z∈t.2.flatten,1≤z∧z≤9:=by
 have h':=h
 simp only[bk,Bool.and_eq_true]at h'
 exact pj h'.1
theorem AI{t:Tab}{r:Int}(h:(ep t r).2.2=true):mc (ep t r).1 (ep t r).2.1=(t,(r,true)):=by
 unfold ep at h⊢
 split at h
 rotate_left
 ·cases h
 next hc=>
 rw[if_pos hc]
 obtain⟨hp,hcr⟩:=hc
 obtain⟨_,n,h1,h2,h3⟩:=tv (mR.1 hcr)
 subst h1
 rw[cp]at h2
 rw[Int.toNat_natCast]
 have hlen:(t.2.getD (n+1) []).length<(t.2.getD n []).length:=by
  rw[e9 hp h2]at h3
  by_cases hn:n+1<t.2.length
  ·rw[e9 hp hn]at h3;omega
  ·rw[bW (by rw[cp];omega)]at h3
   rw[bW (xs:=t.2) (by omega)]
   show 0<_
   omega
 have T:=FY hp h2 hlen
 generalize bV t.2 n=S at*
 obtain⟨R,y⟩:=S
 have hi:(aP R y).1=t.2:=by rw[T.ins]
 have hnum: ∀z,z=y∨z∈R.flatten→1≤z∧z≤9:=fun z hz=>xS hp z (by rw[←hi];exact rL R y z hz)
 have hfl:=vn R y
 rw[hi]at hfl
 have h9:=jo hp
 have hpl:=oc T.ssr (fun z hz=>hnum z (.inr hz)) (by show R.flatten.length≤9;omega)
 have hy:=hnum y (.inl rfl)
 have ht1:=dG hp
 unfold mc
 rw[if_pos ⟨by rw[ht1];exact hpl,by simp only[within,Bool.and_eq_true,decide_eq_true_eq];exact hy,by show R.flatten.length<9;omega⟩]
 show((t.1,(aP R y).1),(((aP R y).2:Nat):Int),true)=_
 rw[T.ins]
theorem xO: ∀(w:List Int) (x:Int) (P Q:List (List Int)) (k:Nat),nH (w++ [x]) P Q k=gW (nH w P Q k) (aP (fN w P) x).2 ((k+w.length+1:Nat):Int)
 | [],_,_,_,_=>rfl
 |y::w,x,P,Q,k=>by
  show nH (w++ [x]) (aP P y).1 (gW Q (aP P y).2 ((k+1:Nat):Int)) (k+1)=_
  rw[xO w x]
  show gW (nH w _ _ (k+1)) (aP (fN w (aP P y).1) x).2 _=gW (nH w _ _ (k+1)) (aP (fN w (aP P y).1) x).2 _
  congr 2
  simp only[List.length_cons]
  omega
theorem zN{q:Tab}: ∀(k:Nat) (P Q:List (List Int)),Unr q k P Q→SSR P→fN (wop q k P) []=P∧nH (wop q k P) [] [] 0=Q
 |0,P,Q,h,hs=>by
  have hQ:Q= []:=by
   have:=CK h.pl h.fl
   exact congrArg Prod.snd this
  subst hQ
  have hP:P= []:=List.eq_nil_of_length_eq_zero (by rw[h.same.1];rfl)
  subst hP
  exact⟨rfl,rfl⟩
 |k+1,P,Q,h,hs=>by
  obtain⟨a,a1,a2,a3,a4,a5,a6⟩:=h.step
  have hal:a<P.length:=by rw[h.same.1];exact a2
  have T:=D3 P a hs hal (by rw[h.same.2,h.same.2];exact a5)
  rw[←qY _ _ hal]at T
  obtain⟨i1,i2⟩:=zN k _ _ a6 T.ssr
  have hw:wop q (k+1) P=wop q k (bV P a).1++ [(bV P a).2]:=by
   rw[show wop q (k+1) P=wop q k (bV P (rowOf q ((k+1:Nat):Int)).toNat).1++ [(bV P (rowOf q ((k+1:Nat):Int)).toNat).2]from rfl,a1,Int.toNat_natCast]
  rw[hw,xE,xO,i1,i2,T.ins,Nat.zero_add,uM]
  refine⟨rfl,EH a2 a5 (fun r hr=> ?_) a4⟩
  exact ox h.pl hr
theorem Cx{p q:Tab}(h:(ez p q).2=true):j3 (ez p q).1=(p,true)∧fy (ez p q).1=(q,true):=by
 unfold ez at h⊢
 split at h
 rotate_left
 ·cases h
 next hc=>
 rw[if_pos hc]
 obtain⟨hp,hq,hs,ho⟩:=hc
 obtain⟨i1,i2⟩:=zN _ _ _ (sT hp hq hs ho) (rZ hp)
 have h9:=jo hq
 generalize hw:wop q q.2.flatten.length p.2=w at*
 have hl:w.length=q.2.flatten.length:=by rw[←hw,uM]
 have hmem: ∀(w:List Int) (R:List (List Int)) (z:Int),z∈w∨z∈R.flatten→z∈(fN w R).flatten:=by
  intro w
  induction w with
  |nil=>intro R z h;exact h.resolve_left (by simp)
  |cons x w ih=>
   intro R z h
   refine ih _ z ?_
   rcases h with h|h
   ·rcases List.mem_cons.1 h with rfl|h
    ·exact .inr (rL R z z (.inl rfl))
    ·exact .inl h
   ·exact .inr (rL R x z (.inr h))
 have hword:isWord w=true:=by
  simp only[isWord,Bool.and_eq_true,decide_eq_true_eq,List.all_eq_true,within]
  refine⟨by omega,fun z hz=> ?_⟩
  have:=hmem w [] z (.inl hz)
  rw[i1]at this
  exact xS hp z this
 have e1:(([],p.2):Tab)=p:=Prod.ext (dG hp).symm rfl
 have e2:(([],q.2):Tab)=q:=Prod.ext (dG hq).symm rfl
 unfold j3 fy
 rw[if_pos hword,if_pos hword,i1,i2,e1,e2]
 exact⟨rfl,rfl⟩
end Go.Am.Pu
end
section
/- Plain laws: the inverse of a permutation; words that are their own standardization. -/
namespace Go.Am.Pu
def plk:List Int→Nat→List (Int×Int)
 | [],_=> []
 |x::w,k=>(((k+1:Nat):Int),x)::plk w (k+1)
theorem Eb: ∀(w:List Int) (k:Nat),wd (plk w k)=w
 | [],_=>rfl
 |x::w,k=>by
  show x::wd (plk w (k+1))=_
  rw[Eb w]
theorem zb: ∀(w:List Int) (k:Nat) (P Q:List (List Int)),Ei (plk w k) P Q=nH w P Q k
 | [],_,_,_=>rfl
 |x::w,k,P,Q=>zb w (k+1) _ _
theorem sf: ∀(w:List Int) (k:Nat) (p:Int×Int),p∈plk w k↔ ∃i,i<w.length∧p=(((k+i+1:Nat):Int),w.getD i 0)
 | [],k,p=>by simp[plk]
 |x::w,k,p=>by
  simp only[plk,List.mem_cons,sf w]
  constructor
  ·rintro(h|⟨i,h1,h2⟩)
   ·exact⟨0,by simp,h⟩
   ·refine⟨i+1,by simpa using h1,?_⟩
    rw[h2,List.getD_cons_succ,show k+1+i+1=k+(i+1)+1 by omega]
  ·rintro⟨i,h1,h2⟩
   cases i with
   |zero=>exact .inl h2
   |succ i=>
    right
    refine⟨i,by simpa using h1,?_⟩
    rw[h2,List.getD_cons_succ,show k+1+i+1=k+(i+1)+1 by omega]
theorem vV: ∀(w:List Int) (k:Nat),(plk w k).Pairwise fun p q=>p.1<q.1
 | [],_=>List.Pairwise.nil
 |x::w,k=>by
  refine List.Pairwise.cons (fun q hq=> ?_) (vV w (k+1))
  obtain⟨i,_,rfl⟩:=(sf _ _ _).1 hq
  show((k+1:Nat):Int)<((k+1+i+1:Nat):Int)
  omega
def uX:List Int→Nat→List Int→List Int
 | [],_,out=>out
 |x::w,k,out=>uX w (k+1) (out.set (x-1).toNat ((k+1:Nat):Int))
theorem zR: ∀(w:List Int) (k:Nat) (out:List Int),(uX w k out).length=out.length
 | [],_,_=>rfl
 |x::w,k,out=>by rw[uX,zR w,List.length_set]
theorem zj: ∀(w:List Int) (k:Nat) (out:List Int),w.Nodup→(∀x∈w,1≤x∧x≤out.length)→
  (∀i,i<w.length→(uX w k out).getD (w.getD i 0-1).toNat 0=((k+i+1:Nat):Int))∧ ∀v:Nat,(∀x∈w,(x-1).toNat≠v)→(uX w k out).getD v 0=out.getD v 0
 | [],k,out,_,_=>⟨fun i h=>by simp at h,fun _ _=>rfl⟩
 |x::w,k,out,hn,hb=>by
  rw[List.nodup_cons]at hn
  have hx:=hb x (List.mem_cons_self ..)
  obtain⟨a,b⟩:=zj w (k+1) (out.set (x-1).toNat ((k+1:Nat):Int)) hn.2 (fun z hz=>by rw[List.length_set];exact hb z (List.mem_cons_of_mem _ hz))
  have hne: ∀z∈w,(z-1).toNat≠(x-1).toNat:=fun z hz e=>by
   have:=hb z (List.mem_cons_of_mem _ hz)
   have:z=x:=by omega
   exact hn.1 (this▸hz)
  refine⟨fun i hi=> ?_,fun v hv=> ?_⟩
  ·cases i with
   |zero=>
    show(uX w (k+1) _).getD (x-1).toNat 0=_
    rw[b _ hne,aw (by rw[List.length_set];omega),List.getElem_set_self]
   |succ i=>
    show(uX w (k+1) _).getD (w.getD i 0-1).toNat 0=_
    rw[a i (by simpa using hi),show k+1+i+1=k+(i+1)+1 by omega]
  ·show(uX w (k+1) _).getD v 0=_
   rw[b v fun z hz=>hv z (List.mem_cons_of_mem _ hz),getD_set_ne (hv x (List.mem_cons_self ..))]
def zg(w:List Int):List Int:=uX w 0 (List.replicate w.length 0)
def di(w:List Int):List Int×Bool:=if isWord w=true∧gR w=true then(zg w,true)else([],false)
theorem oL(w:List Int):(zg w).length=w.length:=by unfold zg;rw[zR,List.length_replicate]
section
variable {w : List Int} (h : isWord w = true) (ho : gR w = true)
include h ho
theorem mo:w.Nodup∧(∀x∈w,1≤x∧x≤w.length)∧ ∀v,1≤v→v≤(w.length:Int)→v∈w:=by
 obtain⟨h1,h2⟩:=g6 h
 obtain⟨a,b⟩:=(og fun x hx=>(h2 x hx).1).1 ho
 exact⟨a,fun x hx=>⟨(h2 x hx).1,b x hx⟩,fun v v1 v2=>lQ.1 ho v (iQ.2 ⟨v1,v2⟩)⟩
theorem wD(i:Nat)(hi:i<w.length):(zg w).getD (w.getD i 0-1).toNat 0=((i+1:Nat):Int):=by
 obtain⟨a,b,_⟩:=mo h ho
 have:=(zj w 0 (List.replicate w.length 0) a (fun x hx=>by rw[List.length_replicate];exact b x hx)).1 i hi
 rw[Nat.zero_add]at this
 exact this
theorem FO:Tr (plk w 0) (plk (zg w) 0):=by
 obtain⟨a,b,c⟩:=mo h ho
 refine⟨vV _ _,vV _ _,?_⟩
 have nd: ∀l:List (Int×Int),(l.Pairwise fun p q=>p.1<q.1)→l.Nodup:=fun l hl=>hl.imp fun{p q} hpq e=>by rw[e]at hpq;omega
 have n2:((plk w 0).map Prod.swap).Nodup:=by
  refine(List.pairwise_map.2 ((nd _ (vV w 0)).imp fun{p q} hpq e=>hpq ?_))
  have:=congrArg Prod.swap e
  simpa using this
 refine(List.perm_ext_iff_of_nodup (nd _ (vV _ 0)) n2).2 fun p=> ?_
 rw[sf,List.mem_map]
 rw[oL]
 constructor
 ·rintro⟨v,hv,rfl⟩
  obtain⟨i,hi,e⟩:=List.getElem_of_mem (c ((v+1:Nat):Int) (by omega) (by omega))
  rw[←aw hi 0]at e
  have hg:=wD h ho i hi
  rw[e,show(((v+1:Nat):Int)-1).toNat=v by omega]at hg
  refine⟨(((0+i+1:Nat):Int),w.getD i 0),(sf _ _ _).2 ⟨i,hi,rfl⟩,?_⟩
  rw[e,hg,Nat.zero_add,Nat.zero_add]
  rfl
 ·rintro⟨q,hq,rfl⟩
  obtain⟨i,hi,rfl⟩:=(sf _ _ _).1 hq
  have hb:=b (w.getD i 0) (by rw[aw hi];exact List.getElem_mem hi)
  refine⟨(w.getD i 0-1).toNat,by omega,?_⟩
  rw[wD h ho i hi,Nat.zero_add,Nat.zero_add]
  show(w.getD i 0,((i+1:Nat):Int))=_
  congr 1
  omega
theorem Ez:fN (zg w) []=nH w [] [] 0:=by
 have:=Er _ _ _ rfl (FO h ho)
 rwa [Eb,zb]at this
theorem Ej:isWord (zg w)=true:=by
 obtain⟨a,b,c⟩:=mo h ho
 obtain⟨h1,h2⟩:=g6 h
 simp only[isWord,Bool.and_eq_true,decide_eq_true_eq,List.all_eq_true,within,oL]
 refine⟨h1,fun z hz=> ?_⟩
 obtain⟨v,hv,rfl⟩:=List.getElem_of_mem hz
 rw[oL]at hv
 obtain⟨i,hi,e⟩:=List.getElem_of_mem (c ((v+1:Nat):Int) (by omega) (by omega))
 rw[←aw hi 0]at e
 have hg:=wD h ho i hi
 rw[e,show(((v+1:Nat):Int)-1).toNat=v by omega,aw (by rw[oL];exact hv)]at hg
 rw[hg]
 omega
theorem AK:j3 (di w).1=((fy w).1,true):=by
 unfold di
 rw[if_pos ⟨h,ho⟩]
 show j3 (zg w)=_
 unfold j3 fy
 rw[if_pos h,if_pos (Ej h ho),Ez h ho]
end
def plc(w:List Int)(i:Nat):Nat:=((List.range w.length).filter fun k=>decide (w.getD k 0<w.getD i 0)||(decide (w.getD k 0=w.getD i 0)&&decide (k<i))).length
def vD(w:List Int):List Int:=if isWord w=true then(List.range w.length).map fun i=>((plc w i+1:Nat):Int)else []
theorem Ae{w:List Int}(h:isWord w=true):(vD w).length=w.length:=by unfold vD;rw[if_pos h];simp
theorem zX{w:List Int}(h:isWord w=true){i:Nat}(hi:i<w.length):(vD w).getD i 0=((plc w i+1:Nat):Int):=by
 unfold vD
 rw[if_pos h,aw (by simpa using hi)]
 simp
theorem filter_lt{α:Type}{p q:α→Bool}: ∀{l:List α},(∀x∈l,p x=true→q x=true)→(∃x∈l,p x=false∧q x=true)→(l.filter p).length<(l.filter q).length
 | [],_,⟨x,h,_⟩=>by cases h
 |y::l,h,he=>by
  have hle: ∀(l:List α),(∀x∈l,p x=true→q x=true)→(l.filter p).length≤(l.filter q).length:=fun l=>by
   induction l with
   |nil=>intro _;simp
   |cons z l ih=>
    intro h
    have:=ih fun x hx=>h x (List.mem_cons_of_mem _ hx)
    have hz:=h z (List.mem_cons_self ..)
    cases hp:p z with
    |false=>rw[List.filter_cons_of_neg (by simp[hp])];cases hq:q z with
     |false=>rw[List.filter_cons_of_neg (by simp[hq])];exact this
     |true=>rw[List.filter_cons_of_pos hq];simp;omega
    |true=>rw[List.filter_cons_of_pos hp,List.filter_cons_of_pos (hz hp)];simp;omega
  obtain⟨x,hx,h1,h2⟩:=he
  have hl:=hle l fun x hx=>h x (List.mem_cons_of_mem _ hx)
  rcases List.mem_cons.1 hx with rfl|hx
  ·rw[List.filter_cons_of_neg (by simp[h1]),List.filter_cons_of_pos h2];simp;omega
  ·have ih:=filter_lt (l:=l) (fun x hx=>h x (List.mem_cons_of_mem _ hx)) ⟨x,hx,h1,h2⟩
   have hy:=h y (List.mem_cons_self ..)
   cases hp:p y with
   |false=>rw[List.filter_cons_of_neg (by simp[hp])];cases hq:q y with
    |false=>rw[List.filter_cons_of_neg (by simp[hq])];exact ih
    |true=>rw[List.filter_cons_of_pos hq];simp;omega
   |true=>rw[List.filter_cons_of_pos hp,List.filter_cons_of_pos (hy hp)];simp;omega
theorem CX{w:List Int}{i:Nat}(hi:i<w.length):plc w i<w.length:=by
 have:=filter_lt (l:=List.range w.length) (p:=fun k=>decide (w.getD k 0<w.getD i 0)||(decide (w.getD k 0=w.getD i 0)&&decide (k<i))) (q:=fun _=>true) (fun _ _ _=>rfl)
  ⟨i,List.mem_range.2 hi,by simp,rfl⟩
 rw[List.filter_eq_self.2 fun _ _=>rfl,List.length_range]at this
 exact this
theorem Fe{w:List Int}{i j:Nat}(hi:i<w.length)(hj:j<w.length)(hne:i≠j):plc w i≠plc w j:=by
 have key: ∀i j,i<w.length→j<w.length→(w.getD i 0<w.getD j 0∨(w.getD i 0=w.getD j 0∧i<j))→plc w i<plc w j:=fun i j hi hj h=>by
  refine filter_lt (fun k _ hk=> ?_) ⟨i,List.mem_range.2 hi,by simp,?_⟩
  ·simp only[Bool.or_eq_true,Bool.and_eq_true,decide_eq_true_eq]at hk⊢
   omega
  ·simp only[Bool.or_eq_true,Bool.and_eq_true,decide_eq_true_eq];exact h
 rcases Int.lt_trichotomy (w.getD i 0) (w.getD j 0)with h|h|h
 ·have:=key i j hi hj (.inl h);omega
 ·rcases Nat.lt_or_gt_of_ne hne with h'|h'
  ·have:=key i j hi hj (.inr ⟨h,h'⟩);omega
  ·have:=key j i hj hi (.inr ⟨h.symm,h'⟩);omega
 ·have:=key j i hj hi (.inl h);omega
theorem CC(w:List Int):(List.range w.length).map (fun k=>w.getD k 0)=w:=by
 apply List.ext_getElem
 ·simp
 ·intro i h1 h2
  simp only[List.getElem_map,List.getElem_range]
  rw[aw h2]
theorem ET{w:List Int}(h:isWord w=true):vD w=w↔gR w=true:=by
 obtain⟨h1,h2⟩:=g6 h
 constructor
 ·intro e
  refine(og fun x hx=>(h2 x hx).1).2 ⟨?_,fun x hx=> ?_⟩
  ·rw[←e]
   unfold vD
   rw[if_pos h]
   refine List.pairwise_map.2 ?_
   refine List.Pairwise.imp_of_mem (fun{a b} ha hb hab e=> ?_) List.nodup_range
   have:=Fe (List.mem_range.1 ha) (List.mem_range.1 hb) hab
   omega
  ·obtain⟨i,hi,rfl⟩:=List.getElem_of_mem hx
   have hg:=zX h hi
   rw[e,aw hi]at hg
   have:=CX hi
   omega
 ·intro ho
  obtain⟨a,b,c⟩:=mo h ho
  apply List.ext_getElem (Ae h)
  intro i h3 h4
  rw[←aw h3 0,zX h h4]
  have hv:=b (w[i]) (List.getElem_mem h4)
  have hcnt:plc w i=(w.filter fun z=>decide (z<w[i])).length:=by
   conv=>rhs;rw[show w.filter (fun z=>decide (z<w[i]))=((List.range w.length).map fun k=>w.getD k 0).filter (fun z=>decide (z<w[i])) by rw[CC],List.filter_map,List.length_map]
   unfold plc
   congr 1
   apply List.filter_congr
   intro k hk
   have hk:=List.mem_range.1 hk
   simp only[Function.comp,aw hk,aw h4]
   by_cases hki:k<i
   ·have: ¬w[k]=w[i]:=List.pairwise_iff_getElem.1 a k i hk h4 hki
    simp[this]
   ·simp[hki]
  have hperm:(w.filter fun z=>decide (z<w[i])).Perm (mr (w[i]-1).toNat):=by
   refine(List.perm_ext_iff_of_nodup (a.filter _) (qG _)).2 fun z=> ?_
   rw[List.mem_filter,iQ,decide_eq_true_eq]
   constructor
   ·rintro⟨z1,z2⟩;have:=b z z1;omega
   ·rintro⟨z1,z2⟩;exact⟨c z z1 (by omega),by omega⟩
  have:=hperm.length_eq
  rw[mz]at this
  rw[hcnt,this]
  omega
end Go.Am.Pu
end
section
/- Standardization step by step; what the law of the pairs wants, with no program in sight. -/
namespace Go.Am.Pu
set_option linter.unusedSimpArgs false
set_option linter.unusedVariables false
def pc(w:List Int)(i q:Nat):Nat:=((List.range q).filter fun k=>decide (w.getD k 0<w.getD i 0)||(decide (w.getD k 0=w.getD i 0)&&decide (k<i))).length
theorem Hl(w:List Int)(i q:Nat):pc w i q≤q:=by
 have:=List.length_filter_le (fun k=>decide (w.getD k 0<w.getD i 0)||(decide (w.getD k 0=w.getD i 0)&&decide (k<i))) (List.range q)
 rw[List.length_range]at this
 exact this
theorem Hw{w:List Int}{i q:Nat}(h:w.getD q 0<w.getD i 0):pc w i (q+1)=pc w i q+1:=by
 simp only[pc,List.range_succ,List.filter_append,h,List.filter_cons,decide_true,Bool.true_or,List.filter_nil,if_true,List.length_append,List.length_singleton]
theorem Ho{w:List Int}{i q:Nat}(h:w.getD q 0=w.getD i 0):pc w i (q+1)=pc w i q+(if decide ((q:Int)<(i:Int))=true then 1 else 0):=by
 have e:decide ((q:Int)<(i:Int))=decide (q<i):=by simp
 rw[e]
 simp only[pc,List.range_succ,List.filter_append,h,List.filter_cons,decide_true,Int.lt_irrefl,decide_false,Bool.false_or,Bool.true_and,List.filter_nil,List.length_append]
 cases decide (q<i)<;>rfl
theorem He{w:List Int}{i q:Nat}(h: ¬w.getD q 0<w.getD i 0)(h': ¬w.getD q 0=w.getD i 0):pc w i (q+1)=pc w i q:=by
 simp only[pc,List.range_succ,List.filter_append,h,h',List.filter_cons,decide_false,Bool.false_and,Bool.or_false,List.filter_nil,List.append_nil,Bool.false_eq_true,if_false]
theorem F8(w:List Int)(i:Nat):pc w i w.length=plc w i:=rfl
def pX(w:List Int):Bool:=(di w).2&&decide ((di w).1=w)
theorem uw(w:List Int):(di w).1.length≤w.length:=by
 unfold di
 by_cases c:isWord w=true∧gR w=true
 ·rw[if_pos c];exact Nat.le_of_eq (oL w)
 ·rw[if_neg c];exact Nat.zero_le _
end Go.Am.Pu
end
