/- Plain laws of lists, partitions, shapes and tableaux; no program in sight. -/
import Derived.Test.YtlfpegcoaebmkaaAmP
set_option linter.unusedSimpArgs false
set_option linter.unusedVariables false
set_option linter.unnecessarySimpa false
set_option linter.unusedSectionVars false
section
/- Rules for loops over data: a loop that looks at all, a loop that folds. -/
namespace Go.Am.Pu
open Go.Am
theorem w64{n:Int}(h1: -9223372036854775808≤n)(h2:n≤9223372036854775807):IntKind.i64.wrap n=n:=Go.Am.w64 h1 h2
theorem ju{R:Type}(L:Nat→Nat→Option R)(n:Nat)(p:Nat→Bool)(bad y0:Option R)
  (hs: ∀j i,i<n→L (j+1) i=if p i=true then L j (i+1)else bad) (he: ∀j,L (j+1) n=y0):
  ∀(m j i:Nat),i+m=n→m<j→L j i=if(List.range' i m).all p=true then y0 else bad
 |m,0,i,_,h=>by omega
 |0,j+1,i,h,_=>by
  have:i=n:=by omega
  subst this
  rw[he];rfl
 |m+1,j+1,i,h,hj=>by
  rw[hs j i (by omega),ju L n p bad y0 hs he m j (i+1) (by omega) (by omega),List.range'_succ,List.all_cons]
  cases p i
  ·rw[if_neg (by simp),Bool.false_and,if_neg (by simp)]
  ·rw[if_pos rfl,Bool.true_and]
theorem ef{p:Nat→Bool}{n:Nat}:(List.range' 0 n).all p=true↔ ∀i,i<n→p i=true:=by
 simp[List.all_eq_true,List.mem_range'_1]
theorem aE{α:Type}{xs:List α}{i:Nat}(h:i<xs.length)(d:α):xs.getD i d=xs[i]:=by
 simp only[List.getD_eq_getElem?_getD,List.getElem?_eq_getElem h,Option.getD_some]
theorem bC{α:Type}{xs:List α}{i:Nat}(h:xs.length≤i)(d:α):xs.getD i d=d:=by
 simp only[List.getD_eq_getElem?_getD,List.getElem?_eq_none h,Option.getD_none]
theorem drop_cons{α:Type}{xs:List α}{i:Nat}(h:i<xs.length)(d:α):xs.drop i=xs.getD i d::xs.drop (i+1):=by
 rw[aE h,List.drop_eq_getElem_cons h]
theorem take_succ{α:Type}{xs:List α}{i:Nat}(h:i<xs.length)(d:α):xs.take (i+1)=xs.take i++ [xs.getD i d]:=by
 rw[aE h,List.take_succ_eq_append_getElem h]
theorem sQ{α:Type}{xs:List α}{i:Nat}(h:i<xs.length)(d z:α):(xs.take i++List.replicate (xs.length-i) z).set i (xs.getD i d)=xs.take (i+1)++List.replicate (xs.length-(i+1)) z:=by
 have e:xs.length-i=xs.length-(i+1)+1:=by omega
 rw[take_succ h d,e,List.replicate_succ,List.set_append_right _ _ (by simp;omega)]
 simp[Nat.min_eq_left (Nat.le_of_lt h)]
end Go.Am.Pu
end
section
/- Marking memory and looking whether the marks are held. -/
namespace Go.Am.Pu
def held:List Int→Int→Int
 | [],q=>q
 |x::xs,q=>if x=q then held xs (q+1)else-1
def mark:List Int→Int→List Int
 | [],_=> []
 |_::xs,q=>q::mark xs (q+1)
theorem kt: ∀(xs:List Int) (q:Int),(mark xs q).length=xs.length
 | [],_=>rfl
 |_::xs,q=>by simp[mark,kt xs]
theorem om: ∀(xs:List Int) (q:Int),held (mark xs q) q=q+xs.length
 | [],q=>by simp[mark,held]
 |_::xs,q=>by
  simp only[mark,held,if_true,List.length_cons]
  rw[om xs]
  omega
theorem ud: ∀(xs:List Int) (q:Int),0≤q→held xs q≤q+xs.length
 | [],q,_=>by simp[held]
 |x::xs,q,h=>by
  simp only[held,List.length_cons]
  split
  ·have:=ud xs (q+1) (by omega)
   omega
  ·omega
def iG:List (List Int)→Int→Int
 | [],q=>q
 |x::xs,q=>if held x q<0 then-1 else iG xs (held x q)
theorem sX: ∀(xs:List (List Int)) (q:Int),0≤q→iG xs q<0→iG xs q= -1
 | [],q,_,h'=>by simp[iG]at h';omega
 |x::xs,q,h,h'=>by
  simp only[iG]at h'⊢
  split
  ·rfl
  ·next e=>rw[if_neg e]at h';exact sX xs _ (by omega) h'
def g9:List (List Int)→Int→List (List Int)
 | [],_=> []
 |x::xs,q=>mark x q::g9 xs (q+x.length)
def dw:List (List Int)→Nat
 | []=>0
 |x::xs=>x.length+dw xs
theorem qs: ∀(xs:List (List Int)) (n:Nat),(∀x∈xs,x.length≤n)→dw xs≤xs.length*n
 | [],n,_=>by simp[dw]
 |x::xs,n,h=>by
  have h1:=h x (by simp)
  have h2:=qs xs n fun y hy=>h y (by simp[hy])
  simp only[dw,List.length_cons,Nat.succ_mul]
  omega
theorem oK{xs:List (List Int)}(h:xs.length≤1048576)(hr: ∀x∈xs,x.length≤1048576):dw xs≤1099511627776:=by
 have h1:=qs xs 1048576 hr
 have h2:xs.length*1048576≤1048576*1048576:=Nat.mul_le_mul_right _ h
 omega
theorem xP{xs:List (List Int)}{q:Int}{n:Nat}(h: ∀x∈xs,x.length≤n): ∀y∈g9 xs q,y.length≤n:=by
 induction xs generalizing q with
 |nil=>intro y hy;cases hy
 |cons x xs ih=>
  intro y hy
  simp only[g9,List.mem_cons]at hy
  rcases hy with rfl|hy
  ·rw[kt];exact h x (by simp)
  ·exact ih (fun z hz=>h z (by simp[hz])) y hy
theorem qS: ∀(xs:List (List Int)) (q:Int),dw (g9 xs q)=dw xs
 | [],_=>rfl
 |x::xs,q=>by simp[g9,dw,kt,qS xs]
theorem sN: ∀(xs:List (List Int)) (q:Int),(g9 xs q).length=xs.length
 | [],_=>rfl
 |_::xs,q=>by simp[g9,sN xs]
theorem rV: ∀(xs:List (List Int)) (q:Int),0≤q→iG (g9 xs q) q=q+dw xs
 | [],q,_=>by simp[g9,iG,dw]
 |x::xs,q,h=>by
  simp only[g9,iG,dw]
  rw[om,if_neg (by omega),rV xs _ (by omega)]
  omega
end Go.Am.Pu
end
section
/- Partitions, shapes and tableaux as plain words. -/
namespace Go.Am.Pu
def within(x lo hi:Int):Bool:=decide (lo≤x)&&decide (x≤hi)
def atI(p:List Int)(i:Int):Int:=if i<0 then 0 else p.getD i.toNat 0
theorem dH(p:List Int)(i:Nat):atI p (i:Int)=p.getD i 0:=by simp[atI];omega
theorem pX{p:List Int}{i:Int}(h:i<0):atI p i=0:=by simp[atI,h]
theorem wh{p:List Int}{i:Int}(h:(p.length:Int)≤i):atI p i=0:=by
 unfold atI
 split
 ·rfl
 ·exact bC (by omega) 0
def eM:List Int→Int→Int→Bool
 | [],_,_=>true
 |x::xs,prev,s=>decide (1≤x)&&(decide (x≤prev)&&(decide (s+x≤9)&&eM xs x (s+x)))
def bI(p:List Int):Bool:=eM p 9 0
def gD:List Int→Int
 | []=>0
 |x::xs=>x+gD xs
theorem o5: ∀(p:List Int) (prev s:Int),eM p prev s=true→(∀x∈p,1≤x∧x≤prev)∧(p≠ []→s+gD p≤9)∧(p.length:Int)≤gD p
 | [],prev,s,_=>⟨fun x h=>(by cases h),fun h=>absurd rfl h,(by simp[gD])⟩
 |x::xs,prev,s,h=>by
  simp only[eM,Bool.and_eq_true,decide_eq_true_eq]at h
  obtain⟨h1,h2,h3,h4⟩:=h
  obtain⟨k1,k2,k3⟩:=o5 xs x (s+x) h4
  refine⟨fun y hy=> ?_,fun _=> ?_,?_⟩
  ·rcases List.mem_cons.1 hy with rfl|hy
   ·exact⟨h1,h2⟩
   ·have:=k1 y hy;omega
  ·simp only[gD]
   by_cases e:xs= []
   ·subst e;simp[gD];omega
   ·have:=k2 e;omega
  ·simp only[gD,List.length_cons];omega
theorem b9{p:List Int}(h:bI p=true):(∀x∈p,1≤x∧x≤9)∧gD p≤9∧p.length≤9∧(p.length:Int)≤gD p:=by
 obtain⟨h1,h2,h3⟩:=o5 p 9 0 h
 have:gD p≤9:=by
  by_cases e:p= []
  ·subst e;simp[gD]
  ·have:=h2 e;omega
 exact⟨h1,this,by omega,h3⟩
theorem fS{p:List Int}(h:bI p=true)(i:Int):0≤atI p i∧atI p i≤9:=by
 unfold atI
 split
 ·omega
 ·by_cases hl:i.toNat<p.length
  ·rw[aE hl]
   have:=(b9 h).1 _ (List.getElem_mem hl)
   omega
  ·rw[bC (by omega)];omega
def cy(q p:List Int):Bool:=bI q&&(bI p&&(decide (q.length≤p.length)&&(List.range' 0 q.length).all fun i=>decide (q.getD i 0≤p.getD i 0)))
theorem vS{q p:List Int}(hq:bI q=true)(h:(List.range' 0 q.length).all (fun i=>decide (q.getD i 0≤p.getD i 0))=true):q.length≤p.length:=by
 rw[ef]at h
 refine Nat.le_of_not_lt fun hlt=> ?_
 have h1:=h p.length hlt
 rw[decide_eq_true_eq,bC (Nat.le_refl _),aE hlt]at h1
 have:=(b9 hq).1 _ (List.getElem_mem hlt)
 omega
theorem vm{q p:List Int}:cy q p=(bI q&&(bI p&&(List.range' 0 q.length).all fun i=>decide (q.getD i 0≤p.getD i 0))):=by
 unfold cy
 cases hq:bI q with
 |false=>rfl
 |true=>
  cases hp:bI p with
  |false=>rfl
  |true=>
   simp only[Bool.true_and]
   cases ha:(List.range' 0 q.length).all fun i=>decide (q.getD i 0≤p.getD i 0)with
   |false=>simp
   |true=>simp[vS hq ha]
def dN(inner:List Int):Nat→List (List Int)→List Int
 |_,[]=> []
 |i,r::rs=>(inner.getD i 0+r.length)::dN inner (i+1) rs
theorem iQ(inner:List Int): ∀(rs:List (List Int)) (i:Nat),(dN inner i rs).length=rs.length
 | [],_=>rfl
 |_::rs,i=>by simp[dN,iQ inner rs]
theorem gA(inner:List Int): ∀(rs:List (List Int)) (i q:Nat),q<rs.length→(dN inner i rs).getD q 0=inner.getD (i+q) 0+(rs.getD q []).length
 | [],i,q,h=>by simp at h
 |r::rs,i,0,_=>by simp[dN]
 |r::rs,i,q+1,h=>by
  have:=gA inner rs (i+1) q (by simpa using h)
  simp only[dN,List.getD_cons_succ]
  rw[this]
  have e:i+1+q=i+(q+1):=by omega
  rw[e]
abbrev Tab:=List Int×List (List Int)
def outer(t:Tab):List Int:=dN t.1 0 t.2
def cb(t:Tab):Bool:=bI t.1&&(decide (t.1.length≤t.2.length)&&cy t.1 (outer t))
def shapeOf(t:Tab):(List Int×List Int)×Bool:=if cb t=true then((outer t,t.1),true)else(([],[]),false)
theorem vz{t:Tab}(h:cb t=true):t.2.length≤9:=by
 simp only[cb,cy,Bool.and_eq_true]at h
 have:=(b9 h.2.2.2.1).2.2.1
 rw[outer,iQ]at this
 exact this
def entry(t:Tab)(r c:Int):Int:=if r<0 then 0 else if(t.2.length:Int)≤r then 0 else atI (t.2.getD r.toNat []) (c-atI t.1 r)
theorem oz{t:Tab}{r:Nat}(h:r<t.2.length)(c:Int):entry t r c=atI (t.2.getD r []) (c-t.1.getD r 0):=by
 unfold entry
 rw[if_neg (by omega),if_neg (by omega),dH]
 rfl
theorem yH{t:Tab}{r c:Int}(h:r<0):entry t r c=0:=by unfold entry;rw[if_pos h]
theorem uq{t:Tab}{r q:Nat}(h:r<t.2.length):entry t r (t.1.getD r 0+q)=(t.2.getD r []).getD q 0:=by
 rw[oz h]
 have e:t.1.getD r 0+(q:Int)-t.1.getD r 0=q:=by omega
 rw[e,dH]
theorem wg{t:Tab}{r q:Nat}(h:r<t.2.length):entry t r (t.1.getD r 0+q-1)=if q=0 then 0 else(t.2.getD r []).getD (q-1) 0:=by
 rw[oz h]
 by_cases e:q=0
 ·subst e
  rw[if_pos rfl,pX (by omega)]
 ·rw[if_neg e]
  have e:t.1.getD r 0+(q:Int)-1-t.1.getD r 0=((q-1:Nat):Int):=by omega
  rw[e,dH]
def eT(t:Tab)(i k:Nat):Bool:=within ((t.2.getD i []).getD k 0) 1 9&&((decide (k=0)||decide ((t.2.getD i []).getD (k-1) 0≤(t.2.getD i []).getD k 0))&&
 (decide (i=0)||decide (entry t ((i:Int)-1) (t.1.getD i 0+k)<(t.2.getD i []).getD k 0)))
def g8(t:Tab):Bool:=cb t&&(List.range' 0 t.2.length).all fun i=>(List.range' 0 (t.2.getD i []).length).all fun k=>eT t i k
def aX(t:Tab):Bool:=g8 t&&decide (t.1.length=0)
theorem td{t:Tab}(h:g8 t=true):cb t=true:=by
 simp only[g8,Bool.and_eq_true]at h;exact h.1
theorem mu(inner:List Int): ∀(rs:List (List Int)) (i:Nat),(∀q,i≤q→inner.getD q 0=0)→gD (dN inner i rs)=rs.flatten.length
 | [],i,_=>rfl
 |r::rs,i,h=>by
  simp only[dN,gD,List.flatten_cons,List.length_append]
  rw[mu inner rs (i+1) (fun q hq=>h q (by omega)),h i (Nat.le_refl _)]
  omega
theorem rk{t:Tab}(h:aX t=true):t.2.flatten.length≤9:=by
 simp only[aX,Bool.and_eq_true,decide_eq_true_eq]at h
 have hs:=td h.1
 simp only[cb,cy,Bool.and_eq_true]at hs
 have h9:=(b9 hs.2.2.2.1).2.1
 have:t.1= []:=List.eq_nil_of_length_eq_zero h.2
 rw[outer,mu t.1 t.2 0 (fun q _=>by rw[this];rfl)]at h9
 omega
def bT:List (List Int)→Int→List (List Int)×Nat
 | [],x=>([[x]],0)
 |r::rs,x=>if r.findIdx (fun n=>decide (x<n))<r.length
   then(r.set (r.findIdx fun n=>decide (x<n)) x::(bT rs (r.getD (r.findIdx fun n=>decide (x<n)) 0)).1,(bT rs (r.getD (r.findIdx fun n=>decide (x<n)) 0)).2+1)
   else((r++ [x])::rs,0)
def lu(t:Tab):Prop:=t.1.length≤1048576∧t.2.length≤1048576∧ ∀x∈t.2,x.length≤1048576
theorem lu.nil:lu ([],[]):=⟨by simp,by simp,fun x h=>by cases h⟩
theorem qU: ∀{rs:List (List Int)} {r:List Int},r∈rs→r.length≤rs.flatten.length
 |q::rs,r,h=>by
  simp only[List.flatten_cons,List.length_append]
  rcases List.mem_cons.1 h with rfl|h
  ·omega
  ·have:=qU h;omega
theorem wN{p:Int→Bool}{r:List Int}(h:r.findIdx p<r.length):p (r.getD (r.findIdx p) 0)=true:=by
 rw[aE h];exact List.findIdx_getElem
end Go.Am.Pu
end
section
/- Standard tableaux, weights, descents: plain words. -/
namespace Go.Am.Pu
def AX{α:Type}(p:α→Bool)(r:List α):Int:=if r.findIdx p<r.length then(r.findIdx p:Int)else-1
def has(l:List Int)(x:Int):Bool:=l.any fun y=>decide (x=y)
theorem pW{l:List Int}{x:Int}:has l x=true↔x∈l:=by
 simp[has,List.any_eq_true]
def kL(l:List Int):Bool:=(List.range' 0 l.length).all fun i=>has l ((i:Int)+1)
theorem pT: ∀(R l:List Int),R.Nodup→(∀x∈R,x∈l)→R.length≤l.length
 | [],l,_,_=>by simp
 |x::R,l,hn,h=>by
  rw[List.nodup_cons]at hn
  have hx:=h x (by simp)
  have:=pT R (l.erase x) hn.2 fun y hy=>(List.mem_erase_of_ne fun(e:y=x)=>hn.1 (e▸hy)).2 (h y (by simp[hy]))
  rw[List.length_erase_of_mem hx]at this
  have:0<l.length:=List.length_pos_of_mem hx
  simp only[List.length_cons]
  omega
def sh(n:Nat):List Int:=(List.range n).map fun(i:Nat)=>(i:Int)+1
theorem fR{n:Nat}{x:Int}:x∈sh n↔1≤x∧x≤n:=by
 simp only[sh,List.mem_map,List.mem_range]
 constructor
 ·rintro⟨i,h,rfl⟩;omega
 ·rintro⟨h1,h2⟩;exact⟨(x-1).toNat,by omega,by omega⟩
theorem qx(n:Nat):(sh n).Nodup:=by
 unfold sh
 refine List.Pairwise.map _ (fun(a b:Nat) (h:a≠b)=> ?_) List.nodup_range
 intro e
 exact h (by omega)
theorem rp(n:Nat):(sh n).length=n:=by simp[sh]
theorem jy{l:List Int}:kL l=true↔ ∀x∈sh l.length,x∈l:=by
 unfold kL
 rw[ef]
 constructor
 ·intro h x hx
  rw[fR]at hx
  have:=h (x-1).toNat (by omega)
  rw[pW]at this
  have e:(((x-1).toNat:Nat):Int)+1=x:=by omega
  rw[e]at this;exact this
 ·intro h i hi
  rw[pW]
  exact h _ (fR.2 (by omega))
theorem wZ{l:List Int}(h1: ∀x∈l,1≤x):kL l=true↔l.Nodup∧ ∀x∈l,x≤l.length:=by
 rw[jy]
 constructor
 ·intro h
  refine⟨?_,fun x hx=> ?_⟩
  ·
   refine Classical.byContradiction fun hn=> ?_
   have: ∃x,x∈l∧x∈l.erase x:=by
    have key: ∀l:List Int,¬l.Nodup→ ∃x,x∈l∧x∈l.erase x:=by
     intro l
     induction l with
     |nil=>intro h;exact absurd List.nodup_nil h
     |cons a l ih=>
      intro h
      by_cases ha:a∈l
      ·exact⟨a,by simp,by simpa using ha⟩
      ·have: ¬l.Nodup:=fun hl=>h (List.nodup_cons.2 ⟨ha,hl⟩)
       obtain⟨x,h1,h2⟩:=ih this
       refine⟨x,by simp[h1],?_⟩
       have hne:a≠x:=fun e=>ha (e▸h1)
       rw[List.erase_cons_tail (by simpa using hne)]
       exact List.mem_cons_of_mem _ h2
    exact key l hn
   obtain⟨x,hx,hx2⟩:=this
   have:=pT (sh l.length) (l.erase x) (qx _) fun y hy=>by
    by_cases e:y=x
    ·rw[e];exact hx2
    ·exact(List.mem_erase_of_ne e).2 (h y hy)
   rw[rp,List.length_erase_of_mem hx]at this
   have:0<l.length:=List.length_pos_of_mem hx
   omega
  ·refine Int.not_lt.1 fun hlt=> ?_
   have:=pT (sh l.length) (l.erase x) (qx _) fun y hy=>by
    have hy':=fR.1 hy
    exact(List.mem_erase_of_ne (by omega)).2 (h y hy)
   rw[rp,List.length_erase_of_mem hx]at this
   have:0<l.length:=List.length_pos_of_mem hx
   omega
 ·rintro⟨hn,hb⟩ x hx
  refine Classical.byContradiction fun hxl=> ?_
  have:=pT (x::l) (sh l.length) (List.nodup_cons.2 ⟨hxl,hn⟩) fun y hy=>by
   rcases List.mem_cons.1 hy with rfl|hy
   ·exact hx
   ·exact fR.2 ⟨h1 y hy,hb y hy⟩
  rw[rp,List.length_cons]at this
  omega
theorem ux{t:Tab}(h:g8 t=true): ∀x∈t.2.flatten,1≤x∧x≤9:=by
 intro x hx
 simp only[g8,Bool.and_eq_true]at h
 obtain⟨r,hr,hxr⟩:=List.mem_flatten.1 hx
 obtain⟨i,hi,e⟩:=List.mem_iff_getElem.1 hr
 obtain⟨q,hq,e2⟩:=List.mem_iff_getElem.1 hxr
 have h1:=ef.1 h.2 i hi
 rw[aE hi,e]at h1
 have h2:=ef.1 h1 q hq
 simp only[eT,within,Bool.and_eq_true,decide_eq_true_eq]at h2
 rw[aE hi,e,aE hq,e2]at h2
 exact h2.1
def gJ(t:Tab):Bool:=g8 t&&kL t.2.flatten
def rowOf(t:Tab)(n:Int):Int:=AX (fun r=>has r n) t.2
end Go.Am.Pu
end
section
/- Plain laws of draws, and of boxes. -/
namespace Go.Am.Pu
open Go Go.Am
attribute [local instance] D.real
theorem dW{α:Type}(a b:Int)(x y:Option α):D.test (D.lt a b) x y=if a<b then x else y:=by
 show(if decide (a<b)=true then x else y)=_
 simp only[decide_eq_true_eq]
def tQ (p : List Int) (r : Int) : List Int × Bool :=
  if bI p = true ∧ 0 ≤ r ∧ r ≤ p.length then
    (let q := if r = p.length then p ++ [0] else p
     let o := q.set r.toNat (q.getD r.toNat 0 + 1)
     if bI o = true then (o, true) else ([], false))
  else ([], false)
end Go.Am.Pu
end
section
/- Steps over equations: what a word comes to, told by what must hold of it. -/
namespace Go.Am.Pu
open Go Go.Am
attribute [local instance] D.real
section
variable {α β : Type}
def Ok(x:Option α)(Q:α→Prop):Prop:= ∃y,x=some y∧Q y
theorem Ok.ret{y:α}{Q:α→Prop}(h:Q y):Ok (some y) Q:=⟨y,rfl,h⟩
theorem Ok.mono{x:Option α}{P Q:α→Prop}(h:Ok x P)(g: ∀y,P y→Q y):Ok x Q:=
 let⟨y,e,hp⟩:=h
 ⟨y,e,g y hp⟩
theorem Ok.bnd{x:Option α}{f:α→Option β}{P:α→Prop}{Q:β→Prop}(h:Ok x P)(g: ∀y,P y→Ok (f y) Q):Ok (D.bnd x f) Q:=by
 obtain⟨y,e,hp⟩:=h
 rw[e]
 exact g y hp
theorem Ok.t{p:Prop} [Decidable p]{x y:Option α}{Q:α→Prop}(h1:p→Ok x Q)(h2: ¬p→Ok y Q):Ok (D.test (decide p) x y) Q:=by
 show Ok (if decide p=true then x else y) Q
 by_cases h:p
 ·rw[if_pos (decide_eq_true h)];exact h1 h
 ·rw[if_neg (by rw[decide_eq_false h];simp)];exact h2 h
theorem Ok.tb{b:Bool}{x y:Option α}{Q:α→Prop}(h1:b=true→Ok x Q)(h2:b=false→Ok y Q):Ok (D.test b x y) Q:=by
 cases b
 ·exact h2 rfl
 ·exact h1 rfl
theorem Ok.g{p:Prop} [Decidable p]{x y:Option α}{Q:α→Prop}(h:p)(g:Ok x Q):Ok (D.test (decide p) x y) Q:=Ok.t (fun _=>g) (fun h'=>absurd h h')
theorem Ok.no{p:Prop} [Decidable p]{x y:Option α}{Q:α→Prop}(h: ¬p)(g:Ok y Q):Ok (D.test (decide p) x y) Q:=Ok.t (fun h'=>absurd h' h) (fun _=>g)
theorem Ok.some{x:Option α}{Q:α→Prop}(h:Ok x Q): ∃y,x=Option.some y:=let⟨y,e,_⟩:=h;⟨y,e⟩
end
def dB(n m:Nat)(rs:List (List Int)):Prop:=rs.length≤n∧ ∀r∈rs,r.length≤m
theorem dB.at{n m:Nat}{rs:List (List Int)}(h:dB n m rs)(i:Nat):(rs.getD i []).length≤m:=by
 by_cases hi:i<rs.length
 ·rw[aE hi];exact h.2 _ (List.getElem_mem hi)
 ·rw[bC (by omega)];simp
theorem dB.set{n m:Nat}{rs:List (List Int)}(h:dB n m rs)(i:Nat){r:List Int}(hr:r.length≤m):dB n m (rs.set i r):=by
 refine⟨by rw[List.length_set];exact h.1,fun x hx=> ?_⟩
 rcases List.mem_or_eq_of_mem_set hx with h'|rfl
 ·exact h.2 x h'
 ·exact hr
theorem dB.mono{n m n' m':Nat}{rs:List (List Int)}(h:dB n m rs)(hn:n≤n')(hm:m≤m'):dB n' m' rs:=
 ⟨Nat.le_trans h.1 hn,fun x hx=>Nat.le_trans (h.2 x hx) hm⟩
theorem dB.app{n m:Nat}{rs:List (List Int)}(h:dB n m rs){r:List Int}(hr:r.length≤m):dB (n+1) m (rs++ [r]):=by
 refine⟨by rw[List.length_append];simp;exact h.1,fun x hx=> ?_⟩
 rcases List.mem_append.1 hx with h'|h'
 ·exact h.2 x h'
 ·simp only[List.mem_singleton]at h';subst h';exact hr
end Go.Am.Pu
end
section
/- Corners; a number taken out of rows. Plain words. -/
namespace Go.Am.Pu
theorem og: ∀{p:List Int} {prev s:Int},eM p prev s=true→ ∀i,i+1<p.length→p.getD (i+1) 0≤p.getD i 0
 | [],_,_,_,i,h=>by simp at h
 | [x],_,_,_,i,h=>by simp at h
 |x::y::xs,prev,s,hp,i,h=>by
  simp only[eM,Bool.and_eq_true,decide_eq_true_eq]at hp
  cases i with
  |zero=>simpa using hp.2.2.2.2.1
  |succ i=>
   have h2:eM (y::xs) x (s+x)=true:=by
    simp only[eM,Bool.and_eq_true,decide_eq_true_eq]
    exact hp.2.2.2
   have:=og h2 i (by simpa using h)
   simpa using this
def j2(r:List Int)(y:Int):Nat→Option Nat
 |0=>none
 |i+1=>if r.getD i 0<y then some i else j2 r y i
theorem pB{r:List Int}{y:Int}: ∀{m q:Nat},j2 r y m=some q→q<m∧r.getD q 0<y
 |0,q,h=>by simp[j2]at h
 |m+1,q,h=>by
  unfold j2 at h
  split at h
  ·next hc=>injection h with h;subst h;exact⟨by omega,hc⟩
  ·have:=pB h;exact⟨by omega,this.2⟩
theorem sK{r:List Int}{y:Int}: ∀{m i:Nat},i<m→r.getD i 0<y→ ∃q,j2 r y m=some q
 |0,i,h,_=>by omega
 |m+1,i,h,hi=>by
  unfold j2
  split
  ·exact⟨_,rfl⟩
  ·next hc=>
   have:i≠m:=fun e=>hc (e▸hi)
   exact sK (by omega) hi
def kF:Nat→List (List Int)→Int→List (List Int)×Int
 |0,rs,y=>(rs,y)
 |r+1,rs,y=>match j2 (rs.getD r []) y (rs.getD r []).length with
  |some q=>kF r (rs.set r ((rs.getD r []).set q y)) ((rs.getD r []).getD q 0)
  |none=>kF r rs y
theorem getD_set_ne{α:Type}{xs:List α}{i j:Nat}(h:j≠i)(x d:α):(xs.set j x).getD i d=xs.getD i d:=by
 simp only[List.getD_eq_getElem?_getD,List.getElem?_set]
 rw[if_neg h]
theorem m9{n m:Nat}: ∀(r:Nat) (rs:List (List Int)) (y:Int),dB n m rs→dB n m (kF r rs y).1
 |0,_,_,h=>h
 |r+1,rs,y,h=>by
  unfold kF
  split
  ·exact m9 r _ _ (h.set r (by rw[List.length_set];exact h.at r))
  ·exact m9 r rs y h
def jK (rs : List (List Int)) (row : Nat) : List (List Int) × Int :=
  ((if (rs.getD row []).length = 1 then (kF row (rs.set row ((rs.getD row []).take ((rs.getD row []).length - 1))) ((rs.getD row []).getD ((rs.getD row []).length - 1) 0)).1.take row
    else (kF row (rs.set row ((rs.getD row []).take ((rs.getD row []).length - 1))) ((rs.getD row []).getD ((rs.getD row []).length - 1) 0)).1),
   (kF row (rs.set row ((rs.getD row []).take ((rs.getD row []).length - 1))) ((rs.getD row []).getD ((rs.getD row []).length - 1) 0)).2)
theorem tK{n m:Nat}{rs:List (List Int)}(h:dB n m rs)(row:Nat):dB n m (jK rs row).1:=by
 have h1:=m9 row (rs.set row ((rs.getD row []).take ((rs.getD row []).length-1))) ((rs.getD row []).getD ((rs.getD row []).length-1) 0) (h.set row (by rw[List.length_take];have:=h.at row;omega))
 unfold jK
 simp only
 split
 ·exact⟨by rw[List.length_take];have:=h1.1;omega,fun x hx=>h1.2 x (List.mem_of_mem_take hx)⟩
 ·exact h1
theorem iK{t:Tab}(h:aX t=true):t.1= []:=by
 simp only[aX,Bool.and_eq_true,decide_eq_true_eq]at h
 exact List.eq_nil_of_length_eq_zero h.2
theorem eD{t:Tab}(h:aX t=true){i:Nat}(hi:i<t.2.length):(outer t).getD i 0=(t.2.getD i []).length:=by
 have e:=gA t.1 t.2 0 i hi
 rw[iK h]at e
 unfold outer
 rw[iK h,e]
 simp
theorem hO{t:Tab}(h:aX t=true):bI (outer t)=true:=by
 simp only[aX,Bool.and_eq_true]at h
 have hs:=td h.1
 simp only[cb,cy,Bool.and_eq_true]at hs
 exact hs.2.2.2.1
theorem cV(t:Tab):(outer t).length=t.2.length:=by unfold outer;rw[iQ]
theorem wY{t:Tab}(h:aX t=true):dB 9 9 t.2:=by
 have h9:=rk h
 have hl:=(b9 (hO h)).2.2.1
 rw[cV]at hl
 exact⟨hl,fun r hr=>by have:=qU hr;omega⟩
theorem kX{t:Tab}(h:aX t=true): ∀i,i+1<t.2.length→(t.2.getD (i+1) []).length≤(t.2.getD i []).length∧ ∀q,q<(t.2.getD (i+1) []).length→(t.2.getD i []).getD q 0<(t.2.getD (i+1) []).getD q 0:=by
 intro i hi
 have hm:=og (show eM (outer t) 9 0=true from hO h) i (by rw[cV];exact hi)
 rw[eD h hi,eD h (by omega)]at hm
 have hl:(t.2.getD (i+1) []).length≤(t.2.getD i []).length:=by omega
 refine⟨hl,fun q hq=> ?_⟩
 have ht:=h
 simp only[aX,Bool.and_eq_true]at ht
 have ht:=ht.1
 simp only[g8,Bool.and_eq_true]at ht
 have h1:=ef.1 (ef.1 ht.2 (i+1) hi) q hq
 simp only[eT,Bool.and_eq_true,Bool.or_eq_true,decide_eq_true_eq]at h1
 have h2:=h1.2.2.resolve_left (by omega)
 rw[iK h]at h2
 have e:((i+1:Nat):Int)-1=(i:Int):=by omega
 have e2:([]:List Int).getD (i+1) 0+(q:Int)=([]:List Int).getD i 0+(q:Int):=by simp
 rw[e,e2]at h2
 have ee:entry t (i:Int) (([]:List Int).getD i 0+(q:Int))=(t.2.getD i []).getD q 0:=by
  have:=uq (t:=t) (r:=i) (q:=q) (by omega)
  rw[iK h]at this
  exact this
 rw[ee]at h2
 exact h2
end Go.Am.Pu
end
section
/- Rows with noughts in front; a box taken from a partition. Plain words. -/
namespace Go.Am.Pu
def fK(t:Tab):List (List Int):=(List.range' 0 t.2.length).map fun i=>List.replicate (t.1.getD i 0).toNat 0++t.2.getD i []
def bn(p:List Int)(n:Nat):List Int:=if p.getD n 0-1=0 then p.take n else p.set n (p.getD n 0-1)
theorem vH(p:List Int)(n:Nat):(bn p n).length≤p.length:=by
 unfold bn
 split
 ·rw[List.length_take];omega
 ·rw[List.length_set];exact Nat.le_refl _
end Go.Am.Pu
end
section
/- A slide: the hole goes right or down until nothing is there. Plain words. -/
namespace Go.Am.Pu
def cel(g:List (List Int))(r c:Nat):Int:=(g.getD r []).getD c 0
def iX(g:List (List Int))(r c:Nat)(v:Int):List (List Int):=g.set r ((g.getD r []).set c v)
theorem tU{g:List (List Int)}{r c:Nat}(h:cel g r c≠0):r<g.length∧c<(g.getD r []).length:=by
 unfold cel at h
 by_cases h1:r<g.length
 ·refine⟨h1,?_⟩
  by_cases h2:c<(g.getD r []).length
  ·exact h2
  ·exact absurd (bC (by omega) 0) h
 ·rw[bC (xs:=g) (by omega)]at h
  simp at h
theorem fU(g:List (List Int))(r c:Nat)(v:Int):(iX g r c v).length=g.length:=by unfold iX;rw[List.length_set]
theorem bt(g:List (List Int))(r c:Nat)(v:Int)(q:Nat):((iX g r c v).getD q []).length=(g.getD q []).length:=by
 unfold iX
 by_cases e:q=r
 ·subst e
  by_cases h:q<g.length
  ·rw[aE (by rw[List.length_set];exact h),List.getElem_set_self,List.length_set]
  ·rw[bC (by rw[List.length_set];omega),bC (by omega)]
 ·rw[getD_set_ne (Ne.symm e)]
theorem iE{g:List (List Int)}{r c:Nat}(v:Int)(h1:r<g.length)(h2:c<(g.getD r []).length):cel (iX g r c v) r c=v:=by
 unfold cel iX
 rw[aE (xs:=g.set r _) (by rw[List.length_set];exact h1),List.getElem_set_self,aE (by rw[List.length_set];exact h2),List.getElem_set_self]
theorem gh{g:List (List Int)}{r c q x:Nat}(v:Int)(h: ¬(q=r∧x=c)):cel (iX g r c v) q x=cel g q x:=by
 unfold cel iX
 by_cases e:q=r
 ·subst e
  have hx:x≠c:=fun e=>h ⟨rfl,e⟩
  by_cases hl:q<g.length
  ·rw[aE (xs:=g.set q _) (by rw[List.length_set];exact hl),List.getElem_set_self,getD_set_ne (Ne.symm hx)]
  ·rw[bC (xs:=g.set q _) (by rw[List.length_set];omega),bC (xs:=g) (by omega)]
 ·rw[getD_set_ne (Ne.symm e)]
structure Sl (q : List Int) (g : List (List Int)) (i c : Nat) : Prop where
  q0 : ∀ r, 0 ≤ q.getD r 0
  qm : ∀ r, q.getD (r + 1) 0 ≤ q.getD r 0
  lm : ∀ r, (g.getD (r + 1) []).length ≤ (g.getD r []).length
  hi : i < g.length
  hc : c < (g.getD i []).length
  hq : q.getD i 0 ≤ c
  pos : ∀ r x, 0 ≤ cel g r x
  num : ∀ r x : Nat, q.getD r 0 ≤ x → x < (g.getD r []).length → ¬ (r = i ∧ x = c) → 1 ≤ cel g r x ∧ cel g r x ≤ 9
  row : ∀ r x : Nat, q.getD r 0 ≤ x → x + 1 < (g.getD r []).length → ¬ (r = i ∧ x = c) → ¬ (r = i ∧ x + 1 = c) → cel g r x ≤ cel g r (x + 1)
  col : ∀ r x : Nat, q.getD r 0 ≤ x → x < (g.getD (r + 1) []).length → ¬ (r = i ∧ x = c) → ¬ (r + 1 = i ∧ x = c) → cel g r x < cel g (r + 1) x
  AJ : ∀ x : Nat, x + 1 = c → q.getD i 0 ≤ x → c + 1 < (g.getD i []).length → cel g i x ≤ cel g i (c + 1)
  colH : ∀ r : Nat, r + 1 = i → q.getD r 0 ≤ c → c < (g.getD (i + 1) []).length → cel g r c < cel g (i + 1) c
theorem Sl.right{q:List Int}{g:List (List Int)}{i c:Nat}(h:Sl q g i c)(hr:cel g i (c+1)≠0)(hb: ¬(0<cel g (i+1) c∧cel g (i+1) c≤cel g i (c+1))):
  Sl q (iX g i c (cel g i (c+1))) i (c+1):=by
 obtain⟨b1,b2⟩:=tU hr
 have hq:=h.hq
 have hrn:=h.num i (c+1) (by omega) b2 (by omega)
 have e0:=iE (cel g i (c+1)) h.hi h.hc
 have en: ∀r x,¬(r=i∧x=c)→cel (iX g i c (cel g i (c+1))) r x=cel g r x:=fun r x hh=>gh _ hh
 refine⟨h.q0,h.qm,fun r=> ?_,?_,?_,by omega,fun r x=> ?_,fun r x h1 h2 h3=> ?_,fun r x h1 h2 h3 h4=> ?_,fun r x h1 h2 h3 h4=> ?_,fun x h1 h2 h3=> ?_,fun r h1 h2 h3=> ?_⟩
 ·rw[bt,bt];exact h.lm r
 ·rw[fU];exact b1
 ·rw[bt];exact b2
 ·by_cases e:r=i∧x=c
  ·rw[e.1,e.2,e0];exact h.pos _ _
  ·rw[en r x e];exact h.pos _ _
 ·rw[bt]at h2
  by_cases e:r=i∧x=c
  ·rw[e.1,e.2,e0];exact hrn
  ·rw[en r x e];exact h.num r x h1 h2 e
 ·rw[bt]at h2
  by_cases e:r=i∧x=c
  ·exact(h4 ⟨e.1,by omega⟩).elim
  ·rw[en r x e]
   by_cases e':r=i∧x+1=c
   ·obtain⟨rfl,rfl⟩:=e'
    rw[e0]
    exact h.AJ x rfl h1 b2
   ·rw[en r (x+1) e'];exact h.row r x h1 h2 e e'
 ·rw[bt]at h2
  by_cases e:r=i∧x=c
  ·obtain⟨rfl,rfl⟩:=e
   rw[e0,en _ _ (by omega)]
   have hqm:=h.qm r
   have h5:=(h.num (r+1) x (by omega) h2 (by omega)).1
   omega
  ·rw[en r x e]
   by_cases e':r+1=i∧x=c
   ·obtain⟨rfl,rfl⟩:=e'
    rw[e0]
    have hl:=h.lm r
    have h5:=h.row r x h1 (by omega) (by omega) (by omega)
    have h6:=h.col r (x+1) (by omega) b2 (by omega) (by omega)
    omega
   ·rw[en (r+1) x e']
    exact h.col r x h1 h2 e e'
 ·rw[bt]at h3
  have:x=c:=by omega
  subst this
  rw[e0,en _ _ (by omega)]
  exact h.row i (x+1) (by omega) h3 (by omega) (by omega)
 ·rw[bt]at h3
  rw[en _ _ (by omega),en _ _ (by omega)]
  subst h1
  have h5:=h.col r (c+1) h2 (by omega) (by omega) (by omega)
  have h6:=h.col (r+1) (c+1) (by omega) h3 (by omega) (by omega)
  omega
end Go.Am.Pu
end
section
/- A slide's end and its start. Plain words. -/
namespace Go.Am.Pu
theorem wL{p:List Int}(hp:bI p=true)(r:Nat):p.getD (r+1) 0≤p.getD r 0:=by
 by_cases h:r+1<p.length
 ·exact og hp r h
 ·rw[bC (by omega)]
  have:=(fS hp r).1
  rw[dH]at this
  exact this
theorem qq{p:List Int}{n:Nat}(hp:bI p=true)(hn:n<p.length)(hc:p.getD (n+1) 0<p.getD n 0)(r:Nat):(bn p n).getD r 0=if r=n then p.getD n 0-1 else p.getD r 0:=by
 unfold bn
 by_cases h:p.getD n 0-1=0
 ·rw[if_pos h]
  have h0:=(fS hp (n+1:Nat)).1
  rw[dH]at h0
  have hl:p.length≤n+1:=by
   refine Nat.le_of_not_lt fun hlt=> ?_
   have:=(b9 hp).1 _ (List.getElem_mem hlt)
   rw[←aE hlt 0]at this
   omega
  by_cases e:r=n
  ·subst e
   rw[if_pos rfl,h,bC (by rw[List.length_take];omega)]
  ·rw[if_neg e]
   by_cases e2:r<n
   ·rw[aE (by rw[List.length_take];omega),List.getElem_take,aE (by omega)]
   ·rw[bC (by rw[List.length_take];omega),bC (by omega)]
 ·rw[if_neg h]
  by_cases e:r=n
  ·subst e
   rw[if_pos rfl,aE (by rw[List.length_set];exact hn),List.getElem_set_self]
  ·rw[if_neg e,getD_set_ne (Ne.symm e)]
structure Bs (t : Tab) : Prop where
  q0 : ∀ r, 0 ≤ t.1.getD r 0
  qm : ∀ r, t.1.getD (r + 1) 0 ≤ t.1.getD r 0
  lm : ∀ r, ((fK t).getD (r + 1) []).length ≤ ((fK t).getD r []).length
  num : ∀ r x : Nat, t.1.getD r 0 ≤ x → x < ((fK t).getD r []).length → 1 ≤ cel (fK t) r x ∧ cel (fK t) r x ≤ 9
  row : ∀ r x : Nat, t.1.getD r 0 ≤ x → x + 1 < ((fK t).getD r []).length → cel (fK t) r x ≤ cel (fK t) r (x + 1)
  col : ∀ r x : Nat, t.1.getD r 0 ≤ x → x < ((fK t).getD (r + 1) []).length → cel (fK t) r x < cel (fK t) (r + 1) x
end Go.Am.Pu
end
section
/- A tableau cell by cell; a slide's start. Plain words. -/
namespace Go.Am.Pu
theorem xQ{t:Tab}(h:g8 t=true):bI t.1=true∧bI (outer t)=true∧t.1.length≤t.2.length∧(∀i k,i<t.2.length→k<(t.2.getD i []).length→eT t i k=true):=by
 simp only[g8,cb,cy,Bool.and_eq_true,decide_eq_true_eq]at h
 obtain⟨⟨h1,h2,h3,h4,h5⟩,h6⟩:=h
 refine⟨h1,h4,h2,fun i k hi hk=> ?_⟩
 rw[ef]at h6
 have:=h6 i hi
 rw[ef]at this
 exact this k hk
end Go.Am.Pu
end
section
/- A partition less a box; the tableau that a slide leaves. Plain words. -/
namespace Go.Am.Pu
theorem kK: ∀(p:List Int) (prev s:Int),(∀x∈p,1≤x)→(0<p.length→p.getD 0 0≤prev)→(∀i,i+1<p.length→p.getD (i+1) 0≤p.getD i 0)→s+gD p≤9→eM p prev s=true
 | [],_,_,_,_,_,_=>rfl
 |x::xs,prev,s,h1,h2,h3,h4=>by
  have hs: ∀(l:List Int),(∀y∈l,1≤y)→0≤gD l:=by
   intro l
   induction l with
   |nil=>intro _;simp[gD]
   |cons y l ih=>
    intro h
    have a:=h y List.mem_cons_self
    have b:=ih (fun z hz=>h z (List.mem_cons_of_mem _ hz))
    simp only[gD];omega
  have hx:=h1 x List.mem_cons_self
  have hxs:=hs xs (fun z hz=>h1 z (List.mem_cons_of_mem _ hz))
  have h2':=h2 (by simp)
  simp only[List.getD_cons_zero]at h2'
  simp only[gD]at h4
  have ih:=kK xs x (s+x) (fun z hz=>h1 z (List.mem_cons_of_mem _ hz)) (fun hl=>by have:=h3 0 (by simpa using hl);simpa using this) (fun i hi=>by have:=h3 (i+1) (by simpa using hi);simpa using this) (by omega)
  simp only[eM,Bool.and_eq_true,decide_eq_true_eq]
  exact⟨hx,h2',by omega,ih⟩
theorem sd: ∀(p:List Int) (n:Nat) (v:Int),n<p.length→gD (p.set n v)=gD p-p.getD n 0+v
 | [],n,v,h=>by simp at h
 |x::xs,0,v,_=>by simp[gD];omega
 |x::xs,n+1,v,h=>by
  have:=sd xs n v (by simpa using h)
  simp only[List.set_cons_succ,gD,List.getD_cons_succ,this]
  omega
theorem tP: ∀(p:List Int) (n:Nat),p.length=n+1→gD (p.take n)=gD p-p.getD n 0
 | [],n,h=>by simp at h
 | [x],0,_=>by simp[gD]
 |x::xs,n+1,h=>by
  have:=tP xs n (by simpa using h)
  simp only[List.take_succ_cons,gD,List.getD_cons_succ,this]
  omega
 |x::y::xs,0,h=>by simp at h
theorem sP{p:List Int}{n:Nat}(hp:bI p=true)(hc:p.getD (n+1) 0<p.getD n 0)(h:p.getD n 0-1=0):p.length≤n+1:=by
 have h0:=(fS hp (n+1:Nat)).1
 rw[dH]at h0
 refine Nat.le_of_not_lt fun hlt=> ?_
 have:=(b9 hp).1 _ (List.getElem_mem hlt)
 rw[←aE hlt 0]at this
 omega
theorem zf{p:List Int}{n:Nat}(hp:bI p=true)(hn:n<p.length)(hc:p.getD (n+1) 0<p.getD n 0){i:Nat}(hi:i<(bn p n).length):1≤(bn p n).getD i 0:=by
 rw[qq hp hn hc]
 have hl:=vH p n
 have h1: ∀i,i<p.length→1≤p.getD i 0:=fun i hi=>by
  rw[aE hi]
  exact((b9 hp).1 _ (List.getElem_mem hi)).1
 by_cases h:p.getD n 0-1=0
 ·unfold bn at hi
  rw[if_pos h,List.length_take]at hi
  rw[if_neg (by omega)]
  exact h1 i (by omega)
 ·have a:=h1 n hn
  have b:=h1 i (by omega)
  split<;>omega
theorem ym{p:List Int}{n:Nat}(hp:bI p=true)(hn:n<p.length)(hc:p.getD (n+1) 0<p.getD n 0):bI (bn p n)=true:=by
 have hs:=b9 hp
 have hg:=qq hp hn hc
 have hpn:1≤p.getD n 0:=by
  rw[aE hn]
  exact(hs.1 _ (List.getElem_mem hn)).1
 refine kK _ _ _ (fun x hx=> ?_) (fun _=> ?_) (fun i _=> ?_) ?_
 ·obtain⟨i,hi,rfl⟩:=List.getElem_of_mem hx
  rw[←aE hi 0]
  exact zf hp hn hc hi
 ·rw[hg]
  have: ∀i,p.getD i 0≤9:=fun i=>by
   have:=(fS hp i).2
   rw[dH]at this
   exact this
  have a:=this 0
  have b:=this n
  split<;>omega
 ·rw[hg,hg]
  have:=wL hp i
  by_cases e:i=n
  ·subst e
   rw[if_neg (by omega),if_pos rfl];omega
  ·rw[if_neg e]
   by_cases e2:i+1=n
   ·subst e2;rw[if_pos rfl];omega
   ·rw[if_neg e2];exact this
 ·have h9:=hs.2.1
  unfold bn
  split
  ·next h=>
   have hl:=sP hp hc h
   rw[tP p n (by omega)]
   omega
  ·rw[sd p n _ hn]
   omega
def dD(q:List Int)(g:List (List Int))(n:Nat):List (List Int):=(List.range' 0 n).map fun r=>(g.getD r []).drop (q.getD r 0).toNat
theorem jV(q:List Int)(g:List (List Int))(n:Nat):(dD q g n).length=n:=by simp[dD]
theorem mJ{q:List Int}{g:List (List Int)}{n r:Nat}(h:r<n):(dD q g n).getD r []=(g.getD r []).drop (q.getD r 0).toNat:=by
 rw[aE (by rw[jV];exact h)]
 simp[dD]
def nm(g:List (List Int))(i c:Nat):List (List Int):=g.set i ((g.getD i []).take c)
end Go.Am.Pu
namespace Go.Am.Pu
end Go.Am.Pu
end
section
/- What a slide leaves. Plain words. -/
namespace Go.Am.Pu
theorem xo{g:List (List Int)}{i c r:Nat}(hi:i<g.length):(nm g i c).getD r []=if r=i then(g.getD i []).take c else g.getD r []:=by
 unfold nm
 by_cases e:r=i
 ·subst e
  rw[if_pos rfl,aE (by rw[List.length_set];exact hi),List.getElem_set_self]
 ·rw[if_neg e,getD_set_ne (Ne.symm e)]
theorem lb(g:List (List Int))(i c:Nat):(nm g i c).length=g.length:=by unfold nm;rw[List.length_set]
theorem zR{g:List (List Int)}{i c r x:Nat}(hi:i<g.length)(hx:x<((nm g i c).getD r []).length):cel (nm g i c) r x=cel g r x:=by
 unfold cel
 rw[xo hi]at hx⊢
 by_cases e:r=i
 ·subst e
  rw[if_pos rfl]at hx⊢
  rw[List.length_take]at hx
  rw[aE (by rw[List.length_take];exact hx),List.getElem_take]
  exact(aE (by omega) 0).symm
 ·rw[if_neg e]
structure xE (t : Tab) (n : Nat) (g : List (List Int)) (i c : Nat) : Prop where
  sl : Sl (bn t.1 n) g i c
  len : g.length = t.2.length
  row : ∀ r, (g.getD r []).length = ((fK t).getD r []).length
  hi : i < (outer t).length
  end_ : (outer t).getD i 0 = c + 1
  cor : (outer t).getD (i + 1) 0 < (outer t).getD i 0
  cutl : ∀ r, (((nm g i c).getD r []).length : Int) = (bn (outer t) i).getD r 0
  ins : ∀ r, (bn t.1 n).getD r 0 ≤ (bn (outer t) i).getD r 0
  rows : dB 9 9 (nm g i c)
end Go.Am.Pu
end
section
/- The square that the reference slides in. Plain words. -/
namespace Go.Am.Pu
structure Sq (s g : List (List Int)) (i c : Nat) : Prop where
  len : s.length = 11
  row : ∀ r, r < 11 → (s.getD r []).length = 11
  at_ : ∀ r x, r < 11 → x < 11 → ¬ (r = i ∧ x = c) → cel s r x = cel g r x
  hole : cel s i c = 0
theorem Sq.step{s g:List (List Int)}{i c i' c':Nat}(h:Sq s g i c)(hi:i<g.length)(hc:c<(g.getD i []).length)(h1:i<11)(h2:c<11)(h3:i'<11)(h4:c'<11)(hne: ¬(i'=i∧c'=c))(v:Int):
  Sq (iX (iX s i c v) i' c' 0) (iX g i c v) i' c':=by
 refine⟨by rw[fU,fU];exact h.len,fun r hr=>by rw[bt,bt];exact h.row r hr,fun r x hr hx hn=> ?_,?_⟩
 ·rw[gh _ hn]
  by_cases e:r=i∧x=c
  ·obtain⟨rfl,rfl⟩:=e
   rw[iE _ (by rw[h.len];exact h1) (by rw[h.row _ h1];exact h2),iE _ hi hc]
  ·rw[gh _ e,gh _ e];exact h.at_ r x hr hx e
 ·rw[iE _ (by rw[fU,h.len];exact h3) (by rw[bt,h.row _ h3];exact h4)]
end Go.Am.Pu
end
section
/- What a slide leaves is a tableau. Plain words. -/
namespace Go.Am.Pu
theorem yl{α:Type}(l:List α)(a x:Nat)(d:α):(l.drop a).getD x d=l.getD (a+x) d:=by
 simp[List.getD_eq_getElem?_getD,List.getElem?_drop]
section
variable {t : Tab} {n : Nat} {g : List (List Int)} {i c : Nat}
theorem xE.cell(E:xE t n g i c){r k:Nat}(hr:r<(bn (outer t) i).length)
  (hk:k<((dD (bn t.1 n) (nm g i c) (bn (outer t) i).length).getD r []).length):
  ((bn t.1 n).getD r 0).toNat+k<(g.getD r []).length∧((((bn t.1 n).getD r 0).toNat+k:Nat):Int)<(bn (outer t) i).getD r 0∧ ¬(r=i∧((bn t.1 n).getD r 0).toNat+k=c)∧
   ((dD (bn t.1 n) (nm g i c) (bn (outer t) i).length).getD r []).getD k 0=cel g r (((bn t.1 n).getD r 0).toNat+k):=by
 have hq:=E.sl.q0 r
 rw[mJ hr]at hk⊢
 rw[List.length_drop]at hk
 have hx:((bn t.1 n).getD r 0).toNat+k<((nm g i c).getD r []).length:=by omega
 have hl:=E.cutl r
 have hcut:=xo (c:=c) (r:=r) E.sl.hi
 refine⟨?_,by omega,fun e=> ?_,?_⟩
 ·rw[hcut]at hx
  by_cases e:r=i
  ·subst e;rw[if_pos rfl,List.length_take]at hx;omega
  ·rw[if_neg e]at hx;exact hx
 ·rw[hcut,if_pos e.1,List.length_take]at hx
  omega
 ·rw[yl]
  exact zR E.sl.hi hx
theorem xE.Bb(E:xE t n g i c){r:Nat}(hr:r<(bn (outer t) i).length):
  (bn (outer t) i).getD r 0=(bn t.1 n).getD r 0+(((dD (bn t.1 n) (nm g i c) (bn (outer t) i).length).getD r []).length:Int):=by
 have hq:=E.sl.q0 r
 have hi:=E.ins r
 have hl:=E.cutl r
 rw[mJ hr,List.length_drop]
 omega
end
theorem yM{p:List Int}{n:Nat}(hp:bI p=true)(hn:n<p.length)(hc:p.getD (n+1) 0<p.getD n 0):gD (bn p n)=gD p-1:=by
 unfold bn
 split
 ·next h=>
  have hl:=sP hp hc h
  rw[tP p n (by omega)]
  omega
 ·rw[sd p n _ hn]
  omega
end Go.Am.Pu
namespace Go.Am.Pu
end Go.Am.Pu
end
section
/- Taking the least number out of a plain tableau; evacuation. Plain words. -/
namespace Go.Am.Pu
theorem xE.out{t:Tab}{n:Nat}{g:List (List Int)}{i c:Nat}(E:xE t n g i c):
  outer (bn t.1 n,dD (bn t.1 n) (nm g i c) (bn (outer t) i).length)=bn (outer t) i:=by
 refine List.ext_getElem (by rw[cV];exact jV _ _ _) fun r h1 h2=> ?_
 rw[←aE h1 0,←aE h2 0]
 have h3:r<(dD (bn t.1 n) (nm g i c) (bn (outer t) i).length).length:=by rw[jV];exact h2
 have:=gA (bn t.1 n) (dD (bn t.1 n) (nm g i c) (bn (outer t) i).length) 0 r h3
 rw[Nat.zero_add]at this
 exact this.trans (E.Bb h2).symm
theorem n7{t:Tab}(h:aX t=true){r:Nat}(hr:r<t.2.length):1≤(t.2.getD r []).length:=by
 have hl:=eD h hr
 have hp:=(b9 (hO h)).1 ((outer t)[r]'(by rw[cV];exact hr)) (List.getElem_mem _)
 rw[aE (by rw[cV];exact hr)]at hl
 omega
theorem sU{t:Tab}(h:aX t=true):gD (outer t)=t.2.flatten.length:=by
 unfold outer
 exact mu t.1 t.2 0 fun q _=>by rw[iK h];rfl
end Go.Am.Pu
end
section
/- Promotion. Plain words. -/
namespace Go.Am.Pu
def Small(rs:List (List Int)):Prop:= ∀i q,-100≤(rs.getD i []).getD q 0∧(rs.getD i []).getD q 0≤100
end Go.Am.Pu
end
section
/- Slides undone. Plain words. -/
namespace Go.Am.Pu
def leftOf(g:List (List Int))(i c:Nat):Int:=if c=0 then 0 else cel g i (c-1)
def vq(g:List (List Int))(i c:Nat):Int:=if i=0 then 0 else cel g (i-1) c
def oC:Nat→List (List Int)→Nat→Nat→List (List Int)×(Nat×Nat)
 |0,g,i,c=>(g,(i,c))
 |m+1,g,i,c=>if leftOf g i c=0∧vq g i c=0 then(g,(i,c))
  else if leftOf g i c≤vq g i c then oC m (iX g i c (vq g i c)) (i-1) c
  else oC m (iX g i c (leftOf g i c)) i (c-1)
structure Ag (f : Int → Int) (g h : List (List Int)) (i c : Nat) : Prop where
  len : h.length = g.length
  row : ∀ r, (h.getD r []).length = (g.getD r []).length
  at_ : ∀ r x, ¬ (r = i ∧ x = c) → cel h r x = f (cel g r x)
def Inn(q:List Int)(g:List (List Int)):Prop:= ∀r x:Nat,(x:Int)<q.getD r 0→cel g r x=0
theorem Inn.step{q:List Int}{g:List (List Int)}{i c:Nat}(h:Inn q g)(hq:q.getD i 0≤c)(v:Int):Inn q (iX g i c v):=by
 intro r x hx
 by_cases e:r=i∧x=c
 ·obtain⟨rfl,rfl⟩:=e;omega
 ·rw[gh _ e];exact h r x hx
theorem Ag.right{f:Int→Int}{q:List Int}{g h:List (List Int)}{i c:Nat}(hs:Sl q g i c)(hi:Inn q g)(hf: ∀a b x y,cel g a b<cel g x y→f (cel g a b)<f (cel g x y))(f0:f 0=0)
  (hr:cel g i (c+1)≠0) (ha:Ag f (iX g i c (cel g i (c+1))) h i (c+1)):
  ∃h',Ag f g h' i c∧ ∀m,oC (m+1) h i (c+1)=oC m h' i c:=by
 obtain⟨b1,b2⟩:=tU hr
 have f0': ∀a b,cel g a b=0→f (cel g a b)=0:=fun a b e=>by rw[e];exact f0
 have hl:leftOf h i (c+1)=f (cel g i (c+1)):=by
  unfold leftOf
  rw[if_neg (by omega),show c+1-1=c by omega,ha.at_ i c (by omega),iE _ hs.hi hs.hc]
 have hpos:0<f (cel g i (c+1)):=by
  have hp:=hs.pos i (c+1)
  have e:cel g g.length 0=0:=by unfold cel;rw[bC (Nat.le_refl _)];rfl
  have:=hf g.length 0 i (c+1) (by omega)
  rw[e,f0]at this
  exact this
 have hu:vq h i (c+1)<f (cel g i (c+1)):=by
  unfold vq
  by_cases e:i=0
  ·rw[if_pos e];exact hpos
  ·rw[if_neg e,ha.at_ _ _ (by omega),gh _ (by omega)]
   by_cases hq:q.getD (i-1) 0≤((c+1:Nat):Int)
   ·have hc:=hs.col (i-1) (c+1) hq (by rw[show i-1+1=i by omega];exact b2) (by omega) (by omega)
    rw[show i-1+1=i by omega]at hc
    exact hf _ _ _ _ hc
   ·rw[f0' _ _ (hi (i-1) (c+1) (by omega))];exact hpos
 have hhi:i<h.length:=by rw[ha.len,fU];exact b1
 have hhc:c+1<(h.getD i []).length:=by rw[ha.row,bt];exact b2
 refine⟨iX h i (c+1) (leftOf h i (c+1)),⟨by rw[fU,ha.len,fU],fun r=>by rw[bt,ha.row,bt],fun r x hn=> ?_⟩,fun m=> ?_⟩
 ·by_cases e:r=i∧x=c+1
  ·obtain⟨rfl,rfl⟩:=e
   rw[iE _ hhi hhc,hl]
  ·rw[gh _ e,ha.at_ r x e,gh _ hn]
 ·conv=>lhs;unfold oC
  rw[if_neg (by omega),if_neg (by omega)]
  rfl
def Occ(q:List Int)(v:Int)(g:List (List Int))(i c:Nat):Prop:= ∃r x:Nat,¬(r=i∧x=c)∧x<(g.getD r []).length∧q.getD r 0≤x∧cel g r x=v
theorem Occ.step{q:List Int}{v:Int}{g:List (List Int)}{i c a b:Nat}(h:Occ q v g i c)(hi:i<g.length)(hc:c<(g.getD i []).length)(hq:q.getD i 0≤c)(hne: ¬(a=i∧b=c)):Occ q v (iX g i c (cel g a b)) a b:=by
 obtain⟨r,x,h1,h2,h3,h4⟩:=h
 by_cases e:r=a∧x=b
 ·obtain⟨rfl,rfl⟩:=e
  exact⟨i,c,fun e=>hne ⟨e.1.symm,e.2.symm⟩,by rw[bt];exact hc,hq,by rw[iE _ hi hc];exact h4⟩
 ·exact⟨r,x,e,by rw[bt];exact h2,h3,by rw[gh _ h1];exact h4⟩
end Go.Am.Pu
end
section
/- Promotion of a standard tableau is standard, of the same shape, and can be undone. Plain words. -/
namespace Go.Am.Pu
theorem pI{t:Tab}(h0:t.1= [])(hp:bI (outer t)=true)(hn: ∀r x,r<t.2.length→x<(t.2.getD r []).length→1≤cel t.2 r x∧cel t.2 r x≤9)
  (hr: ∀r x,r<t.2.length→x+1<(t.2.getD r []).length→cel t.2 r x≤cel t.2 r (x+1)) (hc: ∀r x,r+1<t.2.length→x<(t.2.getD (r+1) []).length→cel t.2 r x<cel t.2 (r+1) x):aX t=true:=by
 simp only[aX,g8,cb,cy,Bool.and_eq_true,decide_eq_true_eq,h0]
 refine⟨⟨⟨rfl,by simp,rfl,hp,by simp,?_⟩,?_⟩,rfl⟩
 ·rw[ef]
  intro i hi
  simp at hi
 ·rw[ef]
  intro r hr'
  rw[ef]
  intro k hk
  simp only[eT,within,Bool.and_eq_true,Bool.or_eq_true,decide_eq_true_eq]
  refine⟨hn r k hr' hk,?_,?_⟩
  ·by_cases e:k=0
   ·exact .inl e
   ·right
    have:=hr r (k-1) hr' (by omega)
    rw[show k-1+1=k by omega]at this
    exact this
  ·by_cases e:r=0
   ·exact .inl e
   ·right
    have:=hc (r-1) k (by omega) (by rw[show r-1+1=r by omega];exact hk)
    rw[show r-1+1=r by omega]at this
    rw[show(r:Int)-1=((r-1:Nat):Int) by omega,oz (by omega),h0]
    simp only[List.getD_nil]
    rw[show(0:Int)+(k:Int)-0=(k:Int) by omega,dH]
    exact this
theorem l6{t:Tab}(h:aX t=true):(∀r x,r<t.2.length→x<(t.2.getD r []).length→1≤cel t.2 r x∧cel t.2 r x≤9)∧(∀r x,r<t.2.length→x+1<(t.2.getD r []).length→cel t.2 r x≤cel t.2 r (x+1)):=by
 have h':=h
 simp only[aX,Bool.and_eq_true]at h'
 obtain⟨_,_,_,hc⟩:=xQ h'.1
 refine⟨fun r x hr hx=> ?_,fun r x hr hx=> ?_⟩
 ·have:=hc r x hr hx
  simp only[eT,within,Bool.and_eq_true,decide_eq_true_eq]at this
  exact this.1
 ·have:=hc r (x+1) hr hx
  simp only[eT,within,Bool.and_eq_true,Bool.or_eq_true,decide_eq_true_eq]at this
  exact this.2.1.resolve_left (by omega)
theorem jQ{rs:List (List Int)}{r x:Nat}(hr:r<rs.length)(hx:x<(rs.getD r []).length):cel rs r x∈rs.flatten:=by
 refine List.mem_flatten.2 ⟨rs.getD r [],by rw[aE hr];exact List.getElem_mem hr,?_⟩
 unfold cel
 rw[aE hx]
 exact List.getElem_mem hx
theorem n0{rs:List (List Int)}{v:Int}(h:v∈rs.flatten): ∃r x,r<rs.length∧x<(rs.getD r []).length∧cel rs r x=v:=by
 obtain⟨l,hl,hv⟩:=List.mem_flatten.1 h
 obtain⟨r,hr,rfl⟩:=List.getElem_of_mem hl
 obtain⟨x,hx,rfl⟩:=List.getElem_of_mem hv
 have e:=aE hr ([]:List Int)
 refine⟨r,x,hr,by rw[e];exact hx,?_⟩
 unfold cel
 rw[e,aE hx]
theorem lg{t:Tab}(h:aX t=true)(hs:gJ t=true):t.2.flatten.Nodup∧(∀x∈t.2.flatten,1≤x∧x≤t.2.flatten.length):=by
 simp only[gJ,Bool.and_eq_true]at hs
 have h1:=ux hs.1
 obtain⟨a,b⟩:=(wZ fun x hx=>(h1 x hx).1).1 hs.2
 exact⟨a,fun x hx=>⟨(h1 x hx).1,b x hx⟩⟩
end Go.Am.Pu
end
section
/- Promotion keeps shapes and standardness. Plain words. -/
namespace Go.Am.Pu
section
variable {t : Tab}
theorem xO{xs ys:List Int}{x:Nat}(h:x<xs.length):(xs++ys).getD x 0=xs.getD x 0:=by
 simp only[List.getD_eq_getElem?_getD,List.getElem?_append_left h]
theorem yb{xs ys:List Int}{x:Nat}(h:xs.length≤x):(xs++ys).getD x 0=ys.getD (x-xs.length) 0:=by
 simp only[List.getD_eq_getElem?_getD,List.getElem?_append_right h]
end
end Go.Am.Pu
end
section
/- Promotion undone: it is one to one. Plain words. -/
namespace Go.Am.Pu
def zN(t:Tab)(n:Nat):List (List Int):=
 (if n=t.2.length then fK t++ [[]]else fK t).set n ((if n=t.2.length then fK t++ [[]]else fK t).getD n []++ [0])
section
variable {t : Tab}
end
end Go.Am.Pu
end
section
/- Orbits of promotion come back. Plain words. -/
namespace Go.Am.Pu
structure Good (t : Tab) : Prop where
  pl : aX t = true
  st : gJ t = true
  ne : t.2.flatten.length ≠ 0
end Go.Am.Pu
end
section
/- A slide outwards, as the program has it; demotion. Plain words. -/
namespace Go.Am.Pu
section
variable {u : Tab}
end
end Go.Am.Pu
end
section
/- The last promotion of an orbit; orbits' sizes. Plain words. -/
namespace Go.Am.Pu
def xi(t:Tab):Prop:=t.1= []∧dB 10 10 t.2
theorem xi.ok{t:Tab}(h:xi t):lu t:=⟨by rw[h.1];simp,by have:=h.2.1;omega,fun r hr=>by have:=h.2.2 r hr;omega⟩
theorem xi.size{t:Tab}(h:xi t):dw t.2≤100:=by
 have a:=qs t.2 10 h.2.2
 have b:=h.2.1
 omega
section
attribute [local instance] D.real
variable {α β : Type} {x y v : Option α}
theorem bE{x:Option β}{z:β}{f:β→Option α}(h:x=some z)(g:f z=v):D.bnd x f=v:=by rw[h];exact g
theorem tN(g:x=v):D.test (D.no true) y x=v:=g
theorem tM(g:y=v):D.test (D.no false) y x=v:=g
theorem tG{p:Prop} [Decidable p](h:p)(g:x=v):D.test (decide p) x y=v:=by
 show(if decide p=true then x else y)=v
 rw[if_pos (decide_eq_true h)];exact g
theorem tX{p:Prop} [Decidable p](h: ¬p)(g:y=v):D.test (decide p) x y=v:=by
 show(if decide p=true then x else y)=v
 rw[decide_eq_false h];exact g
theorem tE{a b:Int}(h:a=b)(g:x=v):D.test (D.no (D.eq a b)) y x=v:=by
 show(if(!decide (a=b))=true then y else x)=v
 rw[decide_eq_true h];exact g
theorem tB{b:Bool}(g:x=v):D.test (D.no (D.eqB b b)) y x=v:=by
 show(if(!(b==b))=true then y else x)=v
 rw[beq_self_eq_true];exact g
end
end Go.Am.Pu
end
section
/- The rewriting rules of the plain laws, in one. -/
namespace Go.Am.Pu
open Go Go.Am
attribute [local instance] D.real
theorem sss:type_of% @nO∧type_of% @qB∧type_of% @lp∧type_of% @Aw∧type_of% @Av∧type_of% @e9∧type_of% @fH∧type_of% @g7∧type_of% @lU∧type_of% @rq∧type_of% @qE∧type_of% @zx∧type_of% @zq∧type_of% @Ar∧type_of% @dU∧type_of% @g6∧type_of% @xk∧type_of% @uY∧type_of% @wz∧type_of% @Ax∧type_of% @AA∧type_of% @bO∧type_of% @w64∧type_of% @Int.toNat_natCast∧type_of% @decide_eq_true_eq∧type_of% @Int.ofNat_lt∧type_of% @Int.ofNat_le∧type_of% @Int.natCast_nonneg∧type_of% @decide_true∧type_of% @decide_false∧type_of% @Bool.not_true∧type_of% @Bool.not_false∧type_of% @Bool.false_eq_true∧type_of% @Bool.not_eq_true∧type_of% @Bool.true_and∧type_of% @Bool.and_true∧type_of% @Bool.false_and∧type_of% @Bool.and_false:=
 ⟨@nO,@qB,@lp,@Aw,@Av,@e9,@fH,@g7,@lU,@rq,@qE,@zx,@zq,@Ar,@dU,@g6,@xk,@uY,@wz,@Ax,@AA,@bO,@w64,@Int.toNat_natCast,@decide_eq_true_eq,@Int.ofNat_lt,@Int.ofNat_le,@Int.natCast_nonneg,@decide_true,@decide_false,@Bool.not_true,@Bool.not_false,@Bool.false_eq_true,@Bool.not_eq_true,@Bool.true_and,@Bool.and_true,@Bool.false_and,@Bool.and_false⟩
end Go.Am.Pu
end
section
/- Cells taken out of plain tableaux, one behind another. Plain words. -/
namespace Go.Am.Pu
def nx(rs:List (List Int)):Prop:= ∀i,i+1<rs.length→(rs.getD (i+1) []).length≤(rs.getD i []).length∧ ∀q,q<(rs.getD (i+1) []).length→(rs.getD i []).getD q 0<(rs.getD (i+1) []).getD q 0
theorem rE{r:List Int}{y:Int}: ∀{m q:Nat},j2 r y m=some q→ ∀c,q<c→c<m→y≤r.getD c 0
 |0,q,h,_,_,_=>by simp[j2]at h
 |m+1,q,h,c,h1,h2=>by
  unfold j2 at h
  split at h
  ·next hc=>injection h with h;omega
  ·next hc=>
   by_cases e:c=m
   ·subst e;omega
   ·exact rE h c h1 (by omega)
theorem oG: ∀(r:Nat) (rs:List (List Int)) (y:Int),(kF r rs y).1.length=rs.length∧ ∀i,((kF r rs y).1.getD i []).length=(rs.getD i []).length
 |0,_,_=>⟨rfl,fun _=>rfl⟩
 |r+1,rs,y=>by
  unfold kF
  split
  ·next q hq=>
   obtain⟨a,b⟩:=oG r (rs.set r ((rs.getD r []).set q y)) ((rs.getD r []).getD q 0)
   refine⟨by rw[a,List.length_set],fun i=> ?_⟩
   rw[b]
   by_cases e:i=r
   ·subst e
    by_cases h:i<rs.length
    ·rw[aE (by rw[List.length_set];exact h),List.getElem_set_self,List.length_set]
    ·rw[bC (by rw[List.length_set];omega),bC (xs:=rs) (by omega)]
   ·rw[getD_set_ne (Ne.symm e)]
  ·exact oG r rs y
theorem sw: ∀(r:Nat) (rs:List (List Int)) (y:Int) (q:Nat),r<rs.length→(∀i,i+1<r→(rs.getD (i+1) []).length≤(rs.getD i []).length∧ ∀q,q<(rs.getD (i+1) []).length→(rs.getD i []).getD q 0<(rs.getD (i+1) []).getD q 0)→
  (∀i,r≤i→i+1<rs.length→(rs.getD (i+1) []).length≤(rs.getD i []).length∧ ∀q,q<(rs.getD (i+1) []).length→(rs.getD i []).getD q 0<(rs.getD (i+1) []).getD q 0)→
  (∀i,i+1=r→(rs.getD r []).length≤(rs.getD i []).length∧q<(rs.getD i []).length∧(rs.getD i []).getD q 0<y∧(∀c,c<(rs.getD r []).length→c≠q→(rs.getD i []).getD c 0<(rs.getD r []).getD c 0)∧(∀c,q≤c→c<(rs.getD r []).length→y<(rs.getD r []).getD c 0))→
  nx (kF r rs y).1
 |0,rs,y,q,hr,_,hB,_=>fun i hi=>hB i (Nat.zero_le _) hi
 |r+1,rs,y,q,hr,hA,hB,hI=>by
  obtain⟨i1,i2,i3,i4,i5⟩:=hI r rfl
  obtain⟨q0,hq0⟩:=sK i2 i3
  have hmax:=rE hq0
  obtain⟨k1,k2⟩:=pB hq0
  have hqq:q≤q0:=Nat.le_of_not_lt fun hlt=>by
   have:=hmax q hlt i2
   omega
  unfold kF
  rw[hq0]
  have hrow:(rs.set r ((rs.getD r []).set q0 y)).getD r []=(rs.getD r []).set q0 y:=by
   rw[aE (by rw[List.length_set];omega),List.getElem_set_self]
  have hne: ∀i,i≠r→(rs.set r ((rs.getD r []).set q0 y)).getD i []=rs.getD i []:=fun i h=>getD_set_ne (Ne.symm h) _ _
  have hset: ∀c,c≠q0→((rs.getD r []).set q0 y).getD c 0=(rs.getD r []).getD c 0:=fun c h=>getD_set_ne (Ne.symm h) _ _
  have hself:((rs.getD r []).set q0 y).getD q0 0=y:=by rw[aE (by rw[List.length_set];exact k1),List.getElem_set_self]
  refine sw r _ _ q0 (by rw[List.length_set];omega) (fun i hi=> ?_) (fun i hi hl=> ?_) (fun i hi=> ?_)
  ·rw[hne _ (by omega),hne _ (by omega)]
   exact hA i (by omega)
  ·rw[List.length_set]at hl
   by_cases e:i=r
   ·subst e
    rw[hne (i+1) (by omega),hrow,List.length_set]
    refine⟨i1,fun c hc=> ?_⟩
    by_cases e2:c=q0
    ·subst e2;rw[hself];exact i5 c hqq hc
    ·rw[hset c e2]
     by_cases e3:c=q
     ·subst e3
      have:=i5 c (Nat.le_refl _) hc
      omega
     ·exact i4 c hc e3
   ·rw[hne (i+1) (by omega),hne i e]
    exact hB i (by omega) hl
  ·subst hi
   obtain⟨a1,a2⟩:=hA i (by omega)
   rw[hrow,hne i (by omega),List.length_set]
   refine⟨a1,by omega,a2 q0 k1,fun c hc e=> ?_,fun c h1 h2=> ?_⟩
   ·rw[hset c e];exact a2 c hc
   ·by_cases e:c=q0
    ·subst e;rw[hself];exact k2
    ·rw[hset c e]
     have:=hmax c (by omega) h2
     omega
def bR(rs:List (List Int))(r:Nat):List (List Int):=
 if(rs.getD r []).length=1 then(rs.set r ((rs.getD r []).take ((rs.getD r []).length-1))).take r else rs.set r ((rs.getD r []).take ((rs.getD r []).length-1))
def dG(a b:List (List Int)):Prop:=a.length=b.length∧ ∀i,(a.getD i []).length=(b.getD i []).length
theorem eQ{α:Type}{l:List α}{n i:Nat}(h:i<n)(d:α):(l.take n).getD i d=l.getD i d:=by
 simp only[List.getD_eq_getElem?_getD,List.getElem?_take,if_pos h]
theorem tp{a b:List (List Int)}(h:dG a b)(n:Nat):dG (a.take n) (b.take n):=by
 refine⟨by rw[List.length_take,List.length_take,h.1],fun i=> ?_⟩
 by_cases hi:i<n
 ·rw[eQ hi,eQ hi];exact h.2 i
 ·rw[bC (xs:=a.take n) (by rw[List.length_take];omega),bC (xs:=b.take n) (by rw[List.length_take];omega)]
theorem um(rs:List (List Int))(r:Nat):dG (jK rs r).1 (bR rs r):=by
 have a:=oG r (rs.set r ((rs.getD r []).take ((rs.getD r []).length-1))) ((rs.getD r []).getD ((rs.getD r []).length-1) 0)
 unfold jK bR
 simp only
 split
 ·exact tp a r
 ·exact a
theorem u4{a b:List (List Int)}(h:dG a b)(r:Nat):dG (bR a r) (bR b r):=by
 have hs:dG (a.set r ((a.getD r []).take ((a.getD r []).length-1))) (b.set r ((b.getD r []).take ((b.getD r []).length-1))):=by
  refine⟨by rw[List.length_set,List.length_set,h.1],fun i=> ?_⟩
  by_cases e:i=r
  ·subst e
   by_cases hi:i<a.length
   ·rw[aE (xs:=a.set _ _) (by rw[List.length_set];exact hi),List.getElem_set_self,aE (xs:=b.set _ _) (by rw[List.length_set,←h.1];exact hi),List.getElem_set_self,List.length_take,List.length_take,h.2 i]
   ·rw[bC (xs:=a.set _ _) (by rw[List.length_set];omega),bC (xs:=b.set _ _) (by rw[List.length_set,←h.1];omega)]
  ·rw[getD_set_ne (Ne.symm e),getD_set_ne (Ne.symm e)];exact h.2 i
 unfold bR
 rw[h.2 r]
 split
 ·rw[←h.2 r];rw[h.2 r]at*;exact tp hs r
 ·rw[h.2 r]at hs;exact hs
theorem dG.trans{a b c:List (List Int)}(h:dG a b)(h':dG b c):dG a c:=⟨h.1.trans h'.1,fun i=>(h.2 i).trans (h'.2 i)⟩
theorem yP{rs:List (List Int)}(h:nx rs)(n:Nat):nx (rs.take n):=by
 intro i hi
 rw[List.length_take]at hi
 rw[eQ (by omega),eQ (by omega)]
 exact h i (by omega)
theorem u6{rs:List (List Int)}{r:Nat}(h:nx rs)(hr:r<rs.length)(hl:1≤(rs.getD r []).length)(hc:(rs.getD (r+1) []).length<(rs.getD r []).length):nx (jK rs r).1:=by
 have hrow:(rs.set r ((rs.getD r []).take ((rs.getD r []).length-1))).getD r []=(rs.getD r []).take ((rs.getD r []).length-1):=by
  rw[aE (by rw[List.length_set];exact hr),List.getElem_set_self]
 have hne: ∀i,i≠r→(rs.set r ((rs.getD r []).take ((rs.getD r []).length-1))).getD i []=rs.getD i []:=fun i h=>getD_set_ne (Ne.symm h) _ _
 have key:nx (kF r (rs.set r ((rs.getD r []).take ((rs.getD r []).length-1))) ((rs.getD r []).getD ((rs.getD r []).length-1) 0)).1:=by
  refine sw r _ _ ((rs.getD r []).length-1) (by rw[List.length_set];exact hr) (fun i hi=> ?_) (fun i hi hil=> ?_) (fun i hi=> ?_)
  ·rw[hne _ (by omega),hne _ (by omega)];exact h i (by omega)
  ·rw[List.length_set]at hil
   by_cases e:i=r
   ·subst e
    rw[hne (i+1) (by omega),hrow,List.length_take]
    refine⟨by omega,fun c hc'=> ?_⟩
    rw[eQ (by omega)]
    exact(h i hil).2 c hc'
   ·rw[hne (i+1) (by omega),hne i e];exact h i hil
  ·subst hi
   obtain⟨a1,a2⟩:=h i hr
   rw[hrow,hne i (by omega),List.length_take]
   refine⟨by omega,by omega,a2 _ (by omega),fun c h1 h2=> ?_,fun c h1 h2=>by omega⟩
   rw[eQ (by omega)]
   exact a2 c (by omega)
 unfold jK
 simp only
 split
 ·exact yP key r
 ·exact key
end Go.Am.Pu
end
section
/- The greatest number of a standard tableau, and the tableau without it; a pair of tableaux unrolled. Plain words. -/
namespace Go.Am.Pu
section
variable {t : Tab}
theorem qd(h:aX t=true)(hs:gJ t=true){a b x y:Nat}(ha:a<t.2.length)(hx:x<(t.2.getD a []).length)(hb:b<t.2.length)(hy:y<(t.2.getD b []).length)(e:cel t.2 a x=cel t.2 b y):a=b∧x=y:=by
 have nd:=(lg h hs).1
 rw[List.Nodup,List.pairwise_flatten]at nd
 have mem: ∀{r z:Nat},r<t.2.length→(hz:z<(t.2.getD r []).length)→cel t.2 r z∈t.2.getD r []:=fun{r z} _ hz=>by
  unfold cel
  rw[aE hz]
  exact List.getElem_mem hz
 have ab: ∀{a b x y:Nat},a<b→a<t.2.length→x<(t.2.getD a []).length→b<t.2.length→y<(t.2.getD b []).length→cel t.2 a x≠cel t.2 b y:=fun{a b x y} hab ha hx hb hy=>by
  have:=List.pairwise_iff_getElem.1 nd.2 a b ha hb hab
  exact this _ (by rw[←aE ha []];exact mem ha hx) _ (by rw[←aE hb []];exact mem hb hy)
 have e1:a=b:=by
  rcases Nat.lt_trichotomy a b with hl|hl|hl
  ·exact absurd e (ab hl ha hx hb hy)
  ·exact hl
  ·exact absurd e.symm (ab hl hb hy ha hx)
 subst e1
 refine⟨rfl,?_⟩
 have n2:=nd.1 _ (by rw[aE ha];exact List.getElem_mem ha:t.2.getD a []∈t.2)
 unfold cel at e
 rw[aE hx,aE hy]at e
 rcases Nat.lt_trichotomy x y with hl|hl|hl
 ·exact absurd e (List.pairwise_iff_getElem.1 n2 x y hx hy hl)
 ·exact hl
 ·exact absurd e.symm (List.pairwise_iff_getElem.1 n2 y x hy hx hl)
theorem jj(h:aX t=true)(hs:gJ t=true){a x:Nat}{v:Int}(ha:a<t.2.length)(hx:x<(t.2.getD a []).length)(e:cel t.2 a x=v):rowOf t v=a:=by
 have hf:t.2.findIdx (fun r=>has r v)=a:=by
  rw[List.findIdx_eq ha]
  refine⟨?_,fun j hj=> ?_⟩
  ·rw[←aE ha [],pW,←e]
   unfold cel
   rw[aE hx]
   exact List.getElem_mem hx
  ·rw[Bool.eq_false_iff]
   intro hc
   rw[pW]at hc
   obtain⟨y,hy,e2⟩:=List.getElem_of_mem hc
   have hjl:j<t.2.length:=by omega
   have hy':y<(t.2.getD j []).length:=by rw[aE hjl];exact hy
   have e3:cel t.2 j y=v:=by
    unfold cel
    rw[aE hy']
    simp only[aE hjl]
    exact e2
   have:=qd h hs hjl hy' ha hx (by rw[e,e3])
   omega
 unfold rowOf AX
 rw[hf,if_pos ha]
theorem yS(h:aX t=true)(hs:gJ t=true)(hn:t.2.flatten.length≠0): ∃a:Nat,a<t.2.length∧1≤(t.2.getD a []).length∧cel t.2 a ((t.2.getD a []).length-1)=t.2.flatten.length∧(t.2.getD (a+1) []).length<(t.2.getD a []).length∧rowOf t t.2.flatten.length=a:=by
 have ho:kL t.2.flatten=true:=by
  have:=hs
  simp only[gJ,Bool.and_eq_true]at this
  exact this.2
 obtain⟨a,x,ha,hx,e⟩:=n0 (jy.1 ho t.2.flatten.length (fR.2 (by omega)))
 have hb:=(lg h hs).2
 obtain⟨c1,c2⟩:=l6 h
 have hx1:x+1=(t.2.getD a []).length:=by
  refine Nat.le_antisymm hx (Nat.le_of_not_lt fun hlt=> ?_)
  have k1:=c2 a x ha hlt
  have k2:=(hb _ (jQ ha hlt)).2
  have:=qd h hs ha hx ha hlt (by omega)
  omega
 have hbel:(t.2.getD (a+1) []).length≤x:=by
  refine Nat.le_of_not_lt fun hlt=> ?_
  have ha1:a+1<t.2.length:=Nat.lt_of_not_le fun hle=>by rw[bC hle]at hlt;simp at hlt
  have k1:=(kX h a ha1).2 x hlt
  have k2:=(hb _ (jQ ha1 hlt)).2
  unfold cel at e k2
  omega
 refine⟨a,ha,by omega,by rw[show(t.2.getD a []).length-1=x by omega];exact e,by omega,jj h hs ha hx e⟩
theorem nc{rs:List (List Int)}{a:Nat}(ha:a<rs.length)(hc:(rs.getD (a+1) []).length<(rs.getD a []).length)(hp: ∀r,r<rs.length→1≤(rs.getD r []).length)(r:Nat):(bR rs a).getD r []=if r=a then(rs.getD a []).take ((rs.getD a []).length-1)else rs.getD r []:=by
 have hset:(rs.set a ((rs.getD a []).take ((rs.getD a []).length-1))).getD r []=if r=a then(rs.getD a []).take ((rs.getD a []).length-1)else rs.getD r []:=by
  by_cases e:r=a
  ·subst e;rw[if_pos rfl,aE (by rw[List.length_set];exact ha),List.getElem_set_self]
  ·rw[if_neg e,getD_set_ne (Ne.symm e)]
 unfold bR
 split
 ·next h1=>
  by_cases hr:r<a
  ·rw[eQ hr,hset]
  ·rw[bC (by rw[List.length_take];omega)]
   by_cases e:r=a
   ·subst e;rw[if_pos rfl,h1];rfl
   ·rw[if_neg e]
    have hlast:rs.length≤a+1:=Nat.le_of_not_lt fun hlt=>by
     have:=hp (a+1) hlt
     omega
    rw[bC (by omega)]
 ·exact hset
theorem rh{rs:List (List Int)}{a:Nat}(ha:a<rs.length):(bR rs a).length=if(rs.getD a []).length=1 then a else rs.length:=by
 unfold bR
 split
 ·rw[List.length_take,List.length_set];omega
 ·rw[List.length_set]
theorem Ab(h:aX t=true)(hs:gJ t=true){a:Nat}(hn:t.2.flatten.length≠0)(ha:a<t.2.length)(h1:1≤(t.2.getD a []).length)(htop:cel t.2 a ((t.2.getD a []).length-1)=t.2.flatten.length)(hc:(t.2.getD (a+1) []).length<(t.2.getD a []).length):
  aX (([],bR t.2 a):Tab)=true∧gJ (([],bR t.2 a):Tab)=true∧(bR t.2 a).flatten.length+1=t.2.flatten.length∧ ∀v,1≤v→v<(t.2.flatten.length:Int)→rowOf ([],bR t.2 a) v=rowOf t v:=by
 have hpos:=fun r (hr:r<t.2.length)=>n7 h hr
 have hrow:=nc ha hc hpos
 have hlen:=rh ha
 obtain⟨c1,c2⟩:=l6 h
 have c3:=kX h
 have hcorner:(outer t).getD (a+1) 0<(outer t).getD a 0:=by
  rw[eD h ha]
  by_cases e:a+1<t.2.length
  ·rw[eD h e];omega
  ·rw[bC (by rw[cV];omega)];omega
 have hal:a<(outer t).length:=by rw[cV];exact ha
 have hout:outer (([],bR t.2 a):Tab)=bn (outer t) a:=by
  have hdl:(bn (outer t) a).length=(bR t.2 a).length:=by
   rw[hlen]
   unfold bn
   rw[eD h ha]
   by_cases e:(t.2.getD a []).length=1
   ·rw[if_pos (by omega),if_pos e,List.length_take,cV];omega
   ·rw[if_neg (by omega),if_neg e,List.length_set,cV]
  refine List.ext_getElem (by rw[cV,hdl]) fun r k1 k2=> ?_
  rw[←aE k1 0,←aE k2 0,qq (hO h) hal hcorner]
  have k3:r<(bR t.2 a).length:=by rw[cV]at k1;exact k1
  have:=gA [] (bR t.2 a) 0 r k3
  unfold outer at this⊢
  rw[this,hrow]
  have hrl:r<t.2.length:=by
   rw[hlen]at k3
   split at k3<;>omega
  have po:=eD h hrl
  have pa:=eD h ha
  unfold outer at po pa
  by_cases e:r=a
  ·subst e
   rw[if_pos rfl,if_pos rfl,List.length_take,pa]
   simp only[List.getD_nil]
   omega
  ·rw[if_neg e,if_neg e,po]
   simp only[List.getD_nil]
   omega
 have hcel: ∀{r x:Nat},x<((bR t.2 a).getD r []).length→x<(t.2.getD r []).length∧cel (bR t.2 a) r x=cel t.2 r x:=fun{r x} hx=>by
  unfold cel
  rw[hrow]at hx⊢
  by_cases e:r=a
  ·subst e
   rw[if_pos rfl,List.length_take]at hx
   rw[if_pos rfl,eQ (by omega)]
   exact⟨by omega,rfl⟩
  ·rw[if_neg e]at hx⊢
   exact⟨hx,rfl⟩
 have hrl: ∀{r:Nat},r<(bR t.2 a).length→r<t.2.length:=fun{r} hr=>by
  rw[hlen]at hr
  split at hr<;>omega
 have hin: ∀{r x:Nat},x<(t.2.getD r []).length→ ¬(r=a∧x+1=(t.2.getD a []).length)→x<((bR t.2 a).getD r []).length:=fun{r x} hx hne=>by
  rw[hrow]
  by_cases e:r=a
  ·subst e
   rw[if_pos rfl,List.length_take]
   have: ¬x+1=(t.2.getD r []).length:=fun e=>hne ⟨rfl,e⟩
   omega
  ·rw[if_neg e];exact hx
 have hpl:aX (([],bR t.2 a):Tab)=true:=by
  refine pI rfl (by rw[hout];exact ym (hO h) hal hcorner) (fun r x hr hx=> ?_) (fun r x hr hx=> ?_) (fun r x hr hx=> ?_)
  ·obtain⟨k1,k2⟩:=hcel hx
   rw[k2];exact c1 r x (hrl hr) k1
  ·obtain⟨k1,k2⟩:=hcel hx
   obtain⟨_,k4⟩:=hcel (show x<((bR t.2 a).getD r []).length from Nat.lt_of_succ_lt hx)
   rw[k2,k4];exact c2 r x (hrl hr) k1
  ·obtain⟨k1,k2⟩:=hcel hx
   have hr1:=hrl hr
   obtain⟨d1,d2⟩:=c3 r hr1
   have hxr:x<((bR t.2 a).getD r []).length:=by
    refine hin (by omega) fun e=> ?_
    rw[e.1]at k1
    omega
   obtain⟨_,k4⟩:=hcel hxr
   rw[k2,k4]
   exact d2 x k1
 have hfl:(bR t.2 a).flatten.length+1=t.2.flatten.length:=by
  have e1:=sU hpl
  rw[hout,yM (hO h) hal hcorner,sU h]at e1
  simp only at e1
  omega
 have ho:kL t.2.flatten=true:=by
  have:=hs
  simp only[gJ,Bool.and_eq_true]at this
  exact this.2
 have hcells: ∀v,1≤v→v<(t.2.flatten.length:Int)→ ∃r x,r<(bR t.2 a).length∧x<((bR t.2 a).getD r []).length∧cel (bR t.2 a) r x=v∧r<t.2.length∧x<(t.2.getD r []).length∧cel t.2 r x=v:=by
  intro v v1 v2
  obtain⟨r,x,hr,hx,e⟩:=n0 (jy.1 ho v (fR.2 (by omega)))
  have hx':x<((bR t.2 a).getD r []).length:=by
   refine hin hx fun e2=> ?_
   rw[e2.1,show x=(t.2.getD a []).length-1 by omega,htop]at e
   omega
  exact⟨r,x,Nat.lt_of_not_le fun hle=>by rw[bC hle]at hx';simp at hx',hx',by rw[(hcel hx').2];exact e,hr,hx,e⟩
 have hst:gJ (([],bR t.2 a):Tab)=true:=by
  have hp':=hpl
  simp only[aX,Bool.and_eq_true]at hp'
  simp only[gJ,Bool.and_eq_true]
  refine⟨hp'.1,jy.2 fun v hv=> ?_⟩
  rw[fR]at hv
  obtain⟨r,x,q1,q2,q3,_⟩:=hcells v hv.1 (by omega)
  rw[←q3]
  exact jQ q1 q2
 refine⟨hpl,hst,hfl,fun v v1 v2=> ?_⟩
 obtain⟨r,x,q1,q2,q3,q4,q5,q6⟩:=hcells v v1 v2
 rw[jj h hs q4 q5 q6,jj hpl hst q1 q2 q3]
end
structure Unr (q : Tab) (k : Nat) (P Q : List (List Int)) : Prop where
  pl : aX (([], Q) : Tab) = true
  st : gJ (([], Q) : Tab) = true
  fl : Q.flatten.length = k
  col : nx P
  same : dG P Q
  p9 : dB 9 9 P
  row : ∀ v, 1 ≤ v → v ≤ (k : Int) → rowOf ([], Q) v = rowOf q v
theorem Unr.step{q:Tab}{k:Nat}{P Q:List (List Int)}(h:Unr q (k+1) P Q): ∃a:Nat,rowOf q ((k+1:Nat):Int)=a∧a<Q.length∧1≤(Q.getD a []).length∧cel Q a ((Q.getD a []).length-1)=(k+1:Nat)∧(Q.getD (a+1) []).length<(Q.getD a []).length∧Unr q k (jK P a).1 (bR Q a):=by
 have hfl:(([],Q):Tab).2.flatten.length=k+1:=h.fl
 obtain⟨a,a1,a2,a3,a4,a5⟩:=yS h.pl h.st (by omega)
 obtain⟨b1,b2,b3,b4⟩:=Ab h.pl h.st (by omega) a1 a2 a3 a4
 simp only at a1 a2 a3 a4 b3
 have hP1:a<P.length:=by rw[h.same.1];exact a1
 refine⟨a,?_,a1,a2,by rw[a3,h.fl],a4,⟨b1,b2,by have:=h.fl;omega,u6 h.col hP1 (by rw[h.same.2];exact a2) (by rw[h.same.2,h.same.2];exact a4),(um P a).trans (u4 h.same a),tK h.p9 a,fun v v1 v2=> ?_⟩⟩
 ·rw[←h.row _ (by omega) (Int.le_refl _),←a5,hfl]
 ·rw[b4 v v1 (by rw[hfl];omega)]
  exact h.row v v1 (by omega)
end Go.Am.Pu
namespace Go.Am.Pu
end Go.Am.Pu
end
section
/- Insertion keeps tableaux; where the new cells lie; a tableau from its word. Plain words. -/
namespace Go.Am.Pu
def kD(r:List Int):Prop:= ∀i,i+1<r.length→r.getD i 0≤r.getD (i+1) 0
theorem kD.le{r:List Int}(h:kD r): ∀(d i:Nat),i+d<r.length→r.getD i 0≤r.getD (i+d) 0
 |0,i,_=>Int.le_refl _
 |d+1,i,hi=>by
  have a:=kD.le h d i (by omega)
  have b:=h (i+d) (by omega)
  rw[show i+(d+1)=i+d+1 by omega]
  omega
theorem kD.mono{r:List Int}(h:kD r){i j:Nat}(hij:i≤j)(hj:j<r.length):r.getD i 0≤r.getD j 0:=by
 have:=h.le (j-i) i (by omega)
 rw[show i+(j-i)=j by omega]at this
 exact this
def fst(r:List Int)(x:Int):Nat:=r.findIdx fun n=>decide (x<n)
theorem tq{r:List Int}{x:Int}:fst r x≤r.length:=List.findIdx_le_length
theorem yL{r:List Int}{x:Int}(h:fst r x<r.length):x<r.getD (fst r x) 0:=by
 have:=wN (p:=fun n=>decide (x<n)) h
 exact of_decide_eq_true this
theorem tT{r:List Int}{x:Int}{i:Nat}(h:i<fst r x):r.getD i 0≤x:=by
 have h1:i<r.length:=Nat.lt_of_lt_of_le h tq
 have h2:=List.not_of_lt_findIdx h
 rw[aE h1]
 exact Int.not_lt.1 (of_decide_eq_false h2)
theorem fG(r:List Int)(rs:List (List Int))(x:Int):bT (r::rs) x=if fst r x<r.length then(r.set (fst r x) x::(bT rs (r.getD (fst r x) 0)).1,(bT rs (r.getD (fst r x) 0)).2+1)else((r++ [x])::rs,0):=rfl
def AG(r:List Int):List (List Int)→Prop
 | []=>True
 |s::_=>s.length≤r.length∧ ∀q,q<s.length→r.getD q 0<s.getD q 0
def SSR:List (List Int)→Prop
 | []=>True
 |r::rs=>0<r.length∧kD r∧AG r rs∧SSR rs
theorem iy{r:List Int}{i:Nat}(x:Int)(h:i<r.length)(q:Nat):(r.set i x).getD q 0=if q=i then x else r.getD q 0:=by
 by_cases e:q=i
 ·subst e;rw[if_pos rfl,aE (by rw[List.length_set];exact h),List.getElem_set_self]
 ·rw[if_neg e,getD_set_ne (Ne.symm e)]
theorem fY{r:List Int}(x:Int)(q:Nat):(r++ [x]).getD q 0=if q=r.length then x else r.getD q 0:=by
 by_cases h:q<r.length
 ·rw[xO h,if_neg (by omega)]
 ·rw[yb (by omega)]
  by_cases e:q=r.length
  ·rw[if_pos e,e,Nat.sub_self];rfl
  ·rw[if_neg e,bC (by simp;omega),bC (by omega)]
theorem zG{r:List Int}{x:Int}(h:kD r)(hf:fst r x<r.length):kD (r.set (fst r x) x):=by
 intro i hi
 rw[List.length_set]at hi
 rw[iy x hf,iy x hf]
 have h0:=h i hi
 by_cases e1:i=fst r x
 ·rw[if_pos e1,if_neg (by omega)]
  have:=yL hf
  rw[←e1]at this
  omega
 ·rw[if_neg e1]
  by_cases e2:i+1=fst r x
  ·rw[if_pos e2];exact tT (by omega)
  ·rw[if_neg e2];exact h0
theorem zP{r:List Int}{x:Int}(h:kD r)(hf: ¬fst r x<r.length):kD (r++ [x]):=by
 intro i hi
 rw[List.length_append,List.length_singleton]at hi
 rw[fY,fY,if_neg (by omega)]
 by_cases e:i+1=r.length
 ·rw[if_pos e]
  have:= @tq r x
  exact tT (by omega)
 ·rw[if_neg e];exact h i (by omega)
theorem yW{r:List Int}{x:Int}{rs:List (List Int)}(h:kD r)(hf:fst r x<r.length)(ho:AG r rs):AG (r.set (fst r x) x) (bT rs (r.getD (fst r x) 0)).1:=by
 have hy:=yL hf
 have hle: ∀q,q<r.length→(r.set (fst r x) x).getD q 0≤r.getD q 0:=fun q hq=>by
  rw[iy x hf]
  split
  ·next e=>rw[e];omega
  ·exact Int.le_refl _
 have hlow: ∀p,p≤fst r x→(r.set (fst r x) x).getD p 0<r.getD (fst r x) 0:=fun p hp=>by
  rw[iy x hf]
  split
  ·exact hy
  ·have:=tT (r:=r) (x:=x) (i:=p) (by omega)
   omega
 cases rs with
 |nil=>
  show([r.getD (fst r x) 0]:List Int).length≤_∧_
  refine⟨by rw[List.length_set];simp;omega,fun q hq=> ?_⟩
  have e:q=0:=by simp at hq;exact hq
  subst e
  exact hlow 0 (by omega)
 |cons s rs=>
  obtain⟨o1,o2⟩:=ho
  have hp:fst s (r.getD (fst r x) 0)≤fst r x:=by
   refine Nat.le_of_not_lt fun hlt=> ?_
   have hs:fst r x<s.length:=Nat.lt_of_lt_of_le hlt tq
   have a:=tT hlt
   have b:=o2 _ hs
   omega
  rw[fG]
  by_cases c:fst s (r.getD (fst r x) 0)<s.length
  ·rw[if_pos c]
   refine⟨by rw[List.length_set,List.length_set];exact o1,fun q hq=> ?_⟩
   rw[List.length_set]at hq
   rw[iy (r:=s) _ c]
   split
   ·next e=>rw[e];exact hlow _ hp
   ·have a:=hle q (by omega)
    have b:=o2 q hq
    omega
  ·rw[if_neg c]
   have hsl:fst s (r.getD (fst r x) 0)=s.length:=Nat.le_antisymm tq (Nat.le_of_not_lt c)
   refine⟨by rw[List.length_set,List.length_append,List.length_singleton];omega,fun q hq=> ?_⟩
   rw[List.length_append,List.length_singleton]at hq
   rw[fY]
   split
   ·next e=>rw[e];exact hlow _ (by omega)
   ·have a:=hle q (by omega)
    have b:=o2 q (by omega)
    omega
theorem xq: ∀(rs:List (List Int)) (x:Int),SSR rs→SSR (bT rs x).1
 | [],x,_=>⟨by simp,fun i hi=>by simp at hi,trivial,trivial⟩
 |r::rs,x,h=>by
  obtain⟨h1,h2,h3,h4⟩:=h
  rw[fG]
  split
  ·next c=>exact⟨by rw[List.length_set];exact h1,zG h2 c,yW h2 c h3,xq rs _ h4⟩
  ·next c=>
   refine⟨by simp,zP h2 c,?_,h4⟩
   cases rs with
   |nil=>trivial
   |cons s rs=>
    obtain⟨o1,o2⟩:=h3
    refine⟨by rw[List.length_append];omega,fun q hq=> ?_⟩
    rw[fY,if_neg (by omega)]
    exact o2 q hq
end Go.Am.Pu
end
section
/- Plain tableaux, row by row; a tableau from its word; words inserted. Plain words. -/
namespace Go.Am.Pu
theorem tS: ∀{rs:List (List Int)},SSR rs→ ∀r,r<rs.length→0<(rs.getD r []).length∧kD (rs.getD r [])
 |r::rs,h,0,_=>⟨h.1,h.2.1⟩
 |r::rs,h,q+1,hq=>tS h.2.2.2 q (by simpa using hq)
theorem tI: ∀{rs:List (List Int)},SSR rs→nx rs
 | [],_,i,hi=>by simp at hi
 | [r],_,i,hi=>by simp at hi
 |r::s::rs,h,0,_=>h.2.2.1
 |r::s::rs,h,i+1,hi=>tI h.2.2.2 i (by simpa using hi)
theorem tf: ∀{rs:List (List Int)},(∀r,r<rs.length→0<(rs.getD r []).length∧kD (rs.getD r []))→nx rs→SSR rs
 | [],_,_=>trivial
 |r::rs,h1,h2=>by
  refine⟨(h1 0 (by simp)).1,(h1 0 (by simp)).2,?_,tf (fun q hq=>h1 (q+1) (by simpa using hq)) (fun i hi=>h2 (i+1) (by simpa using hi))⟩
  cases rs with
  |nil=>trivial
  |cons s rs=>exact h2 0 (by simp)
theorem mq(rs:List (List Int)){i:Nat}(h:i<rs.length):(outer (([],rs):Tab)).getD i 0=(rs.getD i []).length:=by
 have:=gA [] rs 0 i h
 unfold outer
 rw[this]
 simp
theorem tw{rs:List (List Int)}(h:SSR rs)(hn: ∀x∈rs.flatten,1≤x∧x≤9)(h9:rs.flatten.length≤9):aX (([],rs):Tab)=true:=by
 have hr:=fun r hr=>tS h r hr
 have hc:=tI h
 have hrl: ∀r,r<rs.length→(rs.getD r []).length≤9:=fun r h1=>by
  have:=qU (rs:=rs) (r:=rs.getD r []) (by rw[aE h1];exact List.getElem_mem h1)
  omega
 refine pI rfl ?_ (fun r x h1 h2=>hn _ (jQ h1 h2)) (fun r x h1 h2=>(hr r h1).2 x h2) (fun r x h1 h2=>(hc r h1).2 x h2)
 have hs:gD (outer (([],rs):Tab))=rs.flatten.length:=mu [] rs 0 fun q _=>by simp
 refine kK _ 9 0 (fun x hx=> ?_) (fun h0=> ?_) (fun i hi=> ?_) (by omega)
 ·obtain⟨i,hi,rfl⟩:=List.getElem_of_mem hx
  have hi':i<rs.length:=by rw[cV]at hi;exact hi
  rw[←aE hi 0,mq rs hi']
  have:=(hr i hi').1
  omega
 ·have h0':0<rs.length:=by rw[cV]at h0;exact h0
  rw[mq rs h0']
  have:=hrl 0 h0'
  omega
 ·have hi':i+1<rs.length:=by rw[cV]at hi;exact hi
  rw[mq rs hi',mq rs (by omega)]
  have:=(hc i hi').1
  omega
theorem xj: ∀(rs:List (List Int)) (x z:Int),z∈(bT rs x).1.flatten→z=x∨z∈rs.flatten
 | [],x,z,h=>by simp[bT]at h;exact .inl h
 |r::rs,x,z,h=>by
  rw[fG]at h
  split at h
  ·next c=>
   simp only[List.flatten_cons,List.mem_append]at h⊢
   rcases h with h|h
   ·rcases List.mem_or_eq_of_mem_set h with h|h
    ·exact .inr (.inl h)
    ·exact .inl h
   ·rcases xj rs _ z h with h|h
    ·right;left
     rw[h,aE c]
     exact List.getElem_mem c
    ·exact .inr (.inr h)
  ·simp only[List.flatten_cons,List.mem_append,List.mem_singleton]at h⊢
   rcases h with(h|h)|h
   ·exact .inr (.inl h)
   ·exact .inl h
   ·exact .inr (.inr h)
theorem uU: ∀(rs:List (List Int)) (x:Int),(bT rs x).1.flatten.length=rs.flatten.length+1
 | [],x=>by simp[bT]
 |r::rs,x=>by
  rw[fG]
  split
  ·have:=uU rs (r.getD (fst r x) 0)
   simp only[List.flatten_cons,List.length_append,List.length_set]
   omega
  ·simp only[List.flatten_cons,List.length_append,List.length_singleton]
   omega
theorem xh: ∀(rs:List (List Int)) (x:Int),(bT rs x).2≤rs.length∧((bT rs x).1.length=if(bT rs x).2=rs.length then rs.length+1 else rs.length)∧ ∀i,((bT rs x).1.getD i []).length=if i=(bT rs x).2 then(rs.getD i []).length+1 else(rs.getD i []).length
 | [],x=>by
  refine⟨Nat.le_refl _,rfl,fun i=> ?_⟩
  cases i with
  |zero=>rfl
  |succ i=>simp[bT]
 |r::rs,x=>by
  rw[fG]
  split
  ·next c=>
   obtain⟨a,b,d⟩:=xh rs (r.getD (fst r x) 0)
   refine⟨by simp only[List.length_cons];omega,?_,fun i=> ?_⟩
   ·simp only[List.length_cons,b,Nat.add_right_cancel_iff]
    split<;>rfl
   ·cases i with
    |zero=>simp
    |succ i=>
     have:=d i
     simp only[Nat.add_right_cancel_iff]
     exact this
  ·refine⟨Nat.zero_le _,by simp,fun i=> ?_⟩
   cases i with
   |zero=>simp
   |succ i=>simp
def lr:List Int→List (List Int)→List (List Int)
 | [],P=>P
 |x::w,P=>lr w (bT P x).1
theorem j4: ∀(v w:List Int) (P:List (List Int)),lr (v++w) P=lr w (lr v P)
 | [],_,_=>rfl
 |x::v,w,P=>j4 v w _
end Go.Am.Pu
end
section
/- The recording tableau is standard, and its descents are the word's. Plain words. -/
namespace Go.Am.Pu
def iZ(Q:List (List Int))(a:Nat)(v:Int):List (List Int):=if a=Q.length then Q++ [[v]]else Q.set a (Q.getD a []++ [v])
theorem yC{Q:List (List Int)}{a:Nat}(v:Int)(ha:a≤Q.length)(i:Nat):(iZ Q a v).getD i []=if i=a then Q.getD a []++ [v]else Q.getD i []:=by
 unfold iZ
 by_cases e:a=Q.length
 ·rw[if_pos e]
  by_cases h:i<Q.length
  ·rw[if_neg (by omega)]
   simp only[List.getD_eq_getElem?_getD,List.getElem?_append_left h]
  ·by_cases e2:i=a
   ·rw[if_pos e2,e2,e,bC (xs:=Q) (Nat.le_refl _)]
    simp
   ·rw[if_neg e2,bC (xs:=Q) (by omega),bC (by rw[List.length_append,List.length_singleton];omega)]
 ·rw[if_neg e]
  by_cases e2:i=a
  ·subst e2;rw[if_pos rfl,aE (by rw[List.length_set];omega),List.getElem_set_self]
  ·rw[if_neg e2,getD_set_ne (Ne.symm e2)]
theorem yJ{Q:List (List Int)}{a:Nat}(v:Int):(iZ Q a v).length=if a=Q.length then Q.length+1 else Q.length:=by
 unfold iZ
 split
 ·rw[List.length_append,List.length_singleton]
 ·rw[List.length_set]
theorem v9{Q:List (List Int)}{a:Nat}(v:Int)(ha:a≤Q.length):(iZ Q a v).flatten.length=Q.flatten.length+1:=by
 unfold iZ
 split
 ·simp
 ·next e=>
  have: ∀(Q:List (List Int)) (a:Nat),a<Q.length→(Q.set a (Q.getD a []++ [v])).flatten.length=Q.flatten.length+1:=by
   intro Q
   induction Q with
   |nil=>intro a h;simp at h
   |cons r rs ih=>
    intro a h
    cases a with
    |zero=>simp;omega
    |succ a=>
     have:=ih a (by simpa using h)
     simp only[List.set_cons_succ,List.getD_cons_succ,List.flatten_cons,List.length_append,this]
     omega
  exact this Q a (by omega)
theorem zL{Q P:List (List Int)}{a k:Nat}(hp:aX (([],Q):Tab)=true)(hs:gJ (([],Q):Tab)=true)(hk:Q.flatten.length=k)(h9:k+1≤9)(hP:SSR P)(ha:a≤Q.length)(hPl:P.length=if a=Q.length then Q.length+1 else Q.length)
  (hl: ∀i,(P.getD i []).length=if i=a then(Q.getD i []).length+1 else(Q.getD i []).length):
  aX (([],iZ Q a ((k+1:Nat):Int)):Tab)=true∧gJ (([],iZ Q a ((k+1:Nat):Int)):Tab)=true∧(iZ Q a ((k+1:Nat):Int)).flatten.length=k+1∧dG P (iZ Q a ((k+1:Nat):Int))∧
   rowOf ([],iZ Q a ((k+1:Nat):Int)) ((k+1:Nat):Int)=a∧ ∀v,1≤v→v≤(k:Int)→rowOf ([],iZ Q a ((k+1:Nat):Int)) v=rowOf ([],Q) v:=by
 have hget:=yC ((k+1:Nat):Int) ha
 have hlen:= @yJ Q a ((k+1:Nat):Int)
 have hfl:=v9 ((k+1:Nat):Int) ha
 generalize hN:iZ Q a ((k+1:Nat):Int)=N at*
 have hNl: ∀i,(N.getD i []).length=if i=a then(Q.getD i []).length+1 else(Q.getD i []).length:=fun i=>by
  rw[hget]
  split
  ·next e=>rw[e,List.length_append,List.length_singleton]
  ·rfl
 have hsame:dG P N:=⟨by rw[hPl,hlen],fun i=>by rw[hl,hNl]⟩
 have hcel: ∀r x,cel N r x=if r=a∧x=(Q.getD a []).length then((k+1:Nat):Int)else cel Q r x:=fun r x=>by
  unfold cel
  rw[hget]
  by_cases e:r=a
  ·subst e
   rw[if_pos rfl,fY]
   by_cases e2:x=(Q.getD r []).length
   ·rw[if_pos e2,if_pos ⟨rfl,e2⟩]
   ·rw[if_neg e2,if_neg (fun h=>e2 h.2)]
  ·rw[if_neg e,if_neg (fun h=>e h.1)]
 have hb:=(lg hp hs).2
 simp only at hb
 rw[hk]at hb
 have hQ: ∀{r x:Nat},x<(Q.getD r []).length→1≤cel Q r x∧cel Q r x≤(k:Int):=fun{r x} hx=>by
  have hr:r<Q.length:=Nat.lt_of_not_le fun hle=>by rw[bC hle]at hx;simp at hx
  exact hb _ (jQ hr hx)
 obtain⟨q1,q2⟩:=l6 hp
 have q3:=kX hp
 simp only at q2 q3
 have pc:=tI hP
 have pr:=fun r hr=>tS hP r hr
 have hqlen: ∀i,(Q.getD (i+1) []).length≤(Q.getD i []).length:=fun i=>by
  by_cases h:i+1<Q.length
  ·exact(q3 i h).1
  ·rw[bC (by omega)];exact Nat.zero_le _
 have hssr:SSR N:=by
  refine tf (fun r hr=>⟨?_,fun x hx=> ?_⟩) (fun i hi=> ?_)
  ·rw[←hsame.2];exact(pr r (by rw[hsame.1];exact hr)).1
  ·have e1:=hcel r x
   have e2:=hcel r (x+1)
   unfold cel at e1 e2
   rw[e1,e2]
   rw[hNl]at hx
   have hxQ:x<(Q.getD r []).length:=by
    split at hx<;>omega
   rw[if_neg (fun h=>by rw[h.1]at hxQ;omega)]
   have hv:=hQ hxQ
   unfold cel at hv
   by_cases e:r=a∧x+1=(Q.getD a []).length
   ·rw[if_pos e];omega
   ·rw[if_neg e]
    have hx1:x+1<(Q.getD r []).length:=by
     split at hx
     ·next e3=>
      have: ¬x+1=(Q.getD a []).length:=fun h=>e ⟨e3,h⟩
      rw[←e3]at this
      omega
     ·exact hx
    have hr:r<Q.length:=Nat.lt_of_not_le fun hle=>by rw[bC hle]at hx1;simp at hx1
    exact q2 r x hr hx1
  ·obtain⟨c1,c2⟩:=pc i (by rw[hsame.1];exact hi)
   rw[hsame.2,hsame.2]at c1
   refine⟨c1,fun x hx=> ?_⟩
   have e1:=hcel i x
   have e2:=hcel (i+1) x
   unfold cel at e1 e2
   rw[e1,e2]
   rw[hNl]at hx
   have hxi:x<(N.getD i []).length:=by
    have:=hNl (i+1)
    omega
   rw[hNl]at hxi
   by_cases e:i+1=a∧x=(Q.getD a []).length
   ·rw[if_pos e,if_neg (fun h=>by omega)]
    have hxQ:x<(Q.getD i []).length:=by rw[if_neg (by omega)]at hxi;exact hxi
    have hv:=hQ hxQ
    unfold cel at hv
    omega
   ·rw[if_neg e]
    have hx1:x<(Q.getD (i+1) []).length:=by
     split at hx
     ·next e3=>
      have: ¬x=(Q.getD a []).length:=fun h=>e ⟨e3,h⟩
      rw[←e3]at this
      omega
     ·exact hx
    have hxQ:x<(Q.getD i []).length:=Nat.lt_of_lt_of_le hx1 (hqlen i)
    rw[if_neg (fun h=>by rw[h.1]at hxQ;omega)]
    have hr:i+1<Q.length:=Nat.lt_of_not_le fun hle=>by rw[bC hle]at hx1;simp at hx1
    exact(q3 i hr).2 x hx1
 have hflk:N.flatten.length=k+1:=by omega
 have hmem: ∀z∈N.flatten,1≤z∧z≤9:=fun z hz=>by
  obtain⟨r,x,hr,hx,e⟩:=n0 hz
  rw[←e,hcel]
  split
  ·omega
  ·next hc=>
   rw[hNl]at hx
   have hxQ:x<(Q.getD r []).length:=by
    split at hx
    ·next e3=>
     have: ¬x=(Q.getD a []).length:=fun h=>hc ⟨e3,h⟩
     rw[←e3]at this
     omega
    ·exact hx
   have:=hQ hxQ
   omega
 have hpl:=tw hssr hmem (by omega)
 have haN:a<N.length:=by
  rw[hlen]
  split<;>omega
 have hxN:(Q.getD a []).length<(N.getD a []).length:=by rw[hNl,if_pos rfl];omega
 have hnew:cel N a (Q.getD a []).length=((k+1:Nat):Int):=by rw[hcel,if_pos ⟨rfl,rfl⟩]
 have hold: ∀{r x:Nat},x<(Q.getD r []).length→r<N.length∧x<(N.getD r []).length∧cel N r x=cel Q r x:=fun{r x} hx=>by
  have hx':x<(N.getD r []).length:=by
   rw[hNl]
   split<;>omega
  refine⟨Nat.lt_of_not_le fun hle=>by rw[bC hle]at hx';simp at hx',hx',?_⟩
  rw[hcel,if_neg (fun h=>by rw[h.1]at hx;omega)]
 have ho:kL Q.flatten=true:=by
  have:=hs
  simp only[gJ,Bool.and_eq_true]at this
  exact this.2
 have hst:gJ (([],N):Tab)=true:=by
  have hp':=hpl
  simp only[aX,Bool.and_eq_true]at hp'
  simp only[gJ,Bool.and_eq_true]
  refine⟨hp'.1,jy.2 fun v hv=> ?_⟩
  rw[hflk,fR]at hv
  by_cases e:v=((k+1:Nat):Int)
  ·rw[e,←hnew];exact jQ haN hxN
  ·obtain⟨r,x,hr,hx,e2⟩:=n0 (jy.1 ho v (fR.2 (by omega)))
   obtain⟨d1,d2,d3⟩:=hold hx
   rw[←e2,←d3]
   exact jQ d1 d2
 refine⟨hpl,hst,hflk,hsame,jj hpl hst haN hxN hnew,fun v v1 v2=> ?_⟩
 obtain⟨r,x,hr,hx,e2⟩:=n0 (jy.1 ho v (fR.2 (by omega)))
 obtain⟨d1,d2,d3⟩:=hold hx
 rw[jj hpl hst d1 d2 (by rw[d3];exact e2),jj hp hs hr hx e2]
structure Ins (P Q : List (List Int)) (k : Nat) : Prop where
  ssr : SSR P
  num : ∀ x ∈ P.flatten, 1 ≤ x ∧ x ≤ 9
  fl : P.flatten.length = k
  pl : aX (([], Q) : Tab) = true
  st : gJ (([], Q) : Tab) = true
  qf : Q.flatten.length = k
  same : dG P Q
theorem Ins.step{P Q:List (List Int)}{k:Nat}{x:Int}(h:Ins P Q k)(hx:1≤x∧x≤9)(h9:k+1≤9):
  Ins (bT P x).1 (iZ Q (bT P x).2 ((k+1:Nat):Int)) (k+1)∧rowOf ([],iZ Q (bT P x).2 ((k+1:Nat):Int)) ((k+1:Nat):Int)=((bT P x).2:Nat)∧ ∀v,1≤v→v≤(k:Int)→rowOf ([],iZ Q (bT P x).2 ((k+1:Nat):Int)) v=rowOf ([],Q) v:=by
 obtain⟨a,b,c⟩:=xh P x
 have hs:=xq P x h.ssr
 obtain⟨d1,d2,d3,d4,d5,d6⟩:=zL (a:=(bT P x).2) h.pl h.st h.qf h9 hs (by rw[←h.same.1];exact a) (by rw[←h.same.1];exact b) (fun i=>by rw[←h.same.2];exact c i)
 refine⟨⟨hs,fun z hz=> ?_,by rw[uU,h.fl],d1,d2,d3,d4⟩,d5,d6⟩
 rcases xj P x z hz with e|e
 ·rw[e];exact hx
 ·exact h.num z e
theorem Ins.nil:Ins [] [] 0:=⟨trivial,fun x hx=>by simp at hx,rfl,rfl,rfl,rfl,⟨rfl,fun _=>rfl⟩⟩
end Go.Am.Pu
end
section
/- Words, and what inserting makes of them. Plain words. -/
namespace Go.Am.Pu
end Go.Am.Pu
end
section
/- Standardizing a tableau: the cells numbered by number and column. Plain words. -/
namespace Go.Am.Pu
def fO(Q:List (List Int))(v:Int)(c r:Nat)(s:Nat×List (List Int)):Nat×List (List Int):=
 if c<(Q.getD r []).length∧cel Q r c=v then(s.1+1,iX s.2 r c ((s.1+1:Nat):Int))else s
structure Num (Q : List (List Int)) (D : Nat → Nat → Prop) (s : Nat × List (List Int)) (F : List Int) : Prop where
  same : dG s.2 Q
  len : F.length = s.1
  val : ∀ r x, r < Q.length → x < (Q.getD r []).length → D r x → ∃ k, k < s.1 ∧ cel s.2 r x = ((k + 1 : Nat) : Int) ∧ F.getD k 0 = cel Q r x
  inj : ∀ r x r' x', r < Q.length → x < (Q.getD r []).length → D r x → r' < Q.length → x' < (Q.getD r' []).length → D r' x' → cel s.2 r x = cel s.2 r' x' → r = r' ∧ x = x'
  all : ∀ k, k < s.1 → ∃ r x, r < Q.length ∧ x < (Q.getD r []).length ∧ D r x ∧ cel s.2 r x = ((k + 1 : Nat) : Int)
  lex : ∀ r x r' x', r < Q.length → x < (Q.getD r []).length → D r x → r' < Q.length → x' < (Q.getD r' []).length → D r' x' → cel s.2 r x < cel s.2 r' x' → cel Q r x < cel Q r' x' ∨ (cel Q r x = cel Q r' x' ∧ x ≤ x')
theorem Num.congr{Q:List (List Int)}{D D':Nat→Nat→Prop}{s:Nat×List (List Int)}{F:List Int}(h:Num Q D s F)(e: ∀r x,r<Q.length→x<(Q.getD r []).length→(D r x↔D' r x)):Num Q D' s F:=
 ⟨h.same,h.len,fun r x a b d=>h.val r x a b ((e r x a b).2 d),fun r x r' x' a b d a' b' d'=>h.inj r x r' x' a b ((e r x a b).2 d) a' b' ((e r' x' a' b').2 d'),
  fun k hk=>by obtain⟨r,x,a,b,d,q⟩:=h.all k hk;exact⟨r,x,a,b,(e r x a b).1 d,q⟩,fun r x r' x' a b d a' b' d'=>h.lex r x r' x' a b ((e r x a b).2 d) a' b' ((e r' x' a' b').2 d')⟩
def Dn(Q:List (List Int))(v:Int)(c r:Nat)(a i:Nat):Prop:=cel Q a i<v∨(cel Q a i=v∧(i<c∨(i=c∧a<r)))
theorem Num.step{Q:List (List Int)}{v:Int}{c r:Nat}{s:Nat×List (List Int)}{F:List Int}(h:Num Q (Dn Q v c r) s F)(hr:r<Q.length): ∃F',Num Q (Dn Q v c (r+1)) (fO Q v c r s) F':=by
 unfold fO
 split
 ·next hc=>
  obtain⟨hc,hv⟩:=hc
  have hnd: ¬Dn Q v c r r c:=by unfold Dn;omega
  have hsr:r<s.2.length:=by rw[h.same.1];exact hr
  have hsc:c<(s.2.getD r []).length:=by rw[h.same.2];exact hc
  have new: ∀a i,Dn Q v c (r+1) a i→(a=r∧i=c)∨(¬(a=r∧i=c)∧Dn Q v c r a i):=fun a i d=>by
   by_cases e:a=r∧i=c
   ·exact .inl e
   ·refine .inr ⟨e,?_⟩
    unfold Dn at d⊢
    omega
  have at1:=iE (g:=s.2) (r:=r) (c:=c) ((s.1+1:Nat):Int) hsr hsc
  have ne1: ∀a i,¬(a=r∧i=c)→cel (iX s.2 r c ((s.1+1:Nat):Int)) a i=cel s.2 a i:=fun a i e=>gh _ e
  refine⟨F++ [v],⟨⟨by rw[fU];exact h.same.1,fun i=>by rw[bt];exact h.same.2 i⟩,by rw[List.length_append,List.length_singleton,h.len],?_,?_,?_,?_⟩⟩
  ·intro a i ha hi d
   rcases new a i d with⟨rfl,rfl⟩|⟨e,d'⟩
   ·refine⟨s.1,by simp only;omega,at1,?_⟩
    rw[hv,←h.len,List.getD_eq_getElem?_getD]
    simp
   ·obtain⟨k,k1,k2,k3⟩:=h.val a i ha hi d'
    refine⟨k,by simp only;omega,by rw[ne1 a i e];exact k2,?_⟩
    rw[←k3,List.getD_eq_getElem?_getD,List.getD_eq_getElem?_getD,List.getElem?_append_left (by rw[h.len];exact k1)]
  ·intro a i b j ha hi d hb hj d' e
   rcases new a i d with⟨rfl,rfl⟩|⟨ea,da⟩
   ·rcases new b j d' with⟨rfl,rfl⟩|⟨eb,db⟩
    ·exact⟨rfl,rfl⟩
    ·obtain⟨k,k1,k2,_⟩:=h.val b j hb hj db
     simp only at e
     rw[at1,ne1 b j eb,k2]at e
     omega
   ·rcases new b j d' with⟨rfl,rfl⟩|⟨eb,db⟩
    ·obtain⟨k,k1,k2,_⟩:=h.val a i ha hi da
     simp only at e
     rw[at1,ne1 a i ea,k2]at e
     omega
    ·simp only at e
     rw[ne1 a i ea,ne1 b j eb]at e
     exact h.inj a i b j ha hi da hb hj db e
  ·intro k hk
   simp only at hk
   by_cases ek:k=s.1
   ·subst ek
    exact⟨r,c,hr,hc,by unfold Dn;omega,at1⟩
   ·obtain⟨a,i,ha,hi,d,e⟩:=h.all k (by omega)
    have hne: ¬(a=r∧i=c):=fun q=>by rw[q.1,q.2]at d;exact hnd d
    exact⟨a,i,ha,hi,by unfold Dn at d⊢;omega,by simp only;rw[ne1 a i hne];exact e⟩
  ·intro a i b j ha hi d hb hj d' e
   simp only at e
   rcases new a i d with⟨rfl,rfl⟩|⟨ea,da⟩
   ·rcases new b j d' with⟨rfl,rfl⟩|⟨eb,db⟩
    ·omega
    ·obtain⟨k,k1,k2,_⟩:=h.val b j hb hj db
     rw[at1,ne1 b j eb,k2]at e
     omega
   ·rcases new b j d' with⟨rfl,rfl⟩|⟨eb,db⟩
    ·unfold Dn at da
     omega
    ·rw[ne1 a i ea,ne1 b j eb]at e
     exact h.lex a i b j ha hi da hb hj db e
 ·next hc=>
  refine⟨F,h.congr fun a i ha hi=> ?_⟩
  unfold Dn
  constructor
  ·intro d;omega
  ·intro d
   by_cases e:a=r∧i=c
   ·obtain⟨rfl,rfl⟩:=e
    have:cel Q a i≠v:=fun q=>hc ⟨hi,q⟩
    omega
   ·omega
structure sM (Q X : List (List Int)) (f : Int → Int) : Prop where
  same : dG X Q
  val : ∀ r x, r < X.length → x < (X.getD r []).length → cel Q r x = f (cel X r x)
  lex : ∀ r x r' x', r < X.length → x < (X.getD r []).length → r' < X.length → x' < (X.getD r' []).length → cel X r x < cel X r' x' → cel Q r x < cel Q r' x' ∨ (cel Q r x = cel Q r' x' ∧ x < x')
end Go.Am.Pu
end
section
/- A pair of tableaux unrolled, the second one semistandard; sorting; the matrix of a pair. Plain words. -/
namespace Go.Am.Pu
def wM(R:Int→Prop)(rs:List (List Int)):Prop:= ∀r∈rs,∀v∈r,R v
theorem wM.at{R:Int→Prop}{rs:List (List Int)}(h:wM R rs){r x:Nat}(hr:r<rs.length)(hx:x<(rs.getD r []).length):R ((rs.getD r []).getD x 0):=by
 rw[aE hx]
 exact h (rs.getD r []) (by rw[aE hr];exact List.getElem_mem hr) _ (List.getElem_mem hx)
theorem wM.set{R:Int→Prop}{rs:List (List Int)}(h:wM R rs)(i:Nat){r:List Int}(hr: ∀v∈r,R v):wM R (rs.set i r):=fun y hy=>by
 rcases List.mem_or_eq_of_mem_set hy with h'|rfl
 ·exact h y h'
 ·exact hr
theorem wM.row{R:Int→Prop}{rs:List (List Int)}(h:wM R rs)(i:Nat): ∀v∈rs.getD i [],R v:=by
 by_cases hi:i<rs.length
 ·exact h _ (by rw[aE hi];exact List.getElem_mem hi)
 ·rw[bC (by omega)];simp
theorem Unr.top{q:Tab}{m:Nat}{P X:List (List Int)}(h:Unr q (m+1) P X){a:Nat}(ha:a<X.length)(htop:cel X a ((X.getD a []).length-1)=((m+1:Nat):Int)):
  (∀r,r<X.length→1≤(X.getD r []).length)∧(∀r,r<X.length→r≠a→cel X r ((X.getD r []).length-1)<((m+1:Nat):Int)):=by
 have hp:=fun r hr=>n7 h.pl (r:=r) hr
 refine⟨hp,fun r hr hne=> ?_⟩
 have h1:=hp r hr
 have h2:=hp a ha
 simp only at h1 h2
 have hb:=((lg h.pl h.st).2 _ (jQ (rs:=X) hr (show(X.getD r []).length-1<(X.getD r []).length by omega))).2
 have hf:=h.fl
 simp only at hb
 rw[hf]at hb
 have hx:cel X r ((X.getD r []).length-1)≠((m+1:Nat):Int):=fun e=>hne (qd h.pl h.st (a:=r) (b:=a) (x:=(X.getD r []).length-1) (y:=(X.getD a []).length-1) hr (show _<(X.getD r []).length by omega) ha (show _<(X.getD a []).length by omega) (by rw[htop];exact e)).1
 omega
theorem xJ{n m:Nat}{A B:List (List Int)}(h:dB n m A)(s:dG A B):dB n m B:=by
 refine⟨by rw[←s.1];exact h.1,fun x hx=> ?_⟩
 obtain⟨i,hi,rfl⟩:=List.getElem_of_mem hx
 have:=h.at i
 rw[s.2 i,aE hi]at this
 exact this
theorem sM.cut{Q X:List (List Int)}{f:Int→Int}(s:sM Q X f){a:Nat}(ha:a<X.length)(hc:(X.getD (a+1) []).length<(X.getD a []).length)(hp: ∀r,r<X.length→1≤(X.getD r []).length):sM (bR Q a) (bR X a) f:=by
 have hq: ∀r,r<Q.length→1≤(Q.getD r []).length:=fun r hr=>by rw[←s.same.2];exact hp r (by rw[s.same.1];exact hr)
 have rX:=nc ha hc hp
 have rQ:=nc (rs:=Q) (a:=a) (by rw[←s.same.1];exact ha) (by rw[←s.same.2,←s.same.2];exact hc) hq
 have old: ∀{r x},r<(bR X a).length→x<((bR X a).getD r []).length→r<X.length∧x<(X.getD r []).length∧cel (bR X a) r x=cel X r x∧cel (bR Q a) r x=cel Q r x:=fun{r x} hr hx=>by
  have hl:=rh (rs:=X) ha
  have hr':r<X.length:=by rw[hl]at hr;split at hr<;>omega
  have e1:=rX r
  have e2:=rQ r
  unfold cel
  by_cases e:r=a
  ·rw[if_pos e]at e1 e2
   rw[e1]at hx
   rw[List.length_take]at hx
   subst e
   refine⟨hr',by omega,by rw[e1,eQ (by omega)],?_⟩
   rw[e2,eQ (by have:=s.same.2 r;omega)]
  ·rw[if_neg e]at e1 e2
   rw[e1]at hx
   exact⟨hr',hx,by rw[e1],by rw[e2]⟩
 refine⟨u4 s.same a,fun r x hr hx=> ?_,fun r x r' x' hr hx hr' hx' hlt=> ?_⟩
 ·obtain⟨o1,o2,o3,o4⟩:=old hr hx
  rw[o3,o4]
  exact s.val r x o1 o2
 ·obtain⟨o1,o2,o3,o4⟩:=old hr hx
  obtain⟨p1,p2,p3,p4⟩:=old hr' hx'
  rw[o3,p3]at hlt
  rw[o4,p4]
  exact s.lex r x r' x' o1 o2 p1 p2 hlt
theorem sM.step{q:Tab}{m:Nat}{P X Q:List (List Int)}{f:Int→Int}(s:sM Q X f)(h:Unr q (m+1) P X):
  ∃a:Nat,rowOf q ((m+1:Nat):Int)=a∧a<Q.length∧1≤(Q.getD a []).length∧(Q.getD a []).getD ((Q.getD a []).length-1) 0=f ((m+1:Nat):Int)∧(∀r,r<Q.length→1≤(Q.getD r []).length)∧
   (∀r,r<Q.length→r≠a→(Q.getD r []).getD ((Q.getD r []).length-1) 0<f ((m+1:Nat):Int)∨((Q.getD r []).getD ((Q.getD r []).length-1) 0=f ((m+1:Nat):Int)∧(Q.getD r []).length<(Q.getD a []).length))∧
   dB 9 9 Q∧a<P.length∧1≤(P.getD a []).length∧Unr q m (jK P a).1 (bR X a)∧sM (bR Q a) (bR X a) f:=by
 obtain⟨a,a1,a2,a3,a4,a5,a6⟩:=h.step
 obtain⟨t1,t2⟩:=h.top a2 a4
 have v0:=s.val a ((X.getD a []).length-1) a2 (by omega)
 rw[a4]at v0
 unfold cel at v0
 rw[s.same.2]at v0
 refine⟨a,a1,by rw[←s.same.1];exact a2,by rw[←s.same.2];exact a3,v0,fun r hr=>by rw[←s.same.2];exact t1 r (by rw[s.same.1];exact hr),fun r hr hne=> ?_,xJ (wY h.pl) s.same,
  by rw[h.same.1];exact a2,by rw[h.same.2];exact a3,a6,s.cut a2 a5 t1⟩
 have hr':r<X.length:=by rw[s.same.1];exact hr
 have u1:=t1 r hr'
 have hl:=s.lex r ((X.getD r []).length-1) a ((X.getD a []).length-1) hr' (by omega) a2 (by omega) (by rw[a4];exact t2 r hr' hne)
 have v:=s.val a ((X.getD a []).length-1) a2 (by omega)
 rw[v,a4]at hl
 unfold cel at hl
 rw[s.same.2 r,s.same.2 a]at hl
 have e1:=s.same.2 r
 rcases hl with hl|hl
 ·exact .inl hl
 ·exact .inr ⟨hl.1,by omega⟩
structure Bq (r c : Nat) (b : Int) (M : List (List Int)) : Prop where
  len : M.length = r
  row : ∀ i, i < r → (M.getD i []).length = c
  sm : ∀ x ∈ M, ∀ v ∈ x, 0 ≤ v ∧ v ≤ b
end Go.Am.Pu
end
section
/- Standardizing any tableau: its cells in the order of number and column. Plain words. -/
namespace Go.Am.Pu
def zg(t:Tab)(r:Nat):List (Int×Int×Int):=(List.range (t.2.getD r []).length).map fun x=>(cel t.2 r x,t.1.getD r 0+x,(r:Int))
def cellsOf(t:Tab):List (Int×Int×Int):=((List.range t.2.length).map (zg t)).flatten
def KLt(a b:Int×Int×Int):Prop:=a.1<b.1∨(a.1=b.1∧a.2.1<b.2.1)
end Go.Am.Pu
end
section
/- Sorting cells by insertion, as the library does. Plain words. -/
namespace Go.Am.Pu
instance(a b:Int×Int×Int):Decidable (KLt a b):=by unfold KLt;infer_instance
end Go.Am.Pu
end
section
/- All standard tableaux of given rows, found by taking out the greatest number. Plain words. -/
namespace Go.Am.Pu
def eO(ls:List Nat)(a:Nat):List Nat:=if ls.getD a 0=1 then ls.take a else ls.set a (ls.getD a 0-1)
end Go.Am.Pu
end
section
/- Promotion of a rectangle comes back after as many steps as there are cells (reckoned over all of them). Plain words. -/
namespace Go.Am.Pu
theorem sF{t:Tab}(h:aX t=true): ∀(d r:Nat),r+d<t.2.length→(t.2.getD (r+d) []).length≤(t.2.getD r []).length
 |0,r,_=>Nat.le_refl _
 |d+1,r,hr=>Nat.le_trans ((kX h (r+d) hr).1) (sF h d r (by omega))
end Go.Am.Pu
end
section
/- The length of an orbit divides every number of steps that come back. Plain words. -/
namespace Go.Am.Pu
end Go.Am.Pu
end
section
/- Knuth's relations: insertion does not tell related words apart, and a row and a number are related to what an insertion makes of them. Plain words. -/
namespace Go.Am.Pu
abbrev Up(r:List Int):Prop:=r.Pairwise (· ≤ ·)
def cN:List Int→Int→List Int×List Int
 | [],x=>([x],[])
 |a::r,x=>if x<a then(x::r,[a])else(a::(cN r x).1,(cN r x).2)
theorem cU{a x:Int}{r:List Int}(h:x<a):cN (a::r) x=(x::r,[a]):=by unfold cN;rw[if_pos h]
theorem cI{a x:Int}{r:List Int}(h:a≤x):cN (a::r) x=(a::(cN r x).1,(cN r x).2):=by
 conv=>lhs;unfold cN
 rw[if_neg (by omega)]
theorem qT: ∀(r:List Int) (x z:Int),z∈(cN r x).1→z=x∨z∈r
 | [],x,z,h=>by simp only[cN,List.mem_singleton]at h;exact .inl h
 |a::r,x,z,h=>by
  by_cases c:x<a
  ·rw[cU c]at h
   rcases List.mem_cons.1 h with h|h
   ·exact .inl h
   ·exact .inr (List.mem_cons_of_mem _ h)
  ·rw[cI (by omega)]at h
   rcases List.mem_cons.1 h with h|h
   ·exact .inr (by rw[h];exact List.mem_cons_self ..)
   ·rcases qT r x z h with h|h
    ·exact .inl h
    ·exact .inr (List.mem_cons_of_mem _ h)
theorem tH: ∀{r:List Int} (x:Int),Up r→Up (cN r x).1
 | [],x,_=>List.pairwise_singleton ..
 |a::r,x,h=>by
  have h':=List.pairwise_cons.1 h
  by_cases c:x<a
  ·rw[cU c]
   exact List.pairwise_cons.2 ⟨fun z hz=>by have:=h'.1 z hz;omega,h'.2⟩
  ·rw[cI (by omega)]
   refine List.pairwise_cons.2 ⟨fun z hz=> ?_,tH x h'.2⟩
   rcases qT r x z hz with e|e
   ·omega
   ·exact h'.1 z e
theorem iM: ∀(r:List Int) (x:Int),(cN r x).2= []∨ ∃b,(cN r x).2= [b]∧x<b∧b∈r
 | [],x=> .inl rfl
 |a::r,x=>by
  by_cases c:x<a
  ·rw[cU c];exact .inr ⟨a,rfl,c,List.mem_cons_self ..⟩
  ·rw[cI (by omega)]
   rcases iM r x with h|⟨b,h1,h2,h3⟩
   ·exact .inl h
   ·exact .inr ⟨b,h1,h2,List.mem_cons_of_mem _ h3⟩
theorem xp: ∀{r:List Int} {y z:Int},Up r→y≤z→((cN r y).2= []→(cN (cN r y).1 z).2= [])∧ ∀p q,(cN r y).2= [p]→(cN (cN r y).1 z).2= [q]→p≤q
 | [],y,z,_,hz=>by
  refine⟨fun _=> ?_,fun p q h=>by simp[cN]at h⟩
  show(cN [y] z).2= []
  rw[cI hz];rfl
 |a::r,y,z,h,hz=>by
  have h':=List.pairwise_cons.1 h
  by_cases c:y<a
  ·rw[cU c]
   refine⟨fun e=>by simp at e,fun p q e1 e2=> ?_⟩
   rw[cI hz]at e2
   rcases iM r z with o|⟨b,o1,_,o3⟩
   ·simp only at e2;rw[o]at e2;simp at e2
   ·simp only at e2
    rw[o1]at e2
    simp only[List.cons.injEq,and_true]at e1 e2
    have:=h'.1 b o3
    omega
  ·rw[cI (show a≤y by omega)]
   show((cN r y).2= []→(cN (a::(cN r y).1) z).2= [])∧ ∀p q,(cN r y).2= [p]→(cN (a::(cN r y).1) z).2= [q]→p≤q
   rw[cI (show a≤z by omega)]
   exact xp h'.2 hz
theorem xa: ∀{r:List Int} {y z:Int},Up r→y<z→z∈r→ ∃c,(cN r y).2= [c]∧y<c∧c≤z
 | [],_,_,_,_,hm=>by simp at hm
 |a::r,y,z,h,hz,hm=>by
  have h':=List.pairwise_cons.1 h
  by_cases c:y<a
  ·rw[cU c]
   refine⟨a,rfl,c,?_⟩
   rcases List.mem_cons.1 hm with e|e
   ·omega
   ·exact h'.1 z e
  ·rw[cI (by omega)]
   rcases List.mem_cons.1 hm with e|e
   ·omega
   ·exact xa h'.2 hz e
theorem tg: ∀(r:List Int) (x:Int),x∈(cN r x).1
 | [],x=>List.mem_singleton.2 rfl
 |a::r,x=>by
  by_cases c:x<a
  ·rw[cU c];exact List.mem_cons_self ..
  ·rw[cI (by omega)];exact List.mem_cons_of_mem _ (tg r x)
def Tri(u v:List Int):Prop:= ∃x y z:Int,(x<y∧y≤z∧u= [y,z,x]∧v= [y,x,z])∨(x≤y∧y<z∧u= [x,z,y]∧v= [z,x,y])
theorem Tri.a{x y z:Int}(h1:x<y)(h2:y≤z):Tri [y,z,x] [y,x,z]:=⟨x,y,z,.inl ⟨h1,h2,rfl,rfl⟩⟩
theorem Tri.b{x y z:Int}(h1:x≤y)(h2:y<z):Tri [x,z,y] [z,x,y]:=⟨x,y,z,.inr ⟨h1,h2,rfl,rfl⟩⟩
def fI:List Int→List Int→List Int×List Int
 |r,[]=>(r,[])
 |r,x::w=>((fI (cN r x).1 w).1,(cN r x).2++(fI (cN r x).1 w).2)
def xf(p q:List Int×List Int):Prop:=p.1=q.1∧(p.2=q.2∨Tri p.2 q.2)
theorem lT{a:Int}: ∀{w r:List Int},(∀x∈w,a≤x)→fI (a::r) w=(a::(fI r w).1,(fI r w).2)
 | [],_,_=>rfl
 |x::w,r,h=>by
  show((fI (cN (a::r) x).1 w).1,(cN (a::r) x).2++(fI (cN (a::r) x).1 w).2)=_
  rw[cI (h x (List.mem_cons_self ..))]
  simp only
  rw[lT fun y hy=>h y (List.mem_cons_of_mem _ hy)]
  rfl
theorem jO(r:List Int)(x y z:Int):fI r [x,y,z]=((cN (cN (cN r x).1 y).1 z).1,(cN r x).2++((cN (cN r x).1 y).2++(cN (cN (cN r x).1 y).1 z).2)):=by
 simp[fI]
theorem As: ∀{r:List Int} {x y z:Int},Up r→x<y→y≤z→xf (fI r [y,z,x]) (fI r [y,x,z])
 | [],x,y,z,_,h1,h2=>by
  refine⟨?_,.inl ?_⟩
  ·simp[fI,cN,h1,show¬z<y by omega,show¬z<x by omega]
  ·simp[fI,cN,h1,show¬z<y by omega,show¬z<x by omega]
 |a::r,x,y,z,h,h1,h2=>by
  have h':=List.pairwise_cons.1 h
  by_cases c:y<a
  ·rw[jO,jO,cU c]
   simp only
   rw[cI (r:=r) h2,cU (r:=r) h1]
   simp only
   rw[cU h1,cI (show x≤z by omega)]
   refine⟨rfl,?_⟩
   rcases iM r z with o|⟨b,o1,o2,o3⟩
   ·simp only;rw[o];exact .inl rfl
   ·simp only;rw[o1]
    exact .inr (Tri.a c (h'.1 b o3))
  ·by_cases c2:x<a
   ·rw[jO,jO,cI (show a≤y by omega)]
    simp only
    rw[cI (show a≤z by omega),cU c2]
    simp only
    rw[cU c2,cI (show x≤z by omega)]
    refine⟨rfl,?_⟩
    simp only
    obtain⟨e1,e2⟩:=xp h'.2 h2
    rcases iM r y with o|⟨b,o1,o2,o3⟩
    ·rw[o,e1 o];exact .inl rfl
    ·rcases iM (cN r y).1 z with p|⟨d,p1,p2,p3⟩
     ·rw[p,o1];exact .inl rfl
     ·rw[o1,p1]
      exact .inr (Tri.a (by omega) (e2 _ _ o1 p1))
   ·have ih:=As h'.2 h1 h2
    rw[lT (by simp;omega),lT (by simp;omega)]
    exact⟨congrArg (a:: ·) ih.1,ih.2⟩
theorem Ao: ∀{r:List Int} {x y z:Int},Up r→x≤y→y<z→xf (fI r [x,z,y]) (fI r [z,x,y])
 | [],x,y,z,_,h1,h2=>by
  refine⟨?_,.inl ?_⟩
  ·simp[fI,cN,h2,show x<z by omega,show¬z<x by omega,show¬y<x by omega]
  ·simp[fI,cN,h2,show x<z by omega,show¬z<x by omega,show¬y<x by omega]
 |a::r,x,y,z,h,h1,h2=>by
  have h':=List.pairwise_cons.1 h
  by_cases c:z<a
  ·rw[jO,jO,cU (show x<a by omega),cU c]
   simp only
   rw[cI (r:=r) (show x≤z by omega),cU (r:=r) (show x<z by omega)]
   simp only
   rw[cI h1,cI h1]
   cases r with
   |nil=>simp[cN,h2,xf]
   |cons b r=>
    have hb:=h'.1 b (List.mem_cons_self ..)
    rw[cU (show z<b by omega),cU (show y<b by omega)]
    simp only
    rw[cU h2]
    exact⟨rfl,.inr (Tri.a c hb)⟩
  ·by_cases c2:x<a
   ·rw[jO,jO,cU c2,cI (show a≤z by omega)]
    simp only
    rw[cU c2,cI (show x≤z by omega)]
    simp only
    rw[cI h1]
    refine⟨rfl,?_⟩
    simp only
    rcases iM r z with o|⟨b,o1,o2,o3⟩
    ·rw[o];exact .inl rfl
    ·rw[o1]
     obtain⟨d,d1,d2,d3⟩:=xa (tH z h'.2) h2 (tg r z)
     rw[d1]
     refine .inr (Tri.b ?_ (by omega))
     rcases iM (cN r z).1 y with p|⟨q,p1,p2,p3⟩
     ·rw[p]at d1;simp at d1
     ·rw[p1]at d1
      have:q=d:=by simpa using d1
      subst this
      rcases qT r z q p3 with e|e
      ·omega
      ·exact h'.1 q e
   ·have ih:=Ao h'.2 h1 h2
    rw[lT (by simp;omega),lT (by simp;omega)]
    exact⟨congrArg (a:: ·) ih.1,ih.2⟩
theorem zO{r u v:List Int}(h:Up r)(t:Tri u v):xf (fI r u) (fI r v):=by
 obtain⟨x,y,z,⟨h1,h2,rfl,rfl⟩|⟨h1,h2,rfl,rfl⟩⟩:=t
 ·exact As h h1 h2
 ·exact Ao h h1 h2
theorem yO(a x:Int)(r:List Int):fst (a::r) x=if x<a then 0 else fst r x+1:=by
 unfold fst
 rw[List.findIdx_cons]
 by_cases c:x<a
 ·rw[if_pos c,decide_eq_true c];rfl
 ·rw[if_neg c,decide_eq_false c];rfl
theorem vg: ∀(r:List Int) (x:Int),cN r x=if fst r x<r.length then(r.set (fst r x) x,[r.getD (fst r x) 0])else(r++ [x],[])
 | [],x=>rfl
 |a::r,x=>by
  rw[yO]
  by_cases c:x<a
  ·rw[cU c,if_pos c,if_pos (by simp)];rfl
  ·rw[cI (by omega),if_neg c,vg r x]
   by_cases d:fst r x<r.length
   ·rw[if_pos d,if_pos (by simpa using d)];rfl
   ·rw[if_neg d,if_neg (by simpa using d)];rfl
theorem vF(r:List Int)(rs:List (List Int))(x:Int):(bT (r::rs) x).1=(cN r x).1::lr (cN r x).2 rs:=by
 rw[fG,vg]
 by_cases c:fst r x<r.length
 ·rw[if_pos c,if_pos c];rfl
 ·rw[if_neg c,if_neg c];rfl
theorem oY: ∀(w r:List Int) (rs:List (List Int)),lr w (r::rs)=(fI r w).1::lr (fI r w).2 rs
 | [],_,_=>rfl
 |x::w,r,rs=>by
  show lr w (bT (r::rs) x).1=_
  rw[vF,oY w]
  simp only[fI]
  rw[j4]
theorem zV{u v:List Int}(t:Tri u v):lr u []=lr v []:=by
 obtain⟨x,y,z,⟨h1,h2,rfl,rfl⟩|⟨h1,h2,rfl,rfl⟩⟩:=t
 ·simp[lr,bT,List.findIdx_cons,h1,show¬z<y by omega,show¬z<x by omega]
 ·simp[lr,bT,List.findIdx_cons,h2,show x<z by omega,show¬z<x by omega,show¬y<x by omega]
theorem w7: ∀{P:List (List Int)} {u v:List Int},(∀r∈P,Up r)→Tri u v→lr u P=lr v P
 | [],_,_,_,t=>zV t
 |r::rs,u,v,h,t=>by
  rw[oY,oY]
  obtain⟨a,b|b⟩:=zO (h r (List.mem_cons_self ..)) t
  ·rw[a,b]
  ·rw[a,w7 (fun q hq=>h q (List.mem_cons_of_mem _ hq)) b]
inductive Kn : List Int → List Int → Prop
  | refl (w) : Kn w w
  | symm {v w} : Kn v w → Kn w v
  | trans {u v w} : Kn u v → Kn v w → Kn u w
  | tri {u v} (a b) : Tri u v → Kn (a ++ u ++ b) (a ++ v ++ b)
theorem Kn.ctx{u v:List Int}(c d:List Int)(h:Kn u v):Kn (c++u++d) (c++v++d):=by
 induction h with
 |refl w=>exact .refl _
 |symm _ ih=>exact .symm ih
 |trans _ _ h1 h2=>exact .trans h1 h2
 |tri a b t=>
  have:=Kn.tri (c++a) (b++d) t
  simp only[List.append_assoc]at this⊢
  exact this
theorem Kn.left{u v:List Int}(c:List Int)(h:Kn u v):Kn (c++u) (c++v):=by
 have:=h.ctx c []
 simpa using this
theorem Kn.right{u v:List Int}(d:List Int)(h:Kn u v):Kn (u++d) (v++d):=by
 have:=h.ctx [] d
 simpa using this
theorem Kn.cons{u v:List Int}(c:Int)(h:Kn u v):Kn (c::u) (c::v):=h.left [c]
theorem Kn.of{u v:List Int}(t:Tri u v):Kn u v:=by
 have:=Kn.tri [] [] t
 simpa using this
theorem Kn.app{u v u' v':List Int}(h:Kn u u')(g:Kn v v'):Kn (u++v) (u'++v'):=(h.right v).trans (g.left u')
theorem xb: ∀{P:List (List Int)} (x:Int),(∀r∈P,Up r)→ ∀r∈(bT P x).1,Up r
 | [],x,_=>fun r hr=>by
  have:r= [x]:=by simpa[bT]using hr
  rw[this];exact List.pairwise_singleton ..
 |q::P,x,h=>by
  rw[vF]
  intro r hr
  have hP: ∀r∈P,Up r:=fun r hr=>h r (List.mem_cons_of_mem _ hr)
  rcases List.mem_cons.1 hr with e|e
  ·rw[e];exact tH x (h q (List.mem_cons_self ..))
  ·rcases iM q x with o|⟨b,o,_,_⟩
   ·rw[o]at e;exact hP r e
   ·rw[o]at e;exact xb b hP r e
theorem xd: ∀{w:List Int} {P:List (List Int)},(∀r∈P,Up r)→ ∀r∈lr w P,Up r
 | [],_,h=>h
 |x::w,P,h=>show∀r∈lr w (bT P x).1,Up r from xd (xb x h)
theorem Kn.ins{u v:List Int}(h:Kn u v): ∀{P:List (List Int)},(∀r∈P,Up r)→lr u P=lr v P:=by
 induction h with
 |refl w=>intro P _;rfl
 |symm _ ih=>intro P hP;exact(ih hP).symm
 |trans _ _ h1 h2=>intro P hP;rw[h1 hP,h2 hP]
 |tri a b t=>
  intro P hP
  rw[j4,j4,j4,j4,w7 (xd hP) t]
end Go.Am.Pu
end
section
/- Rows and slides keep words related. Plain words. -/
namespace Go.Am.Pu
def AJ(q:List Int)(g:List (List Int))(i c r:Nat):List Int:=
 if r=i then((g.getD r []).take c).drop (q.getD r 0).toNat++(g.getD r []).drop (c+1)else(g.getD r []).drop (q.getD r 0).toNat
end Go.Am.Pu
end
section
/- The rectification is the tableau of the word. Plain words. -/
namespace Go.Am.Pu
end Go.Am.Pu
end
section
/- Slides outwards: what holds on the way, what they leave; slides in and out undo each other. Plain words. -/
namespace Go.Am.Pu
theorem Sl.up{q:List Int}{g:List (List Int)}{i c:Nat}(h:Sl q g (i+1) c)(hi:Inn q g)(hu:cel g i c≠0)(hl:leftOf g (i+1) c≤cel g i c):Sl q (iX g (i+1) c (cel g i c)) i c:=by
 obtain⟨b1,b2⟩:=tU hu
 have hq:q.getD i 0≤c:=Int.not_lt.1 fun hlt=>hu (hi i c hlt)
 have hqm:=h.qm i
 have hun:=h.num i c hq b2 (by omega)
 have e0:=iE (cel g i c) h.hi h.hc
 have en: ∀r x,¬(r=i+1∧x=c)→cel (iX g (i+1) c (cel g i c)) r x=cel g r x:=fun r x hh=>gh _ hh
 have hll:=h.lm i
 refine⟨h.q0,h.qm,fun r=> ?_,?_,?_,hq,fun r x=> ?_,fun r x h1 h2 h3=> ?_,fun r x h1 h2 h3 h4=> ?_,fun r x h1 h2 h3 h4=> ?_,fun x h1 h2 h3=> ?_,fun r h1 h2 h3=> ?_⟩
 ·rw[bt,bt];exact h.lm r
 ·rw[fU];exact b1
 ·rw[bt];exact b2
 ·by_cases e:r=i+1∧x=c
  ·rw[e.1,e.2,e0];exact h.pos _ _
  ·rw[en r x e];exact h.pos _ _
 ·rw[bt]at h2
  by_cases e:r=i+1∧x=c
  ·rw[e.1,e.2,e0];exact hun
  ·rw[en r x e];exact h.num r x h1 h2 e
 ·rw[bt]at h2
  by_cases e:r=i+1∧x=c
  ·obtain⟨rfl,rfl⟩:=e
   rw[e0,en _ _ (by omega)]
   have h5:=h.row i x hq (by omega) (by omega) (by omega)
   have h6:=h.col i (x+1) (by omega) h2 (by omega) (by omega)
   omega
  ·rw[en r x e]
   by_cases e':r=i+1∧x+1=c
   ·obtain⟨rfl,rfl⟩:=e'
    rw[e0]
    unfold leftOf at hl
    rw[if_neg (by omega),show x+1-1=x by omega]at hl
    exact hl
   ·rw[en r (x+1) e'];exact h.row r x h1 h2 e e'
 ·rw[bt]at h2
  by_cases e:r=i+1∧x=c
  ·obtain⟨rfl,rfl⟩:=e
   rw[e0,en _ _ (by omega)]
   exact h.colH i rfl hq h2
  ·rw[en r x e]
   by_cases e':r+1=i+1∧x=c
   ·exact(h3 ⟨by omega,e'.2⟩).elim
   ·rw[en (r+1) x e']
    exact h.col r x h1 h2 e e'
 ·rw[bt]at h3
  rw[en _ _ (by omega),en _ _ (by omega)]
  subst h1
  have h5:=h.row i x h2 (by omega) (by omega) (by omega)
  have h6:=h.row i (x+1) (by omega) h3 (by omega) (by omega)
  omega
 ·rw[bt]at h3
  subst h1
  rw[en _ _ (by omega),e0]
  exact h.col r c h2 b2 (by omega) (by omega)
theorem Sl.left{q:List Int}{g:List (List Int)}{i c:Nat}(h:Sl q g i (c+1))(hi:Inn q g)(hv:cel g i c≠0)(hu:vq g i (c+1)<cel g i c):Sl q (iX g i (c+1) (cel g i c)) i c:=by
 obtain⟨b1,b2⟩:=tU hv
 have hq:q.getD i 0≤c:=Int.not_lt.1 fun hlt=>hv (hi i c hlt)
 have hqm:=h.qm i
 have hvn:=h.num i c hq b2 (by omega)
 have e0:=iE (cel g i c) h.hi h.hc
 have en: ∀r x,¬(r=i∧x=c+1)→cel (iX g i (c+1) (cel g i c)) r x=cel g r x:=fun r x hh=>gh _ hh
 have hll:=h.lm i
 refine⟨h.q0,h.qm,fun r=> ?_,?_,?_,hq,fun r x=> ?_,fun r x h1 h2 h3=> ?_,fun r x h1 h2 h3 h4=> ?_,fun r x h1 h2 h3 h4=> ?_,fun x h1 h2 h3=> ?_,fun r h1 h2 h3=> ?_⟩
 ·rw[bt,bt];exact h.lm r
 ·rw[fU];exact b1
 ·rw[bt];exact b2
 ·by_cases e:r=i∧x=c+1
  ·rw[e.1,e.2,e0];exact h.pos _ _
  ·rw[en r x e];exact h.pos _ _
 ·rw[bt]at h2
  by_cases e:r=i∧x=c+1
  ·rw[e.1,e.2,e0];exact hvn
  ·rw[en r x e];exact h.num r x h1 h2 e
 ·rw[bt]at h2
  by_cases e:r=i∧x=c+1
  ·obtain⟨rfl,rfl⟩:=e
   rw[e0,en _ _ (by omega)]
   exact h.AJ c rfl hq h2
  ·rw[en r x e]
   by_cases e':r=i∧x+1=c+1
   ·exact(h3 ⟨e'.1,by omega⟩).elim
   ·rw[en r (x+1) e'];exact h.row r x h1 h2 e e'
 ·rw[bt]at h2
  by_cases e:r=i∧x=c+1
  ·obtain⟨rfl,rfl⟩:=e
   rw[e0,en _ _ (by omega)]
   have h5:=h.col r c hq (by omega) (by omega) (by omega)
   have h6:=h.row (r+1) c (by omega) h2 (by omega) (by omega)
   omega
  ·rw[en r x e]
   by_cases e':r+1=i∧x=c+1
   ·obtain⟨rfl,rfl⟩:=e'
    rw[e0]
    unfold vq at hu
    rw[if_neg (by omega),show r+1-1=r by omega]at hu
    exact hu
   ·rw[en (r+1) x e']
    exact h.col r x h1 h2 e e'
 ·rw[bt]at h3
  subst h1
  rw[en _ _ (by omega),e0]
  exact h.row i x h2 b2 (by omega) (by omega)
 ·rw[bt]at h3
  rw[en _ _ (by omega),en _ _ (by omega)]
  subst h1
  have h5:=h.col r c h2 b2 (by omega) (by omega)
  have h6:=h.col (r+1) c hq h3 (by omega) (by omega)
  omega
end Go.Am.Pu
end
section
/- What a slide outwards leaves is a tableau; slides in and out undo each other. Plain words. -/
namespace Go.Am.Pu
section
variable {t : Tab} {n : Nat} {p : List Int}
def oL(t:Tab)(n:Nat)(p:List Int):List (List Int)×(Nat×Nat):=oC 18 (zN t n) n (p.getD n 0-1).toNat
structure AU (t : Tab) (n : Nat) (p : List Int) (g : List (List Int)) (i c : Nat) (q : List Int) : Prop where
  sl : Sl t.1 g i c
  inn : Inn t.1 g
  len : g.length = p.length
  row : ∀ r, ((g.getD r []).length : Int) = p.getD r 0
  l0 : leftOf g i c = 0
  u0 : vq g i c = 0
  add : tQ t.1 i = (q, true)
  qi : q.getD i 0 = c + 1
  qr : ∀ r, q.getD r 0 = if r = i then (c : Int) + 1 else t.1.getD r 0
  qp : bI q = true
  ins : ∀ r, q.getD r 0 ≤ p.getD r 0
def o8(t:Tab)(n:Nat):Tab×Nat:=
 let p:=(tQ (outer t) n).1
 let s:=oL t n p
 let q:=(tQ t.1 s.2.1).1
 ((q,dD q s.1 p.length),s.2.1)
theorem AU.eq{q:List Int}(E:AU t n p (oL t n p).1 (oL t n p).2.1 (oL t n p).2.2 q)(hp:tQ (outer t) n=(p,true)):o8 t n=((q,dD q (oL t n p).1 p.length),(oL t n p).2.1):=by
 unfold o8
 rw[hp]
 simp only[E.add]
end
section
variable {t : Tab} {n : Nat}
end
end Go.Am.Pu
end
section
/- Words of tableaux; the rows of a slide outwards. Plain words. -/
namespace Go.Am.Pu
end Go.Am.Pu
end
section
/- Partitions that are drawn; chains of partitions. Plain words. -/
namespace Go.Am.Pu
end Go.Am.Pu
end
section
/- Plain laws: tableaux side by side; a number's copies. -/
namespace Go.Am.Pu
open Go Go.Am
attribute [local instance] D.real
theorem zC{n:Int}(h0:0≤n)(h1:n<18446744073709551616):IntKind.u64.wrap n=n:=by
 show n % 18446744073709551616=n
 exact Int.emod_eq_of_lt h0 h1
theorem ze{n:Nat}(h:n<4294967296):D.shrI .u64 (n:Int) 32=0:=by
 show(n:Int).fdiv (2^32)=0
 rw[Int.fdiv_eq_ediv_of_nonneg _ (by decide)]
 exact Int.ediv_eq_zero_of_lt (by omega) (by omega)
theorem za{n:Nat}(h:n<4294967296):D.andI .u64 (n:Int) 4294967295=n:=by
 show IntKind.u64.wrap (((BitVec.ofInt 64 (n:Int)&&&BitVec.ofInt 64 4294967295).toNat:Nat):Int)=_
 have e:(BitVec.ofInt 64 (n:Int)&&&BitVec.ofInt 64 4294967295).toNat=n:=by
  rw[BitVec.toNat_and]
  have e1:(BitVec.ofInt 64 (n:Int)).toNat=n:=by
   rw[BitVec.toNat_ofInt]
   omega
  have e2:(BitVec.ofInt 64 4294967295).toNat=2^32-1:=by decide
  rw[e1,e2,Nat.and_two_pow_sub_one_eq_mod]
  exact Nat.mod_eq_of_lt h
 rw[e]
 exact zC (by omega) (by omega)
def fZ(a b:Tab):Tab:=(if a.2.length=0 then []else List.replicate b.2.length ((a.2.getD 0 []).length:Int),b.2++a.2)
def eR(a b:Tab):Tab×Bool:=if aX a=true∧aX b=true∧g8 (fZ a b)=true then(fZ a b,true)else(([],[]),false)
theorem cX{t:Tab}(h:aX t=true):t.1= []∧t.2.length≤9∧ ∀r∈t.2,r.length≤9:=by
 have h9:=rk h
 refine⟨?_,?_,fun r hr=> ?_⟩
 ·unfold aX at h
  simp only[Bool.and_eq_true,decide_eq_true_eq]at h
  exact List.eq_nil_of_length_eq_zero h.2
 ·have:t.2.length≤t.2.flatten.length:=by
   have key: ∀l:List (List Int),(∀r∈l,1≤r.length)→l.length≤l.flatten.length:=by
    intro l
    induction l with
    |nil=>intro _;simp
    |cons x l ih=>
     intro hh
     have h1:=hh x List.mem_cons_self
     have h2:=ih fun r hr=>hh r (List.mem_cons_of_mem _ hr)
     simp only[List.flatten_cons,List.length_append,List.length_cons]
     omega
   refine key _ fun r hr=> ?_
   obtain⟨i,hi,rfl⟩:=List.getElem_of_mem hr
   have:=n7 h hi
   rwa [aE hi []]at this
  omega
 ·refine Nat.le_trans ?_ h9
  obtain⟨i,hi,rfl⟩:=List.getElem_of_mem hr
  have e:t.2.flatten=(t.2.take i).flatten++(t.2.drop i).flatten:=by rw[←List.flatten_append,List.take_append_drop]
  rw[e,List.drop_eq_getElem_cons hi]
  simp only[List.flatten_cons,List.length_append]
  omega
theorem mY{a b:Tab}(ha:aX a=true)(hb:aX b=true):lu (fZ a b):=by
 obtain⟨_,a2,a3⟩:=cX ha
 obtain⟨_,b2,b3⟩:=cX hb
 refine⟨?_,?_,fun r hr=> ?_⟩
 ·unfold fZ
  split
  ·simp
  ·simp;omega
 ·show(b.2++a.2).length≤_
  rw[List.length_append];omega
 ·have hr:r∈b.2++a.2:=hr
  rcases List.mem_append.1 hr with hr|hr
  ·have:=b3 r hr;omega
  ·have:=a3 r hr;omega
theorem yq{a b:Tab}:lu (eR a b).1:=by
 unfold eR
 split
 ·next h=>exact mY h.1 h.2.1
 ·exact⟨by simp,by simp,fun r hr=>by simp at hr⟩
end Go.Am.Pu
end
