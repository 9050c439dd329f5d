/- Plain laws of lists, partitions, shapes and tableaux; no program in sight. -/
import Derived.Test.YtloognjnfelgfaaDoorAmP
import Derived.Test.YtloognjnfelgfaaDoorAmM
import Derived.Lib.Strings
set_option linter.unusedSimpArgs false
set_option linter.unusedVariables false
set_option linter.unnecessarySimpa false
set_option linter.unusedSectionVars false
section
/- Rules for loops over data: a loop that looks at all, a loop that folds. -/
namespace Go.Am.Pu
open Go.Am
theorem w64{n:Int}(h1: -9223372036854775808≤n)(h2:n≤9223372036854775807):IntKind.i64.wrap n=n:=Go.Am.w64 h1 h2
theorem lr{R:Type}(L:Nat→Nat→Option R)(n:Nat)(p:Nat→Bool)(bad C0:Option R)
  (hs: ∀j i,i<n→L (j+1) i=if p i=true then L j (i+1)else bad) (he: ∀j,L (j+1) n=C0):
  ∀(m j i:Nat),i+m=n→m<j→L j i=if(List.range' i m).all p=true then C0 else bad
 |m,0,i,_,h=>by omega
 |0,j+1,i,h,_=>by
  have:i=n:=by omega
  subst this
  rw[he];rfl
 |m+1,j+1,i,h,hj=>by
  rw[hs j i (by omega),lr L n p bad C0 hs he m j (i+1) (by omega) (by omega),List.range'_succ,List.all_cons]
  cases p i
  ·rw[if_neg (by simp),Bool.false_and,if_neg (by simp)]
  ·rw[if_pos rfl,Bool.true_and]
theorem fq{p:Nat→Bool}{n:Nat}:(List.range' 0 n).all p=true↔ ∀i,i<n→p i=true:=by
 simp[List.all_eq_true,List.mem_range'_1]
theorem aw{α:Type}{xs:List α}{i:Nat}(h:i<xs.length)(d:α):xs.getD i d=xs[i]:=by
 simp only[List.getD_eq_getElem?_getD,List.getElem?_eq_getElem h,Option.getD_some]
theorem cD{α:Type}{xs:List α}{i:Nat}(h:xs.length≤i)(d:α):xs.getD i d=d:=by
 simp only[List.getD_eq_getElem?_getD,List.getElem?_eq_none h,Option.getD_none]
theorem drop_cons{α:Type}{xs:List α}{i:Nat}(h:i<xs.length)(d:α):xs.drop i=xs.getD i d::xs.drop (i+1):=by
 rw[aw h,List.drop_eq_getElem_cons h]
theorem take_succ{α:Type}{xs:List α}{i:Nat}(h:i<xs.length)(d:α):xs.take (i+1)=xs.take i++ [xs.getD i d]:=by
 rw[aw h,List.take_succ_eq_append_getElem h]
theorem BR{α:Type}{xs:List α}{i:Nat}(h:i<xs.length)(d z:α):(xs.take i++List.replicate (xs.length-i) z).set i (xs.getD i d)=xs.take (i+1)++List.replicate (xs.length-(i+1)) z:=by
 have e:xs.length-i=xs.length-(i+1)+1:=by omega
 rw[take_succ h d,e,List.replicate_succ,List.set_append_right _ _ (by simp;omega)]
 simp[Nat.min_eq_left (Nat.le_of_lt h)]
end Go.Am.Pu
end
section
/- Marking memory and looking whether the marks are held. -/
namespace Go.Am.Pu
def held:List Int→Int→Int
 | [],q=>q
 |x::xs,q=>if x=q then held xs (q+1)else-1
def zm:List (List Int)→Nat
 | []=>0
 |x::xs=>x.length+zm xs
theorem yV: ∀(xs:List (List Int)) (n:Nat),(∀x∈xs,x.length≤n)→zm xs≤xs.length*n
 | [],n,_=>by simp[zm]
 |x::xs,n,h=>by
  have h1:=h x (by simp)
  have h2:=yV xs n fun y hy=>h y (by simp[hy])
  simp only[zm,List.length_cons,Nat.succ_mul]
  omega
end Go.Am.Pu
end
section
/- Partitions, shapes and tableaux as plain words. -/
namespace Go.Am.Pu
def within(x lo hi:Int):Bool:=decide (lo≤x)&&decide (x≤hi)
def atI(p:List Int)(i:Int):Int:=if i<0 then 0 else p.getD i.toNat 0
theorem fE(p:List Int)(i:Nat):atI p (i:Int)=p.getD i 0:=by simp[atI];omega
theorem tw{p:List Int}{i:Int}(h:i<0):atI p i=0:=by simp[atI,h]
theorem AD{p:List Int}{i:Int}(h:(p.length:Int)≤i):atI p i=0:=by
 unfold atI
 split
 ·rfl
 ·exact cD (by omega) 0
def gP:List Int→Int→Int→Bool
 | [],_,_=>true
 |x::xs,prev,s=>decide (1≤x)&&(decide (x≤prev)&&(decide (s+x≤9)&&gP xs x (s+x)))
def cz(p:List Int):Bool:=gP p 9 0
def fZ:List Int→Int
 | []=>0
 |x::xs=>x+fZ xs
theorem sW: ∀(p:List Int) (prev s:Int),gP p prev s=true→(∀x∈p,1≤x∧x≤prev)∧(p≠ []→s+fZ p≤9)∧(p.length:Int)≤fZ p
 | [],prev,s,_=>⟨fun x h=>(by cases h),fun h=>absurd rfl h,(by simp[fZ])⟩
 |x::xs,prev,s,h=>by
  simp only[gP,Bool.and_eq_true,decide_eq_true_eq]at h
  obtain⟨h1,h2,h3,h4⟩:=h
  obtain⟨k1,k2,k3⟩:=sW xs x (s+x) h4
  refine⟨fun y hy=> ?_,fun _=> ?_,?_⟩
  ·rcases List.mem_cons.1 hy with rfl|hy
   ·exact⟨h1,h2⟩
   ·have:=k1 y hy;omega
  ·simp only[fZ]
   by_cases e:xs= []
   ·subst e;simp[fZ];omega
   ·have:=k2 e;omega
  ·simp only[fZ,List.length_cons];omega
theorem cI{p:List Int}(h:cz p=true):(∀x∈p,1≤x∧x≤9)∧fZ p≤9∧p.length≤9∧(p.length:Int)≤fZ p:=by
 obtain⟨h1,h2,h3⟩:=sW p 9 0 h
 have:fZ p≤9:=by
  by_cases e:p= []
  ·subst e;simp[fZ]
  ·have:=h2 e;omega
 exact⟨h1,this,by omega,h3⟩
theorem fc{p:List Int}(h:cz p=true)(i:Int):0≤atI p i∧atI p i≤9:=by
 unfold atI
 split
 ·omega
 ·by_cases hl:i.toNat<p.length
  ·rw[aw hl]
   have:=(cI h).1 _ (List.getElem_mem hl)
   omega
  ·rw[cD (by omega)];omega
def dY(q p:List Int):Bool:=cz q&&(cz p&&(decide (q.length≤p.length)&&(List.range' 0 q.length).all fun i=>decide (q.getD i 0≤p.getD i 0)))
theorem zD{q p:List Int}(hq:cz q=true)(h:(List.range' 0 q.length).all (fun i=>decide (q.getD i 0≤p.getD i 0))=true):q.length≤p.length:=by
 rw[fq]at h
 refine Nat.le_of_not_lt fun hlt=> ?_
 have h1:=h p.length hlt
 rw[decide_eq_true_eq,cD (Nat.le_refl _),aw hlt]at h1
 have:=(cI hq).1 _ (List.getElem_mem hlt)
 omega
theorem yS{q p:List Int}:dY q p=(cz q&&(cz p&&(List.range' 0 q.length).all fun i=>decide (q.getD i 0≤p.getD i 0))):=by
 unfold dY
 cases hq:cz q with
 |false=>rfl
 |true=>
  cases hp:cz p with
  |false=>rfl
  |true=>
   simp only[Bool.true_and]
   cases ha:(List.range' 0 q.length).all fun i=>decide (q.getD i 0≤p.getD i 0)with
   |false=>simp
   |true=>simp[zD hq ha]
def fR(inner:List Int):Nat→List (List Int)→List Int
 |_,[]=> []
 |i,r::rs=>(inner.getD i 0+r.length)::fR inner (i+1) rs
theorem kN(inner:List Int): ∀(rs:List (List Int)) (i:Nat),(fR inner i rs).length=rs.length
 | [],_=>rfl
 |_::rs,i=>by simp[fR,kN inner rs]
theorem iq(inner:List Int): ∀(rs:List (List Int)) (i q:Nat),q<rs.length→(fR inner i rs).getD q 0=inner.getD (i+q) 0+(rs.getD q []).length
 | [],i,q,h=>by simp at h
 |r::rs,i,0,_=>by simp[fR]
 |r::rs,i,q+1,h=>by
  have:=iq inner rs (i+1) q (by simpa using h)
  simp only[fR,List.getD_cons_succ]
  rw[this]
  have e:i+1+q=i+(q+1):=by omega
  rw[e]
abbrev Tab:=List Int×List (List Int)
def outer(t:Tab):List Int:=fR t.1 0 t.2
def dB(t:Tab):Bool:=cz t.1&&(decide (t.1.length≤t.2.length)&&dY t.1 (outer t))
def shapeOf(t:Tab):(List Int×List Int)×Bool:=if dB t=true then((outer t,t.1),true)else(([],[]),false)
theorem yv{t:Tab}(h:dB t=true):t.2.length≤9:=by
 simp only[dB,dY,Bool.and_eq_true]at h
 have:=(cI h.2.2.2.1).2.2.1
 rw[outer,kN]at this
 exact this
def entry(t:Tab)(r c:Int):Int:=if r<0 then 0 else if(t.2.length:Int)≤r then 0 else atI (t.2.getD r.toNat []) (c-atI t.1 r)
theorem sf{t:Tab}{r:Nat}(h:r<t.2.length)(c:Int):entry t r c=atI (t.2.getD r []) (c-t.1.getD r 0):=by
 unfold entry
 rw[if_neg (by omega),if_neg (by omega),fE]
 rfl
theorem Bq{t:Tab}{r c:Int}(h:r<0):entry t r c=0:=by unfold entry;rw[if_pos h]
theorem yU{t:Tab}{r q:Nat}(h:r<t.2.length):entry t r (t.1.getD r 0+q)=(t.2.getD r []).getD q 0:=by
 rw[sf h]
 have e:t.1.getD r 0+(q:Int)-t.1.getD r 0=q:=by omega
 rw[e,fE]
theorem zY{t:Tab}{r q:Nat}(h:r<t.2.length):entry t r (t.1.getD r 0+q-1)=if q=0 then 0 else(t.2.getD r []).getD (q-1) 0:=by
 rw[sf h]
 by_cases e:q=0
 ·subst e
  rw[if_pos rfl,tw (by omega)]
 ·rw[if_neg e]
  have e:t.1.getD r 0+(q:Int)-1-t.1.getD r 0=((q-1:Nat):Int):=by omega
  rw[e,fE]
def gr(t:Tab)(i k:Nat):Bool:=within ((t.2.getD i []).getD k 0) 1 9&&((decide (k=0)||decide ((t.2.getD i []).getD (k-1) 0≤(t.2.getD i []).getD k 0))&&
 (decide (i=0)||decide (entry t ((i:Int)-1) (t.1.getD i 0+k)<(t.2.getD i []).getD k 0)))
def gZ(t:Tab):Bool:=dB t&&(List.range' 0 t.2.length).all fun i=>(List.range' 0 (t.2.getD i []).length).all fun k=>gr t i k
def cx(t:Tab):Bool:=gZ t&&decide (t.1.length=0)
theorem oQ{t:Tab}(h:gZ t=true):dB t=true:=by
 simp only[gZ,Bool.and_eq_true]at h;exact h.1
theorem oJ(inner:List Int): ∀(rs:List (List Int)) (i:Nat),(∀q,i≤q→inner.getD q 0=0)→fZ (fR inner i rs)=rs.flatten.length
 | [],i,_=>rfl
 |r::rs,i,h=>by
  simp only[fR,fZ,List.flatten_cons,List.length_append]
  rw[oJ inner rs (i+1) (fun q hq=>h q (by omega)),h i (Nat.le_refl _)]
  omega
theorem Ac{t:Tab}(h:cx t=true):t.2.flatten.length≤9:=by
 simp only[cx,Bool.and_eq_true,decide_eq_true_eq]at h
 have hs:=oQ h.1
 simp only[dB,dY,Bool.and_eq_true]at hs
 have h9:=(cI hs.2.2.2.1).2.1
 have:t.1= []:=List.eq_nil_of_length_eq_zero h.2
 rw[outer,oJ t.1 t.2 0 (fun q _=>by rw[this];rfl)]at h9
 omega
def a7:List (List Int)→Int→List (List Int)×Nat
 | [],x=>([[x]],0)
 |r::rs,x=>if r.findIdx (fun n=>decide (x<n))<r.length
   then(r.set (r.findIdx fun n=>decide (x<n)) x::(a7 rs (r.getD (r.findIdx fun n=>decide (x<n)) 0)).1,(a7 rs (r.getD (r.findIdx fun n=>decide (x<n)) 0)).2+1)
   else((r++ [x])::rs,0)
def sw(t:Tab):Prop:=t.1.length≤1048576∧t.2.length≤1048576∧ ∀x∈t.2,x.length≤1048576
theorem sw.nil:sw ([],[]):=⟨by simp,by simp,fun x h=>by cases h⟩
theorem uP: ∀{rs:List (List Int)} {r:List Int},r∈rs→r.length≤rs.flatten.length
 |q::rs,r,h=>by
  simp only[List.flatten_cons,List.length_append]
  rcases List.mem_cons.1 h with rfl|h
  ·omega
  ·have:=uP h;omega
theorem findIdx_le{p:Int→Bool}{r:List Int}{i:Nat}(hlt:i<r.length)(h:p (r.getD i 0)=true):r.findIdx p≤i:=
 Nat.le_of_not_lt fun h'=>by
  have:=List.not_of_lt_findIdx h'
  rw[aw hlt]at h
  rw[h]at this;cases this
theorem pF{p:Int→Bool}{r:List Int}(h:r.findIdx p<r.length):p (r.getD (r.findIdx p) 0)=true:=by
 rw[aw h];exact List.findIdx_getElem
theorem wH{α:Type}{xs:List α}{i:Nat}(h:i<xs.length)(x:α):xs.set i x=xs.take i++x::xs.drop (i+1):=by
 rw[List.set_eq_take_append_cons_drop,if_pos h]
theorem pd{α:Type}{xs:List α}{i:Nat}(h:i<xs.length)(x:α):(xs.set i x).take (i+1)=xs.take i++ [x]:=by
 have h':i<(xs.set i x).length:=by rw[List.length_set];exact h
 rw[take_succ h' x,List.take_set_of_le (Nat.le_refl _),aw h',List.getElem_set_self]
theorem pb{α:Type}{xs:List α}{i:Nat}(x:α):(xs.set i x).drop (i+1)=xs.drop (i+1):=by
 rw[List.drop_set_of_lt (by omega)]
end Go.Am.Pu
end
section
/- Standard tableaux, weights, descents: plain words. -/
namespace Go.Am.Pu
theorem yB{α R:Type}(r:List α)(d:α)(p:α→Bool)(L:Nat→Nat→Option R)(hit:Nat→Option R)(miss:Option R)
  (hs: ∀j i,i<r.length→L (j+1) i=if p (r.getD i d)=true then hit i else L j (i+1)) (he: ∀j,L (j+1) r.length=miss):
  ∀(m j i:Nat),i+m=r.length→m<j→i≤r.findIdx p→L j i=if r.findIdx p<r.length then hit (r.findIdx p)else miss
 |m,0,i,_,hj,_=>by omega
 |0,j+1,i,hm,_,hi=>by
  have e:i=r.length:=by omega
  rw[if_neg (by omega),e,he]
 |m+1,j+1,i,hm,hj,hi=>by
  have hlt:i<r.length:=by omega
  rw[hs j i hlt]
  by_cases c:p (r.getD i d)=true
  ·have e:r.findIdx p=i:=Nat.le_antisymm (Nat.le_of_not_lt fun h'=>by
    have:=List.not_of_lt_findIdx h'
    rw[aw hlt]at c
    rw[c]at this;cases this) hi
   rw[if_pos c,e,if_pos hlt]
  ·rw[if_neg c]
   refine yB r d p L hit miss hs he m j (i+1) (by omega) (by omega) ?_
   refine Nat.succ_le_of_lt (Nat.lt_of_le_of_ne hi fun e=>c ?_)
   have hlt':r.findIdx p<r.length:=by omega
   have:=List.findIdx_getElem (p:=p) (xs:=r) (w:=hlt')
   rw[←aw hlt' d,←e]at this
   exact this
def Cp{α:Type}(p:α→Bool)(r:List α):Int:=if r.findIdx p<r.length then(r.findIdx p:Int)else-1
theorem CK{α:Type}(p:α→Bool)(r:List α):decide (0≤Cp p r)=r.any p:=by
 unfold Cp
 by_cases h:r.findIdx p<r.length
 ·rw[if_pos h,List.any_eq_true.2 ⟨_,List.getElem_mem h,List.findIdx_getElem⟩]
  simp
 ·rw[if_neg h]
  have:r.any p=false:=by
   rw[List.any_eq_false]
   intro x hx hp
   exact h (List.findIdx_lt_length_of_exists ⟨x,hx,hp⟩)
  rw[this];rfl
def has(l:List Int)(x:Int):Bool:=l.any fun y=>decide (x=y)
theorem tH{l:List Int}{x:Int}:has l x=true↔x∈l:=by
 simp[has,List.any_eq_true]
def l9(l:List Int):Bool:=(List.range' 0 l.length).all fun i=>has l ((i:Int)+1)
theorem tz: ∀(R l:List Int),R.Nodup→(∀x∈R,x∈l)→R.length≤l.length
 | [],l,_,_=>by simp
 |x::R,l,hn,h=>by
  rw[List.nodup_cons]at hn
  have hx:=h x (by simp)
  have:=tz R (l.erase x) hn.2 fun y hy=>(List.mem_erase_of_ne fun(e:y=x)=>hn.1 (e▸hy)).2 (h y (by simp[hy]))
  rw[List.length_erase_of_mem hx]at this
  have:0<l.length:=List.length_pos_of_mem hx
  simp only[List.length_cons]
  omega
def mw(n:Nat):List Int:=(List.range n).map fun(i:Nat)=>(i:Int)+1
theorem iN{n:Nat}{x:Int}:x∈mw n↔1≤x∧x≤n:=by
 simp only[mw,List.mem_map,List.mem_range]
 constructor
 ·rintro⟨i,h,rfl⟩;omega
 ·rintro⟨h1,h2⟩;exact⟨(x-1).toNat,by omega,by omega⟩
theorem uS(n:Nat):(mw n).Nodup:=by
 unfold mw
 refine List.Pairwise.map _ (fun(a b:Nat) (h:a≠b)=> ?_) List.nodup_range
 intro e
 exact h (by omega)
theorem mG(n:Nat):(mw n).length=n:=by simp[mw]
theorem ly{l:List Int}:l9 l=true↔ ∀x∈mw l.length,x∈l:=by
 unfold l9
 rw[fq]
 constructor
 ·intro h x hx
  rw[iN]at hx
  have:=h (x-1).toNat (by omega)
  rw[tH]at this
  have e:(((x-1).toNat:Nat):Int)+1=x:=by omega
  rw[e]at this;exact this
 ·intro h i hi
  rw[tH]
  exact h _ (iN.2 (by omega))
theorem zO{l:List Int}(h1: ∀x∈l,1≤x):l9 l=true↔l.Nodup∧ ∀x∈l,x≤l.length:=by
 rw[ly]
 constructor
 ·intro h
  refine⟨?_,fun x hx=> ?_⟩
  ·
   refine Classical.byContradiction fun hn=> ?_
   have: ∃x,x∈l∧x∈l.erase x:=by
    have key: ∀l:List Int,¬l.Nodup→ ∃x,x∈l∧x∈l.erase x:=by
     intro l
     induction l with
     |nil=>intro h;exact absurd List.nodup_nil h
     |cons a l ih=>
      intro h
      by_cases ha:a∈l
      ·exact⟨a,by simp,by simpa using ha⟩
      ·have: ¬l.Nodup:=fun hl=>h (List.nodup_cons.2 ⟨ha,hl⟩)
       obtain⟨x,h1,h2⟩:=ih this
       refine⟨x,by simp[h1],?_⟩
       have hne:a≠x:=fun e=>ha (e▸h1)
       rw[List.erase_cons_tail (by simpa using hne)]
       exact List.mem_cons_of_mem _ h2
    exact key l hn
   obtain⟨x,hx,hx2⟩:=this
   have:=tz (mw l.length) (l.erase x) (uS _) fun y hy=>by
    by_cases e:y=x
    ·rw[e];exact hx2
    ·exact(List.mem_erase_of_ne e).2 (h y hy)
   rw[mG,List.length_erase_of_mem hx]at this
   have:0<l.length:=List.length_pos_of_mem hx
   omega
  ·refine Int.not_lt.1 fun hlt=> ?_
   have:=tz (mw l.length) (l.erase x) (uS _) fun y hy=>by
    have hy':=iN.1 hy
    exact(List.mem_erase_of_ne (by omega)).2 (h y hy)
   rw[mG,List.length_erase_of_mem hx]at this
   have:0<l.length:=List.length_pos_of_mem hx
   omega
 ·rintro⟨hn,hb⟩ x hx
  refine Classical.byContradiction fun hxl=> ?_
  have:=tz (x::l) (mw l.length) (List.nodup_cons.2 ⟨hxl,hn⟩) fun y hy=>by
   rcases List.mem_cons.1 hy with rfl|hy
   ·exact hx
   ·exact iN.2 ⟨h1 y hy,hb y hy⟩
  rw[mG,List.length_cons]at this
  omega
theorem yW{t:Tab}(h:gZ t=true): ∀x∈t.2.flatten,1≤x∧x≤9:=by
 intro x hx
 simp only[gZ,Bool.and_eq_true]at h
 obtain⟨r,hr,hxr⟩:=List.mem_flatten.1 hx
 obtain⟨i,hi,e⟩:=List.mem_iff_getElem.1 hr
 obtain⟨q,hq,e2⟩:=List.mem_iff_getElem.1 hxr
 have h1:=fq.1 h.2 i hi
 rw[aw hi,e]at h1
 have h2:=fq.1 h1 q hq
 simp only[gr,within,Bool.and_eq_true,decide_eq_true_eq]at h2
 rw[aw hi,e,aw hq,e2]at h2
 exact h2.1
def iX(t:Tab):Bool:=gZ t&&l9 t.2.flatten
def rowOf(t:Tab)(n:Int):Int:=Cp (fun r=>has r n) t.2
end Go.Am.Pu
end
section
/- Plain laws of draws, and of boxes. -/
namespace Go.Am.Pu
open Go Go.Am
attribute [local instance] D.real
def xB (p : List Int) (r : Int) : List Int × Bool :=
  if cz p = true ∧ 0 ≤ r ∧ r ≤ p.length then
    (let q := if r = p.length then p ++ [0] else p
     let o := q.set r.toNat (q.getD r.toNat 0 + 1)
     if cz o = true then (o, true) else ([], false))
  else ([], false)
end Go.Am.Pu
end
section
/- Steps over equations: what a word comes to, told by what must hold of it. -/
namespace Go.Am.Pu
open Go Go.Am
attribute [local instance] D.real
section
variable {α β : Type}
def Ok(x:Option α)(Q:α→Prop):Prop:= ∃y,x=some y∧Q y
theorem Ok.ret{y:α}{Q:α→Prop}(h:Q y):Ok (some y) Q:=⟨y,rfl,h⟩
theorem Ok.mono{x:Option α}{P Q:α→Prop}(h:Ok x P)(g: ∀y,P y→Q y):Ok x Q:=
 let⟨y,e,hp⟩:=h
 ⟨y,e,g y hp⟩
theorem Ok.bnd{x:Option α}{f:α→Option β}{P:α→Prop}{Q:β→Prop}(h:Ok x P)(g: ∀y,P y→Ok (f y) Q):Ok (D.bnd x f) Q:=by
 obtain⟨y,e,hp⟩:=h
 rw[e]
 exact g y hp
theorem Ok.cV{x:Option α}{y:α}{f:α→Option β}{Q:β→Prop}(h:x=some y)(g:Ok (f y) Q):Ok (D.bnd x f) Q:=by
 rw[h]
 exact g
theorem Ok.t{p:Prop} [Decidable p]{x y:Option α}{Q:α→Prop}(h1:p→Ok x Q)(h2: ¬p→Ok y Q):Ok (D.test (decide p) x y) Q:=by
 show Ok (if decide p=true then x else y) Q
 by_cases h:p
 ·rw[if_pos (decide_eq_true h)];exact h1 h
 ·rw[if_neg (by rw[decide_eq_false h];simp)];exact h2 h
theorem Ok.tb{b:Bool}{x y:Option α}{Q:α→Prop}(h1:b=true→Ok x Q)(h2:b=false→Ok y Q):Ok (D.test b x y) Q:=by
 cases b
 ·exact h2 rfl
 ·exact h1 rfl
theorem Ok.tn{b:Bool}{x y:Option α}{Q:α→Prop}(h1:b=false→Ok x Q)(h2:b=true→Ok y Q):Ok (D.test (!b) x y) Q:=by
 cases b
 ·exact h1 rfl
 ·exact h2 rfl
theorem Ok.tnd{p:Prop} [Decidable p]{x y:Option α}{Q:α→Prop}(h1: ¬p→Ok x Q)(h2:p→Ok y Q):Ok (D.test (!decide p) x y) Q:=
 Ok.tn (fun h=>h1 (of_decide_eq_false h)) (fun h=>h2 (of_decide_eq_true h))
theorem Ok.g{p:Prop} [Decidable p]{x y:Option α}{Q:α→Prop}(h:p)(g:Ok x Q):Ok (D.test (decide p) x y) Q:=Ok.t (fun _=>g) (fun h'=>absurd h h')
theorem Ok.no{p:Prop} [Decidable p]{x y:Option α}{Q:α→Prop}(h: ¬p)(g:Ok y Q):Ok (D.test (decide p) x y) Q:=Ok.t (fun h'=>absurd h' h) (fun _=>g)
theorem Ok.gn{p:Prop} [Decidable p]{x y:Option α}{Q:α→Prop}(h: ¬p)(g:Ok x Q):Ok (D.test (!decide p) x y) Q:=Ok.tnd (fun _=>g) (fun h'=>absurd h' h)
theorem Ok.some{x:Option α}{Q:α→Prop}(h:Ok x Q): ∃y,x=Option.some y:=let⟨y,e,_⟩:=h;⟨y,e⟩
end
def fz(n m:Nat)(rs:List (List Int)):Prop:=rs.length≤n∧ ∀r∈rs,r.length≤m
theorem fz.at{n m:Nat}{rs:List (List Int)}(h:fz n m rs)(i:Nat):(rs.getD i []).length≤m:=by
 by_cases hi:i<rs.length
 ·rw[aw hi];exact h.2 _ (List.getElem_mem hi)
 ·rw[cD (by omega)];simp
theorem fz.set{n m:Nat}{rs:List (List Int)}(h:fz n m rs)(i:Nat){r:List Int}(hr:r.length≤m):fz n m (rs.set i r):=by
 refine⟨by rw[List.length_set];exact h.1,fun x hx=> ?_⟩
 rcases List.mem_or_eq_of_mem_set hx with h'|rfl
 ·exact h.2 x h'
 ·exact hr
theorem fz.mono{n m n' m':Nat}{rs:List (List Int)}(h:fz n m rs)(hn:n≤n')(hm:m≤m'):fz n' m' rs:=
 ⟨Nat.le_trans h.1 hn,fun x hx=>Nat.le_trans (h.2 x hx) hm⟩
theorem fz.app{n m:Nat}{rs:List (List Int)}(h:fz n m rs){r:List Int}(hr:r.length≤m):fz (n+1) m (rs++ [r]):=by
 refine⟨by rw[List.length_append];simp;exact h.1,fun x hx=> ?_⟩
 rcases List.mem_append.1 hx with h'|h'
 ·exact h.2 x h'
 ·simp only[List.mem_singleton]at h';subst h';exact hr
end Go.Am.Pu
end
section
/- Corners; a number taken out of rows. Plain words. -/
namespace Go.Am.Pu
theorem rz: ∀{p:List Int} {prev s:Int},gP p prev s=true→ ∀i,i+1<p.length→p.getD (i+1) 0≤p.getD i 0
 | [],_,_,_,i,h=>by simp at h
 | [x],_,_,_,i,h=>by simp at h
 |x::y::xs,prev,s,hp,i,h=>by
  simp only[gP,Bool.and_eq_true,decide_eq_true_eq]at hp
  cases i with
  |zero=>simpa using hp.2.2.2.2.1
  |succ i=>
   have h2:gP (y::xs) x (s+x)=true:=by
    simp only[gP,Bool.and_eq_true,decide_eq_true_eq]
    exact hp.2.2.2
   have:=rz h2 i (by simpa using h)
   simpa using this
def mr(r:List Int)(y:Int):Nat→Option Nat
 |0=>none
 |i+1=>if r.getD i 0<y then some i else mr r y i
theorem sG{r:List Int}{y:Int}: ∀{m q:Nat},mr r y m=some q→q<m∧r.getD q 0<y
 |0,q,h=>by simp[mr]at h
 |m+1,q,h=>by
  unfold mr at h
  split at h
  ·next hc=>injection h with h;subst h;exact⟨by omega,hc⟩
  ·have:=sG h;exact⟨by omega,this.2⟩
theorem wJ{r:List Int}{y:Int}: ∀{m i:Nat},i<m→r.getD i 0<y→ ∃q,mr r y m=some q
 |0,i,h,_=>by omega
 |m+1,i,h,hi=>by
  unfold mr
  split
  ·exact⟨_,rfl⟩
  ·next hc=>
   have:i≠m:=fun e=>hc (e▸hi)
   exact wJ (by omega) hi
def mV:Nat→List (List Int)→Int→List (List Int)×Int
 |0,rs,y=>(rs,y)
 |r+1,rs,y=>match mr (rs.getD r []) y (rs.getD r []).length with
  |some q=>mV r (rs.set r ((rs.getD r []).set q y)) ((rs.getD r []).getD q 0)
  |none=>mV r rs y
theorem getD_set_ne{α:Type}{xs:List α}{i j:Nat}(h:j≠i)(x d:α):(xs.set j x).getD i d=xs.getD i d:=by
 simp only[List.getD_eq_getElem?_getD,List.getElem?_set]
 rw[if_neg h]
theorem pG{n m:Nat}: ∀(r:Nat) (rs:List (List Int)) (y:Int),fz n m rs→fz n m (mV r rs y).1
 |0,_,_,h=>h
 |r+1,rs,y,h=>by
  unfold mV
  split
  ·exact pG r _ _ (h.set r (by rw[List.length_set];exact h.at r))
  ·exact pG r rs y h
def lZ (rs : List (List Int)) (row : Nat) : List (List Int) × Int :=
  ((if (rs.getD row []).length = 1 then (mV row (rs.set row ((rs.getD row []).take ((rs.getD row []).length - 1))) ((rs.getD row []).getD ((rs.getD row []).length - 1) 0)).1.take row
    else (mV row (rs.set row ((rs.getD row []).take ((rs.getD row []).length - 1))) ((rs.getD row []).getD ((rs.getD row []).length - 1) 0)).1),
   (mV row (rs.set row ((rs.getD row []).take ((rs.getD row []).length - 1))) ((rs.getD row []).getD ((rs.getD row []).length - 1) 0)).2)
theorem wV{n m:Nat}{rs:List (List Int)}(h:fz n m rs)(row:Nat):fz n m (lZ rs row).1:=by
 have h1:=pG row (rs.set row ((rs.getD row []).take ((rs.getD row []).length-1))) ((rs.getD row []).getD ((rs.getD row []).length-1) 0) (h.set row (by rw[List.length_take];have:=h.at row;omega))
 unfold lZ
 simp only
 split
 ·exact⟨by rw[List.length_take];have:=h1.1;omega,fun x hx=>h1.2 x (List.mem_of_mem_take hx)⟩
 ·exact h1
theorem jx{t:Tab}(h:cx t=true):t.1= []:=by
 simp only[cx,Bool.and_eq_true,decide_eq_true_eq]at h
 exact List.eq_nil_of_length_eq_zero h.2
theorem gD{t:Tab}(h:cx t=true){i:Nat}(hi:i<t.2.length):(outer t).getD i 0=(t.2.getD i []).length:=by
 have e:=iq t.1 t.2 0 i hi
 rw[jx h]at e
 unfold outer
 rw[jx h,e]
 simp
theorem j4{t:Tab}(h:cx t=true):cz (outer t)=true:=by
 simp only[cx,Bool.and_eq_true]at h
 have hs:=oQ h.1
 simp only[dB,dY,Bool.and_eq_true]at hs
 exact hs.2.2.2.1
theorem dZ(t:Tab):(outer t).length=t.2.length:=by unfold outer;rw[kN]
theorem jo{t:Tab}(h:cx t=true):fz 9 9 t.2:=by
 have h9:=Ac h
 have hl:=(cI (j4 h)).2.2.1
 rw[dZ]at hl
 exact⟨hl,fun r hr=>by have:=uP hr;omega⟩
theorem pL{t:Tab}(h:cx t=true): ∀i,i+1<t.2.length→(t.2.getD (i+1) []).length≤(t.2.getD i []).length∧ ∀q,q<(t.2.getD (i+1) []).length→(t.2.getD i []).getD q 0<(t.2.getD (i+1) []).getD q 0:=by
 intro i hi
 have hm:=rz (show gP (outer t) 9 0=true from j4 h) i (by rw[dZ];exact hi)
 rw[gD h hi,gD h (by omega)]at hm
 have hl:(t.2.getD (i+1) []).length≤(t.2.getD i []).length:=by omega
 refine⟨hl,fun q hq=> ?_⟩
 have ht:=h
 simp only[cx,Bool.and_eq_true]at ht
 have ht:=ht.1
 simp only[gZ,Bool.and_eq_true]at ht
 have h1:=fq.1 (fq.1 ht.2 (i+1) hi) q hq
 simp only[gr,Bool.and_eq_true,Bool.or_eq_true,decide_eq_true_eq]at h1
 have h2:=h1.2.2.resolve_left (by omega)
 rw[jx h]at h2
 have e:((i+1:Nat):Int)-1=(i:Int):=by omega
 have e2:([]:List Int).getD (i+1) 0+(q:Int)=([]:List Int).getD i 0+(q:Int):=by simp
 rw[e,e2]at h2
 have ee:entry t (i:Int) (([]:List Int).getD i 0+(q:Int))=(t.2.getD i []).getD q 0:=by
  have:=yU (t:=t) (r:=i) (q:=q) (by omega)
  rw[jx h]at this
  exact this
 rw[ee]at h2
 exact h2
end Go.Am.Pu
end
section
/- Rows with noughts in front; a box taken from a partition. Plain words. -/
namespace Go.Am.Pu
def iM(t:Tab):List (List Int):=(List.range' 0 t.2.length).map fun i=>List.replicate (t.1.getD i 0).toNat 0++t.2.getD i []
def b8(p:List Int)(n:Nat):List Int:=if p.getD n 0-1=0 then p.take n else p.set n (p.getD n 0-1)
theorem yH(p:List Int)(n:Nat):(b8 p n).length≤p.length:=by
 unfold b8
 split
 ·rw[List.length_take];omega
 ·rw[List.length_set];exact Nat.le_refl _
end Go.Am.Pu
end
section
/- A slide: the hole goes right or down until nothing is there. Plain words. -/
namespace Go.Am.Pu
def cel(g:List (List Int))(r c:Nat):Int:=(g.getD r []).getD c 0
def kS(g:List (List Int))(r c:Nat)(v:Int):List (List Int):=g.set r ((g.getD r []).set c v)
theorem xA{g:List (List Int)}{r c:Nat}(h:cel g r c≠0):r<g.length∧c<(g.getD r []).length:=by
 unfold cel at h
 by_cases h1:r<g.length
 ·refine⟨h1,?_⟩
  by_cases h2:c<(g.getD r []).length
  ·exact h2
  ·exact absurd (cD (by omega) 0) h
 ·rw[cD (xs:=g) (by omega)]at h
  simp at h
theorem iT(g:List (List Int))(r c:Nat)(v:Int):(kS g r c v).length=g.length:=by unfold kS;rw[List.length_set]
theorem cr(g:List (List Int))(r c:Nat)(v:Int)(q:Nat):((kS g r c v).getD q []).length=(g.getD q []).length:=by
 unfold kS
 by_cases e:q=r
 ·subst e
  by_cases h:q<g.length
  ·rw[aw (by rw[List.length_set];exact h),List.getElem_set_self,List.length_set]
  ·rw[cD (by rw[List.length_set];omega),cD (by omega)]
 ·rw[getD_set_ne (Ne.symm e)]
theorem kx{g:List (List Int)}{r c:Nat}(v:Int)(h1:r<g.length)(h2:c<(g.getD r []).length):cel (kS g r c v) r c=v:=by
 unfold cel kS
 rw[aw (xs:=g.set r _) (by rw[List.length_set];exact h1),List.getElem_set_self,aw (by rw[List.length_set];exact h2),List.getElem_set_self]
theorem iZ{g:List (List Int)}{r c q x:Nat}(v:Int)(h: ¬(q=r∧x=c)):cel (kS g r c v) q x=cel g q x:=by
 unfold cel kS
 by_cases e:q=r
 ·subst e
  have hx:x≠c:=fun e=>h ⟨rfl,e⟩
  by_cases hl:q<g.length
  ·rw[aw (xs:=g.set q _) (by rw[List.length_set];exact hl),List.getElem_set_self,getD_set_ne (Ne.symm hx)]
  ·rw[cD (xs:=g.set q _) (by rw[List.length_set];omega),cD (xs:=g) (by omega)]
 ·rw[getD_set_ne (Ne.symm e)]
structure Sl (q : List Int) (g : List (List Int)) (i c : Nat) : Prop where
  q0 : ∀ r, 0 ≤ q.getD r 0
  qm : ∀ r, q.getD (r + 1) 0 ≤ q.getD r 0
  lm : ∀ r, (g.getD (r + 1) []).length ≤ (g.getD r []).length
  hi : i < g.length
  hc : c < (g.getD i []).length
  hq : q.getD i 0 ≤ c
  pos : ∀ r x, 0 ≤ cel g r x
  num : ∀ r x : Nat, q.getD r 0 ≤ x → x < (g.getD r []).length → ¬ (r = i ∧ x = c) → 1 ≤ cel g r x ∧ cel g r x ≤ 9
  row : ∀ r x : Nat, q.getD r 0 ≤ x → x + 1 < (g.getD r []).length → ¬ (r = i ∧ x = c) → ¬ (r = i ∧ x + 1 = c) → cel g r x ≤ cel g r (x + 1)
  col : ∀ r x : Nat, q.getD r 0 ≤ x → x < (g.getD (r + 1) []).length → ¬ (r = i ∧ x = c) → ¬ (r + 1 = i ∧ x = c) → cel g r x < cel g (r + 1) x
  EM : ∀ x : Nat, x + 1 = c → q.getD i 0 ≤ x → c + 1 < (g.getD i []).length → cel g i x ≤ cel g i (c + 1)
  colH : ∀ r : Nat, r + 1 = i → q.getD r 0 ≤ c → c < (g.getD (i + 1) []).length → cel g r c < cel g (i + 1) c
theorem Sl.right{q:List Int}{g:List (List Int)}{i c:Nat}(h:Sl q g i c)(hr:cel g i (c+1)≠0)(hb: ¬(0<cel g (i+1) c∧cel g (i+1) c≤cel g i (c+1))):
  Sl q (kS g i c (cel g i (c+1))) i (c+1):=by
 obtain⟨b1,b2⟩:=xA hr
 have hq:=h.hq
 have hrn:=h.num i (c+1) (by omega) b2 (by omega)
 have e0:=kx (cel g i (c+1)) h.hi h.hc
 have en: ∀r x,¬(r=i∧x=c)→cel (kS g i c (cel g i (c+1))) r x=cel g r x:=fun r x hh=>iZ _ hh
 refine⟨h.q0,h.qm,fun r=> ?_,?_,?_,by omega,fun r x=> ?_,fun r x h1 h2 h3=> ?_,fun r x h1 h2 h3 h4=> ?_,fun r x h1 h2 h3 h4=> ?_,fun x h1 h2 h3=> ?_,fun r h1 h2 h3=> ?_⟩
 ·rw[cr,cr];exact h.lm r
 ·rw[iT];exact b1
 ·rw[cr];exact b2
 ·by_cases e:r=i∧x=c
  ·rw[e.1,e.2,e0];exact h.pos _ _
  ·rw[en r x e];exact h.pos _ _
 ·rw[cr]at h2
  by_cases e:r=i∧x=c
  ·rw[e.1,e.2,e0];exact hrn
  ·rw[en r x e];exact h.num r x h1 h2 e
 ·rw[cr]at h2
  by_cases e:r=i∧x=c
  ·exact(h4 ⟨e.1,by omega⟩).elim
  ·rw[en r x e]
   by_cases e':r=i∧x+1=c
   ·obtain⟨rfl,rfl⟩:=e'
    rw[e0]
    exact h.EM x rfl h1 b2
   ·rw[en r (x+1) e'];exact h.row r x h1 h2 e e'
 ·rw[cr]at h2
  by_cases e:r=i∧x=c
  ·obtain⟨rfl,rfl⟩:=e
   rw[e0,en _ _ (by omega)]
   have hqm:=h.qm r
   have h5:=(h.num (r+1) x (by omega) h2 (by omega)).1
   omega
  ·rw[en r x e]
   by_cases e':r+1=i∧x=c
   ·obtain⟨rfl,rfl⟩:=e'
    rw[e0]
    have hl:=h.lm r
    have h5:=h.row r x h1 (by omega) (by omega) (by omega)
    have h6:=h.col r (x+1) (by omega) b2 (by omega) (by omega)
    omega
   ·rw[en (r+1) x e']
    exact h.col r x h1 h2 e e'
 ·rw[cr]at h3
  have:x=c:=by omega
  subst this
  rw[e0,en _ _ (by omega)]
  exact h.row i (x+1) (by omega) h3 (by omega) (by omega)
 ·rw[cr]at h3
  rw[en _ _ (by omega),en _ _ (by omega)]
  subst h1
  have h5:=h.col r (c+1) h2 (by omega) (by omega) (by omega)
  have h6:=h.col (r+1) (c+1) (by omega) h3 (by omega) (by omega)
  omega
end Go.Am.Pu
end
section
/- A slide's end and its start. Plain words. -/
namespace Go.Am.Pu
theorem zM{p:List Int}(hp:cz p=true)(r:Nat):p.getD (r+1) 0≤p.getD r 0:=by
 by_cases h:r+1<p.length
 ·exact rz hp r h
 ·rw[cD (by omega)]
  have:=(fc hp r).1
  rw[fE]at this
  exact this
theorem vA{p:List Int}{n:Nat}(hp:cz p=true)(hn:n<p.length)(hc:p.getD (n+1) 0<p.getD n 0)(r:Nat):(b8 p n).getD r 0=if r=n then p.getD n 0-1 else p.getD r 0:=by
 unfold b8
 by_cases h:p.getD n 0-1=0
 ·rw[if_pos h]
  have h0:=(fc hp (n+1:Nat)).1
  rw[fE]at h0
  have hl:p.length≤n+1:=by
   refine Nat.le_of_not_lt fun hlt=> ?_
   have:=(cI hp).1 _ (List.getElem_mem hlt)
   rw[←aw hlt 0]at this
   omega
  by_cases e:r=n
  ·subst e
   rw[if_pos rfl,h,cD (by rw[List.length_take];omega)]
  ·rw[if_neg e]
   by_cases e2:r<n
   ·rw[aw (by rw[List.length_take];omega),List.getElem_take,aw (by omega)]
   ·rw[cD (by rw[List.length_take];omega),cD (by omega)]
 ·rw[if_neg h]
  by_cases e:r=n
  ·subst e
   rw[if_pos rfl,aw (by rw[List.length_set];exact hn),List.getElem_set_self]
  ·rw[if_neg e,getD_set_ne (Ne.symm e)]
structure FN (t : Tab) : Prop where
  q0 : ∀ r, 0 ≤ t.1.getD r 0
  qm : ∀ r, t.1.getD (r + 1) 0 ≤ t.1.getD r 0
  lm : ∀ r, ((iM t).getD (r + 1) []).length ≤ ((iM t).getD r []).length
  num : ∀ r x : Nat, t.1.getD r 0 ≤ x → x < ((iM t).getD r []).length → 1 ≤ cel (iM t) r x ∧ cel (iM t) r x ≤ 9
  row : ∀ r x : Nat, t.1.getD r 0 ≤ x → x + 1 < ((iM t).getD r []).length → cel (iM t) r x ≤ cel (iM t) r (x + 1)
  col : ∀ r x : Nat, t.1.getD r 0 ≤ x → x < ((iM t).getD (r + 1) []).length → cel (iM t) r x < cel (iM t) (r + 1) x
end Go.Am.Pu
end
section
/- A tableau cell by cell; a slide's start. Plain words. -/
namespace Go.Am.Pu
theorem jy{t:Tab}(h:gZ t=true):cz t.1=true∧cz (outer t)=true∧t.1.length≤t.2.length∧(∀i k,i<t.2.length→k<(t.2.getD i []).length→gr t i k=true):=by
 simp only[gZ,dB,dY,Bool.and_eq_true,decide_eq_true_eq]at h
 obtain⟨⟨h1,h2,h3,h4,h5⟩,h6⟩:=h
 refine⟨h1,h4,h2,fun i k hi hk=> ?_⟩
 rw[fq]at h6
 have:=h6 i hi
 rw[fq]at this
 exact this k hk
end Go.Am.Pu
end
section
/- A partition less a box; the tableau that a slide leaves. Plain words. -/
namespace Go.Am.Pu
theorem nG: ∀(p:List Int) (prev s:Int),(∀x∈p,1≤x)→(0<p.length→p.getD 0 0≤prev)→(∀i,i+1<p.length→p.getD (i+1) 0≤p.getD i 0)→s+fZ p≤9→gP p prev s=true
 | [],_,_,_,_,_,_=>rfl
 |x::xs,prev,s,h1,h2,h3,h4=>by
  have hs: ∀(l:List Int),(∀y∈l,1≤y)→0≤fZ l:=by
   intro l
   induction l with
   |nil=>intro _;simp[fZ]
   |cons y l ih=>
    intro h
    have a:=h y List.mem_cons_self
    have b:=ih (fun z hz=>h z (List.mem_cons_of_mem _ hz))
    simp only[fZ];omega
  have hx:=h1 x List.mem_cons_self
  have hxs:=hs xs (fun z hz=>h1 z (List.mem_cons_of_mem _ hz))
  have h2':=h2 (by simp)
  simp only[List.getD_cons_zero]at h2'
  simp only[fZ]at h4
  have ih:=nG xs x (s+x) (fun z hz=>h1 z (List.mem_cons_of_mem _ hz)) (fun hl=>by have:=h3 0 (by simpa using hl);simpa using this) (fun i hi=>by have:=h3 (i+1) (by simpa using hi);simpa using this) (by omega)
  simp only[gP,Bool.and_eq_true,decide_eq_true_eq]
  exact⟨hx,h2',by omega,ih⟩
theorem qN: ∀(p:List Int) (n:Nat) (v:Int),n<p.length→fZ (p.set n v)=fZ p-p.getD n 0+v
 | [],n,v,h=>by simp at h
 |x::xs,0,v,_=>by simp[fZ];omega
 |x::xs,n+1,v,h=>by
  have:=qN xs n v (by simpa using h)
  simp only[List.set_cons_succ,fZ,List.getD_cons_succ,this]
  omega
theorem wS: ∀(p:List Int) (n:Nat),p.length=n+1→fZ (p.take n)=fZ p-p.getD n 0
 | [],n,h=>by simp at h
 | [x],0,_=>by simp[fZ]
 |x::xs,n+1,h=>by
  have:=wS xs n (by simpa using h)
  simp only[List.take_succ_cons,fZ,List.getD_cons_succ,this]
  omega
 |x::y::xs,0,h=>by simp at h
theorem vW{p:List Int}{n:Nat}(hp:cz p=true)(hc:p.getD (n+1) 0<p.getD n 0)(h:p.getD n 0-1=0):p.length≤n+1:=by
 have h0:=(fc hp (n+1:Nat)).1
 rw[fE]at h0
 refine Nat.le_of_not_lt fun hlt=> ?_
 have:=(cI hp).1 _ (List.getElem_mem hlt)
 rw[←aw hlt 0]at this
 omega
theorem C5{p:List Int}{n:Nat}(hp:cz p=true)(hn:n<p.length)(hc:p.getD (n+1) 0<p.getD n 0){i:Nat}(hi:i<(b8 p n).length):1≤(b8 p n).getD i 0:=by
 rw[vA hp hn hc]
 have hl:=yH p n
 have h1: ∀i,i<p.length→1≤p.getD i 0:=fun i hi=>by
  rw[aw hi]
  exact((cI hp).1 _ (List.getElem_mem hi)).1
 by_cases h:p.getD n 0-1=0
 ·unfold b8 at hi
  rw[if_pos h,List.length_take]at hi
  rw[if_neg (by omega)]
  exact h1 i (by omega)
 ·have a:=h1 n hn
  have b:=h1 i (by omega)
  split<;>omega
theorem BX{p:List Int}{n:Nat}(hp:cz p=true)(hn:n<p.length)(hc:p.getD (n+1) 0<p.getD n 0):cz (b8 p n)=true:=by
 have hs:=cI hp
 have hg:=vA hp hn hc
 have hpn:1≤p.getD n 0:=by
  rw[aw hn]
  exact(hs.1 _ (List.getElem_mem hn)).1
 refine nG _ _ _ (fun x hx=> ?_) (fun _=> ?_) (fun i _=> ?_) ?_
 ·obtain⟨i,hi,rfl⟩:=List.getElem_of_mem hx
  rw[←aw hi 0]
  exact C5 hp hn hc hi
 ·rw[hg]
  have: ∀i,p.getD i 0≤9:=fun i=>by
   have:=(fc hp i).2
   rw[fE]at this
   exact this
  have a:=this 0
  have b:=this n
  split<;>omega
 ·rw[hg,hg]
  have:=zM hp i
  by_cases e:i=n
  ·subst e
   rw[if_neg (by omega),if_pos rfl];omega
  ·rw[if_neg e]
   by_cases e2:i+1=n
   ·subst e2;rw[if_pos rfl];omega
   ·rw[if_neg e2];exact this
 ·have h9:=hs.2.1
  unfold b8
  split
  ·next h=>
   have hl:=vW hp hc h
   rw[wS p n (by omega)]
   omega
  ·rw[qN p n _ hn]
   omega
def fI(q:List Int)(g:List (List Int))(n:Nat):List (List Int):=(List.range' 0 n).map fun r=>(g.getD r []).drop (q.getD r 0).toNat
theorem mq(q:List Int)(g:List (List Int))(n:Nat):(fI q g n).length=n:=by simp[fI]
theorem o9{q:List Int}{g:List (List Int)}{n r:Nat}(h:r<n):(fI q g n).getD r []=(g.getD r []).drop (q.getD r 0).toNat:=by
 rw[aw (by rw[mq];exact h)]
 simp[fI]
def pN(g:List (List Int))(i c:Nat):List (List Int):=g.set i ((g.getD i []).take c)
end Go.Am.Pu
namespace Go.Am.Pu
end Go.Am.Pu
end
section
/- What a slide leaves. Plain words. -/
namespace Go.Am.Pu
theorem A7{g:List (List Int)}{i c r:Nat}(hi:i<g.length):(pN g i c).getD r []=if r=i then(g.getD i []).take c else g.getD r []:=by
 unfold pN
 by_cases e:r=i
 ·subst e
  rw[if_pos rfl,aw (by rw[List.length_set];exact hi),List.getElem_set_self]
 ·rw[if_neg e,getD_set_ne (Ne.symm e)]
theorem nw(g:List (List Int))(i c:Nat):(pN g i c).length=g.length:=by unfold pN;rw[List.length_set]
theorem DP{g:List (List Int)}{i c r x:Nat}(hi:i<g.length)(hx:x<((pN g i c).getD r []).length):cel (pN g i c) r x=cel g r x:=by
 unfold cel
 rw[A7 hi]at hx⊢
 by_cases e:r=i
 ·subst e
  rw[if_pos rfl]at hx⊢
  rw[List.length_take]at hx
  rw[aw (by rw[List.length_take];exact hx),List.getElem_take]
  exact(aw (by omega) 0).symm
 ·rw[if_neg e]
structure B8 (t : Tab) (n : Nat) (g : List (List Int)) (i c : Nat) : Prop where
  sl : Sl (b8 t.1 n) g i c
  len : g.length = t.2.length
  row : ∀ r, (g.getD r []).length = ((iM t).getD r []).length
  hi : i < (outer t).length
  end_ : (outer t).getD i 0 = c + 1
  cor : (outer t).getD (i + 1) 0 < (outer t).getD i 0
  cutl : ∀ r, (((pN g i c).getD r []).length : Int) = (b8 (outer t) i).getD r 0
  ins : ∀ r, (b8 t.1 n).getD r 0 ≤ (b8 (outer t) i).getD r 0
  rows : fz 9 9 (pN g i c)
end Go.Am.Pu
end
section
/- The square that the reference slides in. Plain words. -/
namespace Go.Am.Pu
structure Sq (s g : List (List Int)) (i c : Nat) : Prop where
  len : s.length = 11
  row : ∀ r, r < 11 → (s.getD r []).length = 11
  at_ : ∀ r x, r < 11 → x < 11 → ¬ (r = i ∧ x = c) → cel s r x = cel g r x
  hole : cel s i c = 0
theorem Sq.step{s g:List (List Int)}{i c i' c':Nat}(h:Sq s g i c)(hi:i<g.length)(hc:c<(g.getD i []).length)(h1:i<11)(h2:c<11)(h3:i'<11)(h4:c'<11)(hne: ¬(i'=i∧c'=c))(v:Int):
  Sq (kS (kS s i c v) i' c' 0) (kS g i c v) i' c':=by
 refine⟨by rw[iT,iT];exact h.len,fun r hr=>by rw[cr,cr];exact h.row r hr,fun r x hr hx hn=> ?_,?_⟩
 ·rw[iZ _ hn]
  by_cases e:r=i∧x=c
  ·obtain⟨rfl,rfl⟩:=e
   rw[kx _ (by rw[h.len];exact h1) (by rw[h.row _ h1];exact h2),kx _ hi hc]
  ·rw[iZ _ e,iZ _ e];exact h.at_ r x hr hx e
 ·rw[kx _ (by rw[iT,h.len];exact h3) (by rw[cr,h.row _ h3];exact h4)]
end Go.Am.Pu
end
section
/- What a slide leaves is a tableau. Plain words. -/
namespace Go.Am.Pu
theorem B6{α:Type}(l:List α)(a x:Nat)(d:α):(l.drop a).getD x d=l.getD (a+x) d:=by
 simp[List.getD_eq_getElem?_getD,List.getElem?_drop]
section
variable {t : Tab} {n : Nat} {g : List (List Int)} {i c : Nat}
theorem B8.cell(E:B8 t n g i c){r k:Nat}(hr:r<(b8 (outer t) i).length)
  (hk:k<((fI (b8 t.1 n) (pN g i c) (b8 (outer t) i).length).getD r []).length):
  ((b8 t.1 n).getD r 0).toNat+k<(g.getD r []).length∧((((b8 t.1 n).getD r 0).toNat+k:Nat):Int)<(b8 (outer t) i).getD r 0∧ ¬(r=i∧((b8 t.1 n).getD r 0).toNat+k=c)∧
   ((fI (b8 t.1 n) (pN g i c) (b8 (outer t) i).length).getD r []).getD k 0=cel g r (((b8 t.1 n).getD r 0).toNat+k):=by
 have hq:=E.sl.q0 r
 rw[o9 hr]at hk⊢
 rw[List.length_drop]at hk
 have hx:((b8 t.1 n).getD r 0).toNat+k<((pN g i c).getD r []).length:=by omega
 have hl:=E.cutl r
 have hcut:=A7 (c:=c) (r:=r) E.sl.hi
 refine⟨?_,by omega,fun e=> ?_,?_⟩
 ·rw[hcut]at hx
  by_cases e:r=i
  ·subst e;rw[if_pos rfl,List.length_take]at hx;omega
  ·rw[if_neg e]at hx;exact hx
 ·rw[hcut,if_pos e.1,List.length_take]at hx
  omega
 ·rw[B6]
  exact DP E.sl.hi hx
theorem B8.FE(E:B8 t n g i c){r:Nat}(hr:r<(b8 (outer t) i).length):
  (b8 (outer t) i).getD r 0=(b8 t.1 n).getD r 0+(((fI (b8 t.1 n) (pN g i c) (b8 (outer t) i).length).getD r []).length:Int):=by
 have hq:=E.sl.q0 r
 have hi:=E.ins r
 have hl:=E.cutl r
 rw[o9 hr,List.length_drop]
 omega
end
theorem Dw{p:List Int}{n:Nat}(hp:cz p=true)(hn:n<p.length)(hc:p.getD (n+1) 0<p.getD n 0):fZ (b8 p n)=fZ p-1:=by
 unfold b8
 split
 ·next h=>
  have hl:=vW hp hc h
  rw[wS p n (by omega)]
  omega
 ·rw[qN p n _ hn]
  omega
end Go.Am.Pu
namespace Go.Am.Pu
end Go.Am.Pu
end
section
/- Taking the least number out of a plain tableau; evacuation. Plain words. -/
namespace Go.Am.Pu
theorem B8.out{t:Tab}{n:Nat}{g:List (List Int)}{i c:Nat}(E:B8 t n g i c):
  outer (b8 t.1 n,fI (b8 t.1 n) (pN g i c) (b8 (outer t) i).length)=b8 (outer t) i:=by
 refine List.ext_getElem (by rw[dZ];exact mq _ _ _) fun r h1 h2=> ?_
 rw[←aw h1 0,←aw h2 0]
 have h3:r<(fI (b8 t.1 n) (pN g i c) (b8 (outer t) i).length).length:=by rw[mq];exact h2
 have:=iq (b8 t.1 n) (fI (b8 t.1 n) (pN g i c) (b8 (outer t) i).length) 0 r h3
 rw[Nat.zero_add]at this
 exact this.trans (E.FE h2).symm
theorem AJ{t:Tab}(h:cx t=true){r:Nat}(hr:r<t.2.length):1≤(t.2.getD r []).length:=by
 have hl:=gD h hr
 have hp:=(cI (j4 h)).1 ((outer t)[r]'(by rw[dZ];exact hr)) (List.getElem_mem _)
 rw[aw (by rw[dZ];exact hr)]at hl
 omega
theorem wx{t:Tab}(h:cx t=true):fZ (outer t)=t.2.flatten.length:=by
 unfold outer
 exact oJ t.1 t.2 0 fun q _=>by rw[jx h];rfl
end Go.Am.Pu
end
section
/- Promotion. Plain words. -/
namespace Go.Am.Pu
def Small(rs:List (List Int)):Prop:= ∀i q,-100≤(rs.getD i []).getD q 0∧(rs.getD i []).getD q 0≤100
end Go.Am.Pu
end
section
/- Slides undone. Plain words. -/
namespace Go.Am.Pu
def leftOf(g:List (List Int))(i c:Nat):Int:=if c=0 then 0 else cel g i (c-1)
def xX(g:List (List Int))(i c:Nat):Int:=if i=0 then 0 else cel g (i-1) c
def rj:Nat→List (List Int)→Nat→Nat→List (List Int)×(Nat×Nat)
 |0,g,i,c=>(g,(i,c))
 |m+1,g,i,c=>if leftOf g i c=0∧xX g i c=0 then(g,(i,c))
  else if leftOf g i c≤xX g i c then rj m (kS g i c (xX g i c)) (i-1) c
  else rj m (kS g i c (leftOf g i c)) i (c-1)
structure Ag (f : Int → Int) (g h : List (List Int)) (i c : Nat) : Prop where
  len : h.length = g.length
  row : ∀ r, (h.getD r []).length = (g.getD r []).length
  at_ : ∀ r x, ¬ (r = i ∧ x = c) → cel h r x = f (cel g r x)
def Inn(q:List Int)(g:List (List Int)):Prop:= ∀r x:Nat,(x:Int)<q.getD r 0→cel g r x=0
theorem Inn.step{q:List Int}{g:List (List Int)}{i c:Nat}(h:Inn q g)(hq:q.getD i 0≤c)(v:Int):Inn q (kS g i c v):=by
 intro r x hx
 by_cases e:r=i∧x=c
 ·obtain⟨rfl,rfl⟩:=e;omega
 ·rw[iZ _ e];exact h r x hx
theorem Ag.right{f:Int→Int}{q:List Int}{g h:List (List Int)}{i c:Nat}(hs:Sl q g i c)(hi:Inn q g)(hf: ∀a b x y,cel g a b<cel g x y→f (cel g a b)<f (cel g x y))(f0:f 0=0)
  (hr:cel g i (c+1)≠0) (ha:Ag f (kS g i c (cel g i (c+1))) h i (c+1)):
  ∃h',Ag f g h' i c∧ ∀m,rj (m+1) h i (c+1)=rj m h' i c:=by
 obtain⟨b1,b2⟩:=xA hr
 have f0': ∀a b,cel g a b=0→f (cel g a b)=0:=fun a b e=>by rw[e];exact f0
 have hl:leftOf h i (c+1)=f (cel g i (c+1)):=by
  unfold leftOf
  rw[if_neg (by omega),show c+1-1=c by omega,ha.at_ i c (by omega),kx _ hs.hi hs.hc]
 have hpos:0<f (cel g i (c+1)):=by
  have hp:=hs.pos i (c+1)
  have e:cel g g.length 0=0:=by unfold cel;rw[cD (Nat.le_refl _)];rfl
  have:=hf g.length 0 i (c+1) (by omega)
  rw[e,f0]at this
  exact this
 have hu:xX h i (c+1)<f (cel g i (c+1)):=by
  unfold xX
  by_cases e:i=0
  ·rw[if_pos e];exact hpos
  ·rw[if_neg e,ha.at_ _ _ (by omega),iZ _ (by omega)]
   by_cases hq:q.getD (i-1) 0≤((c+1:Nat):Int)
   ·have hc:=hs.col (i-1) (c+1) hq (by rw[show i-1+1=i by omega];exact b2) (by omega) (by omega)
    rw[show i-1+1=i by omega]at hc
    exact hf _ _ _ _ hc
   ·rw[f0' _ _ (hi (i-1) (c+1) (by omega))];exact hpos
 have hhi:i<h.length:=by rw[ha.len,iT];exact b1
 have hhc:c+1<(h.getD i []).length:=by rw[ha.row,cr];exact b2
 refine⟨kS h i (c+1) (leftOf h i (c+1)),⟨by rw[iT,ha.len,iT],fun r=>by rw[cr,ha.row,cr],fun r x hn=> ?_⟩,fun m=> ?_⟩
 ·by_cases e:r=i∧x=c+1
  ·obtain⟨rfl,rfl⟩:=e
   rw[kx _ hhi hhc,hl]
  ·rw[iZ _ e,ha.at_ r x e,iZ _ hn]
 ·conv=>lhs;unfold rj
  rw[if_neg (by omega),if_neg (by omega)]
  rfl
def Occ(q:List Int)(v:Int)(g:List (List Int))(i c:Nat):Prop:= ∃r x:Nat,¬(r=i∧x=c)∧x<(g.getD r []).length∧q.getD r 0≤x∧cel g r x=v
theorem Occ.step{q:List Int}{v:Int}{g:List (List Int)}{i c a b:Nat}(h:Occ q v g i c)(hi:i<g.length)(hc:c<(g.getD i []).length)(hq:q.getD i 0≤c)(hne: ¬(a=i∧b=c)):Occ q v (kS g i c (cel g a b)) a b:=by
 obtain⟨r,x,h1,h2,h3,h4⟩:=h
 by_cases e:r=a∧x=b
 ·obtain⟨rfl,rfl⟩:=e
  exact⟨i,c,fun e=>hne ⟨e.1.symm,e.2.symm⟩,by rw[cr];exact hc,hq,by rw[kx _ hi hc];exact h4⟩
 ·exact⟨r,x,e,by rw[cr];exact h2,h3,by rw[iZ _ h1];exact h4⟩
end Go.Am.Pu
end
section
/- Promotion of a standard tableau is standard, of the same shape, and can be undone. Plain words. -/
namespace Go.Am.Pu
theorem sR{t:Tab}(h0:t.1= [])(hp:cz (outer t)=true)(hn: ∀r x,r<t.2.length→x<(t.2.getD r []).length→1≤cel t.2 r x∧cel t.2 r x≤9)
  (hr: ∀r x,r<t.2.length→x+1<(t.2.getD r []).length→cel t.2 r x≤cel t.2 r (x+1)) (hc: ∀r x,r+1<t.2.length→x<(t.2.getD (r+1) []).length→cel t.2 r x<cel t.2 (r+1) x):cx t=true:=by
 simp only[cx,gZ,dB,dY,Bool.and_eq_true,decide_eq_true_eq,h0]
 refine⟨⟨⟨rfl,by simp,rfl,hp,by simp,?_⟩,?_⟩,rfl⟩
 ·rw[fq]
  intro i hi
  simp at hi
 ·rw[fq]
  intro r hr'
  rw[fq]
  intro k hk
  simp only[gr,within,Bool.and_eq_true,Bool.or_eq_true,decide_eq_true_eq]
  refine⟨hn r k hr' hk,?_,?_⟩
  ·by_cases e:k=0
   ·exact .inl e
   ·right
    have:=hr r (k-1) hr' (by omega)
    rw[show k-1+1=k by omega]at this
    exact this
  ·by_cases e:r=0
   ·exact .inl e
   ·right
    have:=hc (r-1) k (by omega) (by rw[show r-1+1=r by omega];exact hk)
    rw[show r-1+1=r by omega]at this
    rw[show(r:Int)-1=((r-1:Nat):Int) by omega,sf (by omega),h0]
    simp only[List.getD_nil]
    rw[show(0:Int)+(k:Int)-0=(k:Int) by omega,fE]
    exact this
theorem nM{t:Tab}(h:cx t=true):(∀r x,r<t.2.length→x<(t.2.getD r []).length→1≤cel t.2 r x∧cel t.2 r x≤9)∧(∀r x,r<t.2.length→x+1<(t.2.getD r []).length→cel t.2 r x≤cel t.2 r (x+1)):=by
 have h':=h
 simp only[cx,Bool.and_eq_true]at h'
 obtain⟨_,_,_,hc⟩:=jy h'.1
 refine⟨fun r x hr hx=> ?_,fun r x hr hx=> ?_⟩
 ·have:=hc r x hr hx
  simp only[gr,within,Bool.and_eq_true,decide_eq_true_eq]at this
  exact this.1
 ·have:=hc r (x+1) hr hx
  simp only[gr,within,Bool.and_eq_true,Bool.or_eq_true,decide_eq_true_eq]at this
  exact this.2.1.resolve_left (by omega)
theorem lR{rs:List (List Int)}{r x:Nat}(hr:r<rs.length)(hx:x<(rs.getD r []).length):cel rs r x∈rs.flatten:=by
 refine List.mem_flatten.2 ⟨rs.getD r [],by rw[aw hr];exact List.getElem_mem hr,?_⟩
 unfold cel
 rw[aw hx]
 exact List.getElem_mem hx
theorem qJ{rs:List (List Int)}{v:Int}(h:v∈rs.flatten): ∃r x,r<rs.length∧x<(rs.getD r []).length∧cel rs r x=v:=by
 obtain⟨l,hl,hv⟩:=List.mem_flatten.1 h
 obtain⟨r,hr,rfl⟩:=List.getElem_of_mem hl
 obtain⟨x,hx,rfl⟩:=List.getElem_of_mem hv
 have e:=aw hr ([]:List Int)
 refine⟨r,x,hr,by rw[e];exact hx,?_⟩
 unfold cel
 rw[e,aw hx]
theorem ny{t:Tab}(h:cx t=true)(hs:iX t=true):t.2.flatten.Nodup∧(∀x∈t.2.flatten,1≤x∧x≤t.2.flatten.length):=by
 simp only[iX,Bool.and_eq_true]at hs
 have h1:=yW hs.1
 obtain⟨a,b⟩:=(zO fun x hx=>(h1 x hx).1).1 hs.2
 exact⟨a,fun x hx=>⟨(h1 x hx).1,b x hx⟩⟩
end Go.Am.Pu
end
section
/- Promotion keeps shapes and standardness. Plain words. -/
namespace Go.Am.Pu
section
variable {t : Tab}
theorem BZ{xs ys:List Int}{x:Nat}(h:x<xs.length):(xs++ys).getD x 0=xs.getD x 0:=by
 simp only[List.getD_eq_getElem?_getD,List.getElem?_append_left h]
theorem Cx{xs ys:List Int}{x:Nat}(h:xs.length≤x):(xs++ys).getD x 0=ys.getD (x-xs.length) 0:=by
 simp only[List.getD_eq_getElem?_getD,List.getElem?_append_right h]
end
end Go.Am.Pu
end
section
/- Promotion undone: it is one to one. Plain words. -/
namespace Go.Am.Pu
def Eg(t:Tab)(n:Nat):List (List Int):=
 (if n=t.2.length then iM t++ [[]]else iM t).set n ((if n=t.2.length then iM t++ [[]]else iM t).getD n []++ [0])
section
variable {t : Tab}
end
end Go.Am.Pu
end
section
/- Orbits of promotion come back. Plain words. -/
namespace Go.Am.Pu
structure Good (t : Tab) : Prop where
  pl : cx t = true
  st : iX t = true
  ne : t.2.flatten.length ≠ 0
end Go.Am.Pu
end
section
/- A slide outwards, as the program has it; demotion. Plain words. -/
namespace Go.Am.Pu
section
variable {u : Tab}
end
end Go.Am.Pu
end
section
/- The last promotion of an orbit; orbits' sizes. Plain words. -/
namespace Go.Am.Pu
def Bi(t:Tab):Prop:=t.1= []∧fz 10 10 t.2
theorem Bi.ok{t:Tab}(h:Bi t):sw t:=⟨by rw[h.1];simp,by have:=h.2.1;omega,fun r hr=>by have:=h.2.2 r hr;omega⟩
theorem Bi.size{t:Tab}(h:Bi t):zm t.2≤100:=by
 have a:=yV t.2 10 h.2.2
 have b:=h.2.1
 omega
section
attribute [local instance] D.real
variable {α β : Type} {x y v : Option α}
theorem bE{x:Option β}{z:β}{f:β→Option α}(h:x=some z)(g:f z=v):D.bnd x f=v:=by rw[h];exact g
theorem tN(g:x=v):D.test (D.no true) y x=v:=g
theorem tM(g:y=v):D.test (D.no false) y x=v:=g
theorem tG{p:Prop} [Decidable p](h:p)(g:x=v):D.test (decide p) x y=v:=by
 show(if decide p=true then x else y)=v
 rw[if_pos (decide_eq_true h)];exact g
theorem tX{p:Prop} [Decidable p](h: ¬p)(g:y=v):D.test (decide p) x y=v:=by
 show(if decide p=true then x else y)=v
 rw[decide_eq_false h];exact g
end
end Go.Am.Pu
end
section
/- The rewriting rules of the plain laws, in one. -/
namespace Go.Am.Pu
open Go Go.Am
attribute [local instance] D.real
theorem sss:type_of% @dh∧type_of% @dn∧type_of% @b6∧type_of% @b7∧type_of% @cb∧type_of% @bL∧type_of% @bO∧type_of% @bQ∧type_of% @de∧type_of% @bX∧type_of% @bV∧type_of% @bh∧type_of% @bj∧type_of% @cd∧type_of% @a8∧type_of% @bU∧type_of% @cg∧type_of% @cM∧type_of% @dq∧type_of% @ca∧type_of% @cf∧type_of% @eB∧type_of% @w64∧type_of% @Int.toNat_natCast∧type_of% @decide_eq_true_eq∧type_of% @Int.ofNat_lt∧type_of% @Int.ofNat_le∧type_of% @Int.natCast_nonneg∧type_of% @decide_true∧type_of% @decide_false∧type_of% @Bool.not_true∧type_of% @Bool.not_false∧type_of% @Bool.false_eq_true∧type_of% @Bool.not_eq_true∧type_of% @Bool.true_and∧type_of% @Bool.and_true∧type_of% @Bool.false_and∧type_of% @Bool.and_false:=
 ⟨@dh,@dn,@b6,@b7,@cb,@bL,@bO,@bQ,@de,@bX,@bV,@bh,@bj,@cd,@a8,@bU,@cg,@cM,@dq,@ca,@cf,@eB,@w64,@Int.toNat_natCast,@decide_eq_true_eq,@Int.ofNat_lt,@Int.ofNat_le,@Int.natCast_nonneg,@decide_true,@decide_false,@Bool.not_true,@Bool.not_false,@Bool.false_eq_true,@Bool.not_eq_true,@Bool.true_and,@Bool.and_true,@Bool.false_and,@Bool.and_false⟩
end Go.Am.Pu
end
section
/- Cells taken out of plain tableaux, one behind another. Plain words. -/
namespace Go.Am.Pu
def qL(rs:List (List Int)):Prop:= ∀i,i+1<rs.length→(rs.getD (i+1) []).length≤(rs.getD i []).length∧ ∀q,q<(rs.getD (i+1) []).length→(rs.getD i []).getD q 0<(rs.getD (i+1) []).getD q 0
theorem uM{r:List Int}{y:Int}: ∀{m q:Nat},mr r y m=some q→ ∀c,q<c→c<m→y≤r.getD c 0
 |0,q,h,_,_,_=>by simp[mr]at h
 |m+1,q,h,c,h1,h2=>by
  unfold mr at h
  split at h
  ·next hc=>injection h with h;omega
  ·next hc=>
   by_cases e:c=m
   ·subst e;omega
   ·exact uM h c h1 (by omega)
theorem rA: ∀(r:Nat) (rs:List (List Int)) (y:Int),(mV r rs y).1.length=rs.length∧ ∀i,((mV r rs y).1.getD i []).length=(rs.getD i []).length
 |0,_,_=>⟨rfl,fun _=>rfl⟩
 |r+1,rs,y=>by
  unfold mV
  split
  ·next q hq=>
   obtain⟨a,b⟩:=rA r (rs.set r ((rs.getD r []).set q y)) ((rs.getD r []).getD q 0)
   refine⟨by rw[a,List.length_set],fun i=> ?_⟩
   rw[b]
   by_cases e:i=r
   ·subst e
    by_cases h:i<rs.length
    ·rw[aw (by rw[List.length_set];exact h),List.getElem_set_self,List.length_set]
    ·rw[cD (by rw[List.length_set];omega),cD (xs:=rs) (by omega)]
   ·rw[getD_set_ne (Ne.symm e)]
  ·exact rA r rs y
theorem wI: ∀(r:Nat) (rs:List (List Int)) (y:Int) (q:Nat),r<rs.length→(∀i,i+1<r→(rs.getD (i+1) []).length≤(rs.getD i []).length∧ ∀q,q<(rs.getD (i+1) []).length→(rs.getD i []).getD q 0<(rs.getD (i+1) []).getD q 0)→
  (∀i,r≤i→i+1<rs.length→(rs.getD (i+1) []).length≤(rs.getD i []).length∧ ∀q,q<(rs.getD (i+1) []).length→(rs.getD i []).getD q 0<(rs.getD (i+1) []).getD q 0)→
  (∀i,i+1=r→(rs.getD r []).length≤(rs.getD i []).length∧q<(rs.getD i []).length∧(rs.getD i []).getD q 0<y∧(∀c,c<(rs.getD r []).length→c≠q→(rs.getD i []).getD c 0<(rs.getD r []).getD c 0)∧(∀c,q≤c→c<(rs.getD r []).length→y<(rs.getD r []).getD c 0))→
  qL (mV r rs y).1
 |0,rs,y,q,hr,_,hB,_=>fun i hi=>hB i (Nat.zero_le _) hi
 |r+1,rs,y,q,hr,hA,hB,hI=>by
  obtain⟨i1,i2,i3,i4,i5⟩:=hI r rfl
  obtain⟨q0,hq0⟩:=wJ i2 i3
  have hmax:=uM hq0
  obtain⟨k1,k2⟩:=sG hq0
  have hqq:q≤q0:=Nat.le_of_not_lt fun hlt=>by
   have:=hmax q hlt i2
   omega
  unfold mV
  rw[hq0]
  have hrow:(rs.set r ((rs.getD r []).set q0 y)).getD r []=(rs.getD r []).set q0 y:=by
   rw[aw (by rw[List.length_set];omega),List.getElem_set_self]
  have hne: ∀i,i≠r→(rs.set r ((rs.getD r []).set q0 y)).getD i []=rs.getD i []:=fun i h=>getD_set_ne (Ne.symm h) _ _
  have hset: ∀c,c≠q0→((rs.getD r []).set q0 y).getD c 0=(rs.getD r []).getD c 0:=fun c h=>getD_set_ne (Ne.symm h) _ _
  have hself:((rs.getD r []).set q0 y).getD q0 0=y:=by rw[aw (by rw[List.length_set];exact k1),List.getElem_set_self]
  refine wI r _ _ q0 (by rw[List.length_set];omega) (fun i hi=> ?_) (fun i hi hl=> ?_) (fun i hi=> ?_)
  ·rw[hne _ (by omega),hne _ (by omega)]
   exact hA i (by omega)
  ·rw[List.length_set]at hl
   by_cases e:i=r
   ·subst e
    rw[hne (i+1) (by omega),hrow,List.length_set]
    refine⟨i1,fun c hc=> ?_⟩
    by_cases e2:c=q0
    ·subst e2;rw[hself];exact i5 c hqq hc
    ·rw[hset c e2]
     by_cases e3:c=q
     ·subst e3
      have:=i5 c (Nat.le_refl _) hc
      omega
     ·exact i4 c hc e3
   ·rw[hne (i+1) (by omega),hne i e]
    exact hB i (by omega) hl
  ·subst hi
   obtain⟨a1,a2⟩:=hA i (by omega)
   rw[hrow,hne i (by omega),List.length_set]
   refine⟨a1,by omega,a2 q0 k1,fun c hc e=> ?_,fun c h1 h2=> ?_⟩
   ·rw[hset c e];exact a2 c hc
   ·by_cases e:c=q0
    ·subst e;rw[hself];exact k2
    ·rw[hset c e]
     have:=hmax c (by omega) h2
     omega
def cW(rs:List (List Int))(r:Nat):List (List Int):=
 if(rs.getD r []).length=1 then(rs.set r ((rs.getD r []).take ((rs.getD r []).length-1))).take r else rs.set r ((rs.getD r []).take ((rs.getD r []).length-1))
def eu(a b:List (List Int)):Prop:=a.length=b.length∧ ∀i,(a.getD i []).length=(b.getD i []).length
theorem getD_take{α:Type}{l:List α}{n i:Nat}(h:i<n)(d:α):(l.take n).getD i d=l.getD i d:=by
 simp only[List.getD_eq_getElem?_getD,List.getElem?_take,if_pos h]
theorem wm{a b:List (List Int)}(h:eu a b)(n:Nat):eu (a.take n) (b.take n):=by
 refine⟨by rw[List.length_take,List.length_take,h.1],fun i=> ?_⟩
 by_cases hi:i<n
 ·rw[getD_take hi,getD_take hi];exact h.2 i
 ·rw[cD (xs:=a.take n) (by rw[List.length_take];omega),cD (xs:=b.take n) (by rw[List.length_take];omega)]
theorem xu(rs:List (List Int))(r:Nat):eu (lZ rs r).1 (cW rs r):=by
 have a:=rA r (rs.set r ((rs.getD r []).take ((rs.getD r []).length-1))) ((rs.getD r []).getD ((rs.getD r []).length-1) 0)
 unfold lZ cW
 simp only
 split
 ·exact wm a r
 ·exact a
theorem xZ{a b:List (List Int)}(h:eu a b)(r:Nat):eu (cW a r) (cW b r):=by
 have hs:eu (a.set r ((a.getD r []).take ((a.getD r []).length-1))) (b.set r ((b.getD r []).take ((b.getD r []).length-1))):=by
  refine⟨by rw[List.length_set,List.length_set,h.1],fun i=> ?_⟩
  by_cases e:i=r
  ·subst e
   by_cases hi:i<a.length
   ·rw[aw (xs:=a.set _ _) (by rw[List.length_set];exact hi),List.getElem_set_self,aw (xs:=b.set _ _) (by rw[List.length_set,←h.1];exact hi),List.getElem_set_self,List.length_take,List.length_take,h.2 i]
   ·rw[cD (xs:=a.set _ _) (by rw[List.length_set];omega),cD (xs:=b.set _ _) (by rw[List.length_set,←h.1];omega)]
  ·rw[getD_set_ne (Ne.symm e),getD_set_ne (Ne.symm e)];exact h.2 i
 unfold cW
 rw[h.2 r]
 split
 ·rw[←h.2 r];rw[h.2 r]at*;exact wm hs r
 ·rw[h.2 r]at hs;exact hs
theorem eu.trans{a b c:List (List Int)}(h:eu a b)(h':eu b c):eu a c:=⟨h.1.trans h'.1,fun i=>(h.2 i).trans (h'.2 i)⟩
theorem DI{rs:List (List Int)}(h:qL rs)(n:Nat):qL (rs.take n):=by
 intro i hi
 rw[List.length_take]at hi
 rw[getD_take (by omega),getD_take (by omega)]
 exact h i (by omega)
theorem yD{rs:List (List Int)}{r:Nat}(h:qL rs)(hr:r<rs.length)(hl:1≤(rs.getD r []).length)(hc:(rs.getD (r+1) []).length<(rs.getD r []).length):qL (lZ rs r).1:=by
 have hrow:(rs.set r ((rs.getD r []).take ((rs.getD r []).length-1))).getD r []=(rs.getD r []).take ((rs.getD r []).length-1):=by
  rw[aw (by rw[List.length_set];exact hr),List.getElem_set_self]
 have hne: ∀i,i≠r→(rs.set r ((rs.getD r []).take ((rs.getD r []).length-1))).getD i []=rs.getD i []:=fun i h=>getD_set_ne (Ne.symm h) _ _
 have key:qL (mV r (rs.set r ((rs.getD r []).take ((rs.getD r []).length-1))) ((rs.getD r []).getD ((rs.getD r []).length-1) 0)).1:=by
  refine wI r _ _ ((rs.getD r []).length-1) (by rw[List.length_set];exact hr) (fun i hi=> ?_) (fun i hi hil=> ?_) (fun i hi=> ?_)
  ·rw[hne _ (by omega),hne _ (by omega)];exact h i (by omega)
  ·rw[List.length_set]at hil
   by_cases e:i=r
   ·subst e
    rw[hne (i+1) (by omega),hrow,List.length_take]
    refine⟨by omega,fun c hc'=> ?_⟩
    rw[getD_take (by omega)]
    exact(h i hil).2 c hc'
   ·rw[hne (i+1) (by omega),hne i e];exact h i hil
  ·subst hi
   obtain⟨a1,a2⟩:=h i hr
   rw[hrow,hne i (by omega),List.length_take]
   refine⟨by omega,by omega,a2 _ (by omega),fun c h1 h2=> ?_,fun c h1 h2=>by omega⟩
   rw[getD_take (by omega)]
   exact a2 c (by omega)
 unfold lZ
 simp only
 split
 ·exact DI key r
 ·exact key
end Go.Am.Pu
end
section
/- The greatest number of a standard tableau, and the tableau without it; a pair of tableaux unrolled. Plain words. -/
namespace Go.Am.Pu
section
variable {t : Tab}
theorem vd(h:cx t=true)(hs:iX t=true){a b x y:Nat}(ha:a<t.2.length)(hx:x<(t.2.getD a []).length)(hb:b<t.2.length)(hy:y<(t.2.getD b []).length)(e:cel t.2 a x=cel t.2 b y):a=b∧x=y:=by
 have nd:=(ny h hs).1
 rw[List.Nodup,List.pairwise_flatten]at nd
 have mem: ∀{r z:Nat},r<t.2.length→(hz:z<(t.2.getD r []).length)→cel t.2 r z∈t.2.getD r []:=fun{r z} _ hz=>by
  unfold cel
  rw[aw hz]
  exact List.getElem_mem hz
 have ab: ∀{a b x y:Nat},a<b→a<t.2.length→x<(t.2.getD a []).length→b<t.2.length→y<(t.2.getD b []).length→cel t.2 a x≠cel t.2 b y:=fun{a b x y} hab ha hx hb hy=>by
  have:=List.pairwise_iff_getElem.1 nd.2 a b ha hb hab
  exact this _ (by rw[←aw ha []];exact mem ha hx) _ (by rw[←aw hb []];exact mem hb hy)
 have e1:a=b:=by
  rcases Nat.lt_trichotomy a b with hl|hl|hl
  ·exact absurd e (ab hl ha hx hb hy)
  ·exact hl
  ·exact absurd e.symm (ab hl hb hy ha hx)
 subst e1
 refine⟨rfl,?_⟩
 have n2:=nd.1 _ (by rw[aw ha];exact List.getElem_mem ha:t.2.getD a []∈t.2)
 unfold cel at e
 rw[aw hx,aw hy]at e
 rcases Nat.lt_trichotomy x y with hl|hl|hl
 ·exact absurd e (List.pairwise_iff_getElem.1 n2 x y hx hy hl)
 ·exact hl
 ·exact absurd e.symm (List.pairwise_iff_getElem.1 n2 y x hy hx hl)
theorem jU(h:cx t=true)(hs:iX t=true){a x:Nat}{v:Int}(ha:a<t.2.length)(hx:x<(t.2.getD a []).length)(e:cel t.2 a x=v):rowOf t v=a:=by
 have hf:t.2.findIdx (fun r=>has r v)=a:=by
  rw[List.findIdx_eq ha]
  refine⟨?_,fun j hj=> ?_⟩
  ·rw[←aw ha [],tH,←e]
   unfold cel
   rw[aw hx]
   exact List.getElem_mem hx
  ·rw[Bool.eq_false_iff]
   intro hc
   rw[tH]at hc
   obtain⟨y,hy,e2⟩:=List.getElem_of_mem hc
   have hjl:j<t.2.length:=by omega
   have hy':y<(t.2.getD j []).length:=by rw[aw hjl];exact hy
   have e3:cel t.2 j y=v:=by
    unfold cel
    rw[aw hy']
    simp only[aw hjl]
    exact e2
   have:=vd h hs hjl hy' ha hx (by rw[e,e3])
   omega
 unfold rowOf Cp
 rw[hf,if_pos ha]
theorem C4(h:cx t=true)(hs:iX t=true)(hn:t.2.flatten.length≠0): ∃a:Nat,a<t.2.length∧1≤(t.2.getD a []).length∧cel t.2 a ((t.2.getD a []).length-1)=t.2.flatten.length∧(t.2.getD (a+1) []).length<(t.2.getD a []).length∧rowOf t t.2.flatten.length=a:=by
 have ho:l9 t.2.flatten=true:=by
  have:=hs
  simp only[iX,Bool.and_eq_true]at this
  exact this.2
 obtain⟨a,x,ha,hx,e⟩:=qJ (ly.1 ho t.2.flatten.length (iN.2 (by omega)))
 have hb:=(ny h hs).2
 obtain⟨c1,c2⟩:=nM h
 have hx1:x+1=(t.2.getD a []).length:=by
  refine Nat.le_antisymm hx (Nat.le_of_not_lt fun hlt=> ?_)
  have k1:=c2 a x ha hlt
  have k2:=(hb _ (lR ha hlt)).2
  have:=vd h hs ha hx ha hlt (by omega)
  omega
 have hbel:(t.2.getD (a+1) []).length≤x:=by
  refine Nat.le_of_not_lt fun hlt=> ?_
  have ha1:a+1<t.2.length:=Nat.lt_of_not_le fun hle=>by rw[cD hle]at hlt;simp at hlt
  have k1:=(pL h a ha1).2 x hlt
  have k2:=(hb _ (lR ha1 hlt)).2
  unfold cel at e k2
  omega
 refine⟨a,ha,by omega,by rw[show(t.2.getD a []).length-1=x by omega];exact e,by omega,jU h hs ha hx e⟩
theorem pQ{rs:List (List Int)}{a:Nat}(ha:a<rs.length)(hc:(rs.getD (a+1) []).length<(rs.getD a []).length)(hp: ∀r,r<rs.length→1≤(rs.getD r []).length)(r:Nat):(cW rs a).getD r []=if r=a then(rs.getD a []).take ((rs.getD a []).length-1)else rs.getD r []:=by
 have hset:(rs.set a ((rs.getD a []).take ((rs.getD a []).length-1))).getD r []=if r=a then(rs.getD a []).take ((rs.getD a []).length-1)else rs.getD r []:=by
  by_cases e:r=a
  ·subst e;rw[if_pos rfl,aw (by rw[List.length_set];exact ha),List.getElem_set_self]
  ·rw[if_neg e,getD_set_ne (Ne.symm e)]
 unfold cW
 split
 ·next h1=>
  by_cases hr:r<a
  ·rw[getD_take hr,hset]
  ·rw[cD (by rw[List.length_take];omega)]
   by_cases e:r=a
   ·subst e;rw[if_pos rfl,h1];rfl
   ·rw[if_neg e]
    have hlast:rs.length≤a+1:=Nat.le_of_not_lt fun hlt=>by
     have:=hp (a+1) hlt
     omega
    rw[cD (by omega)]
 ·exact hset
theorem vz{rs:List (List Int)}{a:Nat}(ha:a<rs.length):(cW rs a).length=if(rs.getD a []).length=1 then a else rs.length:=by
 unfold cW
 split
 ·rw[List.length_take,List.length_set];omega
 ·rw[List.length_set]
theorem D0(h:cx t=true)(hs:iX t=true){a:Nat}(hn:t.2.flatten.length≠0)(ha:a<t.2.length)(h1:1≤(t.2.getD a []).length)(htop:cel t.2 a ((t.2.getD a []).length-1)=t.2.flatten.length)(hc:(t.2.getD (a+1) []).length<(t.2.getD a []).length):
  cx (([],cW t.2 a):Tab)=true∧iX (([],cW t.2 a):Tab)=true∧(cW t.2 a).flatten.length+1=t.2.flatten.length∧ ∀v,1≤v→v<(t.2.flatten.length:Int)→rowOf ([],cW t.2 a) v=rowOf t v:=by
 have hpos:=fun r (hr:r<t.2.length)=>AJ h hr
 have hrow:=pQ ha hc hpos
 have hlen:=vz ha
 obtain⟨c1,c2⟩:=nM h
 have c3:=pL h
 have hcorner:(outer t).getD (a+1) 0<(outer t).getD a 0:=by
  rw[gD h ha]
  by_cases e:a+1<t.2.length
  ·rw[gD h e];omega
  ·rw[cD (by rw[dZ];omega)];omega
 have hal:a<(outer t).length:=by rw[dZ];exact ha
 have hout:outer (([],cW t.2 a):Tab)=b8 (outer t) a:=by
  have hdl:(b8 (outer t) a).length=(cW t.2 a).length:=by
   rw[hlen]
   unfold b8
   rw[gD h ha]
   by_cases e:(t.2.getD a []).length=1
   ·rw[if_pos (by omega),if_pos e,List.length_take,dZ];omega
   ·rw[if_neg (by omega),if_neg e,List.length_set,dZ]
  refine List.ext_getElem (by rw[dZ,hdl]) fun r k1 k2=> ?_
  rw[←aw k1 0,←aw k2 0,vA (j4 h) hal hcorner]
  have k3:r<(cW t.2 a).length:=by rw[dZ]at k1;exact k1
  have:=iq [] (cW t.2 a) 0 r k3
  unfold outer at this⊢
  rw[this,hrow]
  have hrl:r<t.2.length:=by
   rw[hlen]at k3
   split at k3<;>omega
  have po:=gD h hrl
  have pa:=gD h ha
  unfold outer at po pa
  by_cases e:r=a
  ·subst e
   rw[if_pos rfl,if_pos rfl,List.length_take,pa]
   simp only[List.getD_nil]
   omega
  ·rw[if_neg e,if_neg e,po]
   simp only[List.getD_nil]
   omega
 have hcel: ∀{r x:Nat},x<((cW t.2 a).getD r []).length→x<(t.2.getD r []).length∧cel (cW t.2 a) r x=cel t.2 r x:=fun{r x} hx=>by
  unfold cel
  rw[hrow]at hx⊢
  by_cases e:r=a
  ·subst e
   rw[if_pos rfl,List.length_take]at hx
   rw[if_pos rfl,getD_take (by omega)]
   exact⟨by omega,rfl⟩
  ·rw[if_neg e]at hx⊢
   exact⟨hx,rfl⟩
 have hrl: ∀{r:Nat},r<(cW t.2 a).length→r<t.2.length:=fun{r} hr=>by
  rw[hlen]at hr
  split at hr<;>omega
 have hin: ∀{r x:Nat},x<(t.2.getD r []).length→ ¬(r=a∧x+1=(t.2.getD a []).length)→x<((cW t.2 a).getD r []).length:=fun{r x} hx hne=>by
  rw[hrow]
  by_cases e:r=a
  ·subst e
   rw[if_pos rfl,List.length_take]
   have: ¬x+1=(t.2.getD r []).length:=fun e=>hne ⟨rfl,e⟩
   omega
  ·rw[if_neg e];exact hx
 have hpl:cx (([],cW t.2 a):Tab)=true:=by
  refine sR rfl (by rw[hout];exact BX (j4 h) hal hcorner) (fun r x hr hx=> ?_) (fun r x hr hx=> ?_) (fun r x hr hx=> ?_)
  ·obtain⟨k1,k2⟩:=hcel hx
   rw[k2];exact c1 r x (hrl hr) k1
  ·obtain⟨k1,k2⟩:=hcel hx
   obtain⟨_,k4⟩:=hcel (show x<((cW t.2 a).getD r []).length from Nat.lt_of_succ_lt hx)
   rw[k2,k4];exact c2 r x (hrl hr) k1
  ·obtain⟨k1,k2⟩:=hcel hx
   have hr1:=hrl hr
   obtain⟨d1,d2⟩:=c3 r hr1
   have hxr:x<((cW t.2 a).getD r []).length:=by
    refine hin (by omega) fun e=> ?_
    rw[e.1]at k1
    omega
   obtain⟨_,k4⟩:=hcel hxr
   rw[k2,k4]
   exact d2 x k1
 have hfl:(cW t.2 a).flatten.length+1=t.2.flatten.length:=by
  have e1:=wx hpl
  rw[hout,Dw (j4 h) hal hcorner,wx h]at e1
  simp only at e1
  omega
 have ho:l9 t.2.flatten=true:=by
  have:=hs
  simp only[iX,Bool.and_eq_true]at this
  exact this.2
 have hcells: ∀v,1≤v→v<(t.2.flatten.length:Int)→ ∃r x,r<(cW t.2 a).length∧x<((cW t.2 a).getD r []).length∧cel (cW t.2 a) r x=v∧r<t.2.length∧x<(t.2.getD r []).length∧cel t.2 r x=v:=by
  intro v v1 v2
  obtain⟨r,x,hr,hx,e⟩:=qJ (ly.1 ho v (iN.2 (by omega)))
  have hx':x<((cW t.2 a).getD r []).length:=by
   refine hin hx fun e2=> ?_
   rw[e2.1,show x=(t.2.getD a []).length-1 by omega,htop]at e
   omega
  exact⟨r,x,Nat.lt_of_not_le fun hle=>by rw[cD hle]at hx';simp at hx',hx',by rw[(hcel hx').2];exact e,hr,hx,e⟩
 have hst:iX (([],cW t.2 a):Tab)=true:=by
  have hp':=hpl
  simp only[cx,Bool.and_eq_true]at hp'
  simp only[iX,Bool.and_eq_true]
  refine⟨hp'.1,ly.2 fun v hv=> ?_⟩
  rw[iN]at hv
  obtain⟨r,x,q1,q2,q3,_⟩:=hcells v hv.1 (by omega)
  rw[←q3]
  exact lR q1 q2
 refine⟨hpl,hst,hfl,fun v v1 v2=> ?_⟩
 obtain⟨r,x,q1,q2,q3,q4,q5,q6⟩:=hcells v v1 v2
 rw[jU h hs q4 q5 q6,jU hpl hst q1 q2 q3]
end
structure Unr (q : Tab) (k : Nat) (P Q : List (List Int)) : Prop where
  pl : cx (([], Q) : Tab) = true
  st : iX (([], Q) : Tab) = true
  fl : Q.flatten.length = k
  col : qL P
  same : eu P Q
  p9 : fz 9 9 P
  row : ∀ v, 1 ≤ v → v ≤ (k : Int) → rowOf ([], Q) v = rowOf q v
theorem Unr.step{q:Tab}{k:Nat}{P Q:List (List Int)}(h:Unr q (k+1) P Q): ∃a:Nat,rowOf q ((k+1:Nat):Int)=a∧a<Q.length∧1≤(Q.getD a []).length∧cel Q a ((Q.getD a []).length-1)=(k+1:Nat)∧(Q.getD (a+1) []).length<(Q.getD a []).length∧Unr q k (lZ P a).1 (cW Q a):=by
 have hfl:(([],Q):Tab).2.flatten.length=k+1:=h.fl
 obtain⟨a,a1,a2,a3,a4,a5⟩:=C4 h.pl h.st (by omega)
 obtain⟨b1,b2,b3,b4⟩:=D0 h.pl h.st (by omega) a1 a2 a3 a4
 simp only at a1 a2 a3 a4 b3
 have hP1:a<P.length:=by rw[h.same.1];exact a1
 refine⟨a,?_,a1,a2,by rw[a3,h.fl],a4,⟨b1,b2,by have:=h.fl;omega,yD h.col hP1 (by rw[h.same.2];exact a2) (by rw[h.same.2,h.same.2];exact a4),(xu P a).trans (xZ h.same a),wV h.p9 a,fun v v1 v2=> ?_⟩⟩
 ·rw[←h.row _ (by omega) (Int.le_refl _),←a5,hfl]
 ·rw[b4 v v1 (by rw[hfl];omega)]
  exact h.row v v1 (by omega)
end Go.Am.Pu
namespace Go.Am.Pu
end Go.Am.Pu
end
section
/- Insertion keeps tableaux; where the new cells lie; a tableau from its word. Plain words. -/
namespace Go.Am.Pu
def mZ(r:List Int):Prop:= ∀i,i+1<r.length→r.getD i 0≤r.getD (i+1) 0
theorem mZ.le{r:List Int}(h:mZ r): ∀(d i:Nat),i+d<r.length→r.getD i 0≤r.getD (i+d) 0
 |0,i,_=>Int.le_refl _
 |d+1,i,hi=>by
  have a:=mZ.le h d i (by omega)
  have b:=h (i+d) (by omega)
  rw[show i+(d+1)=i+d+1 by omega]
  omega
theorem mZ.mono{r:List Int}(h:mZ r){i j:Nat}(hij:i≤j)(hj:j<r.length):r.getD i 0≤r.getD j 0:=by
 have:=h.le (j-i) i (by omega)
 rw[show i+(j-i)=j by omega]at this
 exact this
def fst(r:List Int)(x:Int):Nat:=r.findIdx fun n=>decide (x<n)
theorem xn{r:List Int}{x:Int}:fst r x≤r.length:=List.findIdx_le_length
theorem C7{r:List Int}{x:Int}(h:fst r x<r.length):x<r.getD (fst r x) 0:=by
 have:=pF (p:=fun n=>decide (x<n)) h
 exact of_decide_eq_true this
theorem xc{r:List Int}{x:Int}{i:Nat}(h:i<fst r x):r.getD i 0≤x:=by
 have h1:i<r.length:=Nat.lt_of_lt_of_le h xn
 have h2:=List.not_of_lt_findIdx h
 rw[aw h1]
 exact Int.not_lt.1 (of_decide_eq_false h2)
theorem iF(r:List Int)(rs:List (List Int))(x:Int):a7 (r::rs) x=if fst r x<r.length then(r.set (fst r x) x::(a7 rs (r.getD (fst r x) 0)).1,(a7 rs (r.getD (fst r x) 0)).2+1)else((r++ [x])::rs,0):=rfl
def EP(r:List Int):List (List Int)→Prop
 | []=>True
 |s::_=>s.length≤r.length∧ ∀q,q<s.length→r.getD q 0<s.getD q 0
def SSR:List (List Int)→Prop
 | []=>True
 |r::rs=>0<r.length∧mZ r∧EP r rs∧SSR rs
theorem hM{r:List Int}{i:Nat}(x:Int)(h:i<r.length)(q:Nat):(r.set i x).getD q 0=if q=i then x else r.getD q 0:=by
 by_cases e:q=i
 ·subst e;rw[if_pos rfl,aw (by rw[List.length_set];exact h),List.getElem_set_self]
 ·rw[if_neg e,getD_set_ne (Ne.symm e)]
theorem eU{r:List Int}(x:Int)(q:Nat):(r++ [x]).getD q 0=if q=r.length then x else r.getD q 0:=by
 by_cases h:q<r.length
 ·rw[BZ h,if_neg (by omega)]
 ·rw[Cx (by omega)]
  by_cases e:q=r.length
  ·rw[if_pos e,e,Nat.sub_self];rfl
  ·rw[if_neg e,cD (by simp;omega),cD (by omega)]
theorem DY{r:List Int}{x:Int}(h:mZ r)(hf:fst r x<r.length):mZ (r.set (fst r x) x):=by
 intro i hi
 rw[List.length_set]at hi
 rw[hM x hf,hM x hf]
 have h0:=h i hi
 by_cases e1:i=fst r x
 ·rw[if_pos e1,if_neg (by omega)]
  have:=C7 hf
  rw[←e1]at this
  omega
 ·rw[if_neg e1]
  by_cases e2:i+1=fst r x
  ·rw[if_pos e2];exact xc (by omega)
  ·rw[if_neg e2];exact h0
theorem Ep{r:List Int}{x:Int}(h:mZ r)(hf: ¬fst r x<r.length):mZ (r++ [x]):=by
 intro i hi
 rw[List.length_append,List.length_singleton]at hi
 rw[eU,eU,if_neg (by omega)]
 by_cases e:i+1=r.length
 ·rw[if_pos e]
  have:= @xn r x
  exact xc (by omega)
 ·rw[if_neg e];exact h i (by omega)
theorem Dx{r:List Int}{x:Int}{rs:List (List Int)}(h:mZ r)(hf:fst r x<r.length)(ho:EP r rs):EP (r.set (fst r x) x) (a7 rs (r.getD (fst r x) 0)).1:=by
 have hy:=C7 hf
 have hle: ∀q,q<r.length→(r.set (fst r x) x).getD q 0≤r.getD q 0:=fun q hq=>by
  rw[hM x hf]
  split
  ·next e=>rw[e];omega
  ·exact Int.le_refl _
 have hlow: ∀p,p≤fst r x→(r.set (fst r x) x).getD p 0<r.getD (fst r x) 0:=fun p hp=>by
  rw[hM x hf]
  split
  ·exact hy
  ·have:=xc (r:=r) (x:=x) (i:=p) (by omega)
   omega
 cases rs with
 |nil=>
  show([r.getD (fst r x) 0]:List Int).length≤_∧_
  refine⟨by rw[List.length_set];simp;omega,fun q hq=> ?_⟩
  have e:q=0:=by simp at hq;exact hq
  subst e
  exact hlow 0 (by omega)
 |cons s rs=>
  obtain⟨o1,o2⟩:=ho
  have hp:fst s (r.getD (fst r x) 0)≤fst r x:=by
   refine Nat.le_of_not_lt fun hlt=> ?_
   have hs:fst r x<s.length:=Nat.lt_of_lt_of_le hlt xn
   have a:=xc hlt
   have b:=o2 _ hs
   omega
  rw[iF]
  by_cases c:fst s (r.getD (fst r x) 0)<s.length
  ·rw[if_pos c]
   refine⟨by rw[List.length_set,List.length_set];exact o1,fun q hq=> ?_⟩
   rw[List.length_set]at hq
   rw[hM (r:=s) _ c]
   split
   ·next e=>rw[e];exact hlow _ hp
   ·have a:=hle q (by omega)
    have b:=o2 q hq
    omega
  ·rw[if_neg c]
   have hsl:fst s (r.getD (fst r x) 0)=s.length:=Nat.le_antisymm xn (Nat.le_of_not_lt c)
   refine⟨by rw[List.length_set,List.length_append,List.length_singleton];omega,fun q hq=> ?_⟩
   rw[List.length_append,List.length_singleton]at hq
   rw[eU]
   split
   ·next e=>rw[e];exact hlow _ (by omega)
   ·have a:=hle q (by omega)
    have b:=o2 q (by omega)
    omega
theorem A8: ∀(rs:List (List Int)) (x:Int),SSR rs→SSR (a7 rs x).1
 | [],x,_=>⟨by simp,fun i hi=>by simp at hi,trivial,trivial⟩
 |r::rs,x,h=>by
  obtain⟨h1,h2,h3,h4⟩:=h
  rw[iF]
  split
  ·next c=>exact⟨by rw[List.length_set];exact h1,DY h2 c,Dx h2 c h3,A8 rs _ h4⟩
  ·next c=>
   refine⟨by simp,Ep h2 c,?_,h4⟩
   cases rs with
   |nil=>trivial
   |cons s rs=>
    obtain⟨o1,o2⟩:=h3
    refine⟨by rw[List.length_append];omega,fun q hq=> ?_⟩
    rw[eU,if_neg (by omega)]
    exact o2 q hq
end Go.Am.Pu
end
section
/- Plain tableaux, row by row; a tableau from its word; words inserted. Plain words. -/
namespace Go.Am.Pu
theorem xl: ∀{rs:List (List Int)},SSR rs→ ∀r,r<rs.length→0<(rs.getD r []).length∧mZ (rs.getD r [])
 |r::rs,h,0,_=>⟨h.1,h.2.1⟩
 |r::rs,h,q+1,hq=>xl h.2.2.2 q (by simpa using hq)
theorem w6: ∀{rs:List (List Int)},SSR rs→qL rs
 | [],_,i,hi=>by simp at hi
 | [r],_,i,hi=>by simp at hi
 |r::s::rs,h,0,_=>h.2.2.1
 |r::s::rs,h,i+1,hi=>w6 h.2.2.2 i (by simpa using hi)
theorem vT: ∀{rs:List (List Int)},(∀r,r<rs.length→0<(rs.getD r []).length∧mZ (rs.getD r []))→qL rs→SSR rs
 | [],_,_=>trivial
 |r::rs,h1,h2=>by
  refine⟨(h1 0 (by simp)).1,(h1 0 (by simp)).2,?_,vT (fun q hq=>h1 (q+1) (by simpa using hq)) (fun i hi=>h2 (i+1) (by simpa using hi))⟩
  cases rs with
  |nil=>trivial
  |cons s rs=>exact h2 0 (by simp)
theorem oT(rs:List (List Int)){i:Nat}(h:i<rs.length):(outer (([],rs):Tab)).getD i 0=(rs.getD i []).length:=by
 have:=iq [] rs 0 i h
 unfold outer
 rw[this]
 simp
theorem qU{rs:List (List Int)}(h:SSR rs)(hn: ∀x∈rs.flatten,1≤x∧x≤9)(h9:rs.flatten.length≤9):cx (([],rs):Tab)=true:=by
 have hr:=fun r hr=>xl h r hr
 have hc:=w6 h
 have hrl: ∀r,r<rs.length→(rs.getD r []).length≤9:=fun r h1=>by
  have:=uP (rs:=rs) (r:=rs.getD r []) (by rw[aw h1];exact List.getElem_mem h1)
  omega
 refine sR rfl ?_ (fun r x h1 h2=>hn _ (lR h1 h2)) (fun r x h1 h2=>(hr r h1).2 x h2) (fun r x h1 h2=>(hc r h1).2 x h2)
 have hs:fZ (outer (([],rs):Tab))=rs.flatten.length:=oJ [] rs 0 fun q _=>by simp
 refine nG _ 9 0 (fun x hx=> ?_) (fun h0=> ?_) (fun i hi=> ?_) (by omega)
 ·obtain⟨i,hi,rfl⟩:=List.getElem_of_mem hx
  have hi':i<rs.length:=by rw[dZ]at hi;exact hi
  rw[←aw hi 0,oT rs hi']
  have:=(hr i hi').1
  omega
 ·have h0':0<rs.length:=by rw[dZ]at h0;exact h0
  rw[oT rs h0']
  have:=hrl 0 h0'
  omega
 ·have hi':i+1<rs.length:=by rw[dZ]at hi;exact hi
  rw[oT rs hi',oT rs (by omega)]
  have:=(hc i hi').1
  omega
theorem A0: ∀(rs:List (List Int)) (x z:Int),z∈(a7 rs x).1.flatten→z=x∨z∈rs.flatten
 | [],x,z,h=>by simp[a7]at h;exact .inl h
 |r::rs,x,z,h=>by
  rw[iF]at h
  split at h
  ·next c=>
   simp only[List.flatten_cons,List.mem_append]at h⊢
   rcases h with h|h
   ·rcases List.mem_or_eq_of_mem_set h with h|h
    ·exact .inr (.inl h)
    ·exact .inl h
   ·rcases A0 rs _ z h with h|h
    ·right;left
     rw[h,aw c]
     exact List.getElem_mem c
    ·exact .inr (.inr h)
  ·simp only[List.flatten_cons,List.mem_append,List.mem_singleton]at h⊢
   rcases h with(h|h)|h
   ·exact .inr (.inl h)
   ·exact .inl h
   ·exact .inr (.inr h)
theorem yh: ∀(rs:List (List Int)) (x:Int),(a7 rs x).1.flatten.length=rs.flatten.length+1
 | [],x=>by simp[a7]
 |r::rs,x=>by
  rw[iF]
  split
  ·have:=yh rs (r.getD (fst r x) 0)
   simp only[List.flatten_cons,List.length_append,List.length_set]
   omega
  ·simp only[List.flatten_cons,List.length_append,List.length_singleton]
   omega
theorem tB: ∀(rs:List (List Int)) (x:Int),(a7 rs x).2≤rs.length∧((a7 rs x).1.length=if(a7 rs x).2=rs.length then rs.length+1 else rs.length)∧ ∀i,((a7 rs x).1.getD i []).length=if i=(a7 rs x).2 then(rs.getD i []).length+1 else(rs.getD i []).length
 | [],x=>by
  refine⟨Nat.le_refl _,rfl,fun i=> ?_⟩
  cases i with
  |zero=>rfl
  |succ i=>simp[a7]
 |r::rs,x=>by
  rw[iF]
  split
  ·next c=>
   obtain⟨a,b,d⟩:=tB rs (r.getD (fst r x) 0)
   refine⟨by simp only[List.length_cons];omega,?_,fun i=> ?_⟩
   ·simp only[List.length_cons,b,Nat.add_right_cancel_iff]
    split<;>rfl
   ·cases i with
    |zero=>simp
    |succ i=>
     have:=d i
     simp only[Nat.add_right_cancel_iff]
     exact this
  ·refine⟨Nat.zero_le _,by simp,fun i=> ?_⟩
   cases i with
   |zero=>simp
   |succ i=>simp
def jN:List Int→List (List Int)→List (List Int)
 | [],P=>P
 |x::w,P=>jN w (a7 P x).1
theorem nc: ∀(v w:List Int) (P:List (List Int)),jN (v++w) P=jN w (jN v P)
 | [],_,_=>rfl
 |x::v,w,P=>nc v w _
end Go.Am.Pu
end
section
/- The recording tableau is standard, and its descents are the word's. Plain words. -/
namespace Go.Am.Pu
def gA(Q:List (List Int))(a:Nat)(v:Int):List (List Int):=if a=Q.length then Q++ [[v]]else Q.set a (Q.getD a []++ [v])
theorem oR{Q:List (List Int)}{a:Nat}(v:Int)(ha:a≤Q.length)(i:Nat):(gA Q a v).getD i []=if i=a then Q.getD a []++ [v]else Q.getD i []:=by
 unfold gA
 by_cases e:a=Q.length
 ·rw[if_pos e]
  by_cases h:i<Q.length
  ·rw[if_neg (by omega)]
   simp only[List.getD_eq_getElem?_getD,List.getElem?_append_left h]
  ·by_cases e2:i=a
   ·rw[if_pos e2,e2,e,cD (xs:=Q) (Nat.le_refl _)]
    simp
   ·rw[if_neg e2,cD (xs:=Q) (by omega),cD (by rw[List.length_append,List.length_singleton];omega)]
 ·rw[if_neg e]
  by_cases e2:i=a
  ·subst e2;rw[if_pos rfl,aw (by rw[List.length_set];omega),List.getElem_set_self]
  ·rw[if_neg e2,getD_set_ne (Ne.symm e2)]
theorem lh{Q:List (List Int)}{a:Nat}(v:Int):(gA Q a v).length=if a=Q.length then Q.length+1 else Q.length:=by
 unfold gA
 split
 ·rw[List.length_append,List.length_singleton]
 ·rw[List.length_set]
theorem Ay{Q:List (List Int)}{a:Nat}(v:Int)(ha:a≤Q.length):(gA Q a v).flatten.length=Q.flatten.length+1:=by
 unfold gA
 split
 ·simp
 ·next e=>
  have: ∀(Q:List (List Int)) (a:Nat),a<Q.length→(Q.set a (Q.getD a []++ [v])).flatten.length=Q.flatten.length+1:=by
   intro Q
   induction Q with
   |nil=>intro a h;simp at h
   |cons r rs ih=>
    intro a h
    cases a with
    |zero=>simp;omega
    |succ a=>
     have:=ih a (by simpa using h)
     simp only[List.set_cons_succ,List.getD_cons_succ,List.flatten_cons,List.length_append,this]
     omega
  exact this Q a (by omega)
theorem Ed{Q P:List (List Int)}{a k:Nat}(hp:cx (([],Q):Tab)=true)(hs:iX (([],Q):Tab)=true)(hk:Q.flatten.length=k)(h9:k+1≤9)(hP:SSR P)(ha:a≤Q.length)(hPl:P.length=if a=Q.length then Q.length+1 else Q.length)
  (hl: ∀i,(P.getD i []).length=if i=a then(Q.getD i []).length+1 else(Q.getD i []).length):
  cx (([],gA Q a ((k+1:Nat):Int)):Tab)=true∧iX (([],gA Q a ((k+1:Nat):Int)):Tab)=true∧(gA Q a ((k+1:Nat):Int)).flatten.length=k+1∧eu P (gA Q a ((k+1:Nat):Int))∧
   rowOf ([],gA Q a ((k+1:Nat):Int)) ((k+1:Nat):Int)=a∧ ∀v,1≤v→v≤(k:Int)→rowOf ([],gA Q a ((k+1:Nat):Int)) v=rowOf ([],Q) v:=by
 have hget:=oR ((k+1:Nat):Int) ha
 have hlen:= @lh Q a ((k+1:Nat):Int)
 have hfl:=Ay ((k+1:Nat):Int) ha
 generalize hN:gA Q a ((k+1:Nat):Int)=N at*
 have hNl: ∀i,(N.getD i []).length=if i=a then(Q.getD i []).length+1 else(Q.getD i []).length:=fun i=>by
  rw[hget]
  split
  ·next e=>rw[e,List.length_append,List.length_singleton]
  ·rfl
 have hsame:eu P N:=⟨by rw[hPl,hlen],fun i=>by rw[hl,hNl]⟩
 have hcel: ∀r x,cel N r x=if r=a∧x=(Q.getD a []).length then((k+1:Nat):Int)else cel Q r x:=fun r x=>by
  unfold cel
  rw[hget]
  by_cases e:r=a
  ·subst e
   rw[if_pos rfl,eU]
   by_cases e2:x=(Q.getD r []).length
   ·rw[if_pos e2,if_pos ⟨rfl,e2⟩]
   ·rw[if_neg e2,if_neg (fun h=>e2 h.2)]
  ·rw[if_neg e,if_neg (fun h=>e h.1)]
 have hb:=(ny hp hs).2
 simp only at hb
 rw[hk]at hb
 have hQ: ∀{r x:Nat},x<(Q.getD r []).length→1≤cel Q r x∧cel Q r x≤(k:Int):=fun{r x} hx=>by
  have hr:r<Q.length:=Nat.lt_of_not_le fun hle=>by rw[cD hle]at hx;simp at hx
  exact hb _ (lR hr hx)
 obtain⟨q1,q2⟩:=nM hp
 have q3:=pL hp
 simp only at q2 q3
 have pc:=w6 hP
 have pr:=fun r hr=>xl hP r hr
 have hqlen: ∀i,(Q.getD (i+1) []).length≤(Q.getD i []).length:=fun i=>by
  by_cases h:i+1<Q.length
  ·exact(q3 i h).1
  ·rw[cD (by omega)];exact Nat.zero_le _
 have hssr:SSR N:=by
  refine vT (fun r hr=>⟨?_,fun x hx=> ?_⟩) (fun i hi=> ?_)
  ·rw[←hsame.2];exact(pr r (by rw[hsame.1];exact hr)).1
  ·have e1:=hcel r x
   have e2:=hcel r (x+1)
   unfold cel at e1 e2
   rw[e1,e2]
   rw[hNl]at hx
   have hxQ:x<(Q.getD r []).length:=by
    split at hx<;>omega
   rw[if_neg (fun h=>by rw[h.1]at hxQ;omega)]
   have hv:=hQ hxQ
   unfold cel at hv
   by_cases e:r=a∧x+1=(Q.getD a []).length
   ·rw[if_pos e];omega
   ·rw[if_neg e]
    have hx1:x+1<(Q.getD r []).length:=by
     split at hx
     ·next e3=>
      have: ¬x+1=(Q.getD a []).length:=fun h=>e ⟨e3,h⟩
      rw[←e3]at this
      omega
     ·exact hx
    have hr:r<Q.length:=Nat.lt_of_not_le fun hle=>by rw[cD hle]at hx1;simp at hx1
    exact q2 r x hr hx1
  ·obtain⟨c1,c2⟩:=pc i (by rw[hsame.1];exact hi)
   rw[hsame.2,hsame.2]at c1
   refine⟨c1,fun x hx=> ?_⟩
   have e1:=hcel i x
   have e2:=hcel (i+1) x
   unfold cel at e1 e2
   rw[e1,e2]
   rw[hNl]at hx
   have hxi:x<(N.getD i []).length:=by
    have:=hNl (i+1)
    omega
   rw[hNl]at hxi
   by_cases e:i+1=a∧x=(Q.getD a []).length
   ·rw[if_pos e,if_neg (fun h=>by omega)]
    have hxQ:x<(Q.getD i []).length:=by rw[if_neg (by omega)]at hxi;exact hxi
    have hv:=hQ hxQ
    unfold cel at hv
    omega
   ·rw[if_neg e]
    have hx1:x<(Q.getD (i+1) []).length:=by
     split at hx
     ·next e3=>
      have: ¬x=(Q.getD a []).length:=fun h=>e ⟨e3,h⟩
      rw[←e3]at this
      omega
     ·exact hx
    have hxQ:x<(Q.getD i []).length:=Nat.lt_of_lt_of_le hx1 (hqlen i)
    rw[if_neg (fun h=>by rw[h.1]at hxQ;omega)]
    have hr:i+1<Q.length:=Nat.lt_of_not_le fun hle=>by rw[cD hle]at hx1;simp at hx1
    exact(q3 i hr).2 x hx1
 have hflk:N.flatten.length=k+1:=by omega
 have hmem: ∀z∈N.flatten,1≤z∧z≤9:=fun z hz=>by
  obtain⟨r,x,hr,hx,e⟩:=qJ hz
  rw[←e,hcel]
  split
  ·omega
  ·next hc=>
   rw[hNl]at hx
   have hxQ:x<(Q.getD r []).length:=by
    split at hx
    ·next e3=>
     have: ¬x=(Q.getD a []).length:=fun h=>hc ⟨e3,h⟩
     rw[←e3]at this
     omega
    ·exact hx
   have:=hQ hxQ
   omega
 have hpl:=qU hssr hmem (by omega)
 have haN:a<N.length:=by
  rw[hlen]
  split<;>omega
 have hxN:(Q.getD a []).length<(N.getD a []).length:=by rw[hNl,if_pos rfl];omega
 have hnew:cel N a (Q.getD a []).length=((k+1:Nat):Int):=by rw[hcel,if_pos ⟨rfl,rfl⟩]
 have hold: ∀{r x:Nat},x<(Q.getD r []).length→r<N.length∧x<(N.getD r []).length∧cel N r x=cel Q r x:=fun{r x} hx=>by
  have hx':x<(N.getD r []).length:=by
   rw[hNl]
   split<;>omega
  refine⟨Nat.lt_of_not_le fun hle=>by rw[cD hle]at hx';simp at hx',hx',?_⟩
  rw[hcel,if_neg (fun h=>by rw[h.1]at hx;omega)]
 have ho:l9 Q.flatten=true:=by
  have:=hs
  simp only[iX,Bool.and_eq_true]at this
  exact this.2
 have hst:iX (([],N):Tab)=true:=by
  have hp':=hpl
  simp only[cx,Bool.and_eq_true]at hp'
  simp only[iX,Bool.and_eq_true]
  refine⟨hp'.1,ly.2 fun v hv=> ?_⟩
  rw[hflk,iN]at hv
  by_cases e:v=((k+1:Nat):Int)
  ·rw[e,←hnew];exact lR haN hxN
  ·obtain⟨r,x,hr,hx,e2⟩:=qJ (ly.1 ho v (iN.2 (by omega)))
   obtain⟨d1,d2,d3⟩:=hold hx
   rw[←e2,←d3]
   exact lR d1 d2
 refine⟨hpl,hst,hflk,hsame,jU hpl hst haN hxN hnew,fun v v1 v2=> ?_⟩
 obtain⟨r,x,hr,hx,e2⟩:=qJ (ly.1 ho v (iN.2 (by omega)))
 obtain⟨d1,d2,d3⟩:=hold hx
 rw[jU hpl hst d1 d2 (by rw[d3];exact e2),jU hp hs hr hx e2]
def lN:List Int→List (List Int)→List (List Int)→Nat→List (List Int)
 | [],_,Q,_=>Q
 |x::w,P,Q,k=>lN w (a7 P x).1 (gA Q (a7 P x).2 ((k+1:Nat):Int)) (k+1)
def A4:List Int→List (List Int)→List Nat
 | [],_=> []
 |x::w,P=>(a7 P x).2::A4 w (a7 P x).1
structure Ins (P Q : List (List Int)) (k : Nat) : Prop where
  ssr : SSR P
  num : ∀ x ∈ P.flatten, 1 ≤ x ∧ x ≤ 9
  fl : P.flatten.length = k
  pl : cx (([], Q) : Tab) = true
  st : iX (([], Q) : Tab) = true
  qf : Q.flatten.length = k
  same : eu P Q
theorem Ins.step{P Q:List (List Int)}{k:Nat}{x:Int}(h:Ins P Q k)(hx:1≤x∧x≤9)(h9:k+1≤9):
  Ins (a7 P x).1 (gA Q (a7 P x).2 ((k+1:Nat):Int)) (k+1)∧rowOf ([],gA Q (a7 P x).2 ((k+1:Nat):Int)) ((k+1:Nat):Int)=((a7 P x).2:Nat)∧ ∀v,1≤v→v≤(k:Int)→rowOf ([],gA Q (a7 P x).2 ((k+1:Nat):Int)) v=rowOf ([],Q) v:=by
 obtain⟨a,b,c⟩:=tB P x
 have hs:=A8 P x h.ssr
 obtain⟨d1,d2,d3,d4,d5,d6⟩:=Ed (a:=(a7 P x).2) h.pl h.st h.qf h9 hs (by rw[←h.same.1];exact a) (by rw[←h.same.1];exact b) (fun i=>by rw[←h.same.2];exact c i)
 refine⟨⟨hs,fun z hz=> ?_,by rw[yh,h.fl],d1,d2,d3,d4⟩,d5,d6⟩
 rcases A0 P x z hz with e|e
 ·rw[e];exact hx
 ·exact h.num z e
theorem Ins.nil:Ins [] [] 0:=⟨trivial,fun x hx=>by simp at hx,rfl,rfl,rfl,rfl,⟨rfl,fun _=>rfl⟩⟩
theorem Ins.word: ∀(w:List Int) {P Q:List (List Int)} {k:Nat},Ins P Q k→(∀x∈w,1≤x∧x≤9)→k+w.length≤9→
  Ins (jN w P) (lN w P Q k) (k+w.length)∧(∀v,1≤v→v≤(k:Int)→rowOf ([],lN w P Q k) v=rowOf ([],Q) v)∧ ∀i,i<w.length→rowOf ([],lN w P Q k) ((k+i+1:Nat):Int)=((A4 w P).getD i 0:Nat)
 | [],P,Q,k,h,_,_=>⟨h,fun _ _ _=>rfl,fun i hi=>by simp at hi⟩
 |x::w,P,Q,k,h,hx,hl=>by
  simp only[List.length_cons]at hl
  obtain⟨a,b,c⟩:=h.step (hx x (List.mem_cons_self ..)) (by omega)
  obtain⟨d,e,f⟩:=Ins.word w a (fun z hz=>hx z (List.mem_cons_of_mem _ hz)) (by omega)
  refine⟨by rw[List.length_cons,show k+(w.length+1)=k+1+w.length by omega];exact d,fun v v1 v2=> ?_,fun i hi=> ?_⟩
  ·show rowOf ([],lN w _ _ (k+1)) v=_
   rw[e v v1 (by omega)]
   exact c v v1 v2
  ·show rowOf ([],lN w _ _ (k+1)) _=_
   cases i with
   |zero=>
    have:=e ((k+1:Nat):Int) (by omega) (Int.le_refl _)
    rw[Nat.add_zero,this,b]
    rfl
   |succ i=>
    have:=f i (by simpa using hi)
    rw[show k+1+i+1=k+(i+1)+1 by omega]at this
    exact this
end Go.Am.Pu
end
section
/- Words, and what inserting makes of them. Plain words. -/
namespace Go.Am.Pu
def isWord(w:List Int):Bool:=decide (w.length≤9)&&w.all fun n=>within n 1 9
theorem bJ{w:List Int}(h:isWord w=true):w.length≤9∧ ∀x∈w,1≤x∧x≤9:=by
 simp only[isWord,Bool.and_eq_true,decide_eq_true_eq,List.all_eq_true,within]at h
 exact⟨h.1,fun x hx=>h.2 x hx⟩
def aW(w:List Int):Tab×Bool:=if isWord w=true then(([],jN w []),true)else(([],[]),false)
def cR(w:List Int):Tab×Bool:=if isWord w=true then(([],lN w [] [] 0),true)else(([],[]),false)
theorem vD{w:List Int}(h:isWord w=true):Ins (jN w []) (lN w [] [] 0) w.length∧ ∀i,i<w.length→rowOf ([],lN w [] [] 0) ((i+1:Nat):Int)=((A4 w []).getD i 0:Nat):=by
 obtain⟨h1,h2⟩:=bJ h
 obtain⟨a,_,c⟩:=Ins.word w Ins.nil h2 (by omega)
 rw[Nat.zero_add]at a
 refine⟨a,fun i hi=> ?_⟩
 have:=c i hi
 rw[Nat.zero_add]at this
 exact this
theorem sb{P Q:List (List Int)}{k:Nat}(h:Ins P Q k)(h9:k≤9):cx (([],P):Tab)=true:=qU h.ssr h.num (by rw[h.fl];exact h9)
theorem iH{w:List Int}(h:isWord w=true):cx (aW w).1=true:=by
 unfold aW
 rw[if_pos h]
 exact sb (vD h).1 (bJ h).1
theorem n4{w:List Int}(h:isWord w=true):cx (cR w).1=true∧iX (cR w).1=true∧(cR w).1.2.flatten.length=w.length:=by
 unfold cR
 rw[if_pos h]
 have a:=(vD h).1
 exact⟨a.pl,a.st,a.qf⟩
theorem AN{t:Tab}(h:cx t=true):sw t:=by
 have hr:=jo h
 exact⟨by rw[jx h];simp,by have:=hr.1;omega,fun r hm=>by have:=hr.2 r hm;omega⟩
theorem ku{w:List Int}:sw (aW w).1:=by
 cases h:isWord w with
 |true=>exact AN (iH h)
 |false=>unfold aW;rw[h];exact sw.nil
theorem o7{w:List Int}:sw (cR w).1:=by
 cases h:isWord w with
 |true=>exact AN (n4 h).1
 |false=>unfold cR;rw[h];exact sw.nil
def eO(w:List Int):List Int:=if isWord w=true then outer (aW w).1 else []
theorem jc{w:List Int}:(eO w).length≤9:=by
 unfold eO
 split
 ·next h=>rw[dZ];exact(jo (iH h)).1
 ·simp
end Go.Am.Pu
end
section
/- Standardizing a tableau: the cells numbered by number and column. Plain words. -/
namespace Go.Am.Pu
def iR(Q:List (List Int))(v:Int)(c r:Nat)(s:Nat×List (List Int)):Nat×List (List Int):=
 if c<(Q.getD r []).length∧cel Q r c=v then(s.1+1,kS s.2 r c ((s.1+1:Nat):Int))else s
structure Num (Q : List (List Int)) (D : Nat → Nat → Prop) (s : Nat × List (List Int)) (F : List Int) : Prop where
  same : eu s.2 Q
  len : F.length = s.1
  val : ∀ r x, r < Q.length → x < (Q.getD r []).length → D r x → ∃ k, k < s.1 ∧ cel s.2 r x = ((k + 1 : Nat) : Int) ∧ F.getD k 0 = cel Q r x
  inj : ∀ r x r' x', r < Q.length → x < (Q.getD r []).length → D r x → r' < Q.length → x' < (Q.getD r' []).length → D r' x' → cel s.2 r x = cel s.2 r' x' → r = r' ∧ x = x'
  all : ∀ k, k < s.1 → ∃ r x, r < Q.length ∧ x < (Q.getD r []).length ∧ D r x ∧ cel s.2 r x = ((k + 1 : Nat) : Int)
  lex : ∀ r x r' x', r < Q.length → x < (Q.getD r []).length → D r x → r' < Q.length → x' < (Q.getD r' []).length → D r' x' → cel s.2 r x < cel s.2 r' x' → cel Q r x < cel Q r' x' ∨ (cel Q r x = cel Q r' x' ∧ x ≤ x')
theorem Num.congr{Q:List (List Int)}{D D':Nat→Nat→Prop}{s:Nat×List (List Int)}{F:List Int}(h:Num Q D s F)(e: ∀r x,r<Q.length→x<(Q.getD r []).length→(D r x↔D' r x)):Num Q D' s F:=
 ⟨h.same,h.len,fun r x a b d=>h.val r x a b ((e r x a b).2 d),fun r x r' x' a b d a' b' d'=>h.inj r x r' x' a b ((e r x a b).2 d) a' b' ((e r' x' a' b').2 d'),
  fun k hk=>by obtain⟨r,x,a,b,d,q⟩:=h.all k hk;exact⟨r,x,a,b,(e r x a b).1 d,q⟩,fun r x r' x' a b d a' b' d'=>h.lex r x r' x' a b ((e r x a b).2 d) a' b' ((e r' x' a' b').2 d')⟩
def Dn(Q:List (List Int))(v:Int)(c r:Nat)(a i:Nat):Prop:=cel Q a i<v∨(cel Q a i=v∧(i<c∨(i=c∧a<r)))
theorem Num.step{Q:List (List Int)}{v:Int}{c r:Nat}{s:Nat×List (List Int)}{F:List Int}(h:Num Q (Dn Q v c r) s F)(hr:r<Q.length): ∃F',Num Q (Dn Q v c (r+1)) (iR Q v c r s) F':=by
 unfold iR
 split
 ·next hc=>
  obtain⟨hc,hv⟩:=hc
  have hnd: ¬Dn Q v c r r c:=by unfold Dn;omega
  have hsr:r<s.2.length:=by rw[h.same.1];exact hr
  have hsc:c<(s.2.getD r []).length:=by rw[h.same.2];exact hc
  have new: ∀a i,Dn Q v c (r+1) a i→(a=r∧i=c)∨(¬(a=r∧i=c)∧Dn Q v c r a i):=fun a i d=>by
   by_cases e:a=r∧i=c
   ·exact .inl e
   ·refine .inr ⟨e,?_⟩
    unfold Dn at d⊢
    omega
  have at1:=kx (g:=s.2) (r:=r) (c:=c) ((s.1+1:Nat):Int) hsr hsc
  have ne1: ∀a i,¬(a=r∧i=c)→cel (kS s.2 r c ((s.1+1:Nat):Int)) a i=cel s.2 a i:=fun a i e=>iZ _ e
  refine⟨F++ [v],⟨⟨by rw[iT];exact h.same.1,fun i=>by rw[cr];exact h.same.2 i⟩,by rw[List.length_append,List.length_singleton,h.len],?_,?_,?_,?_⟩⟩
  ·intro a i ha hi d
   rcases new a i d with⟨rfl,rfl⟩|⟨e,d'⟩
   ·refine⟨s.1,by simp only;omega,at1,?_⟩
    rw[hv,←h.len,List.getD_eq_getElem?_getD]
    simp
   ·obtain⟨k,k1,k2,k3⟩:=h.val a i ha hi d'
    refine⟨k,by simp only;omega,by rw[ne1 a i e];exact k2,?_⟩
    rw[←k3,List.getD_eq_getElem?_getD,List.getD_eq_getElem?_getD,List.getElem?_append_left (by rw[h.len];exact k1)]
  ·intro a i b j ha hi d hb hj d' e
   rcases new a i d with⟨rfl,rfl⟩|⟨ea,da⟩
   ·rcases new b j d' with⟨rfl,rfl⟩|⟨eb,db⟩
    ·exact⟨rfl,rfl⟩
    ·obtain⟨k,k1,k2,_⟩:=h.val b j hb hj db
     simp only at e
     rw[at1,ne1 b j eb,k2]at e
     omega
   ·rcases new b j d' with⟨rfl,rfl⟩|⟨eb,db⟩
    ·obtain⟨k,k1,k2,_⟩:=h.val a i ha hi da
     simp only at e
     rw[at1,ne1 a i ea,k2]at e
     omega
    ·simp only at e
     rw[ne1 a i ea,ne1 b j eb]at e
     exact h.inj a i b j ha hi da hb hj db e
  ·intro k hk
   simp only at hk
   by_cases ek:k=s.1
   ·subst ek
    exact⟨r,c,hr,hc,by unfold Dn;omega,at1⟩
   ·obtain⟨a,i,ha,hi,d,e⟩:=h.all k (by omega)
    have hne: ¬(a=r∧i=c):=fun q=>by rw[q.1,q.2]at d;exact hnd d
    exact⟨a,i,ha,hi,by unfold Dn at d⊢;omega,by simp only;rw[ne1 a i hne];exact e⟩
  ·intro a i b j ha hi d hb hj d' e
   simp only at e
   rcases new a i d with⟨rfl,rfl⟩|⟨ea,da⟩
   ·rcases new b j d' with⟨rfl,rfl⟩|⟨eb,db⟩
    ·omega
    ·obtain⟨k,k1,k2,_⟩:=h.val b j hb hj db
     rw[at1,ne1 b j eb,k2]at e
     omega
   ·rcases new b j d' with⟨rfl,rfl⟩|⟨eb,db⟩
    ·unfold Dn at da
     omega
    ·rw[ne1 a i ea,ne1 b j eb]at e
     exact h.lex a i b j ha hi da hb hj db e
 ·next hc=>
  refine⟨F,h.congr fun a i ha hi=> ?_⟩
  unfold Dn
  constructor
  ·intro d;omega
  ·intro d
   by_cases e:a=r∧i=c
   ·obtain⟨rfl,rfl⟩:=e
    have:cel Q a i≠v:=fun q=>hc ⟨hi,q⟩
    omega
   ·omega
structure wv (Q X : List (List Int)) (f : Int → Int) : Prop where
  same : eu X Q
  val : ∀ r x, r < X.length → x < (X.getD r []).length → cel Q r x = f (cel X r x)
  lex : ∀ r x r' x', r < X.length → x < (X.getD r []).length → r' < X.length → x' < (X.getD r' []).length → cel X r x < cel X r' x' → cel Q r x < cel Q r' x' ∨ (cel Q r x = cel Q r' x' ∧ x < x')
end Go.Am.Pu
end
section
/- A pair of tableaux unrolled, the second one semistandard; sorting; the matrix of a pair. Plain words. -/
namespace Go.Am.Pu
def zX(R:Int→Prop)(rs:List (List Int)):Prop:= ∀r∈rs,∀v∈r,R v
theorem zX.at{R:Int→Prop}{rs:List (List Int)}(h:zX R rs){r x:Nat}(hr:r<rs.length)(hx:x<(rs.getD r []).length):R ((rs.getD r []).getD x 0):=by
 rw[aw hx]
 exact h (rs.getD r []) (by rw[aw hr];exact List.getElem_mem hr) _ (List.getElem_mem hx)
theorem zX.set{R:Int→Prop}{rs:List (List Int)}(h:zX R rs)(i:Nat){r:List Int}(hr: ∀v∈r,R v):zX R (rs.set i r):=fun y hy=>by
 rcases List.mem_or_eq_of_mem_set hy with h'|rfl
 ·exact h y h'
 ·exact hr
theorem zX.row{R:Int→Prop}{rs:List (List Int)}(h:zX R rs)(i:Nat): ∀v∈rs.getD i [],R v:=by
 by_cases hi:i<rs.length
 ·exact h _ (by rw[aw hi];exact List.getElem_mem hi)
 ·rw[cD (by omega)];simp
theorem Unr.top{q:Tab}{m:Nat}{P X:List (List Int)}(h:Unr q (m+1) P X){a:Nat}(ha:a<X.length)(htop:cel X a ((X.getD a []).length-1)=((m+1:Nat):Int)):
  (∀r,r<X.length→1≤(X.getD r []).length)∧(∀r,r<X.length→r≠a→cel X r ((X.getD r []).length-1)<((m+1:Nat):Int)):=by
 have hp:=fun r hr=>AJ h.pl (r:=r) hr
 refine⟨hp,fun r hr hne=> ?_⟩
 have h1:=hp r hr
 have h2:=hp a ha
 simp only at h1 h2
 have hb:=((ny h.pl h.st).2 _ (lR (rs:=X) hr (show(X.getD r []).length-1<(X.getD r []).length by omega))).2
 have hf:=h.fl
 simp only at hb
 rw[hf]at hb
 have hx:cel X r ((X.getD r []).length-1)≠((m+1:Nat):Int):=fun e=>hne (vd h.pl h.st (a:=r) (b:=a) (x:=(X.getD r []).length-1) (y:=(X.getD a []).length-1) hr (show _<(X.getD r []).length by omega) ha (show _<(X.getD a []).length by omega) (by rw[htop];exact e)).1
 omega
theorem Cv{n m:Nat}{A B:List (List Int)}(h:fz n m A)(s:eu A B):fz n m B:=by
 refine⟨by rw[←s.1];exact h.1,fun x hx=> ?_⟩
 obtain⟨i,hi,rfl⟩:=List.getElem_of_mem hx
 have:=h.at i
 rw[s.2 i,aw hi]at this
 exact this
theorem wv.cut{Q X:List (List Int)}{f:Int→Int}(s:wv Q X f){a:Nat}(ha:a<X.length)(hc:(X.getD (a+1) []).length<(X.getD a []).length)(hp: ∀r,r<X.length→1≤(X.getD r []).length):wv (cW Q a) (cW X a) f:=by
 have hq: ∀r,r<Q.length→1≤(Q.getD r []).length:=fun r hr=>by rw[←s.same.2];exact hp r (by rw[s.same.1];exact hr)
 have rX:=pQ ha hc hp
 have rQ:=pQ (rs:=Q) (a:=a) (by rw[←s.same.1];exact ha) (by rw[←s.same.2,←s.same.2];exact hc) hq
 have old: ∀{r x},r<(cW X a).length→x<((cW X a).getD r []).length→r<X.length∧x<(X.getD r []).length∧cel (cW X a) r x=cel X r x∧cel (cW Q a) r x=cel Q r x:=fun{r x} hr hx=>by
  have hl:=vz (rs:=X) ha
  have hr':r<X.length:=by rw[hl]at hr;split at hr<;>omega
  have e1:=rX r
  have e2:=rQ r
  unfold cel
  by_cases e:r=a
  ·rw[if_pos e]at e1 e2
   rw[e1]at hx
   rw[List.length_take]at hx
   subst e
   refine⟨hr',by omega,by rw[e1,getD_take (by omega)],?_⟩
   rw[e2,getD_take (by have:=s.same.2 r;omega)]
  ·rw[if_neg e]at e1 e2
   rw[e1]at hx
   exact⟨hr',hx,by rw[e1],by rw[e2]⟩
 refine⟨xZ s.same a,fun r x hr hx=> ?_,fun r x r' x' hr hx hr' hx' hlt=> ?_⟩
 ·obtain⟨o1,o2,o3,o4⟩:=old hr hx
  rw[o3,o4]
  exact s.val r x o1 o2
 ·obtain⟨o1,o2,o3,o4⟩:=old hr hx
  obtain⟨p1,p2,p3,p4⟩:=old hr' hx'
  rw[o3,p3]at hlt
  rw[o4,p4]
  exact s.lex r x r' x' o1 o2 p1 p2 hlt
theorem wv.step{q:Tab}{m:Nat}{P X Q:List (List Int)}{f:Int→Int}(s:wv Q X f)(h:Unr q (m+1) P X):
  ∃a:Nat,rowOf q ((m+1:Nat):Int)=a∧a<Q.length∧1≤(Q.getD a []).length∧(Q.getD a []).getD ((Q.getD a []).length-1) 0=f ((m+1:Nat):Int)∧(∀r,r<Q.length→1≤(Q.getD r []).length)∧
   (∀r,r<Q.length→r≠a→(Q.getD r []).getD ((Q.getD r []).length-1) 0<f ((m+1:Nat):Int)∨((Q.getD r []).getD ((Q.getD r []).length-1) 0=f ((m+1:Nat):Int)∧(Q.getD r []).length<(Q.getD a []).length))∧
   fz 9 9 Q∧a<P.length∧1≤(P.getD a []).length∧Unr q m (lZ P a).1 (cW X a)∧wv (cW Q a) (cW X a) f:=by
 obtain⟨a,a1,a2,a3,a4,a5,a6⟩:=h.step
 obtain⟨t1,t2⟩:=h.top a2 a4
 have v0:=s.val a ((X.getD a []).length-1) a2 (by omega)
 rw[a4]at v0
 unfold cel at v0
 rw[s.same.2]at v0
 refine⟨a,a1,by rw[←s.same.1];exact a2,by rw[←s.same.2];exact a3,v0,fun r hr=>by rw[←s.same.2];exact t1 r (by rw[s.same.1];exact hr),fun r hr hne=> ?_,Cv (jo h.pl) s.same,
  by rw[h.same.1];exact a2,by rw[h.same.2];exact a3,a6,s.cut a2 a5 t1⟩
 have hr':r<X.length:=by rw[s.same.1];exact hr
 have u1:=t1 r hr'
 have hl:=s.lex r ((X.getD r []).length-1) a ((X.getD a []).length-1) hr' (by omega) a2 (by omega) (by rw[a4];exact t2 r hr' hne)
 have v:=s.val a ((X.getD a []).length-1) a2 (by omega)
 rw[v,a4]at hl
 unfold cel at hl
 rw[s.same.2 r,s.same.2 a]at hl
 have e1:=s.same.2 r
 rcases hl with hl|hl
 ·exact .inl hl
 ·exact .inr ⟨hl.1,by omega⟩
structure FM (r c : Nat) (b : Int) (M : List (List Int)) : Prop where
  len : M.length = r
  row : ∀ i, i < r → (M.getD i []).length = c
  sm : ∀ x ∈ M, ∀ v ∈ x, 0 ≤ v ∧ v ≤ b
theorem CV{a b:List Int}{i:Nat}(ha:i<a.length)(hb:i<b.length):(a.zip b).drop i=(a.getD i 0,b.getD i 0)::(a.zip b).drop (i+1):=by
 have hl:i<(a.zip b).length:=by rw[List.length_zip];omega
 rw[drop_cons hl (0,0),aw hl,List.getElem_zip,aw ha,aw hb]
end Go.Am.Pu
end
section
/- Standardizing any tableau: its cells in the order of number and column. Plain words. -/
namespace Go.Am.Pu
def Du(t:Tab)(r:Nat):List (Int×Int×Int):=(List.range (t.2.getD r []).length).map fun x=>(cel t.2 r x,t.1.getD r 0+x,(r:Int))
def cellsOf(t:Tab):List (Int×Int×Int):=((List.range t.2.length).map (Du t)).flatten
def KLt(a b:Int×Int×Int):Prop:=a.1<b.1∨(a.1=b.1∧a.2.1<b.2.1)
end Go.Am.Pu
end
section
/- Sorting cells by insertion, as the library does. Plain words. -/
namespace Go.Am.Pu
instance(a b:Int×Int×Int):Decidable (KLt a b):=by unfold KLt;infer_instance
end Go.Am.Pu
end
section
/- All standard tableaux of given rows, found by taking out the greatest number. Plain words. -/
namespace Go.Am.Pu
def gT(ls:List Nat)(a:Nat):List Nat:=if ls.getD a 0=1 then ls.take a else ls.set a (ls.getD a 0-1)
theorem CU{α:Type}{d:α}{A B:List α}(hl:A.length=B.length)(h: ∀i,i<A.length→A.getD i d=B.getD i d):A=B:=by
 refine List.ext_getElem hl fun i h1 h2=> ?_
 have:=h i h1
 rw[aw h1,aw h2]at this
 exact this
end Go.Am.Pu
end
section
/- Promotion of a rectangle comes back after as many steps as there are cells (reckoned over all of them). Plain words. -/
namespace Go.Am.Pu
end Go.Am.Pu
end
section
/- The length of an orbit divides every number of steps that come back. Plain words. -/
namespace Go.Am.Pu
end Go.Am.Pu
end
section
/- Knuth's relations: insertion does not tell related words apart, and a row and a number are related to what an insertion makes of them. Plain words. -/
namespace Go.Am.Pu
abbrev Up(r:List Int):Prop:=r.Pairwise (· ≤ ·)
def eG:List Int→Int→List Int×List Int
 | [],x=>([x],[])
 |a::r,x=>if x<a then(x::r,[a])else(a::(eG r x).1,(eG r x).2)
theorem eT{a x:Int}{r:List Int}(h:x<a):eG (a::r) x=(x::r,[a]):=by unfold eG;rw[if_pos h]
theorem ew{a x:Int}{r:List Int}(h:a≤x):eG (a::r) x=(a::(eG r x).1,(eG r x).2):=by
 conv=>lhs;unfold eG
 rw[if_neg (by omega)]
theorem tY: ∀(r:List Int) (x z:Int),z∈(eG r x).1→z=x∨z∈r
 | [],x,z,h=>by simp only[eG,List.mem_singleton]at h;exact .inl h
 |a::r,x,z,h=>by
  by_cases c:x<a
  ·rw[eT c]at h
   rcases List.mem_cons.1 h with h|h
   ·exact .inl h
   ·exact .inr (List.mem_cons_of_mem _ h)
  ·rw[ew (by omega)]at h
   rcases List.mem_cons.1 h with h|h
   ·exact .inr (by rw[h];exact List.mem_cons_self ..)
   ·rcases tY r x z h with h|h
    ·exact .inl h
    ·exact .inr (List.mem_cons_of_mem _ h)
theorem xb: ∀{r:List Int} (x:Int),Up r→Up (eG r x).1
 | [],x,_=>List.pairwise_singleton ..
 |a::r,x,h=>by
  have h':=List.pairwise_cons.1 h
  by_cases c:x<a
  ·rw[eT c]
   exact List.pairwise_cons.2 ⟨fun z hz=>by have:=h'.1 z hz;omega,h'.2⟩
  ·rw[ew (by omega)]
   refine List.pairwise_cons.2 ⟨fun z hz=> ?_,xb x h'.2⟩
   rcases tY r x z hz with e|e
   ·omega
   ·exact h'.1 z e
theorem kP: ∀(r:List Int) (x:Int),(eG r x).2= []∨ ∃b,(eG r x).2= [b]∧x<b∧b∈r
 | [],x=> .inl rfl
 |a::r,x=>by
  by_cases c:x<a
  ·rw[eT c];exact .inr ⟨a,rfl,c,List.mem_cons_self ..⟩
  ·rw[ew (by omega)]
   rcases kP r x with h|⟨b,h1,h2,h3⟩
   ·exact .inl h
   ·exact .inr ⟨b,h1,h2,List.mem_cons_of_mem _ h3⟩
theorem AR: ∀{r:List Int} {y z:Int},Up r→y≤z→((eG r y).2= []→(eG (eG r y).1 z).2= [])∧ ∀p q,(eG r y).2= [p]→(eG (eG r y).1 z).2= [q]→p≤q
 | [],y,z,_,hz=>by
  refine⟨fun _=> ?_,fun p q h=>by simp[eG]at h⟩
  show(eG [y] z).2= []
  rw[ew hz];rfl
 |a::r,y,z,h,hz=>by
  have h':=List.pairwise_cons.1 h
  by_cases c:y<a
  ·rw[eT c]
   refine⟨fun e=>by simp at e,fun p q e1 e2=> ?_⟩
   rw[ew hz]at e2
   rcases kP r z with o|⟨b,o1,_,o3⟩
   ·simp only at e2;rw[o]at e2;simp at e2
   ·simp only at e2
    rw[o1]at e2
    simp only[List.cons.injEq,and_true]at e1 e2
    have:=h'.1 b o3
    omega
  ·rw[ew (show a≤y by omega)]
   show((eG r y).2= []→(eG (a::(eG r y).1) z).2= [])∧ ∀p q,(eG r y).2= [p]→(eG (a::(eG r y).1) z).2= [q]→p≤q
   rw[ew (show a≤z by omega)]
   exact AR h'.2 hz
theorem Bo: ∀{r:List Int} {y z:Int},Up r→y<z→z∈r→ ∃c,(eG r y).2= [c]∧y<c∧c≤z
 | [],_,_,_,_,hm=>by simp at hm
 |a::r,y,z,h,hz,hm=>by
  have h':=List.pairwise_cons.1 h
  by_cases c:y<a
  ·rw[eT c]
   refine⟨a,rfl,c,?_⟩
   rcases List.mem_cons.1 hm with e|e
   ·omega
   ·exact h'.1 z e
  ·rw[ew (by omega)]
   rcases List.mem_cons.1 hm with e|e
   ·omega
   ·exact Bo h'.2 hz e
theorem wF: ∀(r:List Int) (x:Int),x∈(eG r x).1
 | [],x=>List.mem_singleton.2 rfl
 |a::r,x=>by
  by_cases c:x<a
  ·rw[eT c];exact List.mem_cons_self ..
  ·rw[ew (by omega)];exact List.mem_cons_of_mem _ (wF r x)
def Tri(u v:List Int):Prop:= ∃x y z:Int,(x<y∧y≤z∧u= [y,z,x]∧v= [y,x,z])∨(x≤y∧y<z∧u= [x,z,y]∧v= [z,x,y])
theorem Tri.a{x y z:Int}(h1:x<y)(h2:y≤z):Tri [y,z,x] [y,x,z]:=⟨x,y,z,.inl ⟨h1,h2,rfl,rfl⟩⟩
theorem Tri.b{x y z:Int}(h1:x≤y)(h2:y<z):Tri [x,z,y] [z,x,y]:=⟨x,y,z,.inr ⟨h1,h2,rfl,rfl⟩⟩
def iI:List Int→List Int→List Int×List Int
 |r,[]=>(r,[])
 |r,x::w=>((iI (eG r x).1 w).1,(eG r x).2++(iI (eG r x).1 w).2)
def Bn(p q:List Int×List Int):Prop:=p.1=q.1∧(p.2=q.2∨Tri p.2 q.2)
theorem oz{a:Int}: ∀{w r:List Int},(∀x∈w,a≤x)→iI (a::r) w=(a::(iI r w).1,(iI r w).2)
 | [],_,_=>rfl
 |x::w,r,h=>by
  show((iI (eG (a::r) x).1 w).1,(eG (a::r) x).2++(iI (eG (a::r) x).1 w).2)=_
  rw[ew (h x (List.mem_cons_self ..))]
  simp only
  rw[oz fun y hy=>h y (List.mem_cons_of_mem _ hy)]
  rfl
theorem me(r:List Int)(x y z:Int):iI r [x,y,z]=((eG (eG (eG r x).1 y).1 z).1,(eG r x).2++((eG (eG r x).1 y).2++(eG (eG (eG r x).1 y).1 z).2)):=by
 simp[iI]
theorem EF: ∀{r:List Int} {x y z:Int},Up r→x<y→y≤z→Bn (iI r [y,z,x]) (iI r [y,x,z])
 | [],x,y,z,_,h1,h2=>by
  refine⟨?_,.inl ?_⟩
  ·simp[iI,eG,h1,show¬z<y by omega,show¬z<x by omega]
  ·simp[iI,eG,h1,show¬z<y by omega,show¬z<x by omega]
 |a::r,x,y,z,h,h1,h2=>by
  have h':=List.pairwise_cons.1 h
  by_cases c:y<a
  ·rw[me,me,eT c]
   simp only
   rw[ew (r:=r) h2,eT (r:=r) h1]
   simp only
   rw[eT h1,ew (show x≤z by omega)]
   refine⟨rfl,?_⟩
   rcases kP r z with o|⟨b,o1,o2,o3⟩
   ·simp only;rw[o];exact .inl rfl
   ·simp only;rw[o1]
    exact .inr (Tri.a c (h'.1 b o3))
  ·by_cases c2:x<a
   ·rw[me,me,ew (show a≤y by omega)]
    simp only
    rw[ew (show a≤z by omega),eT c2]
    simp only
    rw[eT c2,ew (show x≤z by omega)]
    refine⟨rfl,?_⟩
    simp only
    obtain⟨e1,e2⟩:=AR h'.2 h2
    rcases kP r y with o|⟨b,o1,o2,o3⟩
    ·rw[o,e1 o];exact .inl rfl
    ·rcases kP (eG r y).1 z with p|⟨d,p1,p2,p3⟩
     ·rw[p,o1];exact .inl rfl
     ·rw[o1,p1]
      exact .inr (Tri.a (by omega) (e2 _ _ o1 p1))
   ·have ih:=EF h'.2 h1 h2
    rw[oz (by simp;omega),oz (by simp;omega)]
    exact⟨congrArg (a:: ·) ih.1,ih.2⟩
theorem EE: ∀{r:List Int} {x y z:Int},Up r→x≤y→y<z→Bn (iI r [x,z,y]) (iI r [z,x,y])
 | [],x,y,z,_,h1,h2=>by
  refine⟨?_,.inl ?_⟩
  ·simp[iI,eG,h2,show x<z by omega,show¬z<x by omega,show¬y<x by omega]
  ·simp[iI,eG,h2,show x<z by omega,show¬z<x by omega,show¬y<x by omega]
 |a::r,x,y,z,h,h1,h2=>by
  have h':=List.pairwise_cons.1 h
  by_cases c:z<a
  ·rw[me,me,eT (show x<a by omega),eT c]
   simp only
   rw[ew (r:=r) (show x≤z by omega),eT (r:=r) (show x<z by omega)]
   simp only
   rw[ew h1,ew h1]
   cases r with
   |nil=>simp[eG,h2,Bn]
   |cons b r=>
    have hb:=h'.1 b (List.mem_cons_self ..)
    rw[eT (show z<b by omega),eT (show y<b by omega)]
    simp only
    rw[eT h2]
    exact⟨rfl,.inr (Tri.a c hb)⟩
  ·by_cases c2:x<a
   ·rw[me,me,eT c2,ew (show a≤z by omega)]
    simp only
    rw[eT c2,ew (show x≤z by omega)]
    simp only
    rw[ew h1]
    refine⟨rfl,?_⟩
    simp only
    rcases kP r z with o|⟨b,o1,o2,o3⟩
    ·rw[o];exact .inl rfl
    ·rw[o1]
     obtain⟨d,d1,d2,d3⟩:=Bo (xb z h'.2) h2 (wF r z)
     rw[d1]
     refine .inr (Tri.b ?_ (by omega))
     rcases kP (eG r z).1 y with p|⟨q,p1,p2,p3⟩
     ·rw[p]at d1;simp at d1
     ·rw[p1]at d1
      have:q=d:=by simpa using d1
      subst this
      rcases tY r z q p3 with e|e
      ·omega
      ·exact h'.1 q e
   ·have ih:=EE h'.2 h1 h2
    rw[oz (by simp;omega),oz (by simp;omega)]
    exact⟨congrArg (a:: ·) ih.1,ih.2⟩
theorem Eh{r u v:List Int}(h:Up r)(t:Tri u v):Bn (iI r u) (iI r v):=by
 obtain⟨x,y,z,⟨h1,h2,rfl,rfl⟩|⟨h1,h2,rfl,rfl⟩⟩:=t
 ·exact EF h h1 h2
 ·exact EE h h1 h2
theorem CT(a x:Int)(r:List Int):fst (a::r) x=if x<a then 0 else fst r x+1:=by
 unfold fst
 rw[List.findIdx_cons]
 by_cases c:x<a
 ·rw[if_pos c,decide_eq_true c];rfl
 ·rw[if_neg c,decide_eq_false c];rfl
theorem yC: ∀(r:List Int) (x:Int),eG r x=if fst r x<r.length then(r.set (fst r x) x,[r.getD (fst r x) 0])else(r++ [x],[])
 | [],x=>rfl
 |a::r,x=>by
  rw[CT]
  by_cases c:x<a
  ·rw[eT c,if_pos c,if_pos (by simp)];rfl
  ·rw[ew (by omega),if_neg c,yC r x]
   by_cases d:fst r x<r.length
   ·rw[if_pos d,if_pos (by simpa using d)];rfl
   ·rw[if_neg d,if_neg (by simpa using d)];rfl
theorem y8(r:List Int)(rs:List (List Int))(x:Int):(a7 (r::rs) x).1=(eG r x).1::jN (eG r x).2 rs:=by
 rw[iF,yC]
 by_cases c:fst r x<r.length
 ·rw[if_pos c,if_pos c];rfl
 ·rw[if_neg c,if_neg c];rfl
theorem rL: ∀(w r:List Int) (rs:List (List Int)),jN w (r::rs)=(iI r w).1::jN (iI r w).2 rs
 | [],_,_=>rfl
 |x::w,r,rs=>by
  show jN w (a7 (r::rs) x).1=_
  rw[y8,rL w]
  simp only[iI]
  rw[nc]
theorem DL{u v:List Int}(t:Tri u v):jN u []=jN v []:=by
 obtain⟨x,y,z,⟨h1,h2,rfl,rfl⟩|⟨h1,h2,rfl,rfl⟩⟩:=t
 ·simp[jN,a7,List.findIdx_cons,h1,show¬z<y by omega,show¬z<x by omega]
 ·simp[jN,a7,List.findIdx_cons,h2,show x<z by omega,show¬z<x by omega,show¬y<x by omega]
theorem Bj: ∀{P:List (List Int)} {u v:List Int},(∀r∈P,Up r)→Tri u v→jN u P=jN v P
 | [],_,_,_,t=>DL t
 |r::rs,u,v,h,t=>by
  rw[rL,rL]
  obtain⟨a,b|b⟩:=Eh (h r (List.mem_cons_self ..)) t
  ·rw[a,b]
  ·rw[a,Bj (fun q hq=>h q (List.mem_cons_of_mem _ hq)) b]
inductive Kn : List Int → List Int → Prop
  | refl (w) : Kn w w
  | symm {v w} : Kn v w → Kn w v
  | trans {u v w} : Kn u v → Kn v w → Kn u w
  | tri {u v} (a b) : Tri u v → Kn (a ++ u ++ b) (a ++ v ++ b)
theorem Kn.ctx{u v:List Int}(c d:List Int)(h:Kn u v):Kn (c++u++d) (c++v++d):=by
 induction h with
 |refl w=>exact .refl _
 |symm _ ih=>exact .symm ih
 |trans _ _ h1 h2=>exact .trans h1 h2
 |tri a b t=>
  have:=Kn.tri (c++a) (b++d) t
  simp only[List.append_assoc]at this⊢
  exact this
theorem Kn.left{u v:List Int}(c:List Int)(h:Kn u v):Kn (c++u) (c++v):=by
 have:=h.ctx c []
 simpa using this
theorem Kn.right{u v:List Int}(d:List Int)(h:Kn u v):Kn (u++d) (v++d):=by
 have:=h.ctx [] d
 simpa using this
theorem Kn.cons{u v:List Int}(c:Int)(h:Kn u v):Kn (c::u) (c::v):=h.left [c]
theorem Kn.of{u v:List Int}(t:Tri u v):Kn u v:=by
 have:=Kn.tri [] [] t
 simpa using this
theorem Kn.app{u v u' v':List Int}(h:Kn u u')(g:Kn v v'):Kn (u++v) (u'++v'):=(h.right v).trans (g.left u')
theorem AI: ∀{P:List (List Int)} (x:Int),(∀r∈P,Up r)→ ∀r∈(a7 P x).1,Up r
 | [],x,_=>fun r hr=>by
  have:r= [x]:=by simpa[a7]using hr
  rw[this];exact List.pairwise_singleton ..
 |q::P,x,h=>by
  rw[y8]
  intro r hr
  have hP: ∀r∈P,Up r:=fun r hr=>h r (List.mem_cons_of_mem _ hr)
  rcases List.mem_cons.1 hr with e|e
  ·rw[e];exact xb x (h q (List.mem_cons_self ..))
  ·rcases kP q x with o|⟨b,o,_,_⟩
   ·rw[o]at e;exact hP r e
   ·rw[o]at e;exact AI b hP r e
theorem AZ: ∀{w:List Int} {P:List (List Int)},(∀r∈P,Up r)→ ∀r∈jN w P,Up r
 | [],_,h=>h
 |x::w,P,h=>show∀r∈jN w (a7 P x).1,Up r from AZ (AI x h)
theorem Kn.ins{u v:List Int}(h:Kn u v): ∀{P:List (List Int)},(∀r∈P,Up r)→jN u P=jN v P:=by
 induction h with
 |refl w=>intro P _;rfl
 |symm _ ih=>intro P hP;exact(ih hP).symm
 |trans _ _ h1 h2=>intro P hP;rw[h1 hP,h2 hP]
 |tri a b t=>
  intro P hP
  rw[nc,nc,nc,nc,Bj (AZ hP) t]
end Go.Am.Pu
end
section
/- Rows and slides keep words related. Plain words. -/
namespace Go.Am.Pu
def EM(q:List Int)(g:List (List Int))(i c r:Nat):List Int:=
 if r=i then((g.getD r []).take c).drop (q.getD r 0).toNat++(g.getD r []).drop (c+1)else(g.getD r []).drop (q.getD r 0).toNat
end Go.Am.Pu
end
section
/- The rectification is the tableau of the word. Plain words. -/
namespace Go.Am.Pu
end Go.Am.Pu
end
section
/- Slides outwards: what holds on the way, what they leave; slides in and out undo each other. Plain words. -/
namespace Go.Am.Pu
theorem Ec{p:List Int}(hp:cz p=true)(r:Nat):0≤p.getD r 0∧p.getD r 0≤9:=by
 have:=fc hp r
 rwa [fE]at this
theorem Sl.up{q:List Int}{g:List (List Int)}{i c:Nat}(h:Sl q g (i+1) c)(hi:Inn q g)(hu:cel g i c≠0)(hl:leftOf g (i+1) c≤cel g i c):Sl q (kS g (i+1) c (cel g i c)) i c:=by
 obtain⟨b1,b2⟩:=xA hu
 have hq:q.getD i 0≤c:=Int.not_lt.1 fun hlt=>hu (hi i c hlt)
 have hqm:=h.qm i
 have hun:=h.num i c hq b2 (by omega)
 have e0:=kx (cel g i c) h.hi h.hc
 have en: ∀r x,¬(r=i+1∧x=c)→cel (kS g (i+1) c (cel g i c)) r x=cel g r x:=fun r x hh=>iZ _ hh
 have hll:=h.lm i
 refine⟨h.q0,h.qm,fun r=> ?_,?_,?_,hq,fun r x=> ?_,fun r x h1 h2 h3=> ?_,fun r x h1 h2 h3 h4=> ?_,fun r x h1 h2 h3 h4=> ?_,fun x h1 h2 h3=> ?_,fun r h1 h2 h3=> ?_⟩
 ·rw[cr,cr];exact h.lm r
 ·rw[iT];exact b1
 ·rw[cr];exact b2
 ·by_cases e:r=i+1∧x=c
  ·rw[e.1,e.2,e0];exact h.pos _ _
  ·rw[en r x e];exact h.pos _ _
 ·rw[cr]at h2
  by_cases e:r=i+1∧x=c
  ·rw[e.1,e.2,e0];exact hun
  ·rw[en r x e];exact h.num r x h1 h2 e
 ·rw[cr]at h2
  by_cases e:r=i+1∧x=c
  ·obtain⟨rfl,rfl⟩:=e
   rw[e0,en _ _ (by omega)]
   have h5:=h.row i x hq (by omega) (by omega) (by omega)
   have h6:=h.col i (x+1) (by omega) h2 (by omega) (by omega)
   omega
  ·rw[en r x e]
   by_cases e':r=i+1∧x+1=c
   ·obtain⟨rfl,rfl⟩:=e'
    rw[e0]
    unfold leftOf at hl
    rw[if_neg (by omega),show x+1-1=x by omega]at hl
    exact hl
   ·rw[en r (x+1) e'];exact h.row r x h1 h2 e e'
 ·rw[cr]at h2
  by_cases e:r=i+1∧x=c
  ·obtain⟨rfl,rfl⟩:=e
   rw[e0,en _ _ (by omega)]
   exact h.colH i rfl hq h2
  ·rw[en r x e]
   by_cases e':r+1=i+1∧x=c
   ·exact(h3 ⟨by omega,e'.2⟩).elim
   ·rw[en (r+1) x e']
    exact h.col r x h1 h2 e e'
 ·rw[cr]at h3
  rw[en _ _ (by omega),en _ _ (by omega)]
  subst h1
  have h5:=h.row i x h2 (by omega) (by omega) (by omega)
  have h6:=h.row i (x+1) (by omega) h3 (by omega) (by omega)
  omega
 ·rw[cr]at h3
  subst h1
  rw[en _ _ (by omega),e0]
  exact h.col r c h2 b2 (by omega) (by omega)
theorem Sl.left{q:List Int}{g:List (List Int)}{i c:Nat}(h:Sl q g i (c+1))(hi:Inn q g)(hv:cel g i c≠0)(hu:xX g i (c+1)<cel g i c):Sl q (kS g i (c+1) (cel g i c)) i c:=by
 obtain⟨b1,b2⟩:=xA hv
 have hq:q.getD i 0≤c:=Int.not_lt.1 fun hlt=>hv (hi i c hlt)
 have hqm:=h.qm i
 have hvn:=h.num i c hq b2 (by omega)
 have e0:=kx (cel g i c) h.hi h.hc
 have en: ∀r x,¬(r=i∧x=c+1)→cel (kS g i (c+1) (cel g i c)) r x=cel g r x:=fun r x hh=>iZ _ hh
 have hll:=h.lm i
 refine⟨h.q0,h.qm,fun r=> ?_,?_,?_,hq,fun r x=> ?_,fun r x h1 h2 h3=> ?_,fun r x h1 h2 h3 h4=> ?_,fun r x h1 h2 h3 h4=> ?_,fun x h1 h2 h3=> ?_,fun r h1 h2 h3=> ?_⟩
 ·rw[cr,cr];exact h.lm r
 ·rw[iT];exact b1
 ·rw[cr];exact b2
 ·by_cases e:r=i∧x=c+1
  ·rw[e.1,e.2,e0];exact h.pos _ _
  ·rw[en r x e];exact h.pos _ _
 ·rw[cr]at h2
  by_cases e:r=i∧x=c+1
  ·rw[e.1,e.2,e0];exact hvn
  ·rw[en r x e];exact h.num r x h1 h2 e
 ·rw[cr]at h2
  by_cases e:r=i∧x=c+1
  ·obtain⟨rfl,rfl⟩:=e
   rw[e0,en _ _ (by omega)]
   exact h.EM c rfl hq h2
  ·rw[en r x e]
   by_cases e':r=i∧x+1=c+1
   ·exact(h3 ⟨e'.1,by omega⟩).elim
   ·rw[en r (x+1) e'];exact h.row r x h1 h2 e e'
 ·rw[cr]at h2
  by_cases e:r=i∧x=c+1
  ·obtain⟨rfl,rfl⟩:=e
   rw[e0,en _ _ (by omega)]
   have h5:=h.col r c hq (by omega) (by omega) (by omega)
   have h6:=h.row (r+1) c (by omega) h2 (by omega) (by omega)
   omega
  ·rw[en r x e]
   by_cases e':r+1=i∧x=c+1
   ·obtain⟨rfl,rfl⟩:=e'
    rw[e0]
    unfold xX at hu
    rw[if_neg (by omega),show r+1-1=r by omega]at hu
    exact hu
   ·rw[en (r+1) x e']
    exact h.col r x h1 h2 e e'
 ·rw[cr]at h3
  subst h1
  rw[en _ _ (by omega),e0]
  exact h.row i x h2 b2 (by omega) (by omega)
 ·rw[cr]at h3
  rw[en _ _ (by omega),en _ _ (by omega)]
  subst h1
  have h5:=h.col r c h2 b2 (by omega) (by omega)
  have h6:=h.col (r+1) c hq h3 (by omega) (by omega)
  omega
end Go.Am.Pu
end
section
/- What a slide outwards leaves is a tableau; slides in and out undo each other. Plain words. -/
namespace Go.Am.Pu
section
variable {t : Tab} {n : Nat} {p : List Int}
def se(t:Tab)(n:Nat)(p:List Int):List (List Int)×(Nat×Nat):=rj 18 (Eg t n) n (p.getD n 0-1).toNat
structure Fy (t : Tab) (n : Nat) (p : List Int) (g : List (List Int)) (i c : Nat) (q : List Int) : Prop where
  sl : Sl t.1 g i c
  inn : Inn t.1 g
  len : g.length = p.length
  row : ∀ r, ((g.getD r []).length : Int) = p.getD r 0
  l0 : leftOf g i c = 0
  u0 : xX g i c = 0
  add : xB t.1 i = (q, true)
  qi : q.getD i 0 = c + 1
  qr : ∀ r, q.getD r 0 = if r = i then (c : Int) + 1 else t.1.getD r 0
  qp : cz q = true
  ins : ∀ r, q.getD r 0 ≤ p.getD r 0
def sQ(t:Tab)(n:Nat):Tab×Nat:=
 let p:=(xB (outer t) n).1
 let s:=se t n p
 let q:=(xB t.1 s.2.1).1
 ((q,fI q s.1 p.length),s.2.1)
theorem Fy.eq{q:List Int}(E:Fy t n p (se t n p).1 (se t n p).2.1 (se t n p).2.2 q)(hp:xB (outer t) n=(p,true)):sQ t n=((q,fI q (se t n p).1 p.length),(se t n p).2.1):=by
 unfold sQ
 rw[hp]
 simp only[E.add]
end
section
variable {t : Tab} {n : Nat}
end
end Go.Am.Pu
end
section
/- Words of tableaux; the rows of a slide outwards. Plain words. -/
namespace Go.Am.Pu
end Go.Am.Pu
end
section
/- Partitions that are drawn; chains of partitions. Plain words. -/
namespace Go.Am.Pu
end Go.Am.Pu
end
section
/- Plain laws: tableaux side by side; a number's copies. -/
namespace Go.Am.Pu
open Go Go.Am
attribute [local instance] D.real
end Go.Am.Pu
end
section
/- Plain laws: boxes that lead on to an outer partition; chains. -/
namespace Go.Am.Pu
open Go Go.Am
attribute [local instance] D.real
end Go.Am.Pu
end
section
/- Plain laws: the local rule of insertion; exchanging places and numbers exchanges the two tableaux. -/
namespace Go.Am.Pu
end Go.Am.Pu
end
section
/- Plain laws: places and numbers exchanged: the tableau of the one is the recording of the other. -/
namespace Go.Am.Pu
def wd(L:List (Int×Int)):List Int:=L.map Prod.snd
def at1(s r:Nat):Nat:=if s=r then 1 else 0
structure Tr (L M : List (Int × Int)) : Prop where
  sl : L.Pairwise fun p q => p.1 < q.1
  sm : M.Pairwise fun p q => p.1 < q.1
  perm : M.Perm (L.map Prod.swap)
theorem Tr.symm{L M:List (Int×Int)}(h:Tr L M):Tr M L:=by
 refine⟨h.sm,h.sl,?_⟩
 have:=(h.perm.map Prod.swap).symm
 rwa [List.map_map,Prod.swap_swap_eq,List.map_id]at this
theorem Tr.len{L M:List (Int×Int)}(h:Tr L M):M.length=L.length:=by simpa using h.perm.length_eq
theorem Tr.mem{L M:List (Int×Int)}(h:Tr L M){p:Int×Int}(hp:p∈L):p.swap∈M:=h.perm.mem_iff.2 (List.mem_map_of_mem hp)
theorem D3{A B:List (Int×Int)}{x:Int×Int}:(A++B).Sublist (A++x::B):=(List.Sublist.refl A).append (List.sublist_cons_self x B)
theorem Tr.cut{L0 A B:List (Int×Int)}{p:Int×Int}(h:Tr (L0++ [p]) (A++p.swap::B)):Tr L0 (A++B):=by
 refine⟨(List.pairwise_append.1 h.sl).1,h.sm.sublist D3,?_⟩
 have h1:(A++p.swap::B).Perm (p.swap::(A++B)):=List.perm_middle
 have h2:((L0++ [p]).map Prod.swap).Perm (p.swap::L0.map Prod.swap):=by
  rw[List.map_append]
  exact List.perm_append_comm
 exact(List.perm_cons _).1 (h1.symm.trans (h.perm.trans h2))
theorem Dg{L0:List (Int×Int)}{p:Int×Int}(h:(L0++ [p]).Pairwise fun p q=>p.1<q.1): ∀x∈L0,x.1<p.1:=fun x hx=>(List.pairwise_append.1 h).2.2 x hx p (by simp)
theorem Tr.top{L M0:List (Int×Int)}{q:Int×Int}(h:Tr L (M0++ [q])): ∀x∈L,x≠q.swap→x.2<q.1:=fun x hx hne=>by
 have hm:=h.mem hx
 rcases List.mem_append.1 hm with h1|h1
 ·exact Dg h.sm _ h1
 ·simp only[List.mem_singleton]at h1
  exact absurd (by rw[←h1,Prod.swap_swap]) hne
def Ae:List (Int×Int)→List (List Int)→List (List Int)→List (List Int)
 | [],_,Q=>Q
 |p::L,P,Q=>Ae L (a7 P p.2).1 (gA Q (a7 P p.2).2 p.1)
end Go.Am.Pu
end
section
/- Plain laws: taking a cell out undoes an insertion. -/
namespace Go.Am.Pu
structure Tk (rs : List (List Int)) (a : Nat) (R : List (List Int)) (y : Int) : Prop where
  ins : a7 R y = (rs, a)
  ssr : SSR R
  pos : ∃ p, p < (rs.getD 0 []).length ∧ y = (rs.getD 0 []).getD p 0 ∧ (R.getD 0 []).length ≤ (rs.getD 0 []).length ∧ (∀ i, i < (R.getD 0 []).length → (rs.getD 0 []).getD i 0 ≤ (R.getD 0 []).getD i 0) ∧
    ∀ i, p ≤ i → i < (R.getD 0 []).length → y < (R.getD 0 []).getD i 0
end Go.Am.Pu
end
section
/- Plain laws: a removed number inserted again; a pair is what its word makes; the inverse of a permutation. -/
namespace Go.Am.Pu
end Go.Am.Pu
end
section
/- Plain laws: the inverse of a permutation; words that are their own standardization. -/
namespace Go.Am.Pu
section
variable {w : List Int} (h : isWord w = true) (ho : l9 w = true)
include h ho
end
end Go.Am.Pu
end
section
/- Standardization step by step; what the law of the pairs wants, with no program in sight. -/
namespace Go.Am.Pu
set_option linter.unusedSimpArgs false
set_option linter.unusedVariables false
def pc(w:List Int)(i q:Nat):Nat:=((List.range q).filter fun k=>decide (w.getD k 0<w.getD i 0)||(decide (w.getD k 0=w.getD i 0)&&decide (k<i))).length
end Go.Am.Pu
end
section
/- Plain laws: insertion of letters told anew; insertion and recording of pairs in order, with repeats. -/
namespace Go.Am.Pu
set_option linter.unusedVariables false
section
variable {f : Int → Int} (hf : ∀ a b, a ≤ b → f a ≤ f b)
include hf
omit hf in
end
def Lex(p q:Int×Int):Prop:=p.1<q.1∨(p.1=q.1∧p.2≤q.2)
end Go.Am.Pu
end
section
/- Plain laws: the word of a recorded pair is the word; a recording with repeats, told by standard numbers. -/
namespace Go.Am.Pu
set_option linter.unusedVariables false
theorem Bu{X Y:List (List Int)}(h:eu X Y)(he: ∀r x,r<X.length→x<(X.getD r []).length→cel X r x=cel Y r x):X=Y:=by
 refine CU (d:= []) h.1 fun r hr=>CU (d:=0) (h.2 r) fun x hx=>he r x hr hx
end Go.Am.Pu
end
section
/- Plain laws: pairs in order and their two tableaux. -/
namespace Go.Am.Pu
set_option linter.unusedVariables false
theorem DG: ∀{a b:List Int},a.length=b.length→wd (a.zip b)=b∧(a.zip b).map Prod.fst=a
 | [],[],_=>⟨rfl,rfl⟩
 | [],b::B,h=>by simp at h
 |a::A,[],h=>by simp at h
 |a::A,b::B,h=>by
  obtain⟨i1,i2⟩:=DG (a:=A) (b:=B) (by simpa using h)
  exact⟨congrArg (b:: ·) i1,congrArg (a:: ·) i2⟩
def POK(L:List (Int×Int)):Prop:=L.length≤9∧ ∀p∈L,(1≤p.1∧p.1≤9)∧1≤p.2∧p.2≤9
theorem POK.word{L:List (Int×Int)}(h:POK L):isWord (wd L)=true:=by
 unfold isWord within
 simp only[Bool.and_eq_true,decide_eq_true_eq,List.all_eq_true,wd,List.length_map]
 refine⟨h.1,fun x hx=> ?_⟩
 obtain⟨p,hp,rfl⟩:=List.mem_map.1 hx
 exact(h.2 p hp).2
section
variable {L : List (Int × Int)} (h : POK L) (hl : L.Pairwise Lex)
include h
theorem EO:cx (([],lN (wd L) [] [] 0):Tab)=true∧iX (([],lN (wd L) [] [] 0):Tab)=true∧(lN (wd L) [] [] 0).flatten.length=L.length:=by
 have hw:=h.word
 have:=n4 hw
 unfold cR at this
 rw[if_pos hw]at this
 simpa[wd]using this
theorem gY{r x i:Nat}(hi:i<L.length)(hr:r<(lN (wd L) [] [] 0).length)(hx:x<((lN (wd L) [] [] 0).getD r []).length)(e:cel (lN (wd L) [] [] 0) r x=((i+1:Nat):Int)):(A4 (wd L) []).getD i 0=r:=by
 obtain⟨p1,p2,p3⟩:=EO h
 have a:=(vD h.word).2 i (by simpa[wd]using hi)
 have b:=jU p1 p2 hr hx e
 omega
include hl
end
end Go.Am.Pu
end
section
/- Plain laws: matrices and their pairs. -/
namespace Go.Am.Pu
set_option linter.unusedVariables false
set_option linter.unusedSimpArgs false
def FC(c:Nat)(r:List Int):Bool:=decide (r.length=c)&&(decide (r.length≤9)&&r.all fun n=>within n 0 9)
def uV(m:List (List Int)):Bool:=decide (m.length≤9)&&(m.all (FC (m.getD 0 []).length)&&decide (fZ m.flatten≤9))
structure E4 (r c : Nat) (m : List (List Int)) : Prop where
  len : m.length = r
  r9 : r ≤ 9
  row : ∀ x ∈ m, x.length = c
  c9 : ∀ x ∈ m, x.length ≤ 9
  num : ∀ x ∈ m, ∀ n ∈ x, 0 ≤ n ∧ n ≤ 9
  sum : fZ m.flatten ≤ 9
theorem xy{m:List (List Int)}:uV m=true↔E4 m.length (m.getD 0 []).length m:=by
 unfold uV FC within
 simp only[Bool.and_eq_true,decide_eq_true_eq,List.all_eq_true]
 constructor
 ·rintro⟨a,b,c⟩
  exact⟨rfl,a,fun x hx=>(b x hx).1,fun x hx=>(b x hx).2.1,fun x hx=>(b x hx).2.2,c⟩
 ·rintro⟨_,a,b,c,d,e⟩
  exact⟨a,fun x hx=>⟨b x hx,c x hx,d x hx⟩,e⟩
theorem E4.is{r c:Nat}{m:List (List Int)}(h:E4 r c m):uV m=true:=by
 rw[xy]
 cases m with
 |nil=>exact⟨rfl,Nat.zero_le _,fun x hx=>(by cases hx),fun x hx=>(by cases hx),fun x hx=>(by cases hx),h.sum⟩
 |cons a m=>
  have:=h.row a (List.mem_cons_self ..)
  exact⟨rfl,by rw[h.len];exact h.r9,fun x hx=>by rw[List.getD_cons_zero,this];exact h.row x hx,h.c9,h.num,h.sum⟩
end Go.Am.Pu
end
section
/- Plain laws: a matrix is told by its two tableaux, and turning it exchanges them. -/
namespace Go.Am.Pu
set_option linter.unusedVariables false
end Go.Am.Pu
end
section
/- Plain laws: what the functions on matrices make step by step. -/
namespace Go.Am.Pu
set_option linter.unusedVariables false
theorem zP{Q Q':List (List Int)}(h:eu Q Q'){a:Nat}(ha:a≤Q.length)(z z':Int):eu (gA Q a z) (gA Q' a z'):=by
 refine⟨by rw[lh,lh,h.1],fun i=> ?_⟩
 rw[oR z ha,oR z' (by rw[←h.1];exact ha)]
 have h1:=h.2 i
 have h2:=h.2 a
 split
 ·rw[List.length_append,List.length_append,h2];rfl
 ·exact h1
theorem xV: ∀(L:List (Int×Int)) (P Q:List (List Int)) (k:Nat),(∀i,i<L.length→(L.getD i (0,0)).1=((k+i+1:Nat):Int))→Ae L P Q=lN (wd L) P Q k
 | [],_,_,_,_=>rfl
 |p::L,P,Q,k,h=>by
  have h0:=h 0 (Nat.zero_lt_succ _)
  rw[Nat.add_zero]at h0
  simp only[List.getD_cons_zero]at h0
  show Ae L (a7 P p.2).1 (gA Q (a7 P p.2).2 p.1)=_
  rw[h0]
  exact xV L _ _ (k+1) fun i hi=>by
   have:=h (i+1) (by simpa using hi)
   rw[show k+1+i+1=k+(i+1)+1 by omega,←this,List.getD_cons_succ]
theorem Cw{W:List Int}:Ae ((mw W.length).zip W) [] []=lN W [] [] 0:=by
 have hl:(mw W.length).length=W.length:=mG _
 rw[xV _ _ _ 0 fun i hi=>by
  rw[aw hi,List.getElem_zip]
  simp only[mw,List.getElem_map,List.getElem_range]
  omega]
 rw[(DG hl).1]
end Go.Am.Pu
end
section
/- Plain laws: insertion by columns keeps the word's class. -/
namespace Go.Am.Pu
set_option linter.unusedVariables false
def gC(c:List Int)(x:Int):Nat:=c.findIdx fun n=>decide (x≤n)
def Ao:List (List Int)→Int→List (List Int)
 | [],x=> [[x]]
 |c::cs,x=>if gC c x<c.length then c.set (gC c x) x::Ao cs (c.getD (gC c x) 0)else(c++ [x])::cs
end Go.Am.Pu
end
section
/- Plain laws: columns and rows of a tableau; insertion by columns keeps it a tableau. -/
namespace Go.Am.Pu
set_option linter.unusedVariables false
def AP(c:List Int):List (List Int)→Prop
 | []=>True
 |d::_=>d.length≤c.length∧ ∀q,q<d.length→c.getD q 0≤d.getD q 0
def CC:List (List Int)→Prop
 | []=>True
 |c::cs=>0<c.length∧c.Pairwise (· < ·)∧AP c cs∧CC cs
theorem Bg{c:List Int}(h:c.Pairwise (· < ·)){i j:Nat}(hij:i<j)(hj:j<c.length):c.getD i 0<c.getD j 0:=by
 rw[List.pairwise_iff_getElem]at h
 rw[aw (by omega),aw hj]
 exact h i j (by omega) hj hij
theorem Fv{c:List Int}(h:c.Pairwise (· < ·)){i j:Nat}(hij:i≤j)(hj:j<c.length):c.getD i 0≤c.getD j 0:=by
 rcases Nat.lt_or_ge i j with q|q
 ·have:=Bg h q hj;omega
 ·rw[show i=j by omega];exact Int.le_refl _
theorem y0{c:List Int}(h: ∀i j,i<j→j<c.length→c.getD i 0<c.getD j 0):c.Pairwise (· < ·):=by
 rw[List.pairwise_iff_getElem]
 intro i j hi hj hij
 have:=h i j hij hj
 rwa [aw hi,aw hj]at this
theorem Bk{c:List Int}{x:Int}(h:gC c x<c.length):x≤c.getD (gC c x) 0:=by
 have:=List.findIdx_getElem (w:=h) (p:=fun n=>decide (x≤n))
 rw[aw h];exact of_decide_eq_true this
theorem xz{c:List Int}{x:Int}{i:Nat}(h:i<gC c x):c.getD i 0<x:=by
 have hl:i<c.length:=Nat.lt_of_lt_of_le h List.findIdx_le_length
 have:=List.not_of_lt_findIdx (p:=fun n=>decide (x≤n)) (xs:=c) h
 have:=of_decide_eq_false this
 rw[aw hl];omega
theorem xx{c:List Int}{x:Int}:gC c x≤c.length:=List.findIdx_le_length
theorem Em{c:List Int}{x:Int}(h:c.Pairwise (· < ·))(hk:gC c x<c.length):(c.set (gC c x) x).Pairwise (· < ·):=y0 fun i j hij hj=>by
 rw[List.length_set]at hj
 rw[hM x hk,hM x hk]
 have ha:=Bk hk
 by_cases ci:i=gC c x
 ·rw[if_pos ci,if_neg (by omega)]
  have:=Bg h (i:=gC c x) (j:=j) (by omega) hj
  omega
 ·rw[if_neg ci]
  by_cases cj:j=gC c x
  ·rw[if_pos cj];exact xz (by omega)
  ·rw[if_neg cj];exact Bg h hij hj
theorem D9{c:List Int}{x:Int}(h:c.Pairwise (· < ·))(hk: ¬gC c x<c.length):(c++ [x]).Pairwise (· < ·):=y0 fun i j hij hj=>by
 rw[List.length_append,List.length_singleton]at hj
 rw[eU,eU]
 by_cases cj:j=c.length
 ·rw[if_neg (by omega),if_pos cj];exact xz (by have:= @xx c x;omega)
 ·rw[if_neg (by omega),if_neg cj];exact Bg h hij (by omega)
theorem Co{c:List Int}{x:Int}{cs:List (List Int)}(h:c.Pairwise (· < ·))(hk:gC c x<c.length)(ho:AP c cs)(hc:CC cs):AP (c.set (gC c x) x) (Ao cs (c.getD (gC c x) 0)):=by
 have hy:=Bk hk
 have hle: ∀q,q<c.length→(c.set (gC c x) x).getD q 0≤c.getD q 0:=fun q hq=>by
  rw[hM x hk]
  split
  ·next e=>rw[e];exact hy
  ·exact Int.le_refl _
 have hset: ∀q,q≤gC c x→(c.set (gC c x) x).getD q 0≤c.getD (gC c x) 0:=fun q hq=>by
  have:=hle q (by omega)
  have:=Fv h hq hk
  omega
 cases cs with
 |nil=>
  refine⟨by show 1≤_;rw[List.length_set];omega,fun q hq=> ?_⟩
  have hq:q<1:=hq
  rw[show q=0 by omega]
  exact hset 0 (Nat.zero_le _)
 |cons d ds=>
  obtain⟨o1,o2⟩:=ho
  have hk':gC d (c.getD (gC c x) 0)≤gC c x:=Nat.le_of_not_lt fun hlt=>by
   have hd:gC c x<d.length:=by have:= @xx d (c.getD (gC c x) 0);omega
   have a:=xz hlt
   have b:=o2 _ hd
   omega
  show AP _ (if gC d (c.getD (gC c x) 0)<d.length then _ else _)
  by_cases g:gC d (c.getD (gC c x) 0)<d.length
  ·rw[if_pos g]
   refine⟨by rw[List.length_set,List.length_set];exact o1,fun q hq=> ?_⟩
   rw[List.length_set]at hq
   rw[hM _ g]
   split
   ·next e=>exact hset q (by omega)
   ·have:=hle q (by omega)
    have:=o2 q hq
    omega
  ·rw[if_neg g]
   have e:gC d (c.getD (gC c x) 0)=d.length:=by have:= @xx d (c.getD (gC c x) 0);omega
   refine⟨by rw[List.length_set,List.length_append,List.length_singleton];omega,fun q hq=> ?_⟩
   rw[List.length_append,List.length_singleton]at hq
   rw[eU]
   split
   ·next e2=>exact hset q (by omega)
   ·have:=hle q (by omega)
    have:=o2 q (by omega)
    omega
theorem CO: ∀(C:List (List Int)) (x:Int),CC C→CC (Ao C x)
 | [],x,_=>⟨by simp,by simp,trivial,trivial⟩
 |c::cs,x,⟨h1,h2,h3,h4⟩=>by
  show CC (if gC c x<c.length then _ else _)
  by_cases g:gC c x<c.length
  ·rw[if_pos g]
   exact⟨by rw[List.length_set];exact h1,Em h2 g,Co h2 g h3 h4,CO cs _ h4⟩
  ·rw[if_neg g]
   refine⟨by rw[List.length_append,List.length_singleton];omega,D9 h2 g,?_,h4⟩
   cases cs with
   |nil=>trivial
   |cons d ds=>
    obtain⟨o1,o2⟩:=h3
    exact⟨by rw[List.length_append,List.length_singleton];omega,fun q hq=>by rw[eU,if_neg (by omega)];exact o2 q hq⟩
theorem wT: ∀{C:List (List Int)},CC C→(∀c∈C,0<c.length∧c.Pairwise (· < ·))∧ ∀i,i+1<C.length→(C.getD (i+1) []).length≤(C.getD i []).length∧ ∀q,q<(C.getD (i+1) []).length→(C.getD i []).getD q 0≤(C.getD (i+1) []).getD q 0
 | [],_=>⟨fun c hc=>(by cases hc),fun i hi=>(by simp at hi)⟩
 |c::cs,⟨h1,h2,h3,h4⟩=>by
  obtain⟨a,b⟩:=wT h4
  refine⟨fun d hd=> ?_,fun i hi=> ?_⟩
  ·rcases List.mem_cons.1 hd with rfl|hd
   ·exact⟨h1,h2⟩
   ·exact a d hd
  ·cases i with
   |zero=>
    cases cs with
    |nil=>simp at hi
    |cons d ds=>exact h3
   |succ i=>exact b i (by simpa using hi)
def lY:List Int→List (List Int)→List (List Int)
 | [],C=>C
 |n::r,[]=> [n]::lY r []
 |n::r,c::C=>(n::c)::lY r C
def dC:List (List Int)→List (List Int)
 | []=> []
 |r::rs=>lY r (dC rs)
def Reg(t:List (List Int)):Prop:=(∀r∈t,0<r.length)∧ ∀i,i+1<t.length→(t.getD (i+1) []).length≤(t.getD i []).length
theorem Reg.tail{r:List Int}{rs:List (List Int)}(h:Reg (r::rs)):Reg rs∧(rs.getD 0 []).length≤r.length:=by
 refine⟨⟨fun s hs=>h.1 s (List.mem_cons_of_mem _ hs),fun i hi=>h.2 (i+1) (by simpa using hi)⟩,?_⟩
 cases rs with
 |nil=>exact Nat.zero_le _
 |cons s rs=>exact h.2 0 (by simp)
theorem so: ∀(r:List Int) (C:List (List Int)),C.length≤r.length→(lY r C).length=r.length
 | [],C,h=>by simp at h;subst h;rfl
 |n::r,[],_=>by simp[lY,so r [] (Nat.zero_le _)]
 |n::r,c::C,h=>by simp[lY,so r C (by simpa using h)]
theorem rp: ∀(r:List Int) (C:List (List Int)) (q:Nat),C.length≤r.length→(lY r C).getD q []=if q<r.length then r.getD q 0::C.getD q []else []
 | [],C,q,h=>by simp at h;subst h;simp[lY]
 |n::r,[],0,_=>by simp[lY]
 |n::r,[],q+1,_=>by
  have:=rp r [] q (Nat.zero_le _)
  simp only[lY,List.getD_cons_succ,this,List.length_cons]
  by_cases h:q<r.length
  ·rw[if_pos h,if_pos (by omega)];simp
  ·rw[if_neg h,if_neg (by omega)]
 |n::r,c::C,0,_=>by simp[lY]
 |n::r,c::C,q+1,h=>by
  have:=rp r C q (by simpa using h)
  simp only[lY,List.getD_cons_succ,this,List.length_cons]
  by_cases g:q<r.length
  ·rw[if_pos g,if_pos (by omega)]
  ·rw[if_neg g,if_neg (by omega)]
theorem n7: ∀{t:List (List Int)},Reg t→(dC t).length=(t.getD 0 []).length
 | [],_=>rfl
 |r::rs,h=>by
  have:=n7 h.tail.1
  exact so r _ (by rw[this];exact h.tail.2)
theorem kW: ∀{t:List (List Int)},Reg t→ ∀q i,(i<((dC t).getD q []).length↔q<(t.getD i []).length)∧((dC t).getD q []).getD i 0=(t.getD i []).getD q 0
 | [],_,q,i=>by simp[dC]
 |r::rs,h,q,i=>by
  have hl:=n7 h.tail.1
  have ht:=h.tail.2
  have e:=rp r (dC rs) q (by rw[hl];exact ht)
  show(i<((lY r (dC rs)).getD q []).length↔_)∧((lY r (dC rs)).getD q []).getD i 0=_
  rw[e]
  by_cases g:q<r.length
  ·rw[if_pos g]
   cases i with
   |zero=>simp[g]
   |succ i=>
    have:=kW h.tail.1 q i
    simp only[List.length_cons,List.getD_cons_succ]
    exact⟨by rw[←this.1];omega,this.2⟩
  ·rw[if_neg g]
   have hle: ∀i,((r::rs).getD i []).length≤r.length:=by
    intro i
    induction i with
    |zero=>simp
    |succ i ih=>
     by_cases hi:i+1<(r::rs).length
     ·exact Nat.le_trans (h.2 i hi) ih
     ·rw[List.getD_eq_getElem?_getD,List.getElem?_eq_none (by omega)];exact Nat.zero_le _
   have:=hle i
   refine⟨⟨fun h=>by simp at h,fun h=>by omega⟩,?_⟩
   rw[List.getD_eq_getElem?_getD (l:=(r::rs).getD i []),List.getElem?_eq_none (by omega)]
   simp
theorem CR{C:List (List Int)}(h:CC C):Reg C:=⟨fun c hc=>((wT h).1 c hc).1,fun i hi=>((wT h).2 i hi).1⟩
end Go.Am.Pu
end
section
/- Plain laws: one step of insertion by columns, seen in the rows. -/
namespace Go.Am.Pu
set_option linter.unusedVariables false
theorem vG{α:Type}{l:List α}{i:Nat}(h:l.length≤i)(d:α):l.getD i d=d:=by
 rw[List.getD_eq_getElem?_getD,List.getElem?_eq_none h];rfl
theorem gss{l:List (List Int)}{i:Nat}(h:i<l.length)(v:List Int):(l.set i v).getD i []=v:=by
 rw[aw (by rw[List.length_set];exact h),List.getElem_set_self]
def lO(D:List (List Int))(c:Nat)(x:Int):List (List Int):=if c=D.length then D++ [[x]]else D.set c (D.getD c []++ [x])
theorem yI{D:List (List Int)}{c:Nat}(x:Int)(hc:c≤D.length)(i:Nat):(lO D c x).getD i []=if i=c then D.getD c []++ [x]else D.getD i []:=oR (Q:=D) (a:=c) x hc i
theorem Dp{D:List (List Int)}(h:Reg D){c:Nat}(hc:c≤D.length)(x:Int)(h':Reg (lO D c x)):dC (lO D c x)=lO (dC D) (D.getD c []).length x∧(D.getD c []).length≤(dC D).length∧((dC D).getD (D.getD c []).length []).length=c:=by
 have hg:=yI x hc
 have hlen: ∀i,((lO D c x).getD i []).length=if i=c then(D.getD c []).length+1 else(D.getD i []).length:=fun i=>by
  rw[hg];split
  ·rw[List.length_append,List.length_singleton]
  ·rfl
 have ant: ∀d,(D.getD d []).length≤(D.getD 0 []).length:=by
  intro d
  induction d with
  |zero=>exact Nat.le_refl _
  |succ d ih=>
   by_cases hd:d+1<D.length
   ·exact Nat.le_trans (h.2 d hd) ih
   ·rw[vG (by omega)];exact Nat.zero_le _
 have hrl:(D.getD c []).length≤(dC D).length:=by rw[n7 h];exact ant c
 have hrc:((dC D).getD (D.getD c []).length []).length=c:=by
  refine Nat.le_antisymm (Nat.le_of_not_lt fun hlt=> ?_) (Nat.le_of_not_lt fun hlt=> ?_)
  ·have:=(kW h _ c).1.1 hlt
   omega
  ·
   have a:=(kW h (D.getD c []).length ((dC D).getD (D.getD c []).length []).length).1
   have hc':((dC D).getD (D.getD c []).length []).length<D.length:=by omega
   generalize hm:((dC D).getD (D.getD c []).length []).length=m at*
   have b: ¬(D.getD c []).length<(D.getD m []).length:=fun hh=>by have:=a.2 hh;omega
   have mono: ∀e,m+e≤c→((lO D c x).getD (m+e) []).length≤((lO D c x).getD m []).length:=by
    intro e
    induction e with
    |zero=>intro _;exact Nat.le_refl _
    |succ e ih=>
     intro he
     have hl2:(lO D c x).length=if c=D.length then D.length+1 else D.length:=lh x
     exact Nat.le_trans (h'.2 (m+e) (by rw[hl2];split<;>omega)) (ih (by omega))
   have:=mono (c-m) (by omega)
   rw[show m+(c-m)=c by omega,hlen,hlen,if_pos rfl,if_neg (by omega)]at this
   omega
 refine⟨?_,hrl,hrc⟩
 have hg2:=yI (D:=dC D) (c:=(D.getD c []).length) x hrl
 have hl2:(lO (dC D) (D.getD c []).length x).length=if(D.getD c []).length=(dC D).length then(dC D).length+1 else(dC D).length:=lh x
 have hrow2: ∀i,((lO (dC D) (D.getD c []).length x).getD i []).length=if i=(D.getD c []).length then c+1 else((dC D).getD i []).length:=fun i=>by
  rw[hg2];split
  ·rw[List.length_append,List.length_singleton,hrc]
  ·rfl
 have key: ∀i q,q<((dC (lO D c x)).getD i []).length↔q<((lO (dC D) (D.getD c []).length x).getD i []).length:=fun i q=>by
  rw[(kW h' i q).1,hlen,hrow2]
  have a:=(kW h i q).1
  by_cases e:q=c
  ·subst e
   rw[if_pos rfl]
   by_cases e2:i=(D.getD q []).length
   ·rw[if_pos e2];omega
   ·rw[if_neg e2,a];omega
  ·rw[if_neg e]
   by_cases e2:i=(D.getD c []).length
   ·rw[if_pos e2,←a,e2,hrc];omega
   ·rw[if_neg e2,a]
 have hl:(dC (lO D c x)).length=(lO (dC D) (D.getD c []).length x).length:=by
  rw[n7 h',hlen,hl2,n7 h]
  by_cases e:0=c
  ·subst e
   rw[if_pos rfl,if_pos rfl]
  ·rw[if_neg e]
   split
   ·next e2=>
    exfalso
    have mono: ∀e,e≤c→((lO D c x).getD e []).length≤((lO D c x).getD 0 []).length:=by
     intro e
     induction e with
     |zero=>intro _;exact Nat.le_refl _
     |succ e ih=>
      intro he
      have hl3:(lO D c x).length=if c=D.length then D.length+1 else D.length:=lh x
      exact Nat.le_trans (h'.2 e (by rw[hl3];split<;>omega)) (ih (by omega))
    have:=mono c (Nat.le_refl _)
    rw[hlen,hlen,if_pos rfl,if_neg e]at this
    omega
   ·rfl
 refine Bu ⟨hl,fun i=> ?_⟩ fun i q hi hq=> ?_
 ·refine Nat.le_antisymm (Nat.le_of_not_lt fun hlt=> ?_) (Nat.le_of_not_lt fun hlt=> ?_)
  ·have:=(key i _).1 hlt;omega
  ·have:=(key i _).2 hlt;omega
 ·show((dC (lO D c x)).getD i []).getD q 0=((lO (dC D) (D.getD c []).length x).getD i []).getD q 0
  rw[(kW h' i q).2,hg,hg2]
  by_cases e:q=c
  ·rw[if_pos e]
   by_cases e2:i=(D.getD c []).length
   ·rw[if_pos e2,e2,eU,if_pos rfl,eU,if_pos (by rw[hrc];exact e)]
   ·rw[if_neg e2,eU,if_neg e2,(kW h i q).2,e]
  ·rw[if_neg e]
   by_cases e2:i=(D.getD c []).length
   ·rw[if_pos e2,eU,if_neg (by rw[hrc];exact e),(kW h _ q).2,e2]
   ·rw[if_neg e2,(kW h i q).2]
structure uJ (C : List (List Int)) (z : Int) (D : List (List Int)) (c : Nat) (x : Int) : Prop where
  same : eu D C
  rest : D.drop c = C.drop c
  inv : D.take c ++ Ao (D.drop c) x = Ao C z
  le : c ≤ D.length
section
variable {C D : List (List Int)} {z x : Int} {c : Nat} (h : CC C) (s : uJ C z D c x)
include s
theorem uJ.col:D.getD c []=C.getD c []:=by
 have:=congrArg (fun l:List (List Int)=>l.getD 0 []) s.rest
 simp only[List.getD_eq_getElem?_getD,List.getElem?_drop,Nat.add_zero]at this⊢
 exact this
include h
theorem uJ.reg:Reg D:=by
 have hr:=CR h
 refine⟨fun d hd=> ?_,fun i hi=> ?_⟩
 ·obtain⟨i,hi,rfl⟩:=List.getElem_of_mem hd
  rw[←aw hi [],s.same.2 i]
  have:i<C.length:=by rw[←s.same.1];exact hi
  exact hr.1 _ (by rw[aw this];exact List.getElem_mem this)
 ·rw[s.same.2,s.same.2];exact hr.2 i (by rw[←s.same.1];exact hi)
theorem uJ.up:(D.getD c []).Pairwise (· < ·):=by
 rw[s.col]
 by_cases hc:c<C.length
 ·rw[aw hc];exact((wT h).1 _ (List.getElem_mem hc)).2
 ·rw[vG (by omega)];exact List.Pairwise.nil
theorem uJ.step(hr:gC (D.getD c []) x<(D.getD c []).length):c<D.length∧uJ C z (D.set c ((D.getD c []).set (gC (D.getD c []) x) x)) (c+1) ((D.getD c []).getD (gC (D.getD c []) x) 0):=by
 have hc:c<D.length:=Nat.lt_of_not_le fun hle=>by rw[vG hle]at hr;simp at hr
 refine⟨hc,⟨⟨by rw[List.length_set];exact s.same.1,fun i=> ?_⟩,?_,?_,by rw[List.length_set];exact hc⟩⟩
 ·rw[←s.same.2 i]
  by_cases e:i=c
  ·subst e;rw[gss hc,List.length_set]
  ·rw[getD_set_ne (fun h=>e h.symm)]
 ·have:=congrArg List.tail s.rest
  rw[List.tail_drop,List.tail_drop]at this
  rw[List.drop_set_of_lt (Nat.lt_succ_self _)]
  exact this
 ·rw[←s.inv,drop_cons hc [],List.drop_set_of_lt (Nat.lt_succ_self _),List.take_succ_eq_append_getElem (by rw[List.length_set];exact hc),List.take_set_of_le (Nat.le_refl _),List.getElem_set_self]
  show _=D.take c++(if gC (D.getD c []) x<(D.getD c []).length then _ else _)
  rw[if_pos hr]
  simp only[List.append_assoc,List.singleton_append]
theorem uJ.fin(hr: ¬gC (D.getD c []) x<(D.getD c []).length):dC (Ao C z)=lO (dC D) (D.getD c []).length x∧(D.getD c []).length≤(dC D).length∧((dC D).getD (D.getD c []).length []).length=c:=by
 have e:lO D c x=Ao C z:=by
  rw[←s.inv]
  unfold lO
  by_cases hc:c=D.length
  ·rw[if_pos hc,hc,List.take_length,List.drop_length];rfl
  ·have hlt:c<D.length:=by have:=s.le;omega
   rw[if_neg hc,drop_cons hlt []]
   show _=D.take c++(if gC (D.getD c []) x<(D.getD c []).length then _ else _)
   rw[if_neg hr,List.set_eq_take_append_cons_drop,if_pos hlt]
 have:=Dp (s.reg h) s.le x (by rw[e];exact CR (CO C z h))
 rw[e]at this
 exact this
end
end Go.Am.Pu
end
section
/- Plain laws: columns gathered row by row. -/
namespace Go.Am.Pu
set_option linter.unusedVariables false
section
variable {C : List (List Int)} {x : Int} {c : Nat}
end
end Go.Am.Pu
end
section
/- Plain laws: a word turned about and complemented. -/
namespace Go.Am.Pu
set_option linter.unusedVariables false
end Go.Am.Pu
end
section
/- Plain laws: evacuation is insertion of the word turned about. -/
namespace Go.Am.Pu
set_option linter.unusedVariables false
theorem Kn.perm{u v:List Int}(h:Kn u v):u.Perm v:=by
 induction h with
 |refl w=>exact .refl _
 |symm _ ih=>exact ih.symm
 |trans _ _ h1 h2=>exact h1.trans h2
 |tri a b t=>
  refine(List.Perm.append_left a ?_).append_right b
  obtain⟨x,y,z,⟨_,_,rfl,rfl⟩|⟨_,_,rfl,rfl⟩⟩:=t
  ·exact(List.Perm.swap x z []).cons y
  ·exact List.Perm.swap z x [y]
end Go.Am.Pu
end
section
/- Plain laws: evacuating a standard tableau twice. -/
namespace Go.Am.Pu
set_option linter.unusedVariables false
end Go.Am.Pu
end
section
/- Texts as lists of bytes. Plain words. -/
namespace Go.Am.Pu
open Go Go.Am
def tx(l:List UInt8):ByteArray:=⟨l.toArray⟩
theorem gh(l:List UInt8):(tx l).size=l.length:=rfl
theorem lI(a b:List UInt8):tx a++tx b=tx (a++b):=by
 apply ByteArray.ext
 rw[ByteArray.data_append]
 show a.toArray++b.toArray=(a++b).toArray
 simp
theorem DO(l:List UInt8):(tx l).data.toList=l:=rfl
theorem ok_eq{α:Type}{x:Option α}{v:α}(h:Ok x (· =v)):x=some v:=by
 obtain⟨y,e,hy⟩:=h
 rw[e,hy]
def dcm(n:Int):List UInt8:=Lib.decDigits n.toNat
theorem oM{n:Int}(h:n<10):dcm n= [UInt8.ofNat (48+n.toNat)]:=by
 unfold dcm
 rw[Lib.decDigits,dif_pos (by omega)]
theorem Bb{n:Int}(h0:10≤n)(h:n<100):dcm n= [UInt8.ofNat (48+n.toNat/10),UInt8.ofNat (48+n.toNat % 10)]:=by
 unfold dcm
 rw[Lib.decDigits,dif_neg (by omega),Lib.decDigits,dif_pos (by omega)]
 rfl
theorem kB{n:Int}(h:n<100):(dcm n).length≤2:=by
 by_cases c:n<10
 ·rw[oM c];simp
 ·rw[Bb (by omega) h];simp
theorem BY{n:Int}(h0:0≤n)(h:n<100):rk n=some (tx (dcm n)):=by
 unfold rk
 rw[if_pos ⟨h0,h⟩];rfl
theorem AG: ∀(ws:List (List UInt8)) (m:Nat),(∀w∈ws,w.length≤m)→Lib.lens ws≤ws.length*m
 | [],m,_=>by simp[Lib.lens]
 |w::r,m,h=>by
  have h1:=h w (by simp)
  have h2:=AG r m (fun x hx=>h x (by simp[hx]))
  have e:Lib.lens (w::r)=w.length+Lib.lens r:=by simp[Lib.lens]
  rw[e,List.length_cons,Nat.succ_mul]
  omega
theorem qd(ws:List (List UInt8))(sep:List UInt8)(m:Nat)(h: ∀w∈ws,w.length≤m):(Lib.join ws sep).length≤ws.length*(m+sep.length):=by
 cases ws with
 |nil=>simp[Lib.join_nil]
 |cons w r=>
  rw[Lib.join_cons,List.length_append,Lib.joinTail_length,List.length_cons,Nat.succ_mul,Nat.mul_add]
  have h1:=h w (by simp)
  have h2:=AG r m (fun x hx=>h x (by simp[hx]))
  have:=Nat.mul_comm sep.length r.length
  omega
theorem Cm{ws:List (List UInt8)}{sep:List UInt8}(h1:ws.length≤1000)(h2: ∀w∈ws,w.length≤10000)(hs:sep.length≤10):rS (ws.map tx) (tx sep)=some (tx (Lib.join ws sep)):=by
 unfold rS
 have e:(ws.map tx).map (fun s:ByteArray=>s.data.toList)=ws:=by
  rw[List.map_map]
  conv=>rhs;rw[←List.map_id ws]
  rfl
 have e2:(tx sep).data.toList=sep:=rfl
 simp only[e,e2]
 have hl:=qd ws sep 10000 h2
 have:ws.length*(10000+sep.length)≤1000*10010:=Nat.mul_le_mul h1 (by omega)
 rw[if_pos ⟨by rw[List.length_map];omega,by omega⟩]
 rfl
theorem sA: ∀n:Nat,Lib.repeatL [46] n=List.replicate n 46
 |0=>rfl
 |n+1=>by rw[Lib.repeatL,sA n];rfl
theorem CD{n:Int}(h0:0≤n)(h:n≤1000):we (tx [46]) n=some (tx (List.replicate n.toNat 46)):=by
 unfold we
 have e:(tx [46]).size=1:=rfl
 have e2:(tx [46]).data.toList= [46]:=rfl
 rw[e,e2,if_pos ⟨h0,by omega,by omega⟩,sA]
 rfl
theorem AA(ws:List (List UInt8)):Lib.join ws []=ws.flatten:=by
 cases ws with
 |nil=>rfl
 |cons w r=>
  rw[Lib.join_cons]
  unfold Lib.joinTail
  simp
def gI(w:List Int):List UInt8:=w.flatMap dcm
theorem sq(w:List Int):Lib.join (w.map dcm) []=gI w:=by
 rw[AA];rfl
theorem nr{w:List Int}(h: ∀x∈w,x<100):(gI w).length≤w.length*2:=by
 induction w with
 |nil=>simp[gI]
 |cons x r ih=>
  have:=kB (h x (by simp))
  have:=ih (fun y hy=>h y (by simp[hy]))
  simp only[gI,List.flatMap_cons,List.length_append,List.length_cons]at*
  omega
def jg(w:List Int):List UInt8:=if isWord w=true then(if w= []then [45]else gI w)else []
def jk(p:List Int):List UInt8:=if cz p=true then(if p= []then [45]else Lib.join (p.map dcm) [44])else []
def oD(t:Tab)(i:Nat):List UInt8:=List.replicate (atI t.1 i).toNat 46++gI (t.2.getD i [])
def jA(t:Tab):List UInt8:=if gZ t=true then(if t.2= []then [45]else Lib.join ((List.range t.2.length).map (oD t)) [47])else []
theorem oh(w:List Int):(jg w).length≤20:=by
 unfold jg
 split
 ·next h=>
  split
  ·simp
  ·obtain⟨h1,h2⟩:=bJ h
   have:=nr (w:=w) (fun x hx=>by have:=(h2 x hx).2;omega)
   omega
 ·simp
end Go.Am.Pu
namespace Go.Am.Pu
end Go.Am.Pu
namespace Go.Am.Pu
end Go.Am.Pu
namespace Go.Am.Pu
theorem gR{t:Tab}(h:gZ t=true):fz 9 9 t.2:=by
 obtain⟨h1,h2,h3,h4⟩:=jy h
 obtain⟨b1,_,b3,_⟩:=cI h2
 have hl:(outer t).length=t.2.length:=dZ t
 refine⟨by omega,fun r hr=> ?_⟩
 obtain⟨i,hi,rfl⟩:=List.getElem_of_mem hr
 have e:=iq t.1 t.2 0 i hi
 have hm:(outer t).getD i 0∈outer t:=by rw[aw (show i<(outer t).length by omega) _];exact List.getElem_mem _
 have h9:=(b1 _ hm).2
 have h0:=(Ec h1 (0+i)).1
 have e':(outer t).getD i 0=t.1.getD (0+i) 0+(t.2.getD i []).length:=e
 rw[aw hi]at e'
 omega
theorem rW{t:Tab}(h:gZ t=true){i:Nat}{x:Int}(hx:x∈t.2.getD i []):1≤x∧x≤9:=by
 obtain⟨q,hq,rfl⟩:=List.getElem_of_mem hx
 have hi:i<t.2.length:=by
  by_cases c:i<t.2.length
  ·exact c
  ·rw[List.getD_eq_getElem?_getD,List.getElem?_eq_none (by omega)]at hq;simp at hq
 have:=(jy h).2.2.2 i q hi hq
 simp only[gr,within,Bool.and_eq_true,decide_eq_true_eq]at this
 rw[aw hq]at this
 exact this.1
theorem oU{t:Tab}(h:gZ t=true)(i:Nat):(oD t i).length≤100:=by
 unfold oD
 rw[List.length_append,List.length_replicate]
 have h1:=fc (jy h).1 i
 have h2:=nr (w:=t.2.getD i []) (fun x hx=>by have:=(rW h hx).2;omega)
 have h3:=(gR h).at i
 omega
theorem kr(t:Tab):(jA t).length≤2000:=by
 unfold jA
 split
 ·next h=>
  split
  ·simp
  ·have:=qd ((List.range t.2.length).map (oD t)) [47] 100 (fun w hw=>by
    obtain⟨i,_,rfl⟩:=List.mem_map.1 hw
    exact oU h i)
   have h2:=(gR h).1
   rw[List.length_map,List.length_range]at this
   have h3:t.2.length*(100+([47]:List UInt8).length)≤9*101:=Nat.mul_le_mul h2 (by simp)
   omega
 ·simp
theorem ou(p:List Int):(jk p).length≤100:=by
 unfold jk
 split
 ·next h=>
  obtain⟨h1,_,h3,_⟩:=cI h
  split
  ·simp
  ·have:=qd (p.map dcm) [44] 2 (fun w hw=>by
    obtain⟨i,hi,rfl⟩:=List.mem_map.1 hw
    exact kB (by have:=(h1 i hi).2;omega))
   rw[List.length_map]at this
   have h3:p.length*(2+([44]:List UInt8).length)≤9*3:=Nat.mul_le_mul h3 (by simp)
   omega
 ·simp
theorem Ea(l:List UInt8):(⟨(((tx l).data.toList.map fun b=>(b.toNat:Int)).map fun n=>UInt8.ofNat n.toNat).toArray⟩:ByteArray)=tx l:=by
 rw[DO,List.map_map]
 have:((fun n:Int=>UInt8.ofNat n.toNat)∘fun b:UInt8=>(b.toNat:Int))=id:=by
  funext b;simp
 rw[this,List.map_id];rfl
def oi(ws:List (List UInt8))(sep:List UInt8)(i:Nat):List UInt8:=Lib.join (ws.take i) sep
theorem za{ws:List (List UInt8)}{sep:List UInt8}{i:Nat}(h:i<ws.length):oi ws sep (i+1)=oi ws sep i++(if i=0 then []else sep)++ws.getD i []:=by
 unfold oi
 cases ws with
 |nil=>simp at h
 |cons w r=>
  cases i with
  |zero=>
   rw[List.take_succ_cons,List.take_zero,Lib.join_one,List.take_zero,Lib.join_nil]
   rfl
  |succ i=>
   have hr:i<r.length:=by simpa using h
   rw[List.take_succ_cons,List.take_succ_cons,Lib.join_cons,Lib.join_cons,Lib.joinTail_take_succ sep r i (r.getD i []) (by rw[aw hr];exact List.getElem?_eq_getElem hr)]
   simp only[List.getD_cons_succ,List.append_assoc,Nat.succ_ne_zero,if_false]
end Go.Am.Pu
end
section
/- Inversions, major index, lattice words, raising: plain words. -/
namespace Go.Am.Pu
open Go Go.Am
def l6(w:List Int)(k:Nat):Nat→Nat→Int
 |0,_=>0
 |m+1,i=>(if w.getD k 0<w.getD i 0 then 1 else 0)+l6 w k m (i+1)
def mf(w:List Int):Nat→Nat→Int
 |0,_=>0
 |m+1,k=>l6 w k k 0+mf w m (k+1)
def inv(w:List Int):Int:=if isWord w=true then mf w w.length 0 else-1
theorem qt(w:List Int)(k:Nat): ∀m i,0≤l6 w k m i∧l6 w k m i≤m
 |0,_=>by simp[l6]
 |m+1,i=>by
  have:=qt w k m (i+1)
  unfold l6
  split<;>omega
theorem zb(w:List Int): ∀m k,m+k≤9→0≤mf w m k∧mf w m k≤m*9
 |0,_,_=>by simp[mf]
 |m+1,k,h=>by
  have h1:=zb w m (k+1) (by omega)
  have h2:=qt w k k 0
  unfold mf
  omega
theorem rB{w:List Int}(h:isWord w=true):0≤inv w∧inv w<100:=by
 have hl:=(bJ h).1
 have:=zb w w.length 0 (by omega)
 unfold inv
 rw[if_pos h]
 omega
def mH(w:List Int):Nat→Nat→Int
 |0,_=>0
 |m+1,k=>(if w.getD k 0<w.getD (k-1) 0 then(k:Int)else 0)+mH w m (k+1)
def maj(w:List Int):Int:=if isWord w=true then mH w (w.length-1) 1 else-1
theorem y6(w:List Int): ∀m k,m+k≤9→0≤mH w m k∧mH w m k≤m*9
 |0,_,_=>by simp[mH]
 |m+1,k,h=>by
  have h1:=y6 w m (k+1) (by omega)
  unfold mH
  split<;>omega
theorem sk{w:List Int}(h:isWord w=true):0≤maj w∧maj w<100:=by
 have hl:=(bJ h).1
 unfold maj
 rw[if_pos h]
 by_cases c:w.length=0
 ·rw[c];simp[mH]
 ·have:=y6 w (w.length-1) 1 (by omega)
  omega
def sH(w:List Int):Nat→List Int→Bool
 |0,_=>true
 |m+1,c=>
  if 1<w.getD m 0∧(c.set (w.getD m 0).toNat (c.getD (w.getD m 0).toNat 0+1)).getD ((w.getD m 0).toNat-1) 0<(c.set (w.getD m 0).toNat (c.getD (w.getD m 0).toNat 0+1)).getD (w.getD m 0).toNat 0 then false
  else sH w m (c.set (w.getD m 0).toNat (c.getD (w.getD m 0).toNat 0+1))
def lat(w:List Int):Bool:=isWord w&&sH w w.length (List.replicate 10 0)
def fV(w:List Int)(k:Int):Nat→Nat→List Int→List Int→List Int×List Int
 |0,_,low,high=>(low,high)
 |m+1,i,low,high=>
  if w.getD i 0=k+1 then fV w k m (i+1) low (high++ [(i:Int)])
  else if w.getD i 0=k then(if 0<high.length then fV w k m (i+1) low (high.take (high.length-1))else fV w k m (i+1) (low++ [(i:Int)]) high)
  else fV w k m (i+1) low high
theorem lK(w:List Int)(k:Int): ∀(m i:Nat) (low high:List Int),i+m=w.length→(∀x∈high,∃n:Nat,x=n∧n<w.length∧w.getD n 0=k+1)→ ∀x∈(fV w k m i low high).2,∃n:Nat,x=n∧n<w.length∧w.getD n 0=k+1
 |0,i,low,high,_,h=>h
 |m+1,i,low,high,hi,h=>by
  unfold fV
  split
  ·next e=>
   refine lK w k m (i+1) _ _ (by omega) (fun x hx=> ?_)
   rcases List.mem_append.1 hx with hx|hx
   ·exact h x hx
   ·simp only[List.mem_singleton]at hx
    exact⟨i,hx,by omega,e⟩
  ·split
   ·split
    ·exact lK w k m (i+1) _ _ (by omega) (fun x hx=>h x (List.mem_of_mem_take hx))
    ·exact lK w k m (i+1) _ _ (by omega) h
   ·exact lK w k m (i+1) _ _ (by omega) h
def free(w:List Int)(k:Int):List Int×List Int:=fV w k w.length 0 [] []
def raise(w:List Int)(k:Int):List Int×Bool:=
 if(isWord w&&within k 1 8)=true then(if(free w k).2= []then([],false)else(w.set ((free w k).2.getD 0 0).toNat k,true))else([],false)
theorem rq{w:List Int}{k:Int}(h:(free w k).2≠ []): ∃n:Nat,(free w k).2.getD 0 0=n∧n<w.length∧w.getD n 0=k+1:=by
 have:=lK w k w.length 0 [] [] (by omega) (fun x hx=>by cases hx)
 refine this _ ?_
 show(free w k).2.getD 0 0∈(free w k).2
 cases e:(free w k).2 with
 |nil=>exact absurd e h
 |cons x r=>simp
theorem vF{w v:List Int}{k:Int}(h:raise w k=(v,true)):isWord w=true∧isWord v=true∧fZ v=fZ w-1:=by
 unfold raise at h
 split at h
 ·next c=>
  split at h
  ·simp at h
  ·next hn=>
   obtain⟨n,e1,e2,e3⟩:=rq hn
   simp only[Bool.and_eq_true,within,decide_eq_true_eq]at c
   obtain⟨hw,hk⟩:=c
   rw[e1,Int.toNat_natCast]at h
   simp only[Prod.mk.injEq,and_true]at h
   subst h
   refine⟨hw,?_,?_⟩
   ·obtain⟨h1,h2⟩:=bJ hw
    simp only[isWord,Bool.and_eq_true,decide_eq_true_eq,List.all_eq_true,within,List.length_set]
    refine⟨h1,fun x hx=> ?_⟩
    rcases List.mem_or_eq_of_mem_set hx with hx|rfl
    ·exact h2 x hx
    ·omega
   ·rw[qN w n k e2,e3];omega
 ·simp at h
def nu:Nat→Int→List Int→List Int
 |0,_,w=>w
 |m+1,k,w=>if k<9 then(if(raise w k).2=true then nu m 1 (raise w k).1 else nu m (k+1) w)else w
def ky(w:List Int):List Int×Bool:=if isWord w=true then(nu 2000 1 w,true)else([],false)
theorem ql{w:List Int}(h:isWord w=true):0≤fZ w∧fZ w≤81:=by
 obtain⟨h1,h2⟩:=bJ h
 have key: ∀w:List Int,(∀x∈w,1≤x∧x≤9)→0≤fZ w∧fZ w≤w.length*9:=by
  intro w
  induction w with
  |nil=>intro _;simp[fZ]
  |cons x r ih=>
   intro h
   have:=ih (fun y hy=>h y (by simp[hy]))
   have:=h x (by simp)
   simp only[fZ,List.length_cons]
   omega
 have:=key w h2
 omega
theorem oj: ∀(m:Nat) (k:Int) (w:List Int),isWord w=true→isWord (nu m k w)=true
 |0,_,w,h=>h
 |m+1,k,w,h=>by
  unfold nu
  split
  ·split
   ·next hr=>
    refine oj m 1 _ ?_
    exact(vF (v:=(raise w k).1) (k:=k) (w:=w) (by rw[←hr])).2.1
   ·exact oj m _ w h
  ·exact h
theorem qG(w:List Int):isWord (ky w).1=true:=by
 unfold ky
 split
 ·next h=>exact oj _ _ _ h
 ·rfl
def iO (w : List Int) : List (List UInt8) :=
  [[105, 110, 115, 101, 114, 116], jA (aW w).1, [114, 101, 99, 111, 114, 100], jA (cR w).1, [115, 104, 97, 112, 101], jk (eO w),
   [105, 110, 118, 101, 114, 115, 105, 111, 110, 115], dcm (inv w), [109, 97, 106, 111, 114], dcm (maj w), (if lat w = true then [108, 97, 116, 116, 105, 99, 101] else [111, 116, 104, 101, 114]),
   [104, 105, 103, 104, 101, 115, 116], jg (ky w).1]
def say(w:List Int):List UInt8:=if isWord w=true then Lib.join (iO w) [32]else []
theorem xE{w:List Int}(h:isWord w=true): ∀x∈iO w,x.length≤10000:=by
 intro x hx
 simp only[iO,List.mem_cons,List.not_mem_nil,or_false]at hx
 have a1:=kr (aW w).1
 have a2:=kr (cR w).1
 have a3:=ou (eO w)
 have a4:=kB (rB h).2
 have a5:=kB (sk h).2
 have a6:=oh (ky w).1
 rcases hx with rfl|rfl|rfl|rfl|rfl|rfl|rfl|rfl|rfl|rfl|rfl|rfl|rfl
 all_goals first|(simp;done)|omega|(split<;>simp)
end Go.Am.Pu
namespace Go.Am.Pu
end Go.Am.Pu
end
section
/- Examples are words, and are described. Plain words. -/
namespace Go.Am.Pu
open Go Go.Am
end Go.Am.Pu
end
