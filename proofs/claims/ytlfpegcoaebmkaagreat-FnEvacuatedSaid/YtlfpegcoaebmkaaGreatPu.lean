/- Plain laws of lists, partitions, shapes and tableaux; no program in sight. -/
import Derived.Test.YtlfpegcoaebmkaaGreatAmP
set_option linter.unusedSimpArgs false
set_option linter.unusedVariables false
set_option linter.unnecessarySimpa false
set_option linter.unusedSectionVars false
open List renaming length_append → Mb, mem_append → Md, getD_eq_getElem?_getD → Mk, length_set → Ml, length_take → NJ, length_cons → Nr, getElem_mem → Ns, mem_cons_of_mem → Mo, nil_append → N1, mem_singleton → Nt, length_singleton → Ox, cons_append → Mp, getElem?_append_left → Mq, getElem?_append_right → Mr, mem_cons_self → Mw, length_drop → NK, length_replicate → Oy, getElem?_eq_none → MG, append_assoc → NM, mem_cons → MH, getElem_set_self → NN, map_cons → MP, append_nil → MR, range' → Ln, pairwise_cons → Og, all_eq_true → Nw, replicate → LH, take_of_length_le → Oz, range → LV, flatten_cons → OA, mem_map → M5, getElem_of_mem → Nx, length_map → N2, drop_zero → Ny, eq_nil_of_length_eq_zero → N3, pairwise_append → Oh, pairwise_iff_getElem → OB, flatten_append → OD, drop_of_length_le → OE, singleton_append → OG, map_append → NP, take_append_drop → NQ, nodup_cons → N5, getD_cons_succ → OH, map_map → N6, take_set_of_le → NS, getElem?_drop → N8, ext_getElem → OI, reverse_cons → OJ, getD_cons_zero → OK, drop_set_of_lt → NT, set_eq_take_append_cons_drop → OL, take_succ_eq_append_getElem → NU, mem_reverse → OM, pairwise_reverse → ON, mem_or_eq_of_mem_set → OO, pairwise_map → OP, reverse_append → OQ, map_reverse → OR, not_of_lt_findIdx → OS, findIdx_le_length → OT, findIdx_cons → OU, findIdx_getElem → OV, take_succ_cons → Na, mem_flatten → OW, mem_append_left → OX, getD_nil → Li, set_cons_succ → Lo, length_erase_of_mem → Lr, pairwise_singleton → Lu, length_pos_of_mem → Lz, drop_append → LD, perm_middle → LF, mem_append_right → OY, mem_iff_getElem → LM, mem_erase_of_ne → LN, range_succ → LO, replicate_succ → LS, map → LY, append_of_mem → L5, filter_append → L7, getElem_take → Ma, any_eq_true → Mg, filter_cons → Mi, filter_nil → Mm, set_append_right → Mt, perm_append_comm → Mu, eq_nil_or_concat → Mv, mergeSort_perm → ME, perm_iff_count → MF, tail → MM, map_id → MT, getElem_zip → MW, getElem_map → MX, getElem_set → MY
open Bool renaming and_eq_true → Nc, or_eq_true → Ol, true_and → Nf, false_and → Ms
open Nat renaming le_refl → Ng, lt_or_ge → Nh, zero_add → Ni, le_of_not_lt → Oa, lt_of_lt_of_le → Nj, zero_le → NF, le_trans → Ob, add_zero → NG, lt_of_not_le → On, le_antisymm → OZ, sub_self → O0, lt_trichotomy → O3, strongRecOn → Ll, add_right_cancel_iff → Mh, lt_succ_self → MZ
open Int renaming toNat_natCast → O4, le_refl → O5, not_lt → Mc, lt_iff_le_and_ne → MA
open Classical renaming byContradiction → O6
open Prod renaming swap → O7, fst → LW, swap_swap → LX, ext → Mj, snd → Mz
section
/- Rules for loops over data: a loop that looks at all, a loop that folds. -/
namespace Go.Am.Pu
open Go.Am
theorem w64{n:Int}(h1: -9223372036854775808≤n)(h2:n≤9223372036854775807):IntKind.i64.wrap n=n:=Go.Am.w64 h1 h2
theorem mQ{R:Type}(L:Nat→Nat→Option R)(n:Nat)(p:Nat→Bool)(bad GI:Option R)
  (hs: ∀j i,i<n→L (j+1) i=if p i=true then L j (i+1)else bad) (he: ∀j,L (j+1) n=GI):
  ∀(m j i:Nat),i+m=n→m<j→L j i=if(Ln i m).all p=true then GI else bad
 |m,0,i,_,h=>by omega
 |0,j+1,i,h,_=>by
  have:i=n:=by omega
  subst this
  rw[he];rfl
 |m+1,j+1,i,h,hj=>by
  rw[hs j i (by omega),mQ L n p bad GI hs he m j (i+1) (by omega) (by omega),List.range'_succ,List.all_cons]
  cases p i
  ·rw[if_neg (by simp),Ms,if_neg (by simp)]
  ·rw[if_pos rfl,Nf]
theorem dM{p:Nat→Bool}{n:Nat}:(Ln 0 n).all p=true↔ ∀i,i<n→p i=true:=by
 simp[Nw,List.mem_range'_1]
theorem an{α:Type}{xs:List α}{i:Nat}(h:i<xs.length)(d:α):xs.getD i d=xs[i]:=by
 simp only[Mk,List.getElem?_eq_getElem h,Option.getD_some]
theorem bL{α:Type}{xs:List α}{i:Nat}(h:xs.length≤i)(d:α):xs.getD i d=d:=by
 simp only[Mk,MG h,Option.getD_none]
theorem drop_cons{α:Type}{xs:List α}{i:Nat}(h:i<xs.length)(d:α):xs.drop i=xs.getD i d::xs.drop (i+1):=by
 rw[an h,List.drop_eq_getElem_cons h]
theorem take_succ{α:Type}{xs:List α}{i:Nat}(h:i<xs.length)(d:α):xs.take (i+1)=xs.take i++ [xs.getD i d]:=by
 rw[an h,NU h]
theorem Fe{α:Type}{xs:List α}{i:Nat}(h:i<xs.length)(d z:α):(xs.take i++LH (xs.length-i) z).set i (xs.getD i d)=xs.take (i+1)++LH (xs.length-(i+1)) z:=by
 have e:xs.length-i=xs.length-(i+1)+1:=by omega
 rw[take_succ h d,e,LS,Mt _ _ (by simp;omega)]
 simp[Nat.min_eq_left (Nat.le_of_lt h)]
end Go.Am.Pu
end
section
/- Marking memory and looking whether the marks are held. -/
namespace Go.Am.Pu
def held:List Int→Int→Int
 | [],q=>q
 |x::xs,q=>if x=q then held xs (q+1)else-1
def kX:List (List Int)→Nat
 | []=>0
 |x::xs=>x.length+kX xs
theorem xz: ∀(xs:List (List Int)) (n:Nat),(∀x∈xs,x.length≤n)→kX xs≤xs.length*n
 | [],n,_=>by simp[kX]
 |x::xs,n,h=>by
  have h1:=h x (by simp)
  have h2:=xz xs n fun y hy=>h y (by simp[hy])
  simp only[kX,Nr,Nat.succ_mul]
  omega
theorem za{xs:List (List Int)}(h:xs.length≤1048576)(hr: ∀x∈xs,x.length≤1048576):kX xs≤1099511627776:=by
 have h1:=xz xs 1048576 hr
 have h2:xs.length*1048576≤1048576*1048576:=Nat.mul_le_mul_right _ h
 omega
end Go.Am.Pu
end
section
/- Partitions, shapes and tableaux as plain words. -/
namespace Go.Am.Pu
def within(x lo hi:Int):Bool:=decide (lo≤x)&&decide (x≤hi)
def atI(p:List Int)(i:Int):Int:=if i<0 then 0 else p.getD i.toNat 0
theorem cG(p:List Int)(i:Nat):atI p (i:Int)=p.getD i 0:=by simp[atI];omega
theorem od{p:List Int}{i:Int}(h:i<0):atI p i=0:=by simp[atI,h]
theorem Ds{p:List Int}{i:Int}(h:(p.length:Int)≤i):atI p i=0:=by
 unfold atI
 split
 ·rfl
 ·exact bL (by omega) 0
def g9:List Int→Int→Int→Bool
 | [],_,_=>true
 |x::xs,prev,s=>decide (1≤x)&&(decide (x≤prev)&&(decide (s+x≤9)&&g9 xs x (s+x)))
def bK(p:List Int):Bool:=g9 p 9 0
def dD:List Int→Int
 | []=>0
 |x::xs=>x+dD xs
theorem vl: ∀(p:List Int) (prev s:Int),g9 p prev s=true→(∀x∈p,1≤x∧x≤prev)∧(p≠ []→s+dD p≤9)∧(p.length:Int)≤dD p
 | [],prev,s,_=>⟨fun x h=>(by cases h),fun h=>absurd rfl h,(by simp[dD])⟩
 |x::xs,prev,s,h=>by
  simp only[g9,Nc,decide_eq_true_eq]at h
  obtain⟨h1,h2,h3,h4⟩:=h
  obtain⟨k1,k2,k3⟩:=vl xs x (s+x) h4
  refine⟨fun y hy=> ?_,fun _=> ?_,?_⟩
  ·rcases MH.1 hy with rfl|hy
   ·exact⟨h1,h2⟩
   ·have:=k1 y hy;omega
  ·simp only[dD]
   by_cases e:xs= []
   ·subst e;simp[dD];omega
   ·have:=k2 e;omega
  ·simp only[dD,Nr];omega
theorem ba{p:List Int}(h:bK p=true):(∀x∈p,1≤x∧x≤9)∧dD p≤9∧p.length≤9∧(p.length:Int)≤dD p:=by
 obtain⟨h1,h2,h3⟩:=vl p 9 0 h
 have:dD p≤9:=by
  by_cases e:p= []
  ·subst e;simp[dD]
  ·have:=h2 e;omega
 exact⟨h1,this,by omega,h3⟩
theorem dR{p:List Int}(h:bK p=true)(i:Int):0≤atI p i∧atI p i≤9:=by
 unfold atI
 split
 ·omega
 ·by_cases hl:i.toNat<p.length
  ·rw[an hl]
   have:=(ba h).1 _ (Ns hl)
   omega
  ·rw[bL (by omega)];omega
def cN(q p:List Int):Bool:=bK q&&(bK p&&(decide (q.length≤p.length)&&(Ln 0 q.length).all fun i=>decide (q.getD i 0≤p.getD i 0)))
theorem C8{q p:List Int}(hq:bK q=true)(h:(Ln 0 q.length).all (fun i=>decide (q.getD i 0≤p.getD i 0))=true):q.length≤p.length:=by
 rw[dM]at h
 refine Oa fun hlt=> ?_
 have h1:=h p.length hlt
 rw[decide_eq_true_eq,bL (Ng _),an hlt]at h1
 have:=(ba hq).1 _ (Ns hlt)
 omega
theorem oc{q p:List Int}:cN q p=(bK q&&(bK p&&(Ln 0 q.length).all fun i=>decide (q.getD i 0≤p.getD i 0))):=by
 unfold cN
 cases hq:bK q with
 |false=>rfl
 |true=>
  cases hp:bK p with
  |false=>rfl
  |true=>
   simp only[Nf]
   cases ha:(Ln 0 q.length).all fun i=>decide (q.getD i 0≤p.getD i 0)with
   |false=>simp
   |true=>simp[C8 hq ha]
def gB(inner:List Int):Nat→List (List Int)→List Int
 |_,[]=> []
 |i,r::rs=>(inner.getD i 0+r.length)::gB inner (i+1) rs
theorem kV(inner:List Int): ∀(rs:List (List Int)) (i:Nat),(gB inner i rs).length=rs.length
 | [],_=>rfl
 |_::rs,i=>by simp[gB,kV inner rs]
theorem fV(inner:List Int): ∀(rs:List (List Int)) (i q:Nat),q<rs.length→(gB inner i rs).getD q 0=inner.getD (i+q) 0+(rs.getD q []).length
 | [],i,q,h=>by simp at h
 |r::rs,i,0,_=>by simp[gB]
 |r::rs,i,q+1,h=>by
  have:=fV inner rs (i+1) q (by simpa using h)
  simp only[gB,OH]
  rw[this]
  have e:i+1+q=i+(q+1):=by omega
  rw[e]
abbrev Tab:=List Int×List (List Int)
def outer(t:Tab):List Int:=gB t.1 0 t.2
def dU(t:Tab):Bool:=bK t.1&&(decide (t.1.length≤t.2.length)&&cN t.1 (outer t))
def shapeOf(t:Tab):(List Int×List Int)×Bool:=if dU t=true then((outer t,t.1),true)else(([],[]),false)
theorem BP{t:Tab}(h:dU t=true):t.2.length≤9:=by
 simp only[dU,cN,Nc]at h
 have:=(ba h.2.2.2.1).2.2.1
 rw[outer,kV]at this
 exact this
def entry(t:Tab)(r c:Int):Int:=if r<0 then 0 else if(t.2.length:Int)≤r then 0 else atI (t.2.getD r.toNat []) (c-atI t.1 r)
theorem ke{t:Tab}{r:Nat}(h:r<t.2.length)(c:Int):entry t r c=atI (t.2.getD r []) (c-t.1.getD r 0):=by
 unfold entry
 rw[if_neg (by omega),if_neg (by omega),cG]
 rfl
theorem EB{t:Tab}{r c:Int}(h:r<0):entry t r c=0:=by unfold entry;rw[if_pos h]
theorem A6{t:Tab}{r q:Nat}(h:r<t.2.length):entry t r (t.1.getD r 0+q)=(t.2.getD r []).getD q 0:=by
 rw[ke h]
 have e:t.1.getD r 0+(q:Int)-t.1.getD r 0=q:=by omega
 rw[e,cG]
theorem DE{t:Tab}{r q:Nat}(h:r<t.2.length):entry t r (t.1.getD r 0+q-1)=if q=0 then 0 else(t.2.getD r []).getD (q-1) 0:=by
 rw[ke h]
 by_cases e:q=0
 ·subst e
  rw[if_pos rfl,od (by omega)]
 ·rw[if_neg e]
  have e:t.1.getD r 0+(q:Int)-1-t.1.getD r 0=((q-1:Nat):Int):=by omega
  rw[e,cG]
def gL(t:Tab)(i k:Nat):Bool:=within ((t.2.getD i []).getD k 0) 1 9&&((decide (k=0)||decide ((t.2.getD i []).getD (k-1) 0≤(t.2.getD i []).getD k 0))&&
 (decide (i=0)||decide (entry t ((i:Int)-1) (t.1.getD i 0+k)<(t.2.getD i []).getD k 0)))
def eH(t:Tab):Bool:=dU t&&(Ln 0 t.2.length).all fun i=>(Ln 0 (t.2.getD i []).length).all fun k=>gL t i k
def bj(t:Tab):Bool:=eH t&&decide (t.1.length=0)
theorem lb{t:Tab}(h:eH t=true):dU t=true:=by
 simp only[eH,Nc]at h;exact h.1
theorem qV(inner:List Int): ∀(rs:List (List Int)) (i:Nat),(∀q,i≤q→inner.getD q 0=0)→dD (gB inner i rs)=rs.flatten.length
 | [],i,_=>rfl
 |r::rs,i,h=>by
  simp only[gB,dD,OA,Mb]
  rw[qV inner rs (i+1) (fun q hq=>h q (by omega)),h i (Ng _)]
  omega
theorem iu{t:Tab}(h:bj t=true):t.2.flatten.length≤9:=by
 simp only[bj,Nc,decide_eq_true_eq]at h
 have hs:=lb h.1
 simp only[dU,cN,Nc]at hs
 have h9:=(ba hs.2.2.2.1).2.1
 have:t.1= []:=N3 h.2
 rw[outer,qV t.1 t.2 0 (fun q _=>by rw[this];rfl)]at h9
 omega
def aS:List (List Int)→Int→List (List Int)×Nat
 | [],x=>([[x]],0)
 |r::rs,x=>if r.findIdx (fun n=>decide (x<n))<r.length
   then(r.set (r.findIdx fun n=>decide (x<n)) x::(aS rs (r.getD (r.findIdx fun n=>decide (x<n)) 0)).1,(aS rs (r.getD (r.findIdx fun n=>decide (x<n)) 0)).2+1)
   else((r++ [x])::rs,0)
def lT(t:Tab):Prop:=t.1.length≤1048576∧t.2.length≤1048576∧ ∀x∈t.2,x.length≤1048576
theorem lT.nil:lT ([],[]):=⟨by simp,by simp,fun x h=>by cases h⟩
theorem s9: ∀{rs:List (List Int)} {r:List Int},r∈rs→r.length≤rs.flatten.length
 |q::rs,r,h=>by
  simp only[OA,Mb]
  rcases MH.1 h with rfl|h
  ·omega
  ·have:=s9 h;omega
theorem findIdx_le{p:Int→Bool}{r:List Int}{i:Nat}(hlt:i<r.length)(h:p (r.getD i 0)=true):r.findIdx p≤i:=
 Oa fun h'=>by
  have:=OS h'
  rw[an hlt]at h
  rw[h]at this;cases this
theorem sG{p:Int→Bool}{r:List Int}(h:r.findIdx p<r.length):p (r.getD (r.findIdx p) 0)=true:=by
 rw[an h];exact OV
theorem ze{α:Type}{xs:List α}{i:Nat}(h:i<xs.length)(x:α):xs.set i x=xs.take i++x::xs.drop (i+1):=by
 rw[OL,if_pos h]
theorem rU{α:Type}{xs:List α}{i:Nat}(h:i<xs.length)(x:α):(xs.set i x).take (i+1)=xs.take i++ [x]:=by
 have h':i<(xs.set i x).length:=by rw[Ml];exact h
 rw[take_succ h' x,NS (Ng _),an h',NN]
theorem rP{α:Type}{xs:List α}{i:Nat}(x:α):(xs.set i x).drop (i+1)=xs.drop (i+1):=by
 rw[NT (by omega)]
end Go.Am.Pu
end
section
/- Standard tableaux, weights, descents: plain words. -/
namespace Go.Am.Pu
theorem tv{α R:Type}(r:List α)(d:α)(p:α→Bool)(L:Nat→Nat→Option R)(hit:Nat→Option R)(miss:Option R)
  (hs: ∀j i,i<r.length→L (j+1) i=if p (r.getD i d)=true then hit i else L j (i+1)) (he: ∀j,L (j+1) r.length=miss):
  ∀(m j i:Nat),i+m=r.length→m<j→i≤r.findIdx p→L j i=if r.findIdx p<r.length then hit (r.findIdx p)else miss
 |m,0,i,_,hj,_=>by omega
 |0,j+1,i,hm,_,hi=>by
  have e:i=r.length:=by omega
  rw[if_neg (by omega),e,he]
 |m+1,j+1,i,hm,hj,hi=>by
  have hlt:i<r.length:=by omega
  rw[hs j i hlt]
  by_cases c:p (r.getD i d)=true
  ·have e:r.findIdx p=i:=OZ (Oa fun h'=>by
    have:=OS h'
    rw[an hlt]at c
    rw[c]at this;cases this) hi
   rw[if_pos c,e,if_pos hlt]
  ·rw[if_neg c]
   refine tv r d p L hit miss hs he m j (i+1) (by omega) (by omega) ?_
   refine Nat.succ_le_of_lt (Nat.lt_of_le_of_ne hi fun e=>c ?_)
   have hlt':r.findIdx p<r.length:=by omega
   have:=OV (p:=p) (xs:=r) (w:=hlt')
   rw[←an hlt' d,←e]at this
   exact this
def yW{α:Type}(p:α→Bool)(r:List α):Int:=if r.findIdx p<r.length then(r.findIdx p:Int)else-1
theorem wG{α:Type}(p:α→Bool)(r:List α):decide (0≤yW p r)=r.any p:=by
 unfold yW
 by_cases h:r.findIdx p<r.length
 ·rw[if_pos h,Mg.2 ⟨_,Ns h,OV⟩]
  simp
 ·rw[if_neg h]
  have:r.any p=false:=by
   rw[List.any_eq_false]
   intro x hx hp
   exact h (List.findIdx_lt_length_of_exists ⟨x,hx,hp⟩)
  rw[this];rfl
def has(l:List Int)(x:Int):Bool:=l.any fun y=>decide (x=y)
theorem pF{l:List Int}{x:Int}:has l x=true↔x∈l:=by
 simp[has,Mg]
def kH(l:List Int):Bool:=(Ln 0 l.length).all fun i=>has l ((i:Int)+1)
theorem wx: ∀(R l:List Int),R.Nodup→(∀x∈R,x∈l)→R.length≤l.length
 | [],l,_,_=>by simp
 |x::R,l,hn,h=>by
  rw[N5]at hn
  have hx:=h x (by simp)
  have:=wx R (l.erase x) hn.2 fun y hy=>(LN fun(e:y=x)=>hn.1 (e▸hy)).2 (h y (by simp[hy]))
  rw[Lr hx]at this
  have:0<l.length:=Lz hx
  simp only[Nr]
  omega
def ou(n:Nat):List Int:=(LV n).map fun(i:Nat)=>(i:Int)+1
theorem j2{n:Nat}{x:Int}:x∈ou n↔1≤x∧x≤n:=by
 simp only[ou,M5,List.mem_range]
 constructor
 ·rintro⟨i,h,rfl⟩;omega
 ·rintro⟨h1,h2⟩;exact⟨(x-1).toNat,by omega,by omega⟩
theorem xb(n:Nat):(ou n).Nodup:=by
 unfold ou
 refine List.Pairwise.map _ (fun(a b:Nat) (h:a≠b)=> ?_) List.nodup_range
 intro e
 exact h (by omega)
theorem o6(n:Nat):(ou n).length=n:=by simp[ou]
theorem mC{l:List Int}:kH l=true↔ ∀x∈ou l.length,x∈l:=by
 unfold kH
 rw[dM]
 constructor
 ·intro h x hx
  rw[j2]at hx
  have:=h (x-1).toNat (by omega)
  rw[pF]at this
  have e:(((x-1).toNat:Nat):Int)+1=x:=by omega
  rw[e]at this;exact this
 ·intro h i hi
  rw[pF]
  exact h _ (j2.2 (by omega))
theorem sB{l:List Int}(h1: ∀x∈l,1≤x):kH l=true↔l.Nodup∧ ∀x∈l,x≤l.length:=by
 rw[mC]
 constructor
 ·intro h
  refine⟨?_,fun x hx=> ?_⟩
  ·
   refine O6 fun hn=> ?_
   have: ∃x,x∈l∧x∈l.erase x:=by
    have key: ∀l:List Int,¬l.Nodup→ ∃x,x∈l∧x∈l.erase x:=by
     intro l
     induction l with
     |nil=>intro h;exact absurd List.nodup_nil h
     |cons a l ih=>
      intro h
      by_cases ha:a∈l
      ·exact⟨a,by simp,by simpa using ha⟩
      ·have: ¬l.Nodup:=fun hl=>h (N5.2 ⟨ha,hl⟩)
       obtain⟨x,h1,h2⟩:=ih this
       refine⟨x,by simp[h1],?_⟩
       have hne:a≠x:=fun e=>ha (e▸h1)
       rw[List.erase_cons_tail (by simpa using hne)]
       exact Mo _ h2
    exact key l hn
   obtain⟨x,hx,hx2⟩:=this
   have:=wx (ou l.length) (l.erase x) (xb _) fun y hy=>by
    by_cases e:y=x
    ·rw[e];exact hx2
    ·exact(LN e).2 (h y hy)
   rw[o6,Lr hx]at this
   have:0<l.length:=Lz hx
   omega
  ·refine Mc.1 fun hlt=> ?_
   have:=wx (ou l.length) (l.erase x) (xb _) fun y hy=>by
    have hy':=j2.1 hy
    exact(LN (by omega)).2 (h y hy)
   rw[o6,Lr hx]at this
   have:0<l.length:=Lz hx
   omega
 ·rintro⟨hn,hb⟩ x hx
  refine O6 fun hxl=> ?_
  have:=wx (x::l) (ou l.length) (N5.2 ⟨hxl,hn⟩) fun y hy=>by
   rcases MH.1 hy with rfl|hy
   ·exact hx
   ·exact j2.2 ⟨h1 y hy,hb y hy⟩
  rw[o6,Nr]at this
  omega
def nh(n:Int):List Int→List Int→Bool
 |_,[]=>true
 |seen,x::xs=>decide (x≤n)&&(!has seen x&&nh n (seen++ [x]) xs)
theorem vn(n:Int): ∀(xs seen:List Int),nh n seen xs=true↔(∀x∈xs,x≤n)∧xs.Nodup∧ ∀x∈xs,x∉seen
 | [],seen=>by simp[nh]
 |x::xs,seen=>by
  simp only[nh,Nc,decide_eq_true_eq,vn n xs,Bool.not_eq_true',N5]
  have hh:has seen x=false↔x∉seen:=by rw[←pF];simp
  rw[hh]
  constructor
  ·rintro⟨h1,h2,h3,h4,h5⟩
   refine⟨fun y hy=> ?_,⟨fun hx=>h5 x hx (by simp),h4⟩,fun y hy=> ?_⟩
   ·rcases MH.1 hy with rfl|hy
    ·exact h1
    ·exact h3 y hy
   ·rcases MH.1 hy with rfl|hy
    ·exact h2
    ·exact fun h=>h5 y hy (by simp[h])
  ·rintro⟨h1,⟨h2,h3⟩,h4⟩
   refine⟨h1 x (by simp),h4 x (by simp),fun y hy=>h1 y (by simp[hy]),h3,fun y hy h=> ?_⟩
   rcases Md.1 h with h|h
   ·exact h4 y (by simp[hy]) h
   ·simp only[Nt]at h;exact h2 (h▸hy)
theorem CU{l:List Int}(h1: ∀x∈l,1≤x):nh l.length [] l=kH l:=by
 have a:=vn l.length l []
 have b:=sB h1
 cases h:nh l.length [] l with
 |true=>
  have:=a.1 h
  exact(b.2 ⟨this.2.1,this.1⟩).symm
 |false=>
  cases h':kH l with
  |false=>rfl
  |true=>
   have:=b.1 h'
   rw[a.2 ⟨this.2,this.1,fun _ _ h=>by cases h⟩]at h
   cases h
theorem vE{t:Tab}(h:eH t=true): ∀x∈t.2.flatten,1≤x∧x≤9:=by
 intro x hx
 simp only[eH,Nc]at h
 obtain⟨r,hr,hxr⟩:=OW.1 hx
 obtain⟨i,hi,e⟩:=LM.1 hr
 obtain⟨q,hq,e2⟩:=LM.1 hxr
 have h1:=dM.1 h.2 i hi
 rw[an hi,e]at h1
 have h2:=dM.1 h1 q hq
 simp only[gL,within,Nc,decide_eq_true_eq]at h2
 rw[an hi,e,an hq,e2]at h2
 exact h2.1
theorem ui(inner:List Int)(h: ∀q,0≤inner.getD q 0): ∀(rs:List (List Int)) (i:Nat),(rs.flatten.length:Int)≤dD (gB inner i rs)
 | [],i=>by simp[gB,dD]
 |r::rs,i=>by
  have:=ui inner h rs (i+1)
  have:=h i
  simp only[gB,dD,OA,Mb]
  omega
theorem yc{t:Tab}(h:eH t=true):t.2.flatten.length≤9:=by
 have hs:=lb h
 simp only[dU,cN,Nc]at hs
 have h9:=(ba hs.2.2.2.1).2.1
 have:=ui t.1 (fun q=>by
  have:=(dR hs.1 q).1
  rw[cG]at this;exact this) t.2 0
 unfold outer at h9
 omega
def gh(t:Tab):Bool:=eH t&&kH t.2.flatten
def rowOf(t:Tab)(n:Int):Int:=yW (fun r=>has r n) t.2
theorem vH: ∀(w:List Int),(∀x∈w,0≤x)→0≤dD w
 | [],_=>by simp[dD]
 |x::xs,h=>by
  have:=vH xs fun y hy=>h y (by simp[hy])
  have:=h x (by simp)
  simp only[dD];omega
theorem uY(w:List Int)(h: ∀x∈w,0≤x)(i:Nat):0≤dD (w.take i)∧dD (w.take i)≤dD w:=by
 induction w generalizing i with
 |nil=>simp[dD]
 |cons x xs ih=>
  have hx:=h x (by simp)
  have h': ∀y∈xs,0≤y:=fun y hy=>h y (by simp[hy])
  cases i with
  |zero=>simp only[List.take_zero,dD];have:=vH xs h';omega
  |succ i=>
   simp only[Na,dD]
   have:=ih h' i
   omega
theorem Bm(a b:List Int):dD (a++b)=dD a+dD b:=by
 induction a with
 |nil=>simp[dD]
 |cons x a ih=>simp only[Mp,dD,ih];omega
end Go.Am.Pu
end
section
/- Plain laws of draws, and of boxes. -/
namespace Go.Am.Pu
open Go Go.Am
attribute [local instance] D.real
theorem Aw(a:Int):0≤D.andI .i64 a 255∧D.andI .i64 a 255≤255:=by
 have h:(BitVec.ofInt 64 a&&&BitVec.ofInt 64 255).toNat≤255:=by
  rw[BitVec.toNat_and]
  exact Ob Nat.and_le_right (by decide)
 have e:D.andI .i64 a 255=(((BitVec.ofInt 64 a&&&BitVec.ofInt 64 255).toNat:Nat):Int):=by
  show IntKind.i64.wrap (((BitVec.ofInt 64 a&&&BitVec.ofInt 64 255).toNat:Nat):Int)=_
  rw[w64 (by omega) (by omega)]
 rw[e]
 omega
theorem Az{α:Type}(a b:Int)(x y:Option α):D.test (D.lt a b) x y=if a<b then x else y:=by
 show(if decide (a<b)=true then x else y)=_
 simp only[decide_eq_true_eq]
def Al:Nat→Nat
 |0=>1
 |n+1=>2^n
def CK(n:Nat):Nat→Nat
 |0=>0
 |p+1=>Al (n-(p+1))+CK n p
theorem Hy{n p:Nat}(hn:n≤9)(h1:1≤n)(hp:p≤n):CK n p≤Al n:=by
 have key: ∀n<10,∀p<10,1≤n→p≤n→CK n p≤Al n:=by decide
 exact key n (by omega) p (by omega) h1 hp
theorem Ew{n:Nat}(hn:n≤9):Al n≤256:=by
 have key: ∀n<10,Al n≤256:=by decide
 exact key n (by omega)
def oL(n:Nat)(x:List Int):Prop:=x.length≤n∧ ∀y∈x,1≤y∧y≤9
def jR (p : List Int) (r : Int) : List Int × Bool :=
  if bK p = true ∧ 0 ≤ r ∧ r ≤ p.length then
    (let q := if r = p.length then p ++ [0] else p
     let o := q.set r.toNat (q.getD r.toNat 0 + 1)
     if bK o = true then (o, true) else ([], false))
  else ([], false)
end Go.Am.Pu
end
section
/- Steps over equations: what a word comes to, told by what must hold of it. -/
namespace Go.Am.Pu
open Go Go.Am
attribute [local instance] D.real
section
variable {α β : Type}
def Ok(x:Option α)(Q:α→Prop):Prop:= ∃y,x=some y∧Q y
theorem Ok.ret{y:α}{Q:α→Prop}(h:Q y):Ok (some y) Q:=⟨y,rfl,h⟩
theorem Ok.mono{x:Option α}{P Q:α→Prop}(h:Ok x P)(g: ∀y,P y→Q y):Ok x Q:=
 let⟨y,e,hp⟩:=h
 ⟨y,e,g y hp⟩
theorem Ok.bnd{x:Option α}{f:α→Option β}{P:α→Prop}{Q:β→Prop}(h:Ok x P)(g: ∀y,P y→Ok (f y) Q):Ok (D.bnd x f) Q:=by
 obtain⟨y,e,hp⟩:=h
 rw[e]
 exact g y hp
theorem Ok.iM{x:Option α}{y:α}{f:α→Option β}{Q:β→Prop}(h:x=some y)(g:Ok (f y) Q):Ok (D.bnd x f) Q:=by
 rw[h]
 exact g
theorem Ok.t{p:Prop} [Decidable p]{x y:Option α}{Q:α→Prop}(h1:p→Ok x Q)(h2: ¬p→Ok y Q):Ok (D.test (decide p) x y) Q:=by
 show Ok (if decide p=true then x else y) Q
 by_cases h:p
 ·rw[if_pos (decide_eq_true h)];exact h1 h
 ·rw[if_neg (by rw[decide_eq_false h];simp)];exact h2 h
theorem Ok.tb{b:Bool}{x y:Option α}{Q:α→Prop}(h1:b=true→Ok x Q)(h2:b=false→Ok y Q):Ok (D.test b x y) Q:=by
 cases b
 ·exact h2 rfl
 ·exact h1 rfl
theorem Ok.tn{b:Bool}{x y:Option α}{Q:α→Prop}(h1:b=false→Ok x Q)(h2:b=true→Ok y Q):Ok (D.test (!b) x y) Q:=by
 cases b
 ·exact h1 rfl
 ·exact h2 rfl
theorem Ok.g{p:Prop} [Decidable p]{x y:Option α}{Q:α→Prop}(h:p)(g:Ok x Q):Ok (D.test (decide p) x y) Q:=Ok.t (fun _=>g) (fun h'=>absurd h h')
theorem Ok.no{p:Prop} [Decidable p]{x y:Option α}{Q:α→Prop}(h: ¬p)(g:Ok y Q):Ok (D.test (decide p) x y) Q:=Ok.t (fun h'=>absurd h' h) (fun _=>g)
theorem Ok.some{x:Option α}{Q:α→Prop}(h:Ok x Q): ∃y,x=Option.some y:=let⟨y,e,_⟩:=h;⟨y,e⟩
end
def dG(n m:Nat)(rs:List (List Int)):Prop:=rs.length≤n∧ ∀r∈rs,r.length≤m
theorem dG.at{n m:Nat}{rs:List (List Int)}(h:dG n m rs)(i:Nat):(rs.getD i []).length≤m:=by
 by_cases hi:i<rs.length
 ·rw[an hi];exact h.2 _ (Ns hi)
 ·rw[bL (by omega)];simp
theorem dG.set{n m:Nat}{rs:List (List Int)}(h:dG n m rs)(i:Nat){r:List Int}(hr:r.length≤m):dG n m (rs.set i r):=by
 refine⟨by rw[Ml];exact h.1,fun x hx=> ?_⟩
 rcases OO hx with h'|rfl
 ·exact h.2 x h'
 ·exact hr
theorem dG.mono{n m n' m':Nat}{rs:List (List Int)}(h:dG n m rs)(hn:n≤n')(hm:m≤m'):dG n' m' rs:=
 ⟨Ob h.1 hn,fun x hx=>Ob (h.2 x hx) hm⟩
theorem dG.app{n m:Nat}{rs:List (List Int)}(h:dG n m rs){r:List Int}(hr:r.length≤m):dG (n+1) m (rs++ [r]):=by
 refine⟨by rw[Mb];simp;exact h.1,fun x hx=> ?_⟩
 rcases Md.1 hx with h'|h'
 ·exact h.2 x h'
 ·simp only[Nt]at h';subst h';exact hr
theorem CV(p:List Int)(r:Int):(jR p r).1.length≤p.length+1:=by
 unfold jR
 split
 ·simp only
  generalize hq:(if r=(p.length:Int)then p++ [0]else p)=q
  have hl:q.length≤p.length+1:=by
   rw[←hq]
   split
   ·simp
   ·omega
  split
  ·rw[Ml];exact hl
  ·simp
 ·simp
end Go.Am.Pu
end
section
/- Corners; a number taken out of rows. Plain words. -/
namespace Go.Am.Pu
def nH(p:List Int):Nat→Nat→List Int
 |0,_=> []
 |m+1,i=>if p.getD (i+1) 0<p.getD i 0 then(i:Int)::nH p m (i+1)else nH p m (i+1)
def nY(p:List Int):List Int:=if bK p=true then nH p p.length 0 else []
theorem xC(p:List Int): ∀(m i:Nat),(nH p m i).length≤m
 |0,_=>by simp[nH]
 |m+1,i=>by
  have:=xC p m (i+1)
  unfold nH
  split<;>simp<;>omega
theorem vg(p:List Int):(nY p).length≤p.length:=by
 unfold nY
 split
 ·exact xC _ _ _
 ·simp
theorem uj: ∀{p:List Int} {prev s:Int},g9 p prev s=true→ ∀i,i+1<p.length→p.getD (i+1) 0≤p.getD i 0
 | [],_,_,_,i,h=>by simp at h
 | [x],_,_,_,i,h=>by simp at h
 |x::y::xs,prev,s,hp,i,h=>by
  simp only[g9,Nc,decide_eq_true_eq]at hp
  cases i with
  |zero=>simpa using hp.2.2.2.2.1
  |succ i=>
   have h2:g9 (y::xs) x (s+x)=true:=by
    simp only[g9,Nc,decide_eq_true_eq]
    exact hp.2.2.2
   have:=uj h2 i (by simpa using h)
   simpa using this
def oi(r:List Int)(y:Int):Nat→Option Nat
 |0=>none
 |i+1=>if r.getD i 0<y then some i else oi r y i
theorem vS{r:List Int}{y:Int}: ∀{m q:Nat},oi r y m=some q→q<m∧r.getD q 0<y
 |0,q,h=>by simp[oi]at h
 |m+1,q,h=>by
  unfold oi at h
  split at h
  ·next hc=>injection h with h;subst h;exact⟨by omega,hc⟩
  ·have:=vS h;exact⟨by omega,this.2⟩
theorem zz{r:List Int}{y:Int}: ∀{m i:Nat},i<m→r.getD i 0<y→ ∃q,oi r y m=some q
 |0,i,h,_=>by omega
 |m+1,i,h,hi=>by
  unfold oi
  split
  ·exact⟨_,rfl⟩
  ·next hc=>
   have:i≠m:=fun e=>hc (e▸hi)
   exact zz (by omega) hi
def oX:Nat→List (List Int)→Int→List (List Int)×Int
 |0,rs,y=>(rs,y)
 |r+1,rs,y=>match oi (rs.getD r []) y (rs.getD r []).length with
  |some q=>oX r (rs.set r ((rs.getD r []).set q y)) ((rs.getD r []).getD q 0)
  |none=>oX r rs y
theorem getD_set_ne{α:Type}{xs:List α}{i j:Nat}(h:j≠i)(x d:α):(xs.set j x).getD i d=xs.getD i d:=by
 simp only[Mk,List.getElem?_set]
 rw[if_neg h]
theorem sC{n m:Nat}: ∀(r:Nat) (rs:List (List Int)) (y:Int),dG n m rs→dG n m (oX r rs y).1
 |0,_,_,h=>h
 |r+1,rs,y,h=>by
  unfold oX
  split
  ·exact sC r _ _ (h.set r (by rw[Ml];exact h.at r))
  ·exact sC r rs y h
def nU (rs : List (List Int)) (row : Nat) : List (List Int) × Int :=
  ((if (rs.getD row []).length = 1 then (oX row (rs.set row ((rs.getD row []).take ((rs.getD row []).length - 1))) ((rs.getD row []).getD ((rs.getD row []).length - 1) 0)).1.take row
    else (oX row (rs.set row ((rs.getD row []).take ((rs.getD row []).length - 1))) ((rs.getD row []).getD ((rs.getD row []).length - 1) 0)).1),
   (oX row (rs.set row ((rs.getD row []).take ((rs.getD row []).length - 1))) ((rs.getD row []).getD ((rs.getD row []).length - 1) 0)).2)
theorem Ay{n m:Nat}{rs:List (List Int)}(h:dG n m rs)(row:Nat):dG n m (nU rs row).1:=by
 have h1:=sC row (rs.set row ((rs.getD row []).take ((rs.getD row []).length-1))) ((rs.getD row []).getD ((rs.getD row []).length-1) 0) (h.set row (by rw[NJ];have:=h.at row;omega))
 unfold nU
 simp only
 split
 ·exact⟨by rw[NJ];have:=h1.1;omega,fun x hx=>h1.2 x (List.mem_of_mem_take hx)⟩
 ·exact h1
theorem eB{t:Tab}(h:bj t=true):t.1= []:=by
 simp only[bj,Nc,decide_eq_true_eq]at h
 exact N3 h.2
theorem gG{t:Tab}(h:bj t=true){i:Nat}(hi:i<t.2.length):(outer t).getD i 0=(t.2.getD i []).length:=by
 have e:=fV t.1 t.2 0 i hi
 rw[eB h]at e
 unfold outer
 rw[eB h,e]
 simp
theorem jA{t:Tab}(h:bj t=true):bK (outer t)=true:=by
 simp only[bj,Nc]at h
 have hs:=lb h.1
 simp only[dU,cN,Nc]at hs
 exact hs.2.2.2.1
theorem cd(t:Tab):(outer t).length=t.2.length:=by unfold outer;rw[kV]
theorem gY{t:Tab}(h:bj t=true):dG 9 9 t.2:=by
 have h9:=iu h
 have hl:=(ba (jA h)).2.2.1
 rw[cd]at hl
 exact⟨hl,fun r hr=>by have:=s9 hr;omega⟩
theorem l9{t:Tab}(h:bj t=true): ∀i,i+1<t.2.length→(t.2.getD (i+1) []).length≤(t.2.getD i []).length∧ ∀q,q<(t.2.getD (i+1) []).length→(t.2.getD i []).getD q 0<(t.2.getD (i+1) []).getD q 0:=by
 intro i hi
 have hm:=uj (show g9 (outer t) 9 0=true from jA h) i (by rw[cd];exact hi)
 rw[gG h hi,gG h (by omega)]at hm
 have hl:(t.2.getD (i+1) []).length≤(t.2.getD i []).length:=by omega
 refine⟨hl,fun q hq=> ?_⟩
 have ht:=h
 simp only[bj,Nc]at ht
 have ht:=ht.1
 simp only[eH,Nc]at ht
 have h1:=dM.1 (dM.1 ht.2 (i+1) hi) q hq
 simp only[gL,Nc,Ol,decide_eq_true_eq]at h1
 have h2:=h1.2.2.resolve_left (by omega)
 rw[eB h]at h2
 have e:((i+1:Nat):Int)-1=(i:Int):=by omega
 have e2:([]:List Int).getD (i+1) 0+(q:Int)=([]:List Int).getD i 0+(q:Int):=by simp
 rw[e,e2]at h2
 have ee:entry t (i:Int) (([]:List Int).getD i 0+(q:Int))=(t.2.getD i []).getD q 0:=by
  have:=A6 (t:=t) (r:=i) (q:=q) (by omega)
  rw[eB h]at this
  exact this
 rw[ee]at h2
 exact h2
end Go.Am.Pu
end
section
/- Rows with noughts in front; a box taken from a partition. Plain words. -/
namespace Go.Am.Pu
def vq(a:List (List Int))(i c:Int):Int:=if i<0 then 0 else atI (a.getD i.toNat []) c
theorem qU(a:List (List Int))(i j:Nat):vq a i j=(a.getD i []).getD j 0:=by
 unfold vq
 rw[if_neg (by omega),cG,O4]
theorem Fx{a:List (List Int)}{i c:Int}(h:i<0):vq a i c=0:=by unfold vq;rw[if_pos h]
theorem FI{a:List (List Int)}{i c:Int}(h:(a.length:Int)≤i):vq a i c=0:=by
 unfold vq
 rw[if_neg (by omega),bL (by omega)]
 unfold atI
 split<;>simp
def dv(t:Tab):List (List Int):=(Ln 0 t.2.length).map fun i=>LH (t.1.getD i 0).toNat 0++t.2.getD i []
theorem jQ(t:Tab):(dv t).length=t.2.length:=by simp[dv]
theorem sR{t:Tab}{i:Nat}(h:i<t.2.length):(dv t).getD i []=LH (t.1.getD i 0).toNat 0++t.2.getD i []:=by
 rw[an (by rw[jQ];exact h)]
 simp[dv]
theorem xX(p:List Int): ∀(m i n:Nat),i≤n→n<i+m→p.getD (n+1) 0<p.getD n 0→(n:Int)∈nH p m i
 |0,i,n,h1,h2,_=>by omega
 |m+1,i,n,h1,h2,h3=>by
  unfold nH
  by_cases e:n=i
  ·subst e
   rw[if_pos h3]
   exact Mw
  ·have ih:=xX p m (i+1) n (by omega) (by omega) h3
   split
   ·exact Mo _ ih
   ·exact ih
theorem vV{p:List Int}{n:Nat}(hp:bK p=true)(hn:n<p.length)(h:p.getD (n+1) 0<p.getD n 0):has (nY p) n=true:=by
 rw[pF]
 unfold nY
 rw[if_pos hp]
 exact xX p p.length 0 n (by omega) (by omega) h
def aO(p:List Int)(n:Nat):List Int:=if p.getD n 0-1=0 then p.take n else p.set n (p.getD n 0-1)
theorem jv(p:List Int)(n:Nat):(aO p n).length≤p.length:=by
 unfold aO
 split
 ·rw[NJ];omega
 ·rw[Ml];exact Ng _
end Go.Am.Pu
end
section
/- A slide: the hole goes right or down until nothing is there. Plain words. -/
namespace Go.Am.Pu
def cel(g:List (List Int))(r c:Nat):Int:=(g.getD r []).getD c 0
def fp(g:List (List Int))(r c:Nat)(v:Int):List (List Int):=g.set r ((g.getD r []).set c v)
def cJ:Nat→List (List Int)→Nat→Nat→List (List Int)×(Nat×Nat)
 |0,g,i,c=>(g,(i,c))
 |m+1,g,i,c=>if cel g i (c+1)=0∧cel g (i+1) c=0 then(g,(i,c))
  else if cel g i (c+1)=0∨(0<cel g (i+1) c∧cel g (i+1) c≤cel g i (c+1))then cJ m (fp g i c (cel g (i+1) c)) (i+1) c
  else cJ m (fp g i c (cel g i (c+1))) i (c+1)
theorem ot{g:List (List Int)}{r c:Nat}(h:cel g r c≠0):r<g.length∧c<(g.getD r []).length:=by
 unfold cel at h
 by_cases h1:r<g.length
 ·refine⟨h1,?_⟩
  by_cases h2:c<(g.getD r []).length
  ·exact h2
  ·exact absurd (bL (by omega) 0) h
 ·rw[bL (xs:=g) (by omega)]at h
  simp at h
theorem dQ(g:List (List Int))(r c:Nat)(v:Int):(fp g r c v).length=g.length:=by unfold fp;rw[Ml]
theorem bG(g:List (List Int))(r c:Nat)(v:Int)(q:Nat):((fp g r c v).getD q []).length=(g.getD q []).length:=by
 unfold fp
 by_cases e:q=r
 ·subst e
  by_cases h:q<g.length
  ·rw[an (by rw[Ml];exact h),NN,Ml]
  ·rw[bL (by rw[Ml];omega),bL (by omega)]
 ·rw[getD_set_ne (Ne.symm e)]
theorem j8{g:List (List Int)}{r c:Nat}(v:Int)(h1:r<g.length)(h2:c<(g.getD r []).length):cel (fp g r c v) r c=v:=by
 unfold cel fp
 rw[an (xs:=g.set r _) (by rw[Ml];exact h1),NN,an (by rw[Ml];exact h2),NN]
theorem ja{g:List (List Int)}{r c q x:Nat}(v:Int)(h: ¬(q=r∧x=c)):cel (fp g r c v) q x=cel g q x:=by
 unfold cel fp
 by_cases e:q=r
 ·subst e
  have hx:x≠c:=fun e=>h ⟨rfl,e⟩
  by_cases hl:q<g.length
  ·rw[an (xs:=g.set q _) (by rw[Ml];exact hl),NN,getD_set_ne (Ne.symm hx)]
  ·rw[bL (xs:=g.set q _) (by rw[Ml];omega),bL (xs:=g) (by omega)]
 ·rw[getD_set_ne (Ne.symm e)]
structure Sl (q : List Int) (g : List (List Int)) (i c : Nat) : Prop where
  q0 : ∀ r, 0 ≤ q.getD r 0
  qm : ∀ r, q.getD (r + 1) 0 ≤ q.getD r 0
  lm : ∀ r, (g.getD (r + 1) []).length ≤ (g.getD r []).length
  hi : i < g.length
  hc : c < (g.getD i []).length
  hq : q.getD i 0 ≤ c
  pos : ∀ r x, 0 ≤ cel g r x
  num : ∀ r x : Nat, q.getD r 0 ≤ x → x < (g.getD r []).length → ¬ (r = i ∧ x = c) → 1 ≤ cel g r x ∧ cel g r x ≤ 9
  row : ∀ r x : Nat, q.getD r 0 ≤ x → x + 1 < (g.getD r []).length → ¬ (r = i ∧ x = c) → ¬ (r = i ∧ x + 1 = c) → cel g r x ≤ cel g r (x + 1)
  col : ∀ r x : Nat, q.getD r 0 ≤ x → x < (g.getD (r + 1) []).length → ¬ (r = i ∧ x = c) → ¬ (r + 1 = i ∧ x = c) → cel g r x < cel g (r + 1) x
  yS : ∀ x : Nat, x + 1 = c → q.getD i 0 ≤ x → c + 1 < (g.getD i []).length → cel g i x ≤ cel g i (c + 1)
  colH : ∀ r : Nat, r + 1 = i → q.getD r 0 ≤ c → c < (g.getD (i + 1) []).length → cel g r c < cel g (i + 1) c
theorem Sl.down{q:List Int}{g:List (List Int)}{i c:Nat}(h:Sl q g i c)(hb:cel g (i+1) c≠0)(hr:cel g i (c+1)=0∨(0<cel g (i+1) c∧cel g (i+1) c≤cel g i (c+1))):
  Sl q (fp g i c (cel g (i+1) c)) (i+1) c:=by
 obtain⟨b1,b2⟩:=ot hb
 have hqm:=h.qm i
 have hq:=h.hq
 have hbn:=h.num (i+1) c (by omega) b2 (by omega)
 have e0:=j8 (cel g (i+1) c) h.hi h.hc
 have en: ∀r x,¬(r=i∧x=c)→cel (fp g i c (cel g (i+1) c)) r x=cel g r x:=fun r x hh=>ja _ hh
 refine⟨h.q0,h.qm,fun r=> ?_,?_,?_,by omega,fun r x=> ?_,fun r x h1 h2 h3=> ?_,fun r x h1 h2 h3 h4=> ?_,fun r x h1 h2 h3 h4=> ?_,fun x h1 h2 h3=> ?_,fun r h1 h2 h3=> ?_⟩
 ·rw[bG,bG];exact h.lm r
 ·rw[dQ];exact b1
 ·rw[bG];exact b2
 ·by_cases e:r=i∧x=c
  ·rw[e.1,e.2,e0];exact h.pos _ _
  ·rw[en r x e];exact h.pos _ _
 ·rw[bG]at h2
  by_cases e:r=i∧x=c
  ·rw[e.1,e.2,e0];exact hbn
  ·rw[en r x e];exact h.num r x h1 h2 e
 ·rw[bG]at h2
  by_cases e:r=i∧x=c
  ·obtain⟨rfl,rfl⟩:=e
   rw[e0,en _ _ (by omega)]
   rcases hr with hr|hr
   ·have:=(h.num r (x+1) (by omega) h2 (by omega)).1
    omega
   ·exact hr.2
  ·rw[en r x e]
   by_cases e':r=i∧x+1=c
   ·obtain⟨rfl,rfl⟩:=e'
    rw[e0]
    have hl:=h.lm r
    have h5:=h.col r x h1 (by omega) (by omega) (by omega)
    have h6:=h.row (r+1) x (by omega) (by omega) (by omega) (by omega)
    omega
   ·rw[en r (x+1) e'];exact h.row r x h1 h2 e e'
 ·rw[bG]at h2
  by_cases e:r=i∧x=c
  ·exact(h4 ⟨by omega,e.2⟩).elim
  ·rw[en r x e]
   by_cases e':r+1=i∧x=c
   ·obtain⟨rfl,rfl⟩:=e'
    rw[e0]
    exact h.colH r rfl h1 b2
   ·rw[en (r+1) x e']
    exact h.col r x h1 h2 e e'
 ·rw[bG]at h3
  rw[en _ _ (by omega),en _ _ (by omega)]
  have h5:=h.row (i+1) x h2 (by omega) (by omega) (by omega)
  have h6:=h.row (i+1) c (by omega) h3 (by omega) (by omega)
  subst h1
  omega
 ·rw[bG]at h3
  have:r=i:=by omega
  subst this
  rw[e0,en _ _ (by omega)]
  exact h.col (r+1) c (by omega) h3 (by omega) (by omega)
theorem Sl.right{q:List Int}{g:List (List Int)}{i c:Nat}(h:Sl q g i c)(hr:cel g i (c+1)≠0)(hb: ¬(0<cel g (i+1) c∧cel g (i+1) c≤cel g i (c+1))):
  Sl q (fp g i c (cel g i (c+1))) i (c+1):=by
 obtain⟨b1,b2⟩:=ot hr
 have hq:=h.hq
 have hrn:=h.num i (c+1) (by omega) b2 (by omega)
 have e0:=j8 (cel g i (c+1)) h.hi h.hc
 have en: ∀r x,¬(r=i∧x=c)→cel (fp g i c (cel g i (c+1))) r x=cel g r x:=fun r x hh=>ja _ hh
 refine⟨h.q0,h.qm,fun r=> ?_,?_,?_,by omega,fun r x=> ?_,fun r x h1 h2 h3=> ?_,fun r x h1 h2 h3 h4=> ?_,fun r x h1 h2 h3 h4=> ?_,fun x h1 h2 h3=> ?_,fun r h1 h2 h3=> ?_⟩
 ·rw[bG,bG];exact h.lm r
 ·rw[dQ];exact b1
 ·rw[bG];exact b2
 ·by_cases e:r=i∧x=c
  ·rw[e.1,e.2,e0];exact h.pos _ _
  ·rw[en r x e];exact h.pos _ _
 ·rw[bG]at h2
  by_cases e:r=i∧x=c
  ·rw[e.1,e.2,e0];exact hrn
  ·rw[en r x e];exact h.num r x h1 h2 e
 ·rw[bG]at h2
  by_cases e:r=i∧x=c
  ·exact(h4 ⟨e.1,by omega⟩).elim
  ·rw[en r x e]
   by_cases e':r=i∧x+1=c
   ·obtain⟨rfl,rfl⟩:=e'
    rw[e0]
    exact h.yS x rfl h1 b2
   ·rw[en r (x+1) e'];exact h.row r x h1 h2 e e'
 ·rw[bG]at h2
  by_cases e:r=i∧x=c
  ·obtain⟨rfl,rfl⟩:=e
   rw[e0,en _ _ (by omega)]
   have hqm:=h.qm r
   have h5:=(h.num (r+1) x (by omega) h2 (by omega)).1
   omega
  ·rw[en r x e]
   by_cases e':r+1=i∧x=c
   ·obtain⟨rfl,rfl⟩:=e'
    rw[e0]
    have hl:=h.lm r
    have h5:=h.row r x h1 (by omega) (by omega) (by omega)
    have h6:=h.col r (x+1) (by omega) b2 (by omega) (by omega)
    omega
   ·rw[en (r+1) x e']
    exact h.col r x h1 h2 e e'
 ·rw[bG]at h3
  have:x=c:=by omega
  subst this
  rw[e0,en _ _ (by omega)]
  exact h.row i (x+1) (by omega) h3 (by omega) (by omega)
 ·rw[bG]at h3
  rw[en _ _ (by omega),en _ _ (by omega)]
  subst h1
  have h5:=h.col r (c+1) h2 (by omega) (by omega) (by omega)
  have h6:=h.col (r+1) (c+1) (by omega) h3 (by omega) (by omega)
  omega
end Go.Am.Pu
end
section
/- A slide's end and its start. Plain words. -/
namespace Go.Am.Pu
theorem so{q:List Int}{w:Nat}: ∀(m:Nat) (g:List (List Int)) (i c:Nat),Sl q g i c→(∀r,(g.getD r []).length≤w)→g.length+w≤i+c+m→
  Sl q (cJ m g i c).1 (cJ m g i c).2.1 (cJ m g i c).2.2∧(cJ m g i c).1.length=g.length∧(∀r,((cJ m g i c).1.getD r []).length=(g.getD r []).length)∧
   cel (cJ m g i c).1 (cJ m g i c).2.1 ((cJ m g i c).2.2+1)=0∧cel (cJ m g i c).1 ((cJ m g i c).2.1+1) (cJ m g i c).2.2=0
 |0,g,i,c,h,hw,hm=>by
  have h1:=h.hi
  have h2:=h.hc
  have h3:=hw i
  omega
 |m+1,g,i,c,h,hw,hm=>by
  unfold cJ
  by_cases c1:cel g i (c+1)=0∧cel g (i+1) c=0
  ·rw[if_pos c1]
   exact⟨h,rfl,fun _=>rfl,c1.1,c1.2⟩
  ·rw[if_neg c1]
   by_cases c2:cel g i (c+1)=0∨(0<cel g (i+1) c∧cel g (i+1) c≤cel g i (c+1))
   ·rw[if_pos c2]
    have hd:=h.down (by
     intro e
     rcases c2 with c2|c2
     ·exact c1 ⟨c2,e⟩
     ·omega) c2
    obtain⟨a1,a2,a3,a4,a5⟩:=so (q:=q) (w:=w) m _ _ _ hd (fun r=>by rw[bG];exact hw r) (by rw[dQ];omega)
    exact⟨a1,by rw[a2,dQ],fun r=>by rw[a3,bG],a4,a5⟩
   ·rw[if_neg c2]
    have hd:=h.right (fun e=>c2 (.inl e)) (fun e=>c2 (.inr e))
    obtain⟨a1,a2,a3,a4,a5⟩:=so (q:=q) (w:=w) m _ _ _ hd (fun r=>by rw[bG];exact hw r) (by rw[dQ];omega)
    exact⟨a1,by rw[a2,dQ],fun r=>by rw[a3,bG],a4,a5⟩
theorem Sl.I3{q:List Int}{g:List (List Int)}{i c:Nat}(h:Sl q g i c)(hr:cel g i (c+1)=0):(g.getD i []).length=c+1:=by
 have h1:=h.hc
 have h2:=h.hq
 refine OZ (Oa fun hlt=> ?_) h1
 have:=(h.num i (c+1) (by omega) hlt (by omega)).1
 omega
theorem Sl.II{q:List Int}{g:List (List Int)}{i c:Nat}(h:Sl q g i c)(hb:cel g (i+1) c=0):(g.getD (i+1) []).length≤c:=by
 have h2:=h.hq
 have h3:=h.qm i
 refine Oa fun hlt=> ?_
 have:=(h.num (i+1) c (by omega) hlt (by omega)).1
 omega
theorem gp{p:List Int}(hp:bK p=true)(r:Nat):p.getD (r+1) 0≤p.getD r 0:=by
 by_cases h:r+1<p.length
 ·exact uj hp r h
 ·rw[bL (by omega)]
  have:=(dR hp r).1
  rw[cG]at this
  exact this
theorem lL{p:List Int}{n:Nat}(hp:bK p=true)(hn:n<p.length)(hc:p.getD (n+1) 0<p.getD n 0)(r:Nat):(aO p n).getD r 0=if r=n then p.getD n 0-1 else p.getD r 0:=by
 unfold aO
 by_cases h:p.getD n 0-1=0
 ·rw[if_pos h]
  have h0:=(dR hp (n+1:Nat)).1
  rw[cG]at h0
  have hl:p.length≤n+1:=by
   refine Oa fun hlt=> ?_
   have:=(ba hp).1 _ (Ns hlt)
   rw[←an hlt 0]at this
   omega
  by_cases e:r=n
  ·subst e
   rw[if_pos rfl,h,bL (by rw[NJ];omega)]
  ·rw[if_neg e]
   by_cases e2:r<n
   ·rw[an (by rw[NJ];omega),Ma,an (by omega)]
   ·rw[bL (by rw[NJ];omega),bL (by omega)]
 ·rw[if_neg h]
  by_cases e:r=n
  ·subst e
   rw[if_pos rfl,an (by rw[Ml];exact hn),NN]
  ·rw[if_neg e,getD_set_ne (Ne.symm e)]
theorem qG{t:Tab}{r:Nat}(h:r<t.2.length):((dv t).getD r []).length=(t.1.getD r 0).toNat+(t.2.getD r []).length:=by
 rw[sR h];simp
theorem ug{t:Tab}{r:Nat}(h:r<t.2.length)(x:Nat):cel (dv t) r x=if x<(t.1.getD r 0).toNat then 0 else(t.2.getD r []).getD (x-(t.1.getD r 0).toNat) 0:=by
 unfold cel
 rw[sR h]
 generalize(t.1.getD r 0).toNat=n
 generalize t.2.getD r []=y
 by_cases c:x<n
 ·rw[if_pos c]
  simp only[Mk]
  rw[Mq (by rw[Oy];exact c),List.getElem?_replicate,if_pos c]
  rfl
 ·rw[if_neg c]
  simp only[Mk]
  rw[Mr (by rw[Oy];omega),Oy]
theorem zV{t:Tab}{r:Nat}(h:t.2.length≤r):(dv t).getD r []= []:=bL (by rw[jQ];exact h) []
structure K0 (t : Tab) : Prop where
  q0 : ∀ r, 0 ≤ t.1.getD r 0
  qm : ∀ r, t.1.getD (r + 1) 0 ≤ t.1.getD r 0
  lm : ∀ r, ((dv t).getD (r + 1) []).length ≤ ((dv t).getD r []).length
  num : ∀ r x : Nat, t.1.getD r 0 ≤ x → x < ((dv t).getD r []).length → 1 ≤ cel (dv t) r x ∧ cel (dv t) r x ≤ 9
  row : ∀ r x : Nat, t.1.getD r 0 ≤ x → x + 1 < ((dv t).getD r []).length → cel (dv t) r x ≤ cel (dv t) r (x + 1)
  col : ∀ r x : Nat, t.1.getD r 0 ≤ x → x < ((dv t).getD (r + 1) []).length → cel (dv t) r x < cel (dv t) (r + 1) x
end Go.Am.Pu
end
section
/- A tableau cell by cell; a slide's start. Plain words. -/
namespace Go.Am.Pu
theorem jg{t:Tab}(h:eH t=true):bK t.1=true∧bK (outer t)=true∧t.1.length≤t.2.length∧(∀i k,i<t.2.length→k<(t.2.getD i []).length→gL t i k=true):=by
 simp only[eH,dU,cN,Nc,decide_eq_true_eq]at h
 obtain⟨⟨h1,h2,h3,h4,h5⟩,h6⟩:=h
 refine⟨h1,h4,h2,fun i k hi hk=> ?_⟩
 rw[dM]at h6
 have:=h6 i hi
 rw[dM]at this
 exact this k hk
theorem lq{t:Tab}(h:bK t.1=true)(r:Nat):(((dv t).getD r []).length:Int)=(outer t).getD r 0:=by
 have h0:=(dR h r).1
 rw[cG]at h0
 by_cases hr:r<t.2.length
 ·rw[qG hr]
  have:=fV t.1 t.2 0 r hr
  rw[Ni]at this
  unfold outer
  rw[this]
  omega
 ·rw[zV (by omega),bL (by rw[cd];omega)]
  rfl
theorem rq{t:Tab}{r x:Nat}(h:x<((dv t).getD r []).length):r<t.2.length:=by
 refine On fun hle=> ?_
 rw[zV hle]at h
 simp at h
theorem K4{t:Tab}(h:eH t=true):K0 t:=by
 obtain⟨hp,ho,hl,hc⟩:=jg h
 have q0: ∀r,0≤t.1.getD r 0:=fun r=>by
  have:=(dR hp r).1
  rw[cG]at this
  exact this
 have at_: ∀r x:Nat,t.1.getD r 0≤x→x<((dv t).getD r []).length→ ∃k:Nat,(x:Int)=t.1.getD r 0+k∧k<(t.2.getD r []).length∧cel (dv t) r x=(t.2.getD r []).getD k 0:=by
  intro r x h1 h2
  have hr:=rq h2
  rw[qG hr]at h2
  have:=q0 r
  refine⟨x-(t.1.getD r 0).toNat,by omega,by omega,?_⟩
  rw[ug hr,if_neg (by omega)]
 refine⟨q0,gp hp,fun r=> ?_,fun r x h1 h2=> ?_,fun r x h1 h2=> ?_,fun r x h1 h2=> ?_⟩
 ·have a:=lq hp r
  have b:=lq hp (r+1)
  have c:=gp ho r
  omega
 ·obtain⟨k,e1,e2,e3⟩:=at_ r x h1 h2
  have:=hc r k (rq h2) e2
  simp only[gL,within,Nc,decide_eq_true_eq]at this
  rw[e3]
  exact this.1
 ·obtain⟨k,e1,e2,e3⟩:=at_ r x h1 (by omega)
  obtain⟨k',e1',e2',e3'⟩:=at_ r (x+1) (by omega) h2
  have:k'=k+1:=by omega
  subst this
  have:=hc r (k+1) (rq h2) e2'
  simp only[gL,Nc,Ol,decide_eq_true_eq]at this
  rw[e3,e3']
  rcases this.2.1 with h|h
  ·omega
  ·simpa using h
 ·have hm:=gp hp r
  have a:=lq hp r
  have b:=lq hp (r+1)
  have c:=gp ho r
  obtain⟨k,e1,e2,e3⟩:=at_ r x h1 (by omega)
  obtain⟨k',e1',e2',e3'⟩:=at_ (r+1) x (by omega) h2
  have:=hc (r+1) k' (rq h2) e2'
  simp only[gL,Nc,Ol,decide_eq_true_eq]at this
  rw[e3,e3']
  rcases this.2.2 with h|h
  ·omega
  ·have hr:r<t.2.length:=by have:=rq h2;omega
   have er:((r+1:Nat):Int)-1=(r:Int):=by omega
   rw[er,ke hr,show t.1.getD (r+1) 0+(k':Int)-t.1.getD r 0=(k:Int) by omega,cG]at h
   exact h
theorem sH{t:Tab}(h:eH t=true){n:Nat}(hn:n<t.1.length)(hc:t.1.getD (n+1) 0<t.1.getD n 0):
  Sl (aO t.1 n) (dv t) n (t.1.getD n 0-1).toNat:=by
 have hP:=K4 h
 obtain⟨hp,ho,hl,_⟩:=jg h
 have h1:=hP.q0 (n+1)
 have hd:=lL hp hn hc
 have hne:t.2.length>n:=by omega
 have hrow:=qG hne
 have hlen:(t.1.getD n 0).toNat≤((dv t).getD n []).length:=by rw[hrow];omega
 have old: ∀r x:Nat,(aO t.1 n).getD r 0≤x→ ¬(r=n∧x=(t.1.getD n 0-1).toNat)→t.1.getD r 0≤x:=by
  intro r x h2 h3
  rw[hd]at h2
  by_cases e:r=n
  ·subst e
   rw[if_pos rfl]at h2
   have:x≠(t.1.getD r 0-1).toNat:=fun e=>h3 ⟨rfl,e⟩
   omega
  ·rw[if_neg e]at h2
   exact h2
 refine⟨fun r=> ?_,fun r=> ?_,hP.lm,by rw[jQ];exact hne,by omega,by rw[hd,if_pos rfl];omega,fun r x=> ?_,fun r x h2 h3 h4=>hP.num r x (old r x h2 h4) h3,
  fun r x h2 h3 h4 h5=>hP.row r x (old r x h2 h4) h3,fun r x h2 h3 h4 h5=>hP.col r x (old r x h2 h4) h3,fun x h2 h3 h4=> ?_,fun r h2 h3 h4=> ?_⟩
 ·rw[hd]
  have:=hP.q0 r
  split<;>omega
 ·rw[hd,hd]
  have:=hP.qm r
  by_cases e:r=n
  ·subst e
   rw[if_neg (by omega),if_pos rfl];omega
  ·rw[if_neg e]
   by_cases e2:r+1=n
   ·subst e2;rw[if_pos rfl];omega
   ·rw[if_neg e2];exact this
 ·by_cases hx:x<((dv t).getD r []).length
  ·have hr:=rq hx
   by_cases hq:t.1.getD r 0≤x
   ·have:=(hP.num r x hq hx).1;omega
   ·rw[ug hr,if_pos (by omega)];exact O5 _
  ·unfold cel
   rw[bL (by omega)];exact O5 _
 ·
  rw[hd,if_pos rfl]at h3
  omega
 ·
  rw[hd,if_neg (by omega)]at h3
  subst h2
  have:=hP.qm r
  omega
end Go.Am.Pu
end
section
/- A partition less a box; the tableau that a slide leaves. Plain words. -/
namespace Go.Am.Pu
theorem ly: ∀(p:List Int) (prev s:Int),(∀x∈p,1≤x)→(0<p.length→p.getD 0 0≤prev)→(∀i,i+1<p.length→p.getD (i+1) 0≤p.getD i 0)→s+dD p≤9→g9 p prev s=true
 | [],_,_,_,_,_,_=>rfl
 |x::xs,prev,s,h1,h2,h3,h4=>by
  have hs: ∀(l:List Int),(∀y∈l,1≤y)→0≤dD l:=by
   intro l
   induction l with
   |nil=>intro _;simp[dD]
   |cons y l ih=>
    intro h
    have a:=h y Mw
    have b:=ih (fun z hz=>h z (Mo _ hz))
    simp only[dD];omega
  have hx:=h1 x Mw
  have hxs:=hs xs (fun z hz=>h1 z (Mo _ hz))
  have h2':=h2 (by simp)
  simp only[OK]at h2'
  simp only[dD]at h4
  have ih:=ly xs x (s+x) (fun z hz=>h1 z (Mo _ hz)) (fun hl=>by have:=h3 0 (by simpa using hl);simpa using this) (fun i hi=>by have:=h3 (i+1) (by simpa using hi);simpa using this) (by omega)
  simp only[g9,Nc,decide_eq_true_eq]
  exact⟨hx,h2',by omega,ih⟩
theorem pZ: ∀(p:List Int) (n:Nat) (v:Int),n<p.length→dD (p.set n v)=dD p-p.getD n 0+v
 | [],n,v,h=>by simp at h
 |x::xs,0,v,_=>by simp[dD];omega
 |x::xs,n+1,v,h=>by
  have:=pZ xs n v (by simpa using h)
  simp only[Lo,dD,OH,this]
  omega
theorem AL: ∀(p:List Int) (n:Nat),p.length=n+1→dD (p.take n)=dD p-p.getD n 0
 | [],n,h=>by simp at h
 | [x],0,_=>by simp[dD]
 |x::xs,n+1,h=>by
  have:=AL xs n (by simpa using h)
  simp only[Na,dD,OH,this]
  omega
 |x::y::xs,0,h=>by simp at h
theorem uC{p:List Int}{n:Nat}(hp:bK p=true)(hc:p.getD (n+1) 0<p.getD n 0)(h:p.getD n 0-1=0):p.length≤n+1:=by
 have h0:=(dR hp (n+1:Nat)).1
 rw[cG]at h0
 refine Oa fun hlt=> ?_
 have:=(ba hp).1 _ (Ns hlt)
 rw[←an hlt 0]at this
 omega
theorem wQ{p:List Int}{n:Nat}(hp:bK p=true)(hn:n<p.length)(hc:p.getD (n+1) 0<p.getD n 0){i:Nat}(hi:i<(aO p n).length):1≤(aO p n).getD i 0:=by
 rw[lL hp hn hc]
 have hl:=jv p n
 have h1: ∀i,i<p.length→1≤p.getD i 0:=fun i hi=>by
  rw[an hi]
  exact((ba hp).1 _ (Ns hi)).1
 by_cases h:p.getD n 0-1=0
 ·unfold aO at hi
  rw[if_pos h,NJ]at hi
  rw[if_neg (by omega)]
  exact h1 i (by omega)
 ·have a:=h1 n hn
  have b:=h1 i (by omega)
  split<;>omega
theorem rj{p:List Int}{n:Nat}(hp:bK p=true)(hn:n<p.length)(hc:p.getD (n+1) 0<p.getD n 0):bK (aO p n)=true:=by
 have hs:=ba hp
 have hg:=lL hp hn hc
 have hpn:1≤p.getD n 0:=by
  rw[an hn]
  exact(hs.1 _ (Ns hn)).1
 refine ly _ _ _ (fun x hx=> ?_) (fun _=> ?_) (fun i _=> ?_) ?_
 ·obtain⟨i,hi,rfl⟩:=Nx hx
  rw[←an hi 0]
  exact wQ hp hn hc hi
 ·rw[hg]
  have: ∀i,p.getD i 0≤9:=fun i=>by
   have:=(dR hp i).2
   rw[cG]at this
   exact this
  have a:=this 0
  have b:=this n
  split<;>omega
 ·rw[hg,hg]
  have:=gp hp i
  by_cases e:i=n
  ·subst e
   rw[if_neg (by omega),if_pos rfl];omega
  ·rw[if_neg e]
   by_cases e2:i+1=n
   ·subst e2;rw[if_pos rfl];omega
   ·rw[if_neg e2];exact this
 ·have h9:=hs.2.1
  unfold aO
  split
  ·next h=>
   have hl:=uC hp hc h
   rw[AL p n (by omega)]
   omega
  ·rw[pZ p n _ hn]
   omega
def dt(q:List Int)(g:List (List Int))(n:Nat):List (List Int):=(Ln 0 n).map fun r=>(g.getD r []).drop (q.getD r 0).toNat
theorem fw(q:List Int)(g:List (List Int))(n:Nat):(dt q g n).length=n:=by simp[dt]
theorem jI{q:List Int}{g:List (List Int)}{n r:Nat}(h:r<n):(dt q g n).getD r []=(g.getD r []).drop (q.getD r 0).toNat:=by
 rw[an (by rw[fw];exact h)]
 simp[dt]
def mS(g:List (List Int))(i c:Nat):List (List Int):=g.set i ((g.getD i []).take c)
def dn(t:Tab)(n:Nat):List (List Int)×(Nat×Nat):=cJ 18 (dv t) n (t.1.getD n 0-1).toNat
def g8(t:Tab)(n:Nat):Tab×Nat:=
 let s:=dn t n
 ((aO t.1 n,dt (aO t.1 n) (mS s.1 s.2.1 s.2.2) (aO (outer t) s.2.1).length),s.2.1)
end Go.Am.Pu
namespace Go.Am.Pu
def mh(t:Tab)(r:Nat):List Int:=(Ln 0 11).map fun c=>entry t (r:Int) ((c:Nat):Int)
def oN(t:Tab):List (List Int):=(Ln 0 11).map fun r=>mh t r
theorem mq(t:Tab)(r:Nat):(mh t r).length=11:=by simp[mh]
theorem wX{t:Tab}{r c:Nat}(h:c<11):(mh t r).getD c 0=entry t r c:=by
 rw[an (by rw[mq];exact h)]
 simp[mh]
theorem sU(t:Tab):(oN t).length=11:=by simp[oN]
theorem Ax{t:Tab}{r:Nat}(h:r<11):(oN t).getD r []=mh t r:=by
 rw[an (by rw[sU];exact h)]
 simp[oN]
theorem DW{t:Tab}(hp:bK t.1=true){r c:Nat}(h1:r<11)(h2:c<11):cel (oN t) r c=cel (dv t) r c:=by
 have h0:=(dR hp r).1
 rw[cG]at h0
 unfold cel
 rw[Ax h1,wX h2]
 by_cases hr:r<t.2.length
 ·rw[ke hr]
  have:=ug hr c
  unfold cel at this
  rw[this]
  by_cases hc:c<(t.1.getD r 0).toNat
  ·rw[if_pos hc,od (by omega)]
  ·rw[if_neg hc,show(c:Int)-t.1.getD r 0=((c-(t.1.getD r 0).toNat:Nat):Int) by omega,cG]
 ·rw[zV (by omega)]
  unfold entry
  rw[if_neg (by omega),if_pos (by omega)]
  simp
end Go.Am.Pu
end
section
/- What a slide leaves. Plain words. -/
namespace Go.Am.Pu
theorem wu{g:List (List Int)}{i c r:Nat}(hi:i<g.length):(mS g i c).getD r []=if r=i then(g.getD i []).take c else g.getD r []:=by
 unfold mS
 by_cases e:r=i
 ·subst e
  rw[if_pos rfl,an (by rw[Ml];exact hi),NN]
 ·rw[if_neg e,getD_set_ne (Ne.symm e)]
theorem m7(g:List (List Int))(i c:Nat):(mS g i c).length=g.length:=by unfold mS;rw[Ml]
theorem GX{g:List (List Int)}{i c r x:Nat}(hi:i<g.length)(hx:x<((mS g i c).getD r []).length):cel (mS g i c) r x=cel g r x:=by
 unfold cel
 rw[wu hi]at hx⊢
 by_cases e:r=i
 ·subst e
  rw[if_pos rfl]at hx⊢
  rw[NJ]at hx
  rw[an (by rw[NJ];exact hx),Ma]
  exact(an (by omega) 0).symm
 ·rw[if_neg e]
structure zS (t : Tab) (n : Nat) (g : List (List Int)) (i c : Nat) : Prop where
  sl : Sl (aO t.1 n) g i c
  len : g.length = t.2.length
  row : ∀ r, (g.getD r []).length = ((dv t).getD r []).length
  hi : i < (outer t).length
  end_ : (outer t).getD i 0 = c + 1
  cor : (outer t).getD (i + 1) 0 < (outer t).getD i 0
  cutl : ∀ r, (((mS g i c).getD r []).length : Int) = (aO (outer t) i).getD r 0
  ins : ∀ r, (aO t.1 n).getD r 0 ≤ (aO (outer t) i).getD r 0
  rows : dG 9 9 (mS g i c)
theorem Gy{t:Tab}(h:eH t=true){n:Nat}(hn:n<t.1.length)(hc:t.1.getD (n+1) 0<t.1.getD n 0):
  zS t n (dn t n).1 (dn t n).2.1 (dn t n).2.2∧cel (dn t n).1 (dn t n).2.1 ((dn t n).2.2+1)=0∧cel (dn t n).1 ((dn t n).2.1+1) (dn t n).2.2=0:=by
 obtain⟨hp,ho,hl,_⟩:=jg h
 have hout:=lq hp
 have h9: ∀r,(outer t).getD r 0≤9:=fun r=>by
  have:=(dR ho r).2
  rw[cG]at this
  exact this
 have hol:=cd t
 have ho9:=(ba ho).2.2.1
 have hst:=sH h hn hc
 have hok:=so (w:=9) 18 (dv t) n (t.1.getD n 0-1).toNat hst (fun r=>by have:=hout r;have:=h9 r;omega) (by rw[jQ];omega)
 unfold dn
 generalize hS:cJ 18 (dv t) n (t.1.getD n 0-1).toNat=S at hok
 obtain⟨g,i,c⟩:=S
 obtain⟨a1,a2,a3,a4,a5⟩:=hok
 simp only at a1 a2 a3 a4 a5⊢
 have er:=a1.I3 a4
 have ec:=a1.II a5
 have o1:=hout i
 have o2:=hout (i+1)
 rw[←a3]at o1 o2
 rw[jQ]at a2
 have hi:=a1.hi
 have cor:(outer t).getD (i+1) 0<(outer t).getD i 0:=by omega
 have hdg:=lL ho (by omega) cor
 have hcl: ∀r,(((mS g i c).getD r []).length:Int)=(aO (outer t) i).getD r 0:=fun r=>by
  rw[wu hi,hdg]
  by_cases e:r=i
  ·rw[if_pos e,if_pos e,NJ];omega
  ·rw[if_neg e,if_neg e,a3,hout]
 refine⟨⟨a1,a2,a3,by omega,by omega,cor,hcl,fun r=> ?_,?_⟩,a4,a5⟩
 ·rw[hdg]
  by_cases e:r=i
  ·subst e
   rw[if_pos rfl]
   have:=a1.hq
   omega
  ·rw[if_neg e,lL hp hn hc]
   have hin:t.1.getD r 0≤(outer t).getD r 0:=by
    rw[←hout r]
    by_cases hr:r<t.2.length
    ·rw[qG hr]
     have:=(dR hp r).1
     rw[cG]at this
     omega
    ·rw[bL (xs:=t.1) (by omega)]
     omega
   split
   ·next e2=>subst e2;omega
   ·exact hin
 ·refine⟨by rw[m7];omega,fun r hr=> ?_⟩
  obtain⟨k,hk,rfl⟩:=Nx hr
  have a:=hcl k
  have b:=h9 k
  have c':=h9 i
  rw[an hk,hdg]at a
  split at a<;>omega
end Go.Am.Pu
end
section
/- The square that the reference slides in. Plain words. -/
namespace Go.Am.Pu
structure Sq (s g : List (List Int)) (i c : Nat) : Prop where
  len : s.length = 11
  row : ∀ r, r < 11 → (s.getD r []).length = 11
  at_ : ∀ r x, r < 11 → x < 11 → ¬ (r = i ∧ x = c) → cel s r x = cel g r x
  hole : cel s i c = 0
theorem Sq.step{s g:List (List Int)}{i c i' c':Nat}(h:Sq s g i c)(hi:i<g.length)(hc:c<(g.getD i []).length)(h1:i<11)(h2:c<11)(h3:i'<11)(h4:c'<11)(hne: ¬(i'=i∧c'=c))(v:Int):
  Sq (fp (fp s i c v) i' c' 0) (fp g i c v) i' c':=by
 refine⟨by rw[dQ,dQ];exact h.len,fun r hr=>by rw[bG,bG];exact h.row r hr,fun r x hr hx hn=> ?_,?_⟩
 ·rw[ja _ hn]
  by_cases e:r=i∧x=c
  ·obtain⟨rfl,rfl⟩:=e
   rw[j8 _ (by rw[h.len];exact h1) (by rw[h.row _ h1];exact h2),j8 _ hi hc]
  ·rw[ja _ e,ja _ e];exact h.at_ r x hr hx e
 ·rw[j8 _ (by rw[dQ,h.len];exact h3) (by rw[bG,h.row _ h3];exact h4)]
theorem Gw{t:Tab}(h:eH t=true){n:Nat}(hn:n<t.1.length):Sq (oN t) (dv t) n (t.1.getD n 0-1).toNat:=by
 obtain⟨hp,ho,hl,_⟩:=jg h
 have h9:=(ba hp).2.2.1
 have hb:=dR hp n
 rw[cG]at hb
 have hpos:1≤t.1.getD n 0:=by
  rw[an hn]
  exact((ba hp).1 _ (Ns hn)).1
 refine⟨sU t,fun r hr=>by rw[Ax hr,mq],fun r x hr hx _=>DW hp hr hx,?_⟩
 rw[DW hp (by omega) (by omega),ug (by omega),if_pos (by omega)]
end Go.Am.Pu
end
section
/- What a slide leaves is a tableau. Plain words. -/
namespace Go.Am.Pu
theorem il{α:Type}(l:List α)(a x:Nat)(d:α):(l.drop a).getD x d=l.getD (a+x) d:=by
 simp[Mk,N8]
section
variable {t : Tab} {n : Nat} {g : List (List Int)} {i c : Nat}
theorem zS.cell(E:zS t n g i c){r k:Nat}(hr:r<(aO (outer t) i).length)
  (hk:k<((dt (aO t.1 n) (mS g i c) (aO (outer t) i).length).getD r []).length):
  ((aO t.1 n).getD r 0).toNat+k<(g.getD r []).length∧((((aO t.1 n).getD r 0).toNat+k:Nat):Int)<(aO (outer t) i).getD r 0∧ ¬(r=i∧((aO t.1 n).getD r 0).toNat+k=c)∧
   ((dt (aO t.1 n) (mS g i c) (aO (outer t) i).length).getD r []).getD k 0=cel g r (((aO t.1 n).getD r 0).toNat+k):=by
 have hq:=E.sl.q0 r
 rw[jI hr]at hk⊢
 rw[NK]at hk
 have hx:((aO t.1 n).getD r 0).toNat+k<((mS g i c).getD r []).length:=by omega
 have hl:=E.cutl r
 have hcut:=wu (c:=c) (r:=r) E.sl.hi
 refine⟨?_,by omega,fun e=> ?_,?_⟩
 ·rw[hcut]at hx
  by_cases e:r=i
  ·subst e;rw[if_pos rfl,NJ]at hx;omega
  ·rw[if_neg e]at hx;exact hx
 ·rw[hcut,if_pos e.1,NJ]at hx
  omega
 ·rw[il]
  exact GX E.sl.hi hx
theorem zS.Aq(E:zS t n g i c){r:Nat}(hr:r<(aO (outer t) i).length):
  (aO (outer t) i).getD r 0=(aO t.1 n).getD r 0+(((dt (aO t.1 n) (mS g i c) (aO (outer t) i).length).getD r []).length:Int):=by
 have hq:=E.sl.q0 r
 have hi:=E.ins r
 have hl:=E.cutl r
 rw[jI hr,NK]
 omega
theorem zS.tab(E:zS t n g i c)(h:eH t=true)(hn:n<t.1.length)(hc:t.1.getD (n+1) 0<t.1.getD n 0):
  eH (aO t.1 n,dt (aO t.1 n) (mS g i c) (aO (outer t) i).length)=true:=by
 obtain⟨hp,ho,hl,_⟩:=jg h
 have hqp:=rj hp hn hc
 have hop:=rj ho E.hi E.cor
 generalize hR:dt (aO t.1 n) (mS g i c) (aO (outer t) i).length=R
 have hRl:R.length=(aO (outer t) i).length:=by rw[←hR,fw]
 have cell: ∀{r k:Nat},r<R.length→k<(R.getD r []).length→((aO t.1 n).getD r 0).toNat+k<(g.getD r []).length∧((((aO t.1 n).getD r 0).toNat+k:Nat):Int)<(aO (outer t) i).getD r 0∧ ¬(r=i∧((aO t.1 n).getD r 0).toNat+k=c)∧(R.getD r []).getD k 0=cel g r (((aO t.1 n).getD r 0).toNat+k):=by
  intro r k hr hk
  subst hR
  exact E.cell (by omega) hk
 have Aq: ∀{r:Nat},r<R.length→(aO (outer t) i).getD r 0=(aO t.1 n).getD r 0+((R.getD r []).length:Int):=by
  intro r hr
  subst hR
  exact E.Aq (by omega)
 have q0:=E.sl.q0
 have hout:outer (aO t.1 n,R)=aO (outer t) i:=by
  refine OI (by rw[cd];exact hRl) fun r h1 h2=> ?_
  rw[←an h1 0,←an h2 0]
  have h3:r<R.length:=by omega
  have:=fV (aO t.1 n) R 0 r h3
  rw[Ni]at this
  unfold outer
  rw[this]
  exact(Aq h3).symm
 have hlen:(aO t.1 n).length≤R.length:=by
  refine Oa fun hlt=> ?_
  have a:=wQ hp hn hc hlt
  have b:=E.ins R.length
  rw[bL (xs:=aO (outer t) i) (by omega)]at b
  omega
 have om:=gp hop
 simp only[eH,dU,cN,Nc,decide_eq_true_eq]
 rw[hout]
 refine⟨⟨hqp,hlen,hqp,hop,by omega,?_⟩,?_⟩
 ·rw[dM]
  intro r _
  exact decide_eq_true (E.ins r)
 ·rw[dM]
  intro r hr
  rw[dM]
  intro k hk
  have hq:=q0 r
  obtain⟨c1,c2,c3,c4⟩:=cell hr hk
  have hx:(aO t.1 n).getD r 0≤((((aO t.1 n).getD r 0).toNat+k:Nat):Int):=by omega
  have hnum:=E.sl.num r _ hx c1 c3
  simp only[gL,within,Nc,Ol,decide_eq_true_eq]
  rw[c4]
  refine⟨hnum,?_,?_⟩
  ·cases k with
   |zero=>exact .inl rfl
   |succ k=>
    obtain⟨d1,d2,d3,d4⟩:=cell hr (show k<(R.getD r []).length by omega)
    right
    rw[show k+1-1=k from rfl,d4]
    exact E.sl.row r (((aO t.1 n).getD r 0).toNat+k) (by omega) (by omega) d3 (by omega)
  ·cases r with
   |zero=>exact .inl rfl
   |succ r=>
    right
    have hr':r<R.length:=by omega
    have em:((r+1:Nat):Int)-1=(r:Int):=by omega
    rw[em,ke hr']
    have hqr:=q0 r
    have hrl:=Aq hr'
    have hom:=om r
    simp only
    by_cases e:(aO t.1 n).getD (r+1) 0+(k:Int)<(aO t.1 n).getD r 0
    ·rw[od (by omega)];omega
    ·obtain⟨y,hy⟩: ∃y:Nat,(aO t.1 n).getD (r+1) 0+(k:Int)-(aO t.1 n).getD r 0=y:=⟨((aO t.1 n).getD (r+1) 0+(k:Int)-(aO t.1 n).getD r 0).toNat,by omega⟩
     rw[hy,cG]
     obtain⟨d1,d2,d3,d4⟩:=cell hr' (show y<(R.getD r []).length by omega)
     have ey:((aO t.1 n).getD r 0).toNat+y=((aO t.1 n).getD (r+1) 0).toNat+k:=by omega
     rw[d4,ey]
     rw[ey]at d3
     exact E.sl.col r _ (by omega) c1 d3 c3
end
theorem Fk{t:Tab}(h:eH t=true){n:Nat}(hn:n<t.1.length)(hc:t.1.getD (n+1) 0<t.1.getD n 0):eH (g8 t n).1=true:=(Gy h hn hc).1.tab h hn hc
theorem zw{t:Tab}(h:eH t=true):t.1.length≤9∧dG 9 9 t.2:=by
 obtain⟨hp,ho,hl,_⟩:=jg h
 have h9:=(ba ho).2.2.1
 rw[cd]at h9
 refine⟨by omega,h9,fun r hr=> ?_⟩
 obtain⟨k,hk,rfl⟩:=Nx hr
 have a:=lq hp k
 have b:=(dR ho k).2
 rw[cG]at b
 rw[qG hk]at a
 rw[←an hk []]
 omega
theorem yK{p:List Int}{n:Nat}(hp:bK p=true)(hn:n<p.length)(hc:p.getD (n+1) 0<p.getD n 0):dD (aO p n)=dD p-1:=by
 unfold aO
 split
 ·next h=>
  have hl:=uC hp hc h
  rw[AL p n (by omega)]
  omega
 ·rw[pZ p n _ hn]
  omega
end Go.Am.Pu
namespace Go.Am.Pu
end Go.Am.Pu
end
section
/- Taking the least number out of a plain tableau; evacuation. Plain words. -/
namespace Go.Am.Pu
theorem zS.out{t:Tab}{n:Nat}{g:List (List Int)}{i c:Nat}(E:zS t n g i c):
  outer (aO t.1 n,dt (aO t.1 n) (mS g i c) (aO (outer t) i).length)=aO (outer t) i:=by
 refine OI (by rw[cd];exact fw _ _ _) fun r h1 h2=> ?_
 rw[←an h1 0,←an h2 0]
 have h3:r<(dt (aO t.1 n) (mS g i c) (aO (outer t) i).length).length:=by rw[fw];exact h2
 have:=fV (aO t.1 n) (dt (aO t.1 n) (mS g i c) (aO (outer t) i).length) 0 r h3
 rw[Ni]at this
 exact this.trans (E.Aq h2).symm
theorem FH{t:Tab}(h:eH t=true){n:Nat}(hn:n<t.1.length)(hc:t.1.getD (n+1) 0<t.1.getD n 0):
  outer (g8 t n).1=aO (outer t) (g8 t n).2∧(g8 t n).2<(outer t).length∧(outer t).getD ((g8 t n).2+1) 0<(outer t).getD (g8 t n).2 0:=
 have E:=(Gy h hn hc).1
 ⟨E.out,E.hi,E.cor⟩
def jj(t:Tab):Tab:=([1],t.2.set 0 ((t.2.getD 0 []).drop 1))
theorem qR(t:Tab)(r:Nat):(jj t).2.getD r []=if r=0 then(t.2.getD 0 []).drop 1 else t.2.getD r []:=by
 unfold jj
 by_cases e:r=0
 ·subst e
  rw[if_pos rfl]
  by_cases h:0<t.2.length
  ·rw[an (by rw[Ml];exact h),NN]
  ·rw[bL (by rw[Ml];omega),bL (xs:=t.2) (by omega)];rfl
 ·rw[if_neg e,getD_set_ne (Ne.symm e)]
theorem kp{t:Tab}(h:bj t=true){r:Nat}(hr:r<t.2.length):1≤(t.2.getD r []).length:=by
 have hl:=gG h hr
 have hp:=(ba (jA h)).1 ((outer t)[r]'(by rw[cd];exact hr)) (Ns _)
 rw[an (by rw[cd];exact hr)]at hl
 omega
theorem tC(t:Tab):(jj t).2.length=t.2.length:=by simp[jj]
theorem Av(r:Nat):([1]:List Int).getD r 0=if r=0 then 1 else 0:=by
 cases r with
 |zero=>rfl
 |succ r=>simp
theorem xa{t:Tab}(h:bj t=true)(h0:0<t.2.length):outer (jj t)=outer t:=by
 refine OI (by rw[cd,cd,tC]) fun r h1 h2=> ?_
 rw[←an h1 0,←an h2 0]
 have h3:r<t.2.length:=by rw[cd]at h2;exact h2
 have h4:=kp h h3
 rw[gG h h3]
 have:=fV (jj t).1 (jj t).2 0 r (by rw[tC];exact h3)
 rw[Ni]at this
 unfold outer
 rw[this,qR,show(jj t).1= [1]from rfl,Av]
 by_cases e:r=0
 ·subst e
  rw[if_pos rfl,if_pos rfl,NK]
  omega
 ·rw[if_neg e,if_neg e];omega
theorem tT{t:Tab}(h:bj t=true)(h0:0<t.2.length):eH (jj t)=true:=by
 have hin:=eB h
 have hp:=jA h
 have h':=h
 simp only[bj,Nc]at h'
 obtain⟨_,_,_,hc⟩:=jg h'.1
 have hout:=xa h h0
 have hr0:=kp h h0
 simp only[eH,dU,cN,Nc,decide_eq_true_eq]
 rw[hout,tC]
 refine⟨⟨rfl,(show 1≤t.2.length from h0),rfl,hp,(by rw[cd];exact(show 1≤t.2.length from h0)),?_⟩,?_⟩
 ·rw[dM]
  intro r hr
  have e:r=0:=by simp[jj]at hr;exact hr
  subst e
  rw[gG h h0]
  exact decide_eq_true (show(1:Int)≤_ by omega)
 ·rw[dM]
  intro r hr
  rw[dM]
  intro k hk
  rw[qR]at hk
  have hl:(jj t).1= [1]:=rfl
  by_cases e:r=0
  ·subst e
   rw[if_pos rfl,NK]at hk
   have hck:=hc 0 (k+1) h0 (by omega)
   simp only[gL,within,Nc,Ol,decide_eq_true_eq]at hck⊢
   rw[qR,if_pos rfl,il,il,show 1+k=k+1 by omega]
   refine⟨hck.1,?_,.inl (by simp)⟩
   by_cases e:k=0
   ·exact .inl e
   ·right
    have:=hck.2.1
    rw[show 1+(k-1)=k+1-1 by omega]
    exact this.resolve_left (by omega)
  ·rw[if_neg e]at hk
   have hck:=hc r k hr hk
   simp only[gL,within,Nc,Ol,decide_eq_true_eq]at hck⊢
   rw[qR,if_neg e]
   refine⟨hck.1,hck.2.1,.inr ?_⟩
   have hent:=hck.2.2.resolve_left e
   rw[hin]at hent
   obtain⟨q,rfl⟩: ∃q,r=q+1:=⟨r-1,by omega⟩
   have em:((q+1:Nat):Int)-1=(q:Int):=by omega
   rw[em]at hent⊢
   rw[ke (by omega)]at hent
   simp only[hin,Li]at hent
   have g1:=Av (q+1)
   have g2:=Av q
   have o2:=qR t q
   rw[if_neg (by omega)]at g1
   rw[ke (by rw[tC];omega),hl,g1,g2,o2]
   by_cases e0:q=0
   ·subst e0
    rw[if_pos rfl,if_pos rfl]
    by_cases ek:k=0
    ·subst ek
     rw[od (by omega)]
     omega
    ·rw[show(0:Int)+(k:Int)-1=((k-1:Nat):Int) by omega,cG,il,show 1+(k-1)=k by omega]
     rw[show(0:Int)+(k:Int)-0=(k:Int) by omega,cG]at hent
     exact hent
   ·rw[if_neg e0,if_neg e0]
    exact hent
def cx(t:Tab):Tab×Nat:=g8 (jj t) 0
theorem oP{t:Tab}(h:bj t=true)(h0:0<t.2.length):
  bj (cx t).1=true∧outer (cx t).1=aO (outer t) (cx t).2∧(cx t).2<t.2.length∧(outer t).getD ((cx t).2+1) 0<(outer t).getD (cx t).2 0:=by
 have hi:(jj t).1= [1]:=rfl
 have ht:=tT h h0
 have h1:0<(jj t).1.length:=by rw[hi];simp
 have hc:(jj t).1.getD (0+1) 0<(jj t).1.getD 0 0:=by rw[hi];simp
 obtain⟨a,b,c⟩:=FH ht h1 hc
 rw[xa h h0]at a b c
 rw[cd]at b
 refine⟨?_,a,b,c⟩
 simp only[bj,Nc,decide_eq_true_eq]
 refine⟨Fk ht h1 hc,?_⟩
 show(aO (jj t).1 0).length=0
 rw[hi];rfl
theorem qY{t:Tab}(h:bj t=true):dD (outer t)=t.2.flatten.length:=by
 unfold outer
 exact qV t.1 t.2 0 fun q _=>by rw[eB h];rfl
theorem xR{t:Tab}(h:bj t=true)(h0:0<t.2.length):(cx t).1.2.flatten.length+1=t.2.flatten.length:=by
 obtain⟨a,b,c,d⟩:=oP h h0
 have e:=yK (jA h) (show(cx t).2<(outer t).length by rw[cd];exact c) d
 rw[←b,qY h,qY a]at e
 omega
theorem xw{t:Tab}(h:0<t.2.flatten.length):0<t.2.length:=by
 refine Nat.pos_of_ne_zero fun e=> ?_
 rw[N3 e]at h
 simp at h
theorem uq{t:Tab}(h:bj t=true)(h0:0<t.2.length)(r:Nat):
  ((cx t).1.2.getD r []).length=if r=(cx t).2 then(t.2.getD r []).length-1 else(t.2.getD r []).length:=by
 obtain⟨a,b,c,d⟩:=oP h h0
 have hg:=lL (jA h) (show(cx t).2<(outer t).length by rw[cd];exact c) d r
 have lenI: ∀{u:Tab},bj u=true→ ∀r,(outer u).getD r 0=(u.2.getD r []).length:=by
  intro u hu r
  by_cases hr:r<u.2.length
  ·exact gG hu hr
  ·rw[bL (by rw[cd];omega),bL (xs:=u.2) (by omega)];rfl
 rw[←b,lenI a,lenI h,lenI h]at hg
 have:=kp h c
 by_cases e:r=(cx t).2
 ·subst e;rw[if_pos rfl]at hg⊢;omega
 ·rw[if_neg e]at hg⊢;omega
def ku:Nat→List (List Int)→Tab→List (List Int)
 |0,o,_=>o
 |m+1,o,now=>ku m (fp o (cx now).2 ((now.2.getD (cx now).2 []).length-1) ((m+1:Nat):Int)) (cx now).1
def jr(t:Tab):Tab×Bool:=if bj t=true∧gh t=true then((t.1,ku t.2.flatten.length t.2 t),true)else(([],[]),false)
theorem vp{n m:Nat}: ∀(k:Nat) (o:List (List Int)) (t:Tab),dG n m o→dG n m (ku k o t)
 |0,_,_,h=>h
 |k+1,o,t,h=>by
  unfold ku
  refine vp k _ _ ?_
  unfold fp
  exact h.set _ (by rw[Ml];exact h.at _)
theorem ta{t:Tab}:lT (jr t).1:=by
 unfold jr
 split
 ·next h=>
  have a:=vp t.2.flatten.length t.2 t (gY h.1)
  refine⟨by rw[eB h.1];simp,by have:=a.1;simp only;omega,fun r hr=>by have:=a.2 r hr;omega⟩
 ·exact⟨by simp,by simp,fun r hr=>by simp at hr⟩
end Go.Am.Pu
end
section
/- Promotion. Plain words. -/
namespace Go.Am.Pu
def Small(rs:List (List Int)):Prop:= ∀i q,-100≤(rs.getD i []).getD q 0∧(rs.getD i []).getD q 0≤100
end Go.Am.Pu
end
section
/- Slides undone. Plain words. -/
namespace Go.Am.Pu
def leftOf(g:List (List Int))(i c:Nat):Int:=if c=0 then 0 else cel g i (c-1)
def ye(g:List (List Int))(i c:Nat):Int:=if i=0 then 0 else cel g (i-1) c
def pS:Nat→List (List Int)→Nat→Nat→List (List Int)×(Nat×Nat)
 |0,g,i,c=>(g,(i,c))
 |m+1,g,i,c=>if leftOf g i c=0∧ye g i c=0 then(g,(i,c))
  else if leftOf g i c≤ye g i c then pS m (fp g i c (ye g i c)) (i-1) c
  else pS m (fp g i c (leftOf g i c)) i (c-1)
structure Ag (f : Int → Int) (g h : List (List Int)) (i c : Nat) : Prop where
  len : h.length = g.length
  row : ∀ r, (h.getD r []).length = (g.getD r []).length
  at_ : ∀ r x, ¬ (r = i ∧ x = c) → cel h r x = f (cel g r x)
def Inn(q:List Int)(g:List (List Int)):Prop:= ∀r x:Nat,(x:Int)<q.getD r 0→cel g r x=0
theorem Inn.step{q:List Int}{g:List (List Int)}{i c:Nat}(h:Inn q g)(hq:q.getD i 0≤c)(v:Int):Inn q (fp g i c v):=by
 intro r x hx
 by_cases e:r=i∧x=c
 ·obtain⟨rfl,rfl⟩:=e;omega
 ·rw[ja _ e];exact h r x hx
theorem Ag.down{f:Int→Int}{q:List Int}{g h:List (List Int)}{i c:Nat}(hs:Sl q g i c)(hi:Inn q g)(hf: ∀a b x y,cel g a b<cel g x y→f (cel g a b)<f (cel g x y))(f0:f 0=0)
  (hb:cel g (i+1) c≠0) (ha:Ag f (fp g i c (cel g (i+1) c)) h (i+1) c):
  ∃h',Ag f g h' i c∧ ∀m,pS (m+1) h (i+1) c=pS m h' i c:=by
 obtain⟨b1,b2⟩:=ot hb
 have mono: ∀a b x y,cel g a b≤cel g x y→f (cel g a b)≤f (cel g x y):=fun a b x y hh=>by
  rcases Int.lt_or_eq_of_le hh with h1|h1
  ·exact Int.le_of_lt (hf _ _ _ _ h1)
  ·rw[h1];exact O5 _
 have f0': ∀a b,cel g a b=0→f (cel g a b)=0:=fun a b e=>by rw[e];exact f0
 have hu:ye h (i+1) c=f (cel g (i+1) c):=by
  unfold ye
  rw[if_neg (by omega),show i+1-1=i by omega,ha.at_ i c (by omega),j8 _ hs.hi hs.hc]
 have hpos:0<f (cel g (i+1) c):=by
  have hp:=hs.pos (i+1) c
  have:=hf g.length 0 (i+1) c (by
   have:cel g g.length 0=0:=by unfold cel;rw[bL (Ng _)];rfl
   omega)
  have e:cel g g.length 0=0:=by unfold cel;rw[bL (Ng _)];rfl
  rw[e,f0]at this
  exact this
 have hl:leftOf h (i+1) c≤f (cel g (i+1) c):=by
  unfold leftOf
  by_cases e:c=0
  ·rw[if_pos e];omega
  ·rw[if_neg e,ha.at_ _ _ (by omega),ja _ (by omega)]
   by_cases hq:q.getD (i+1) 0≤((c-1:Nat):Int)
   ·have hr:=hs.row (i+1) (c-1) hq (by omega) (by omega) (by omega)
    rw[show c-1+1=c by omega]at hr
    exact mono _ _ _ _ hr
   ·rw[f0' _ _ (hi (i+1) (c-1) (by omega))];omega
 have hhi:i+1<h.length:=by rw[ha.len,dQ];exact b1
 have hhc:c<(h.getD (i+1) []).length:=by rw[ha.row,bG];exact b2
 refine⟨fp h (i+1) c (ye h (i+1) c),⟨by rw[dQ,ha.len,dQ],fun r=>by rw[bG,ha.row,bG],fun r x hn=> ?_⟩,fun m=> ?_⟩
 ·by_cases e:r=i+1∧x=c
  ·obtain⟨rfl,rfl⟩:=e
   rw[j8 _ hhi hhc,hu]
  ·rw[ja _ e,ha.at_ r x e,ja _ hn]
 ·conv=>lhs;unfold pS
  rw[if_neg (by omega),if_pos (by omega)]
  rfl
theorem Ag.right{f:Int→Int}{q:List Int}{g h:List (List Int)}{i c:Nat}(hs:Sl q g i c)(hi:Inn q g)(hf: ∀a b x y,cel g a b<cel g x y→f (cel g a b)<f (cel g x y))(f0:f 0=0)
  (hr:cel g i (c+1)≠0) (ha:Ag f (fp g i c (cel g i (c+1))) h i (c+1)):
  ∃h',Ag f g h' i c∧ ∀m,pS (m+1) h i (c+1)=pS m h' i c:=by
 obtain⟨b1,b2⟩:=ot hr
 have f0': ∀a b,cel g a b=0→f (cel g a b)=0:=fun a b e=>by rw[e];exact f0
 have hl:leftOf h i (c+1)=f (cel g i (c+1)):=by
  unfold leftOf
  rw[if_neg (by omega),show c+1-1=c by omega,ha.at_ i c (by omega),j8 _ hs.hi hs.hc]
 have hpos:0<f (cel g i (c+1)):=by
  have hp:=hs.pos i (c+1)
  have e:cel g g.length 0=0:=by unfold cel;rw[bL (Ng _)];rfl
  have:=hf g.length 0 i (c+1) (by omega)
  rw[e,f0]at this
  exact this
 have hu:ye h i (c+1)<f (cel g i (c+1)):=by
  unfold ye
  by_cases e:i=0
  ·rw[if_pos e];exact hpos
  ·rw[if_neg e,ha.at_ _ _ (by omega),ja _ (by omega)]
   by_cases hq:q.getD (i-1) 0≤((c+1:Nat):Int)
   ·have hc:=hs.col (i-1) (c+1) hq (by rw[show i-1+1=i by omega];exact b2) (by omega) (by omega)
    rw[show i-1+1=i by omega]at hc
    exact hf _ _ _ _ hc
   ·rw[f0' _ _ (hi (i-1) (c+1) (by omega))];exact hpos
 have hhi:i<h.length:=by rw[ha.len,dQ];exact b1
 have hhc:c+1<(h.getD i []).length:=by rw[ha.row,bG];exact b2
 refine⟨fp h i (c+1) (leftOf h i (c+1)),⟨by rw[dQ,ha.len,dQ],fun r=>by rw[bG,ha.row,bG],fun r x hn=> ?_⟩,fun m=> ?_⟩
 ·by_cases e:r=i∧x=c+1
  ·obtain⟨rfl,rfl⟩:=e
   rw[j8 _ hhi hhc,hl]
  ·rw[ja _ e,ha.at_ r x e,ja _ hn]
 ·conv=>lhs;unfold pS
  rw[if_neg (by omega),if_neg (by omega)]
  rfl
def Occ(q:List Int)(v:Int)(g:List (List Int))(i c:Nat):Prop:= ∃r x:Nat,¬(r=i∧x=c)∧x<(g.getD r []).length∧q.getD r 0≤x∧cel g r x=v
theorem Occ.step{q:List Int}{v:Int}{g:List (List Int)}{i c a b:Nat}(h:Occ q v g i c)(hi:i<g.length)(hc:c<(g.getD i []).length)(hq:q.getD i 0≤c)(hne: ¬(a=i∧b=c)):Occ q v (fp g i c (cel g a b)) a b:=by
 obtain⟨r,x,h1,h2,h3,h4⟩:=h
 by_cases e:r=a∧x=b
 ·obtain⟨rfl,rfl⟩:=e
  exact⟨i,c,fun e=>hne ⟨e.1.symm,e.2.symm⟩,by rw[bG];exact hc,hq,by rw[j8 _ hi hc];exact h4⟩
 ·exact⟨r,x,e,by rw[bG];exact h2,h3,by rw[ja _ h1];exact h4⟩
end Go.Am.Pu
end
section
/- Promotion of a standard tableau is standard, of the same shape, and can be undone. Plain words. -/
namespace Go.Am.Pu
theorem vy{t:Tab}(h0:t.1= [])(hp:bK (outer t)=true)(hn: ∀r x,r<t.2.length→x<(t.2.getD r []).length→1≤cel t.2 r x∧cel t.2 r x≤9)
  (hr: ∀r x,r<t.2.length→x+1<(t.2.getD r []).length→cel t.2 r x≤cel t.2 r (x+1)) (hc: ∀r x,r+1<t.2.length→x<(t.2.getD (r+1) []).length→cel t.2 r x<cel t.2 (r+1) x):bj t=true:=by
 simp only[bj,eH,dU,cN,Nc,decide_eq_true_eq,h0]
 refine⟨⟨⟨rfl,by simp,rfl,hp,by simp,?_⟩,?_⟩,rfl⟩
 ·rw[dM]
  intro i hi
  simp at hi
 ·rw[dM]
  intro r hr'
  rw[dM]
  intro k hk
  simp only[gL,within,Nc,Ol,decide_eq_true_eq]
  refine⟨hn r k hr' hk,?_,?_⟩
  ·by_cases e:k=0
   ·exact .inl e
   ·right
    have:=hr r (k-1) hr' (by omega)
    rw[show k-1+1=k by omega]at this
    exact this
  ·by_cases e:r=0
   ·exact .inl e
   ·right
    have:=hc (r-1) k (by omega) (by rw[show r-1+1=r by omega];exact hk)
    rw[show r-1+1=r by omega]at this
    rw[show(r:Int)-1=((r-1:Nat):Int) by omega,ke (by omega),h0]
    simp only[Li]
    rw[show(0:Int)+(k:Int)-0=(k:Int) by omega,cG]
    exact this
theorem n8{t:Tab}(h:bj t=true):(∀r x,r<t.2.length→x<(t.2.getD r []).length→1≤cel t.2 r x∧cel t.2 r x≤9)∧(∀r x,r<t.2.length→x+1<(t.2.getD r []).length→cel t.2 r x≤cel t.2 r (x+1)):=by
 have h':=h
 simp only[bj,Nc]at h'
 obtain⟨_,_,_,hc⟩:=jg h'.1
 refine⟨fun r x hr hx=> ?_,fun r x hr hx=> ?_⟩
 ·have:=hc r x hr hx
  simp only[gL,within,Nc,decide_eq_true_eq]at this
  exact this.1
 ·have:=hc r (x+1) hr hx
  simp only[gL,within,Nc,Ol,decide_eq_true_eq]at this
  exact this.2.1.resolve_left (by omega)
theorem mB{rs:List (List Int)}{r x:Nat}(hr:r<rs.length)(hx:x<(rs.getD r []).length):cel rs r x∈rs.flatten:=by
 refine OW.2 ⟨rs.getD r [],by rw[an hr];exact Ns hr,?_⟩
 unfold cel
 rw[an hx]
 exact Ns hx
theorem pN{rs:List (List Int)}{v:Int}(h:v∈rs.flatten): ∃r x,r<rs.length∧x<(rs.getD r []).length∧cel rs r x=v:=by
 obtain⟨l,hl,hv⟩:=OW.1 h
 obtain⟨r,hr,rfl⟩:=Nx hl
 obtain⟨x,hx,rfl⟩:=Nx hv
 have e:=an hr ([]:List Int)
 refine⟨r,x,hr,by rw[e];exact hx,?_⟩
 unfold cel
 rw[e,an hx]
theorem kN{t:Tab}(h:bj t=true)(hs:gh t=true):t.2.flatten.Nodup∧(∀x∈t.2.flatten,1≤x∧x≤t.2.flatten.length):=by
 simp only[gh,Nc]at hs
 have h1:=vE hs.1
 obtain⟨a,b⟩:=(sB fun x hx=>(h1 x hx).1).1 hs.2
 exact⟨a,fun x hx=>⟨(h1 x hx).1,b x hx⟩⟩
end Go.Am.Pu
end
section
/- Promotion keeps shapes and standardness. Plain words. -/
namespace Go.Am.Pu
section
variable {t : Tab}
theorem E0{a b:Tab}(ha:a.1= [])(hb:b.1= [])(hl:a.2.length=b.2.length)(hr: ∀r,(a.2.getD r []).length=(b.2.getD r []).length):outer a=outer b:=by
 refine OI (by rw[cd,cd];exact hl) fun r h1 h2=> ?_
 rw[cd]at h1 h2
 have e1:=fV a.1 a.2 0 r h1
 have e2:=fV b.1 b.2 0 r h2
 rw[←an (by rw[cd];exact h1) 0,←an (by rw[cd];exact h2) 0]
 unfold outer
 rw[e1,e2,ha,hb,hr]
theorem jq{xs ys:List Int}{x:Nat}(h:x<xs.length):(xs++ys).getD x 0=xs.getD x 0:=by
 simp only[Mk,Mq h]
theorem mj{xs ys:List Int}{x:Nat}(h:xs.length≤x):(xs++ys).getD x 0=ys.getD (x-xs.length) 0:=by
 simp only[Mk,Mr h]
end
end Go.Am.Pu
end
section
/- Promotion undone: it is one to one. Plain words. -/
namespace Go.Am.Pu
def Hb(t:Tab)(n:Nat):List (List Int):=
 (if n=t.2.length then dv t++ [[]]else dv t).set n ((if n=t.2.length then dv t++ [[]]else dv t).getD n []++ [0])
section
variable {t : Tab}
end
end Go.Am.Pu
end
section
/- Orbits of promotion come back. Plain words. -/
namespace Go.Am.Pu
structure Good (t : Tab) : Prop where
  pl : bj t = true
  st : gh t = true
  ne : t.2.flatten.length ≠ 0
end Go.Am.Pu
end
section
/- A slide outwards, as the program has it; demotion. Plain words. -/
namespace Go.Am.Pu
theorem oJ{p q:List Int}{n:Nat}(h:jR p n=(q,true)):n≤p.length∧n<q.length∧q.length≤p.length+1∧(∀r,q.getD r 0=if r=n then p.getD n 0+1 else p.getD r 0)∧bK q=true:=by
 have hl:=CV p n
 rw[h]at hl
 unfold jR at h
 by_cases hc:bK p=true∧(0:Int)≤n∧(n:Int)≤p.length
 ·rw[if_pos hc]at h
  have hn:n≤p.length:=by omega
  generalize hw:(if(n:Int)=p.length then p++ [0]else p)=w at h
  have hb: ∀r,w.getD r 0=p.getD r 0:=fun r=>by
   rw[←hw]
   split
   ·by_cases hr:r<p.length
    ·rw[jq hr]
    ·rw[mj (by omega),bL (xs:=p) (by omega)]
     cases r-p.length<;>rfl
   ·rfl
  have hwl:n<w.length:=by
   rw[←hw]
   split
   ·rw[Mb,Ox];omega
   ·omega
  simp only[O4]at h
  by_cases hp:bK (w.set n (w.getD n 0+1))=true
  ·rw[if_pos hp]at h
   have h1:=congrArg LW h
   simp only at h1
   subst h1
   refine⟨hn,by rw[Ml];exact hwl,hl,fun r=> ?_,hp⟩
   by_cases e:r=n
   ·subst e
    rw[if_pos rfl,an (by rw[Ml];exact hwl),NN,hb]
   ·rw[if_neg e,getD_set_ne (Ne.symm e),hb]
  ·rw[if_neg hp]at h
   have h2:=congrArg Mz h
   simp at h2
 ·rw[if_neg hc]at h
  have h2:=congrArg Mz h
  simp at h2
theorem Cl{l m:List Int}(hl:l.length=m.length)(h: ∀x,x<m.length→l.getD x 0=m.getD x 0):l=m:=
 OI hl fun x h1 h2=>by rw[←an h1 0,←an h2 0];exact h x h2
section
variable {u : Tab}
end
end Go.Am.Pu
end
section
/- The last promotion of an orbit; orbits' sizes. Plain words. -/
namespace Go.Am.Pu
def DG(t:Tab):Prop:=t.1= []∧dG 10 10 t.2
theorem DG.ok{t:Tab}(h:DG t):lT t:=⟨by rw[h.1];simp,by have:=h.2.1;omega,fun r hr=>by have:=h.2.2 r hr;omega⟩
theorem DG.size{t:Tab}(h:DG t):kX t.2≤100:=by
 have a:=xz t.2 10 h.2.2
 have b:=h.2.1
 omega
section
attribute [local instance] D.real
variable {α β : Type} {x y v : Option α}
theorem bE{x:Option β}{z:β}{f:β→Option α}(h:x=some z)(g:f z=v):D.bnd x f=v:=by rw[h];exact g
theorem tN(g:x=v):D.test (D.no true) y x=v:=g
theorem tY(g:x=v):D.test true x y=v:=g
theorem tF(g:y=v):D.test false x y=v:=g
theorem tM(g:y=v):D.test (D.no false) y x=v:=g
theorem tG{p:Prop} [Decidable p](h:p)(g:x=v):D.test (decide p) x y=v:=by
 show(if decide p=true then x else y)=v
 rw[if_pos (decide_eq_true h)];exact g
theorem tX{p:Prop} [Decidable p](h: ¬p)(g:y=v):D.test (decide p) x y=v:=by
 show(if decide p=true then x else y)=v
 rw[decide_eq_false h];exact g
theorem tB{b:Bool}(g:x=v):D.test (D.no (D.eqB b b)) y x=v:=by
 show(if(!(b==b))=true then y else x)=v
 rw[beq_self_eq_true];exact g
end
end Go.Am.Pu
end
section
/- The rewriting rules of the plain laws, in one. -/
namespace Go.Am.Pu
open Go Go.Am
attribute [local instance] D.real
theorem sss:type_of% @g7∧type_of% @gF∧type_of% @eC∧type_of% @eQ∧type_of% @eU∧type_of% @cM∧type_of% @dg∧type_of% @dB∧type_of% @fM∧type_of% @ep∧type_of% @dI∧type_of% @dj∧type_of% @di∧type_of% @eV∧type_of% @cn∧type_of% @dA∧type_of% @dS∧type_of% @gA∧type_of% @gO∧type_of% @eR∧type_of% @eT∧type_of% @bX∧type_of% @w64∧type_of% @Int.toNat_natCast∧type_of% @decide_eq_true_eq∧type_of% @Int.ofNat_lt∧type_of% @Int.ofNat_le∧type_of% @Int.natCast_nonneg∧type_of% @decide_true∧type_of% @decide_false∧type_of% @Bool.not_true∧type_of% @Bool.not_false∧type_of% @Bool.false_eq_true∧type_of% @Bool.not_eq_true∧type_of% @Bool.true_and∧type_of% @Bool.and_true∧type_of% @Bool.false_and∧type_of% @Bool.and_false:=
 ⟨@g7,@gF,@eC,@eQ,@eU,@cM,@dg,@dB,@fM,@ep,@dI,@dj,@di,@eV,@cn,@dA,@dS,@gA,@gO,@eR,@eT,@bX,@w64,@Int.toNat_natCast,@decide_eq_true_eq,@Int.ofNat_lt,@Int.ofNat_le,@Int.natCast_nonneg,@decide_true,@decide_false,@Bool.not_true,@Bool.not_false,@Bool.false_eq_true,@Bool.not_eq_true,@Bool.true_and,@Bool.and_true,@Bool.false_and,@Bool.and_false⟩
end Go.Am.Pu
end
section
/- Cells taken out of plain tableaux, one behind another. Plain words. -/
namespace Go.Am.Pu
def sM(rs:List (List Int)):Prop:= ∀i,i+1<rs.length→(rs.getD (i+1) []).length≤(rs.getD i []).length∧ ∀q,q<(rs.getD (i+1) []).length→(rs.getD i []).getD q 0<(rs.getD (i+1) []).getD q 0
theorem yv{r:List Int}{y:Int}: ∀{m q:Nat},oi r y m=some q→ ∀c,q<c→c<m→y≤r.getD c 0
 |0,q,h,_,_,_=>by simp[oi]at h
 |m+1,q,h,c,h1,h2=>by
  unfold oi at h
  split at h
  ·next hc=>injection h with h;omega
  ·next hc=>
   by_cases e:c=m
   ·subst e;omega
   ·exact yv h c h1 (by omega)
theorem uR: ∀(r:Nat) (rs:List (List Int)) (y:Int),(oX r rs y).1.length=rs.length∧ ∀i,((oX r rs y).1.getD i []).length=(rs.getD i []).length
 |0,_,_=>⟨rfl,fun _=>rfl⟩
 |r+1,rs,y=>by
  unfold oX
  split
  ·next q hq=>
   obtain⟨a,b⟩:=uR r (rs.set r ((rs.getD r []).set q y)) ((rs.getD r []).getD q 0)
   refine⟨by rw[a,Ml],fun i=> ?_⟩
   rw[b]
   by_cases e:i=r
   ·subst e
    by_cases h:i<rs.length
    ·rw[an (by rw[Ml];exact h),NN,Ml]
    ·rw[bL (by rw[Ml];omega),bL (xs:=rs) (by omega)]
   ·rw[getD_set_ne (Ne.symm e)]
  ·exact uR r rs y
theorem zr: ∀(r:Nat) (rs:List (List Int)) (y:Int) (q:Nat),r<rs.length→(∀i,i+1<r→(rs.getD (i+1) []).length≤(rs.getD i []).length∧ ∀q,q<(rs.getD (i+1) []).length→(rs.getD i []).getD q 0<(rs.getD (i+1) []).getD q 0)→
  (∀i,r≤i→i+1<rs.length→(rs.getD (i+1) []).length≤(rs.getD i []).length∧ ∀q,q<(rs.getD (i+1) []).length→(rs.getD i []).getD q 0<(rs.getD (i+1) []).getD q 0)→
  (∀i,i+1=r→(rs.getD r []).length≤(rs.getD i []).length∧q<(rs.getD i []).length∧(rs.getD i []).getD q 0<y∧(∀c,c<(rs.getD r []).length→c≠q→(rs.getD i []).getD c 0<(rs.getD r []).getD c 0)∧(∀c,q≤c→c<(rs.getD r []).length→y<(rs.getD r []).getD c 0))→
  sM (oX r rs y).1
 |0,rs,y,q,hr,_,hB,_=>fun i hi=>hB i (NF _) hi
 |r+1,rs,y,q,hr,hA,hB,hI=>by
  obtain⟨i1,i2,i3,i4,i5⟩:=hI r rfl
  obtain⟨q0,hq0⟩:=zz i2 i3
  have hmax:=yv hq0
  obtain⟨k1,k2⟩:=vS hq0
  have hqq:q≤q0:=Oa fun hlt=>by
   have:=hmax q hlt i2
   omega
  unfold oX
  rw[hq0]
  have hrow:(rs.set r ((rs.getD r []).set q0 y)).getD r []=(rs.getD r []).set q0 y:=by
   rw[an (by rw[Ml];omega),NN]
  have hne: ∀i,i≠r→(rs.set r ((rs.getD r []).set q0 y)).getD i []=rs.getD i []:=fun i h=>getD_set_ne (Ne.symm h) _ _
  have hset: ∀c,c≠q0→((rs.getD r []).set q0 y).getD c 0=(rs.getD r []).getD c 0:=fun c h=>getD_set_ne (Ne.symm h) _ _
  have hself:((rs.getD r []).set q0 y).getD q0 0=y:=by rw[an (by rw[Ml];exact k1),NN]
  refine zr r _ _ q0 (by rw[Ml];omega) (fun i hi=> ?_) (fun i hi hl=> ?_) (fun i hi=> ?_)
  ·rw[hne _ (by omega),hne _ (by omega)]
   exact hA i (by omega)
  ·rw[Ml]at hl
   by_cases e:i=r
   ·subst e
    rw[hne (i+1) (by omega),hrow,Ml]
    refine⟨i1,fun c hc=> ?_⟩
    by_cases e2:c=q0
    ·subst e2;rw[hself];exact i5 c hqq hc
    ·rw[hset c e2]
     by_cases e3:c=q
     ·subst e3
      have:=i5 c (Ng _) hc
      omega
     ·exact i4 c hc e3
   ·rw[hne (i+1) (by omega),hne i e]
    exact hB i (by omega) hl
  ·subst hi
   obtain⟨a1,a2⟩:=hA i (by omega)
   rw[hrow,hne i (by omega),Ml]
   refine⟨a1,by omega,a2 q0 k1,fun c hc e=> ?_,fun c h1 h2=> ?_⟩
   ·rw[hset c e];exact a2 c hc
   ·by_cases e:c=q0
    ·subst e;rw[hself];exact k2
    ·rw[hset c e]
     have:=hmax c (by omega) h2
     omega
def dY(rs:List (List Int))(r:Nat):List (List Int):=
 if(rs.getD r []).length=1 then(rs.set r ((rs.getD r []).take ((rs.getD r []).length-1))).take r else rs.set r ((rs.getD r []).take ((rs.getD r []).length-1))
def fq(a b:List (List Int)):Prop:=a.length=b.length∧ ∀i,(a.getD i []).length=(b.getD i []).length
theorem fH{α:Type}{l:List α}{n i:Nat}(h:i<n)(d:α):(l.take n).getD i d=l.getD i d:=by
 simp only[Mk,List.getElem?_take,if_pos h]
theorem y8{a b:List (List Int)}(h:fq a b)(n:Nat):fq (a.take n) (b.take n):=by
 refine⟨by rw[NJ,NJ,h.1],fun i=> ?_⟩
 by_cases hi:i<n
 ·rw[fH hi,fH hi];exact h.2 i
 ·rw[bL (xs:=a.take n) (by rw[NJ];omega),bL (xs:=b.take n) (by rw[NJ];omega)]
theorem Ar(rs:List (List Int))(r:Nat):fq (nU rs r).1 (dY rs r):=by
 have a:=uR r (rs.set r ((rs.getD r []).take ((rs.getD r []).length-1))) ((rs.getD r []).getD ((rs.getD r []).length-1) 0)
 unfold nU dY
 simp only
 split
 ·exact y8 a r
 ·exact a
theorem Ck{a b:List (List Int)}(h:fq a b)(r:Nat):fq (dY a r) (dY b r):=by
 have hs:fq (a.set r ((a.getD r []).take ((a.getD r []).length-1))) (b.set r ((b.getD r []).take ((b.getD r []).length-1))):=by
  refine⟨by rw[Ml,Ml,h.1],fun i=> ?_⟩
  by_cases e:i=r
  ·subst e
   by_cases hi:i<a.length
   ·rw[an (xs:=a.set _ _) (by rw[Ml];exact hi),NN,an (xs:=b.set _ _) (by rw[Ml,←h.1];exact hi),NN,NJ,NJ,h.2 i]
   ·rw[bL (xs:=a.set _ _) (by rw[Ml];omega),bL (xs:=b.set _ _) (by rw[Ml,←h.1];omega)]
  ·rw[getD_set_ne (Ne.symm e),getD_set_ne (Ne.symm e)];exact h.2 i
 unfold dY
 rw[h.2 r]
 split
 ·rw[←h.2 r];rw[h.2 r]at*;exact y8 hs r
 ·rw[h.2 r]at hs;exact hs
theorem fq.trans{a b c:List (List Int)}(h:fq a b)(h':fq b c):fq a c:=⟨h.1.trans h'.1,fun i=>(h.2 i).trans (h'.2 i)⟩
theorem Gs{rs:List (List Int)}(h:sM rs)(n:Nat):sM (rs.take n):=by
 intro i hi
 rw[NJ]at hi
 rw[fH (by omega),fH (by omega)]
 exact h i (by omega)
theorem Be{rs:List (List Int)}{r:Nat}(h:sM rs)(hr:r<rs.length)(hl:1≤(rs.getD r []).length)(hc:(rs.getD (r+1) []).length<(rs.getD r []).length):sM (nU rs r).1:=by
 have hrow:(rs.set r ((rs.getD r []).take ((rs.getD r []).length-1))).getD r []=(rs.getD r []).take ((rs.getD r []).length-1):=by
  rw[an (by rw[Ml];exact hr),NN]
 have hne: ∀i,i≠r→(rs.set r ((rs.getD r []).take ((rs.getD r []).length-1))).getD i []=rs.getD i []:=fun i h=>getD_set_ne (Ne.symm h) _ _
 have key:sM (oX r (rs.set r ((rs.getD r []).take ((rs.getD r []).length-1))) ((rs.getD r []).getD ((rs.getD r []).length-1) 0)).1:=by
  refine zr r _ _ ((rs.getD r []).length-1) (by rw[Ml];exact hr) (fun i hi=> ?_) (fun i hi hil=> ?_) (fun i hi=> ?_)
  ·rw[hne _ (by omega),hne _ (by omega)];exact h i (by omega)
  ·rw[Ml]at hil
   by_cases e:i=r
   ·subst e
    rw[hne (i+1) (by omega),hrow,NJ]
    refine⟨by omega,fun c hc'=> ?_⟩
    rw[fH (by omega)]
    exact(h i hil).2 c hc'
   ·rw[hne (i+1) (by omega),hne i e];exact h i hil
  ·subst hi
   obtain⟨a1,a2⟩:=h i hr
   rw[hrow,hne i (by omega),NJ]
   refine⟨by omega,by omega,a2 _ (by omega),fun c h1 h2=> ?_,fun c h1 h2=>by omega⟩
   rw[fH (by omega)]
   exact a2 c (by omega)
 unfold nU
 simp only
 split
 ·exact Gs key r
 ·exact key
end Go.Am.Pu
end
section
/- The greatest number of a standard tableau, and the tableau without it; a pair of tableaux unrolled. Plain words. -/
namespace Go.Am.Pu
section
variable {t : Tab}
theorem wJ(h:bj t=true)(hs:gh t=true){a b x y:Nat}(ha:a<t.2.length)(hx:x<(t.2.getD a []).length)(hb:b<t.2.length)(hy:y<(t.2.getD b []).length)(e:cel t.2 a x=cel t.2 b y):a=b∧x=y:=by
 have nd:=(kN h hs).1
 rw[List.Nodup,List.pairwise_flatten]at nd
 have mem: ∀{r z:Nat},r<t.2.length→(hz:z<(t.2.getD r []).length)→cel t.2 r z∈t.2.getD r []:=fun{r z} _ hz=>by
  unfold cel
  rw[an hz]
  exact Ns hz
 have ab: ∀{a b x y:Nat},a<b→a<t.2.length→x<(t.2.getD a []).length→b<t.2.length→y<(t.2.getD b []).length→cel t.2 a x≠cel t.2 b y:=fun{a b x y} hab ha hx hb hy=>by
  have:=OB.1 nd.2 a b ha hb hab
  exact this _ (by rw[←an ha []];exact mem ha hx) _ (by rw[←an hb []];exact mem hb hy)
 have e1:a=b:=by
  rcases O3 a b with hl|hl|hl
  ·exact absurd e (ab hl ha hx hb hy)
  ·exact hl
  ·exact absurd e.symm (ab hl hb hy ha hx)
 subst e1
 refine⟨rfl,?_⟩
 have n2:=nd.1 _ (by rw[an ha];exact Ns ha:t.2.getD a []∈t.2)
 unfold cel at e
 rw[an hx,an hy]at e
 rcases O3 x y with hl|hl|hl
 ·exact absurd e (OB.1 n2 x y hx hy hl)
 ·exact hl
 ·exact absurd e.symm (OB.1 n2 y x hy hx hl)
theorem l6(h:bj t=true)(hs:gh t=true){a x:Nat}{v:Int}(ha:a<t.2.length)(hx:x<(t.2.getD a []).length)(e:cel t.2 a x=v):rowOf t v=a:=by
 have hf:t.2.findIdx (fun r=>has r v)=a:=by
  rw[List.findIdx_eq ha]
  refine⟨?_,fun j hj=> ?_⟩
  ·rw[←an ha [],pF,←e]
   unfold cel
   rw[an hx]
   exact Ns hx
  ·rw[Bool.eq_false_iff]
   intro hc
   rw[pF]at hc
   obtain⟨y,hy,e2⟩:=Nx hc
   have hjl:j<t.2.length:=by omega
   have hy':y<(t.2.getD j []).length:=by rw[an hjl];exact hy
   have e3:cel t.2 j y=v:=by
    unfold cel
    rw[an hy']
    simp only[an hjl]
    exact e2
   have:=wJ h hs hjl hy' ha hx (by rw[e,e3])
   omega
 unfold rowOf yW
 rw[hf,if_pos ha]
theorem F7(h:bj t=true)(hs:gh t=true)(hn:t.2.flatten.length≠0): ∃a:Nat,a<t.2.length∧1≤(t.2.getD a []).length∧cel t.2 a ((t.2.getD a []).length-1)=t.2.flatten.length∧(t.2.getD (a+1) []).length<(t.2.getD a []).length∧rowOf t t.2.flatten.length=a:=by
 have ho:kH t.2.flatten=true:=by
  have:=hs
  simp only[gh,Nc]at this
  exact this.2
 obtain⟨a,x,ha,hx,e⟩:=pN (mC.1 ho t.2.flatten.length (j2.2 (by omega)))
 have hb:=(kN h hs).2
 obtain⟨c1,c2⟩:=n8 h
 have hx1:x+1=(t.2.getD a []).length:=by
  refine OZ hx (Oa fun hlt=> ?_)
  have k1:=c2 a x ha hlt
  have k2:=(hb _ (mB ha hlt)).2
  have:=wJ h hs ha hx ha hlt (by omega)
  omega
 have hbel:(t.2.getD (a+1) []).length≤x:=by
  refine Oa fun hlt=> ?_
  have ha1:a+1<t.2.length:=On fun hle=>by rw[bL hle]at hlt;simp at hlt
  have k1:=(l9 h a ha1).2 x hlt
  have k2:=(hb _ (mB ha1 hlt)).2
  unfold cel at e k2
  omega
 refine⟨a,ha,by omega,by rw[show(t.2.getD a []).length-1=x by omega];exact e,by omega,l6 h hs ha hx e⟩
theorem sF{rs:List (List Int)}{a:Nat}(ha:a<rs.length)(hc:(rs.getD (a+1) []).length<(rs.getD a []).length)(hp: ∀r,r<rs.length→1≤(rs.getD r []).length)(r:Nat):(dY rs a).getD r []=if r=a then(rs.getD a []).take ((rs.getD a []).length-1)else rs.getD r []:=by
 have hset:(rs.set a ((rs.getD a []).take ((rs.getD a []).length-1))).getD r []=if r=a then(rs.getD a []).take ((rs.getD a []).length-1)else rs.getD r []:=by
  by_cases e:r=a
  ·subst e;rw[if_pos rfl,an (by rw[Ml];exact ha),NN]
  ·rw[if_neg e,getD_set_ne (Ne.symm e)]
 unfold dY
 split
 ·next h1=>
  by_cases hr:r<a
  ·rw[fH hr,hset]
  ·rw[bL (by rw[NJ];omega)]
   by_cases e:r=a
   ·subst e;rw[if_pos rfl,h1];rfl
   ·rw[if_neg e]
    have hlast:rs.length≤a+1:=Oa fun hlt=>by
     have:=hp (a+1) hlt
     omega
    rw[bL (by omega)]
 ·exact hset
theorem xE{rs:List (List Int)}{a:Nat}(ha:a<rs.length):(dY rs a).length=if(rs.getD a []).length=1 then a else rs.length:=by
 unfold dY
 split
 ·rw[NJ,Ml];omega
 ·rw[Ml]
theorem Hz(h:bj t=true)(hs:gh t=true){a:Nat}(hn:t.2.flatten.length≠0)(ha:a<t.2.length)(h1:1≤(t.2.getD a []).length)(htop:cel t.2 a ((t.2.getD a []).length-1)=t.2.flatten.length)(hc:(t.2.getD (a+1) []).length<(t.2.getD a []).length):
  bj (([],dY t.2 a):Tab)=true∧gh (([],dY t.2 a):Tab)=true∧(dY t.2 a).flatten.length+1=t.2.flatten.length∧ ∀v,1≤v→v<(t.2.flatten.length:Int)→rowOf ([],dY t.2 a) v=rowOf t v:=by
 have hpos:=fun r (hr:r<t.2.length)=>kp h hr
 have hrow:=sF ha hc hpos
 have hlen:=xE ha
 obtain⟨c1,c2⟩:=n8 h
 have c3:=l9 h
 have hcorner:(outer t).getD (a+1) 0<(outer t).getD a 0:=by
  rw[gG h ha]
  by_cases e:a+1<t.2.length
  ·rw[gG h e];omega
  ·rw[bL (by rw[cd];omega)];omega
 have hal:a<(outer t).length:=by rw[cd];exact ha
 have hout:outer (([],dY t.2 a):Tab)=aO (outer t) a:=by
  have hdl:(aO (outer t) a).length=(dY t.2 a).length:=by
   rw[hlen]
   unfold aO
   rw[gG h ha]
   by_cases e:(t.2.getD a []).length=1
   ·rw[if_pos (by omega),if_pos e,NJ,cd];omega
   ·rw[if_neg (by omega),if_neg e,Ml,cd]
  refine OI (by rw[cd,hdl]) fun r k1 k2=> ?_
  rw[←an k1 0,←an k2 0,lL (jA h) hal hcorner]
  have k3:r<(dY t.2 a).length:=by rw[cd]at k1;exact k1
  have:=fV [] (dY t.2 a) 0 r k3
  unfold outer at this⊢
  rw[this,hrow]
  have hrl:r<t.2.length:=by
   rw[hlen]at k3
   split at k3<;>omega
  have po:=gG h hrl
  have pa:=gG h ha
  unfold outer at po pa
  by_cases e:r=a
  ·subst e
   rw[if_pos rfl,if_pos rfl,NJ,pa]
   simp only[Li]
   omega
  ·rw[if_neg e,if_neg e,po]
   simp only[Li]
   omega
 have hcel: ∀{r x:Nat},x<((dY t.2 a).getD r []).length→x<(t.2.getD r []).length∧cel (dY t.2 a) r x=cel t.2 r x:=fun{r x} hx=>by
  unfold cel
  rw[hrow]at hx⊢
  by_cases e:r=a
  ·subst e
   rw[if_pos rfl,NJ]at hx
   rw[if_pos rfl,fH (by omega)]
   exact⟨by omega,rfl⟩
  ·rw[if_neg e]at hx⊢
   exact⟨hx,rfl⟩
 have hrl: ∀{r:Nat},r<(dY t.2 a).length→r<t.2.length:=fun{r} hr=>by
  rw[hlen]at hr
  split at hr<;>omega
 have hin: ∀{r x:Nat},x<(t.2.getD r []).length→ ¬(r=a∧x+1=(t.2.getD a []).length)→x<((dY t.2 a).getD r []).length:=fun{r x} hx hne=>by
  rw[hrow]
  by_cases e:r=a
  ·subst e
   rw[if_pos rfl,NJ]
   have: ¬x+1=(t.2.getD r []).length:=fun e=>hne ⟨rfl,e⟩
   omega
  ·rw[if_neg e];exact hx
 have hpl:bj (([],dY t.2 a):Tab)=true:=by
  refine vy rfl (by rw[hout];exact rj (jA h) hal hcorner) (fun r x hr hx=> ?_) (fun r x hr hx=> ?_) (fun r x hr hx=> ?_)
  ·obtain⟨k1,k2⟩:=hcel hx
   rw[k2];exact c1 r x (hrl hr) k1
  ·obtain⟨k1,k2⟩:=hcel hx
   obtain⟨_,k4⟩:=hcel (show x<((dY t.2 a).getD r []).length from Nat.lt_of_succ_lt hx)
   rw[k2,k4];exact c2 r x (hrl hr) k1
  ·obtain⟨k1,k2⟩:=hcel hx
   have hr1:=hrl hr
   obtain⟨d1,d2⟩:=c3 r hr1
   have hxr:x<((dY t.2 a).getD r []).length:=by
    refine hin (by omega) fun e=> ?_
    rw[e.1]at k1
    omega
   obtain⟨_,k4⟩:=hcel hxr
   rw[k2,k4]
   exact d2 x k1
 have hfl:(dY t.2 a).flatten.length+1=t.2.flatten.length:=by
  have e1:=qY hpl
  rw[hout,yK (jA h) hal hcorner,qY h]at e1
  simp only at e1
  omega
 have ho:kH t.2.flatten=true:=by
  have:=hs
  simp only[gh,Nc]at this
  exact this.2
 have hcells: ∀v,1≤v→v<(t.2.flatten.length:Int)→ ∃r x,r<(dY t.2 a).length∧x<((dY t.2 a).getD r []).length∧cel (dY t.2 a) r x=v∧r<t.2.length∧x<(t.2.getD r []).length∧cel t.2 r x=v:=by
  intro v v1 v2
  obtain⟨r,x,hr,hx,e⟩:=pN (mC.1 ho v (j2.2 (by omega)))
  have hx':x<((dY t.2 a).getD r []).length:=by
   refine hin hx fun e2=> ?_
   rw[e2.1,show x=(t.2.getD a []).length-1 by omega,htop]at e
   omega
  exact⟨r,x,On fun hle=>by rw[bL hle]at hx';simp at hx',hx',by rw[(hcel hx').2];exact e,hr,hx,e⟩
 have hst:gh (([],dY t.2 a):Tab)=true:=by
  have hp':=hpl
  simp only[bj,Nc]at hp'
  simp only[gh,Nc]
  refine⟨hp'.1,mC.2 fun v hv=> ?_⟩
  rw[j2]at hv
  obtain⟨r,x,q1,q2,q3,_⟩:=hcells v hv.1 (by omega)
  rw[←q3]
  exact mB q1 q2
 refine⟨hpl,hst,hfl,fun v v1 v2=> ?_⟩
 obtain⟨r,x,q1,q2,q3,q4,q5,q6⟩:=hcells v v1 v2
 rw[l6 h hs q4 q5 q6,l6 hpl hst q1 q2 q3]
end
structure Unr (q : Tab) (k : Nat) (P Q : List (List Int)) : Prop where
  pl : bj (([], Q) : Tab) = true
  st : gh (([], Q) : Tab) = true
  fl : Q.flatten.length = k
  col : sM P
  same : fq P Q
  p9 : dG 9 9 P
  row : ∀ v, 1 ≤ v → v ≤ (k : Int) → rowOf ([], Q) v = rowOf q v
theorem Unr.step{q:Tab}{k:Nat}{P Q:List (List Int)}(h:Unr q (k+1) P Q): ∃a:Nat,rowOf q ((k+1:Nat):Int)=a∧a<Q.length∧1≤(Q.getD a []).length∧cel Q a ((Q.getD a []).length-1)=(k+1:Nat)∧(Q.getD (a+1) []).length<(Q.getD a []).length∧Unr q k (nU P a).1 (dY Q a):=by
 have hfl:(([],Q):Tab).2.flatten.length=k+1:=h.fl
 obtain⟨a,a1,a2,a3,a4,a5⟩:=F7 h.pl h.st (by omega)
 obtain⟨b1,b2,b3,b4⟩:=Hz h.pl h.st (by omega) a1 a2 a3 a4
 simp only at a1 a2 a3 a4 b3
 have hP1:a<P.length:=by rw[h.same.1];exact a1
 refine⟨a,?_,a1,a2,by rw[a3,h.fl],a4,⟨b1,b2,by have:=h.fl;omega,Be h.col hP1 (by rw[h.same.2];exact a2) (by rw[h.same.2,h.same.2];exact a4),(Ar P a).trans (Ck h.same a),Ay h.p9 a,fun v v1 v2=> ?_⟩⟩
 ·rw[←h.row _ (by omega) (O5 _),←a5,hfl]
 ·rw[b4 v v1 (by rw[hfl];omega)]
  exact h.row v v1 (by omega)
end Go.Am.Pu
namespace Go.Am.Pu
end Go.Am.Pu
end
section
/- Insertion keeps tableaux; where the new cells lie; a tableau from its word. Plain words. -/
namespace Go.Am.Pu
def nW(r:List Int):Prop:= ∀i,i+1<r.length→r.getD i 0≤r.getD (i+1) 0
theorem nW.le{r:List Int}(h:nW r): ∀(d i:Nat),i+d<r.length→r.getD i 0≤r.getD (i+d) 0
 |0,i,_=>O5 _
 |d+1,i,hi=>by
  have a:=nW.le h d i (by omega)
  have b:=h (i+d) (by omega)
  rw[show i+(d+1)=i+d+1 by omega]
  omega
theorem nW.mono{r:List Int}(h:nW r){i j:Nat}(hij:i≤j)(hj:j<r.length):r.getD i 0≤r.getD j 0:=by
 have:=h.le (j-i) i (by omega)
 rw[show i+(j-i)=j by omega]at this
 exact this
def fst(r:List Int)(x:Int):Nat:=r.findIdx fun n=>decide (x<n)
theorem uz{r:List Int}{x:Int}:fst r x≤r.length:=OT
theorem u7{r:List Int}{x:Int}(h:fst r x<r.length):x<r.getD (fst r x) 0:=by
 have:=sG (p:=fun n=>decide (x<n)) h
 exact of_decide_eq_true this
theorem oz{r:List Int}{x:Int}{i:Nat}(h:i<fst r x):r.getD i 0≤x:=by
 have h1:i<r.length:=Nj h uz
 have h2:=OS h
 rw[an h1]
 exact Mc.1 (of_decide_eq_false h2)
theorem fst_eq{r:List Int}{x:Int}{i:Nat}(h1:i<r.length)(h2:x<r.getD i 0)(h3: ∀j,j<i→r.getD j 0≤x):fst r x=i:=by
 rcases O3 (fst r x) i with h|h|h
 ·have a:=u7 (Nat.lt_trans h h1)
  have b:=h3 _ h
  omega
 ·exact h
 ·have:=oz h
  omega
theorem wP{r:List Int}{x:Int}(h: ∀j,j<r.length→r.getD j 0≤x):fst r x=r.length:=by
 refine OZ uz (Oa fun hlt=> ?_)
 have a:=u7 hlt
 have b:=h _ hlt
 omega
theorem dF(r:List Int)(rs:List (List Int))(x:Int):aS (r::rs) x=if fst r x<r.length then(r.set (fst r x) x::(aS rs (r.getD (fst r x) 0)).1,(aS rs (r.getD (fst r x) 0)).2+1)else((r++ [x])::rs,0):=rfl
def IY(r:List Int):List (List Int)→Prop
 | []=>True
 |s::_=>s.length≤r.length∧ ∀q,q<s.length→r.getD q 0<s.getD q 0
def SSR:List (List Int)→Prop
 | []=>True
 |r::rs=>0<r.length∧nW r∧IY r rs∧SSR rs
theorem gP{r:List Int}{i:Nat}(x:Int)(h:i<r.length)(q:Nat):(r.set i x).getD q 0=if q=i then x else r.getD q 0:=by
 by_cases e:q=i
 ·subst e;rw[if_pos rfl,an (by rw[Ml];exact h),NN]
 ·rw[if_neg e,getD_set_ne (Ne.symm e)]
theorem fZ{r:List Int}(x:Int)(q:Nat):(r++ [x]).getD q 0=if q=r.length then x else r.getD q 0:=by
 by_cases h:q<r.length
 ·rw[jq h,if_neg (by omega)]
 ·rw[mj (by omega)]
  by_cases e:q=r.length
  ·rw[if_pos e,e,O0];rfl
  ·rw[if_neg e,bL (by simp;omega),bL (by omega)]
theorem HK{r:List Int}{x:Int}(h:nW r)(hf:fst r x<r.length):nW (r.set (fst r x) x):=by
 intro i hi
 rw[Ml]at hi
 rw[gP x hf,gP x hf]
 have h0:=h i hi
 by_cases e1:i=fst r x
 ·rw[if_pos e1,if_neg (by omega)]
  have:=u7 hf
  rw[←e1]at this
  omega
 ·rw[if_neg e1]
  by_cases e2:i+1=fst r x
  ·rw[if_pos e2];exact oz (by omega)
  ·rw[if_neg e2];exact h0
theorem HB{r:List Int}{x:Int}(h:nW r)(hf: ¬fst r x<r.length):nW (r++ [x]):=by
 intro i hi
 rw[Mb,Ox]at hi
 rw[fZ,fZ,if_neg (by omega)]
 by_cases e:i+1=r.length
 ·rw[if_pos e]
  have:= @uz r x
  exact oz (by omega)
 ·rw[if_neg e];exact h i (by omega)
theorem GG{r:List Int}{x:Int}{rs:List (List Int)}(h:nW r)(hf:fst r x<r.length)(ho:IY r rs):IY (r.set (fst r x) x) (aS rs (r.getD (fst r x) 0)).1:=by
 have hy:=u7 hf
 have hle: ∀q,q<r.length→(r.set (fst r x) x).getD q 0≤r.getD q 0:=fun q hq=>by
  rw[gP x hf]
  split
  ·next e=>rw[e];omega
  ·exact O5 _
 have hlow: ∀p,p≤fst r x→(r.set (fst r x) x).getD p 0<r.getD (fst r x) 0:=fun p hp=>by
  rw[gP x hf]
  split
  ·exact hy
  ·have:=oz (r:=r) (x:=x) (i:=p) (by omega)
   omega
 cases rs with
 |nil=>
  show([r.getD (fst r x) 0]:List Int).length≤_∧_
  refine⟨by rw[Ml];simp;omega,fun q hq=> ?_⟩
  have e:q=0:=by simp at hq;exact hq
  subst e
  exact hlow 0 (by omega)
 |cons s rs=>
  obtain⟨o1,o2⟩:=ho
  have hp:fst s (r.getD (fst r x) 0)≤fst r x:=by
   refine Oa fun hlt=> ?_
   have hs:fst r x<s.length:=Nj hlt uz
   have a:=oz hlt
   have b:=o2 _ hs
   omega
  rw[dF]
  by_cases c:fst s (r.getD (fst r x) 0)<s.length
  ·rw[if_pos c]
   refine⟨by rw[Ml,Ml];exact o1,fun q hq=> ?_⟩
   rw[Ml]at hq
   rw[gP (r:=s) _ c]
   split
   ·next e=>rw[e];exact hlow _ hp
   ·have a:=hle q (by omega)
    have b:=o2 q hq
    omega
  ·rw[if_neg c]
   have hsl:fst s (r.getD (fst r x) 0)=s.length:=OZ uz (Oa c)
   refine⟨by rw[Ml,Mb,Ox];omega,fun q hq=> ?_⟩
   rw[Mb,Ox]at hq
   rw[fZ]
   split
   ·next e=>rw[e];exact hlow _ (by omega)
   ·have a:=hle q (by omega)
    have b:=o2 q (by omega)
    omega
theorem zX: ∀(rs:List (List Int)) (x:Int),SSR rs→SSR (aS rs x).1
 | [],x,_=>⟨by simp,fun i hi=>by simp at hi,trivial,trivial⟩
 |r::rs,x,h=>by
  obtain⟨h1,h2,h3,h4⟩:=h
  rw[dF]
  split
  ·next c=>exact⟨by rw[Ml];exact h1,HK h2 c,GG h2 c h3,zX rs _ h4⟩
  ·next c=>
   refine⟨by simp,HB h2 c,?_,h4⟩
   cases rs with
   |nil=>trivial
   |cons s rs=>
    obtain⟨o1,o2⟩:=h3
    refine⟨by rw[Mb];omega,fun q hq=> ?_⟩
    rw[fZ,if_neg (by omega)]
    exact o2 q hq
end Go.Am.Pu
end
section
/- Plain tableaux, row by row; a tableau from its word; words inserted. Plain words. -/
namespace Go.Am.Pu
theorem tp: ∀{rs:List (List Int)},SSR rs→ ∀r,r<rs.length→0<(rs.getD r []).length∧nW (rs.getD r [])
 |r::rs,h,0,_=>⟨h.1,h.2.1⟩
 |r::rs,h,q+1,hq=>tp h.2.2.2 q (by simpa using hq)
theorem wg: ∀{rs:List (List Int)},SSR rs→sM rs
 | [],_,i,hi=>by simp at hi
 | [r],_,i,hi=>by simp at hi
 |r::s::rs,h,0,_=>h.2.2.1
 |r::s::rs,h,i+1,hi=>wg h.2.2.2 i (by simpa using hi)
theorem rk: ∀{rs:List (List Int)},(∀r,r<rs.length→0<(rs.getD r []).length∧nW (rs.getD r []))→sM rs→SSR rs
 | [],_,_=>trivial
 |r::rs,h1,h2=>by
  refine⟨(h1 0 (by simp)).1,(h1 0 (by simp)).2,?_,rk (fun q hq=>h1 (q+1) (by simpa using hq)) (fun i hi=>h2 (i+1) (by simpa using hi))⟩
  cases rs with
  |nil=>trivial
  |cons s rs=>exact h2 0 (by simp)
theorem lK{t:Tab}(h:bj t=true):SSR t.2:=by
 refine rk (fun r hr=>⟨kp h hr,fun i hi=> ?_⟩) (l9 h)
 exact(n8 h).2 r i hr hi
theorem rz(rs:List (List Int)){i:Nat}(h:i<rs.length):(outer (([],rs):Tab)).getD i 0=(rs.getD i []).length:=by
 have:=fV [] rs 0 i h
 unfold outer
 rw[this]
 simp
theorem tJ{rs:List (List Int)}(h:SSR rs)(hn: ∀x∈rs.flatten,1≤x∧x≤9)(h9:rs.flatten.length≤9):bj (([],rs):Tab)=true:=by
 have hr:=fun r hr=>tp h r hr
 have hc:=wg h
 have hrl: ∀r,r<rs.length→(rs.getD r []).length≤9:=fun r h1=>by
  have:=s9 (rs:=rs) (r:=rs.getD r []) (by rw[an h1];exact Ns h1)
  omega
 refine vy rfl ?_ (fun r x h1 h2=>hn _ (mB h1 h2)) (fun r x h1 h2=>(hr r h1).2 x h2) (fun r x h1 h2=>(hc r h1).2 x h2)
 have hs:dD (outer (([],rs):Tab))=rs.flatten.length:=qV [] rs 0 fun q _=>by simp
 refine ly _ 9 0 (fun x hx=> ?_) (fun h0=> ?_) (fun i hi=> ?_) (by omega)
 ·obtain⟨i,hi,rfl⟩:=Nx hx
  have hi':i<rs.length:=by rw[cd]at hi;exact hi
  rw[←an hi 0,rz rs hi']
  have:=(hr i hi').1
  omega
 ·have h0':0<rs.length:=by rw[cd]at h0;exact h0
  rw[rz rs h0']
  have:=hrl 0 h0'
  omega
 ·have hi':i+1<rs.length:=by rw[cd]at hi;exact hi
  rw[rz rs hi',rz rs (by omega)]
  have:=(hc i hi').1
  omega
theorem pM: ∀(rs:List (List Int)) (x z:Int),z∈(aS rs x).1.flatten→z=x∨z∈rs.flatten
 | [],x,z,h=>by simp[aS]at h;exact .inl h
 |r::rs,x,z,h=>by
  rw[dF]at h
  split at h
  ·next c=>
   simp only[OA,Md]at h⊢
   rcases h with h|h
   ·rcases OO h with h|h
    ·exact .inr (.inl h)
    ·exact .inl h
   ·rcases pM rs _ z h with h|h
    ·right;left
     rw[h,an c]
     exact Ns c
    ·exact .inr (.inr h)
  ·simp only[OA,Md,Nt]at h⊢
   rcases h with(h|h)|h
   ·exact .inr (.inl h)
   ·exact .inl h
   ·exact .inr (.inr h)
theorem Cc: ∀(rs:List (List Int)) (x:Int),(aS rs x).1.flatten.length=rs.flatten.length+1
 | [],x=>by simp[aS]
 |r::rs,x=>by
  rw[dF]
  split
  ·have:=Cc rs (r.getD (fst r x) 0)
   simp only[OA,Mb,Ml]
   omega
  ·simp only[OA,Mb,Ox]
   omega
theorem ru: ∀(rs:List (List Int)) (x:Int),(aS rs x).2≤rs.length∧((aS rs x).1.length=if(aS rs x).2=rs.length then rs.length+1 else rs.length)∧ ∀i,((aS rs x).1.getD i []).length=if i=(aS rs x).2 then(rs.getD i []).length+1 else(rs.getD i []).length
 | [],x=>by
  refine⟨Ng _,rfl,fun i=> ?_⟩
  cases i with
  |zero=>rfl
  |succ i=>simp[aS]
 |r::rs,x=>by
  rw[dF]
  split
  ·next c=>
   obtain⟨a,b,d⟩:=ru rs (r.getD (fst r x) 0)
   refine⟨by simp only[Nr];omega,?_,fun i=> ?_⟩
   ·simp only[Nr,b,Mh]
    split<;>rfl
   ·cases i with
    |zero=>simp
    |succ i=>
     have:=d i
     simp only[Mh]
     exact this
  ·refine⟨NF _,by simp,fun i=> ?_⟩
   cases i with
   |zero=>simp
   |succ i=>simp
def dO:List Int→List (List Int)→List (List Int)
 | [],P=>P
 |x::w,P=>dO w (aS P x).1
theorem ky: ∀(v w:List Int) (P:List (List Int)),dO (v++w) P=dO w (dO v P)
 | [],_,_=>rfl
 |x::v,w,P=>ky v w _
def wK(i:Nat):List Int→List (List Int)→List (List Int)
 |r,[]=>if i=0 then []else [r.take i]
 |r,s::rs=>(r.take i++s.drop i)::wK i s rs
theorem B6: ∀(r:List Int) (rs:List (List Int)),wK 0 r rs=rs
 |r,[]=>rfl
 |r,s::rs=>by simp[wK,B6 s rs]
theorem tS{i:Nat}(hi:0<i): ∀(r:List Int) (rs:List (List Int)),SSR (r::rs)→r.length≤i→wK i r rs=r::rs
 |r,[],_,h=>by unfold wK;rw[if_neg (by omega),Oz h]
 |r,s::rs,h,hl=>by
  have:=h.2.2.1.1
  unfold wK
  rw[tS hi s rs h.2.2.2 (by omega),Oz hl,OE (by omega),MR]
theorem Bq: ∀(r:List Int) (rs:List (List Int)) (i:Nat),SSR (r::rs)→i<r.length→(aS (wK i r rs) (r.getD i 0)).1=wK (i+1) r rs
 |r,[],i,h,hi=>by
  show(aS (if i=0 then []else [r.take i]) (r.getD i 0)).1=if i+1=0 then []else [r.take (i+1)]
  rw[if_neg (show¬i+1=0 by omega),take_succ hi 0]
  by_cases e:i=0
  ·subst e;rw[if_pos rfl];rfl
  ·rw[if_neg e,dF,if_neg]
   rw[wP (fun j hj=> ?_)]
   ·exact Nat.lt_irrefl _
   ·rw[NJ]at hj
    rw[fH (by omega)]
    exact h.2.1.mono (by omega) hi
 |r,s::rs,i,h,hi=>by
  obtain⟨h1,h2,⟨o1,o2⟩,h4⟩:=h
  have hlow: ∀j,j<i→(r.take i++s.drop i).getD j 0≤r.getD i 0:=fun j hj=>by
   rw[jq (by rw[NJ];omega),fH hj]
   exact h2.mono (by omega) hi
  have hget: ∀j,i≤j→(r.take i++s.drop i).getD j 0=s.getD j 0:=fun j hj=>by
   rw[mj (by rw[NJ];omega),NJ,il,show i+(j-min i r.length)=j by omega]
  have hlen:(r.take i++s.drop i).length=i+(s.length-i):=by
   rw[Mb,NJ,NK];omega
  unfold wK
  rw[dF]
  by_cases c:i<s.length
  ·have hf:fst (r.take i++s.drop i) (r.getD i 0)=i:=fst_eq (by omega) (by rw[hget i (Ng _)];exact o2 i c) hlow
   rw[hf,if_pos (by omega),hget i (Ng _)]
   simp only
   rw[Bq s rs i h4 c]
   congr 1
   refine Cl (by rw[Ml,hlen,Mb,NJ,NK];omega) fun q hq=> ?_
   rw[gP (r:=r.take i++s.drop i) _ (by omega)]
   by_cases e:q=i
   ·subst e
    rw[if_pos rfl,jq (by rw[NJ];omega),fH (by omega)]
   ·rw[if_neg e]
    by_cases e2:q<i
    ·rw[jq (by rw[NJ];omega),fH e2,jq (by rw[NJ];omega),fH (by omega)]
    ·rw[hget q (by omega),mj (by rw[NJ];omega),NJ,il,show i+1+(q-min (i+1) r.length)=q by omega]
  ·have hd:s.drop i= []:=OE (by omega)
   have hd1:s.drop (i+1)= []:=OE (by omega)
   have hn:fst (r.take i++s.drop i) (r.getD i 0)=(r.take i++s.drop i).length:=wP fun j hj=>hlow j (by omega)
   rw[if_neg (by omega)]
   simp only
   have hs1:=h4.1
   rw[hd,hd1,MR,MR,take_succ hi 0,tS (by omega) s rs h4 (by omega),tS (by omega) s rs h4 (by omega)]
theorem B7{r:List Int}{rs:List (List Int)}(h:SSR (r::rs)): ∀(m i:Nat),i+m=r.length→dO (r.drop i) (wK i r rs)=r::rs
 |0,i,hm=>by
  rw[OE (by omega)]
  exact tS (by have:=h.1;omega) r rs h (by omega)
 |m+1,i,hm=>by
  have hi:i<r.length:=by omega
  rw[drop_cons hi 0]
  show dO (r.drop (i+1)) (aS (wK i r rs) (r.getD i 0)).1=_
  rw[Bq r rs i h hi]
  exact B7 h m (i+1) (by omega)
theorem md: ∀(rs:List (List Int)),SSR rs→dO rs.reverse.flatten []=rs
 | [],_=>rfl
 |r::rs,h=>by
  have ih:=md rs h.2.2.2
  rw[OJ,OD,ky,ih]
  have:=B7 h r.length 0 (by omega)
  rw[Ny,B6]at this
  simpa using this
end Go.Am.Pu
end
section
/- The recording tableau is standard, and its descents are the word's. Plain words. -/
namespace Go.Am.Pu
def iG(Q:List (List Int))(a:Nat)(v:Int):List (List Int):=if a=Q.length then Q++ [[v]]else Q.set a (Q.getD a []++ [v])
theorem oS{Q:List (List Int)}{a:Nat}(v:Int)(ha:a≤Q.length)(i:Nat):(iG Q a v).getD i []=if i=a then Q.getD a []++ [v]else Q.getD i []:=by
 unfold iG
 by_cases e:a=Q.length
 ·rw[if_pos e]
  by_cases h:i<Q.length
  ·rw[if_neg (by omega)]
   simp only[Mk,Mq h]
  ·by_cases e2:i=a
   ·rw[if_pos e2,e2,e,bL (xs:=Q) (Ng _)]
    simp
   ·rw[if_neg e2,bL (xs:=Q) (by omega),bL (by rw[Mb,Ox];omega)]
 ·rw[if_neg e]
  by_cases e2:i=a
  ·subst e2;rw[if_pos rfl,an (by rw[Ml];omega),NN]
  ·rw[if_neg e2,getD_set_ne (Ne.symm e2)]
theorem np{Q:List (List Int)}{a:Nat}(v:Int):(iG Q a v).length=if a=Q.length then Q.length+1 else Q.length:=by
 unfold iG
 split
 ·rw[Mb,Ox]
 ·rw[Ml]
theorem Dj{Q:List (List Int)}{a:Nat}(v:Int)(ha:a≤Q.length):(iG Q a v).flatten.length=Q.flatten.length+1:=by
 unfold iG
 split
 ·simp
 ·next e=>
  have: ∀(Q:List (List Int)) (a:Nat),a<Q.length→(Q.set a (Q.getD a []++ [v])).flatten.length=Q.flatten.length+1:=by
   intro Q
   induction Q with
   |nil=>intro a h;simp at h
   |cons r rs ih=>
    intro a h
    cases a with
    |zero=>simp;omega
    |succ a=>
     have:=ih a (by simpa using h)
     simp only[Lo,OH,OA,Mb,this]
     omega
  exact this Q a (by omega)
theorem HE{Q P:List (List Int)}{a k:Nat}(hp:bj (([],Q):Tab)=true)(hs:gh (([],Q):Tab)=true)(hk:Q.flatten.length=k)(h9:k+1≤9)(hP:SSR P)(ha:a≤Q.length)(hPl:P.length=if a=Q.length then Q.length+1 else Q.length)
  (hl: ∀i,(P.getD i []).length=if i=a then(Q.getD i []).length+1 else(Q.getD i []).length):
  bj (([],iG Q a ((k+1:Nat):Int)):Tab)=true∧gh (([],iG Q a ((k+1:Nat):Int)):Tab)=true∧(iG Q a ((k+1:Nat):Int)).flatten.length=k+1∧fq P (iG Q a ((k+1:Nat):Int))∧
   rowOf ([],iG Q a ((k+1:Nat):Int)) ((k+1:Nat):Int)=a∧ ∀v,1≤v→v≤(k:Int)→rowOf ([],iG Q a ((k+1:Nat):Int)) v=rowOf ([],Q) v:=by
 have hget:=oS ((k+1:Nat):Int) ha
 have hlen:= @np Q a ((k+1:Nat):Int)
 have hfl:=Dj ((k+1:Nat):Int) ha
 generalize hN:iG Q a ((k+1:Nat):Int)=N at*
 have hNl: ∀i,(N.getD i []).length=if i=a then(Q.getD i []).length+1 else(Q.getD i []).length:=fun i=>by
  rw[hget]
  split
  ·next e=>rw[e,Mb,Ox]
  ·rfl
 have hsame:fq P N:=⟨by rw[hPl,hlen],fun i=>by rw[hl,hNl]⟩
 have hcel: ∀r x,cel N r x=if r=a∧x=(Q.getD a []).length then((k+1:Nat):Int)else cel Q r x:=fun r x=>by
  unfold cel
  rw[hget]
  by_cases e:r=a
  ·subst e
   rw[if_pos rfl,fZ]
   by_cases e2:x=(Q.getD r []).length
   ·rw[if_pos e2,if_pos ⟨rfl,e2⟩]
   ·rw[if_neg e2,if_neg (fun h=>e2 h.2)]
  ·rw[if_neg e,if_neg (fun h=>e h.1)]
 have hb:=(kN hp hs).2
 simp only at hb
 rw[hk]at hb
 have hQ: ∀{r x:Nat},x<(Q.getD r []).length→1≤cel Q r x∧cel Q r x≤(k:Int):=fun{r x} hx=>by
  have hr:r<Q.length:=On fun hle=>by rw[bL hle]at hx;simp at hx
  exact hb _ (mB hr hx)
 obtain⟨q1,q2⟩:=n8 hp
 have q3:=l9 hp
 simp only at q2 q3
 have pc:=wg hP
 have pr:=fun r hr=>tp hP r hr
 have hqlen: ∀i,(Q.getD (i+1) []).length≤(Q.getD i []).length:=fun i=>by
  by_cases h:i+1<Q.length
  ·exact(q3 i h).1
  ·rw[bL (by omega)];exact NF _
 have hssr:SSR N:=by
  refine rk (fun r hr=>⟨?_,fun x hx=> ?_⟩) (fun i hi=> ?_)
  ·rw[←hsame.2];exact(pr r (by rw[hsame.1];exact hr)).1
  ·have e1:=hcel r x
   have e2:=hcel r (x+1)
   unfold cel at e1 e2
   rw[e1,e2]
   rw[hNl]at hx
   have hxQ:x<(Q.getD r []).length:=by
    split at hx<;>omega
   rw[if_neg (fun h=>by rw[h.1]at hxQ;omega)]
   have hv:=hQ hxQ
   unfold cel at hv
   by_cases e:r=a∧x+1=(Q.getD a []).length
   ·rw[if_pos e];omega
   ·rw[if_neg e]
    have hx1:x+1<(Q.getD r []).length:=by
     split at hx
     ·next e3=>
      have: ¬x+1=(Q.getD a []).length:=fun h=>e ⟨e3,h⟩
      rw[←e3]at this
      omega
     ·exact hx
    have hr:r<Q.length:=On fun hle=>by rw[bL hle]at hx1;simp at hx1
    exact q2 r x hr hx1
  ·obtain⟨c1,c2⟩:=pc i (by rw[hsame.1];exact hi)
   rw[hsame.2,hsame.2]at c1
   refine⟨c1,fun x hx=> ?_⟩
   have e1:=hcel i x
   have e2:=hcel (i+1) x
   unfold cel at e1 e2
   rw[e1,e2]
   rw[hNl]at hx
   have hxi:x<(N.getD i []).length:=by
    have:=hNl (i+1)
    omega
   rw[hNl]at hxi
   by_cases e:i+1=a∧x=(Q.getD a []).length
   ·rw[if_pos e,if_neg (fun h=>by omega)]
    have hxQ:x<(Q.getD i []).length:=by rw[if_neg (by omega)]at hxi;exact hxi
    have hv:=hQ hxQ
    unfold cel at hv
    omega
   ·rw[if_neg e]
    have hx1:x<(Q.getD (i+1) []).length:=by
     split at hx
     ·next e3=>
      have: ¬x=(Q.getD a []).length:=fun h=>e ⟨e3,h⟩
      rw[←e3]at this
      omega
     ·exact hx
    have hxQ:x<(Q.getD i []).length:=Nj hx1 (hqlen i)
    rw[if_neg (fun h=>by rw[h.1]at hxQ;omega)]
    have hr:i+1<Q.length:=On fun hle=>by rw[bL hle]at hx1;simp at hx1
    exact(q3 i hr).2 x hx1
 have hflk:N.flatten.length=k+1:=by omega
 have hmem: ∀z∈N.flatten,1≤z∧z≤9:=fun z hz=>by
  obtain⟨r,x,hr,hx,e⟩:=pN hz
  rw[←e,hcel]
  split
  ·omega
  ·next hc=>
   rw[hNl]at hx
   have hxQ:x<(Q.getD r []).length:=by
    split at hx
    ·next e3=>
     have: ¬x=(Q.getD a []).length:=fun h=>hc ⟨e3,h⟩
     rw[←e3]at this
     omega
    ·exact hx
   have:=hQ hxQ
   omega
 have hpl:=tJ hssr hmem (by omega)
 have haN:a<N.length:=by
  rw[hlen]
  split<;>omega
 have hxN:(Q.getD a []).length<(N.getD a []).length:=by rw[hNl,if_pos rfl];omega
 have hnew:cel N a (Q.getD a []).length=((k+1:Nat):Int):=by rw[hcel,if_pos ⟨rfl,rfl⟩]
 have hold: ∀{r x:Nat},x<(Q.getD r []).length→r<N.length∧x<(N.getD r []).length∧cel N r x=cel Q r x:=fun{r x} hx=>by
  have hx':x<(N.getD r []).length:=by
   rw[hNl]
   split<;>omega
  refine⟨On fun hle=>by rw[bL hle]at hx';simp at hx',hx',?_⟩
  rw[hcel,if_neg (fun h=>by rw[h.1]at hx;omega)]
 have ho:kH Q.flatten=true:=by
  have:=hs
  simp only[gh,Nc]at this
  exact this.2
 have hst:gh (([],N):Tab)=true:=by
  have hp':=hpl
  simp only[bj,Nc]at hp'
  simp only[gh,Nc]
  refine⟨hp'.1,mC.2 fun v hv=> ?_⟩
  rw[hflk,j2]at hv
  by_cases e:v=((k+1:Nat):Int)
  ·rw[e,←hnew];exact mB haN hxN
  ·obtain⟨r,x,hr,hx,e2⟩:=pN (mC.1 ho v (j2.2 (by omega)))
   obtain⟨d1,d2,d3⟩:=hold hx
   rw[←e2,←d3]
   exact mB d1 d2
 refine⟨hpl,hst,hflk,hsame,l6 hpl hst haN hxN hnew,fun v v1 v2=> ?_⟩
 obtain⟨r,x,hr,hx,e2⟩:=pN (mC.1 ho v (j2.2 (by omega)))
 obtain⟨d1,d2,d3⟩:=hold hx
 rw[l6 hpl hst d1 d2 (by rw[d3];exact e2),l6 hp hs hr hx e2]
def oB:List Int→List (List Int)→List (List Int)→Nat→List (List Int)
 | [],_,Q,_=>Q
 |x::w,P,Q,k=>oB w (aS P x).1 (iG Q (aS P x).2 ((k+1:Nat):Int)) (k+1)
def Ey:List Int→List (List Int)→List Nat
 | [],_=> []
 |x::w,P=>(aS P x).2::Ey w (aS P x).1
structure Ins (P Q : List (List Int)) (k : Nat) : Prop where
  ssr : SSR P
  num : ∀ x ∈ P.flatten, 1 ≤ x ∧ x ≤ 9
  fl : P.flatten.length = k
  pl : bj (([], Q) : Tab) = true
  st : gh (([], Q) : Tab) = true
  qf : Q.flatten.length = k
  same : fq P Q
theorem Ins.step{P Q:List (List Int)}{k:Nat}{x:Int}(h:Ins P Q k)(hx:1≤x∧x≤9)(h9:k+1≤9):
  Ins (aS P x).1 (iG Q (aS P x).2 ((k+1:Nat):Int)) (k+1)∧rowOf ([],iG Q (aS P x).2 ((k+1:Nat):Int)) ((k+1:Nat):Int)=((aS P x).2:Nat)∧ ∀v,1≤v→v≤(k:Int)→rowOf ([],iG Q (aS P x).2 ((k+1:Nat):Int)) v=rowOf ([],Q) v:=by
 obtain⟨a,b,c⟩:=ru P x
 have hs:=zX P x h.ssr
 obtain⟨d1,d2,d3,d4,d5,d6⟩:=HE (a:=(aS P x).2) h.pl h.st h.qf h9 hs (by rw[←h.same.1];exact a) (by rw[←h.same.1];exact b) (fun i=>by rw[←h.same.2];exact c i)
 refine⟨⟨hs,fun z hz=> ?_,by rw[Cc,h.fl],d1,d2,d3,d4⟩,d5,d6⟩
 rcases pM P x z hz with e|e
 ·rw[e];exact hx
 ·exact h.num z e
theorem Ins.nil:Ins [] [] 0:=⟨trivial,fun x hx=>by simp at hx,rfl,rfl,rfl,rfl,⟨rfl,fun _=>rfl⟩⟩
theorem Ins.word: ∀(w:List Int) {P Q:List (List Int)} {k:Nat},Ins P Q k→(∀x∈w,1≤x∧x≤9)→k+w.length≤9→
  Ins (dO w P) (oB w P Q k) (k+w.length)∧(∀v,1≤v→v≤(k:Int)→rowOf ([],oB w P Q k) v=rowOf ([],Q) v)∧ ∀i,i<w.length→rowOf ([],oB w P Q k) ((k+i+1:Nat):Int)=((Ey w P).getD i 0:Nat)
 | [],P,Q,k,h,_,_=>⟨h,fun _ _ _=>rfl,fun i hi=>by simp at hi⟩
 |x::w,P,Q,k,h,hx,hl=>by
  simp only[Nr]at hl
  obtain⟨a,b,c⟩:=h.step (hx x (Mw ..)) (by omega)
  obtain⟨d,e,f⟩:=Ins.word w a (fun z hz=>hx z (Mo _ hz)) (by omega)
  refine⟨by rw[Nr,show k+(w.length+1)=k+1+w.length by omega];exact d,fun v v1 v2=> ?_,fun i hi=> ?_⟩
  ·show rowOf ([],oB w _ _ (k+1)) v=_
   rw[e v v1 (by omega)]
   exact c v v1 v2
  ·show rowOf ([],oB w _ _ (k+1)) _=_
   cases i with
   |zero=>
    have:=e ((k+1:Nat):Int) (by omega) (O5 _)
    rw[NG,this,b]
    rfl
   |succ i=>
    have:=f i (by simpa using hi)
    rw[show k+1+i+1=k+(i+1)+1 by omega]at this
    exact this
end Go.Am.Pu
end
section
/- Words, and what inserting makes of them. Plain words. -/
namespace Go.Am.Pu
def isWord(w:List Int):Bool:=decide (w.length≤9)&&w.all fun n=>within n 1 9
theorem fX{w:List Int}(h:isWord w=true):w.length≤9∧ ∀x∈w,1≤x∧x≤9:=by
 simp only[isWord,Nc,decide_eq_true_eq,Nw,within]at h
 exact⟨h.1,fun x hx=>h.2 x hx⟩
def iv(w:List Int):Tab×Bool:=if isWord w=true then(([],dO w []),true)else(([],[]),false)
def nK(w:List Int):Tab×Bool:=if isWord w=true then(([],oB w [] [] 0),true)else(([],[]),false)
theorem w9{w:List Int}(h:isWord w=true):Ins (dO w []) (oB w [] [] 0) w.length∧ ∀i,i<w.length→rowOf ([],oB w [] [] 0) ((i+1:Nat):Int)=((Ey w []).getD i 0:Nat):=by
 obtain⟨h1,h2⟩:=fX h
 obtain⟨a,_,c⟩:=Ins.word w Ins.nil h2 (by omega)
 rw[Ni]at a
 refine⟨a,fun i hi=> ?_⟩
 have:=c i hi
 rw[Ni]at this
 exact this
theorem uu{P Q:List (List Int)}{k:Nat}(h:Ins P Q k)(h9:k≤9):bj (([],P):Tab)=true:=tJ h.ssr h.num (by rw[h.fl];exact h9)
theorem ph{w:List Int}(h:isWord w=true):bj (iv w).1=true:=by
 unfold iv
 rw[if_pos h]
 exact uu (w9 h).1 (fX h).1
theorem wM{w:List Int}(h:isWord w=true):bj (nK w).1=true∧gh (nK w).1=true∧(nK w).1.2.flatten.length=w.length:=by
 unfold nK
 rw[if_pos h]
 have a:=(w9 h).1
 exact⟨a.pl,a.st,a.qf⟩
theorem Hn{t:Tab}(h:bj t=true):lT t:=by
 have hr:=gY h
 exact⟨by rw[eB h];simp,by have:=hr.1;omega,fun r hm=>by have:=hr.2 r hm;omega⟩
theorem yR{w:List Int}:lT (iv w).1:=by
 cases h:isWord w with
 |true=>exact Hn (ph h)
 |false=>unfold iv;rw[h];exact lT.nil
end Go.Am.Pu
end
section
/- Standardizing a tableau: the cells numbered by number and column. Plain words. -/
namespace Go.Am.Pu
def kA(Q:List (List Int))(v:Int)(c r:Nat)(s:Nat×List (List Int)):Nat×List (List Int):=
 if c<(Q.getD r []).length∧cel Q r c=v then(s.1+1,fp s.2 r c ((s.1+1:Nat):Int))else s
structure Num (Q : List (List Int)) (D : Nat → Nat → Prop) (s : Nat × List (List Int)) (F : List Int) : Prop where
  same : fq s.2 Q
  len : F.length = s.1
  val : ∀ r x, r < Q.length → x < (Q.getD r []).length → D r x → ∃ k, k < s.1 ∧ cel s.2 r x = ((k + 1 : Nat) : Int) ∧ F.getD k 0 = cel Q r x
  inj : ∀ r x r' x', r < Q.length → x < (Q.getD r []).length → D r x → r' < Q.length → x' < (Q.getD r' []).length → D r' x' → cel s.2 r x = cel s.2 r' x' → r = r' ∧ x = x'
  all : ∀ k, k < s.1 → ∃ r x, r < Q.length ∧ x < (Q.getD r []).length ∧ D r x ∧ cel s.2 r x = ((k + 1 : Nat) : Int)
  lex : ∀ r x r' x', r < Q.length → x < (Q.getD r []).length → D r x → r' < Q.length → x' < (Q.getD r' []).length → D r' x' → cel s.2 r x < cel s.2 r' x' → cel Q r x < cel Q r' x' ∨ (cel Q r x = cel Q r' x' ∧ x ≤ x')
theorem Num.congr{Q:List (List Int)}{D D':Nat→Nat→Prop}{s:Nat×List (List Int)}{F:List Int}(h:Num Q D s F)(e: ∀r x,r<Q.length→x<(Q.getD r []).length→(D r x↔D' r x)):Num Q D' s F:=
 ⟨h.same,h.len,fun r x a b d=>h.val r x a b ((e r x a b).2 d),fun r x r' x' a b d a' b' d'=>h.inj r x r' x' a b ((e r x a b).2 d) a' b' ((e r' x' a' b').2 d'),
  fun k hk=>by obtain⟨r,x,a,b,d,q⟩:=h.all k hk;exact⟨r,x,a,b,(e r x a b).1 d,q⟩,fun r x r' x' a b d a' b' d'=>h.lex r x r' x' a b ((e r x a b).2 d) a' b' ((e r' x' a' b').2 d')⟩
def Dn(Q:List (List Int))(v:Int)(c r:Nat)(a i:Nat):Prop:=cel Q a i<v∨(cel Q a i=v∧(i<c∨(i=c∧a<r)))
theorem Num.step{Q:List (List Int)}{v:Int}{c r:Nat}{s:Nat×List (List Int)}{F:List Int}(h:Num Q (Dn Q v c r) s F)(hr:r<Q.length): ∃F',Num Q (Dn Q v c (r+1)) (kA Q v c r s) F':=by
 unfold kA
 split
 ·next hc=>
  obtain⟨hc,hv⟩:=hc
  have hnd: ¬Dn Q v c r r c:=by unfold Dn;omega
  have hsr:r<s.2.length:=by rw[h.same.1];exact hr
  have hsc:c<(s.2.getD r []).length:=by rw[h.same.2];exact hc
  have new: ∀a i,Dn Q v c (r+1) a i→(a=r∧i=c)∨(¬(a=r∧i=c)∧Dn Q v c r a i):=fun a i d=>by
   by_cases e:a=r∧i=c
   ·exact .inl e
   ·refine .inr ⟨e,?_⟩
    unfold Dn at d⊢
    omega
  have at1:=j8 (g:=s.2) (r:=r) (c:=c) ((s.1+1:Nat):Int) hsr hsc
  have ne1: ∀a i,¬(a=r∧i=c)→cel (fp s.2 r c ((s.1+1:Nat):Int)) a i=cel s.2 a i:=fun a i e=>ja _ e
  refine⟨F++ [v],⟨⟨by rw[dQ];exact h.same.1,fun i=>by rw[bG];exact h.same.2 i⟩,by rw[Mb,Ox,h.len],?_,?_,?_,?_⟩⟩
  ·intro a i ha hi d
   rcases new a i d with⟨rfl,rfl⟩|⟨e,d'⟩
   ·refine⟨s.1,by simp only;omega,at1,?_⟩
    rw[hv,←h.len,Mk]
    simp
   ·obtain⟨k,k1,k2,k3⟩:=h.val a i ha hi d'
    refine⟨k,by simp only;omega,by rw[ne1 a i e];exact k2,?_⟩
    rw[←k3,Mk,Mk,Mq (by rw[h.len];exact k1)]
  ·intro a i b j ha hi d hb hj d' e
   rcases new a i d with⟨rfl,rfl⟩|⟨ea,da⟩
   ·rcases new b j d' with⟨rfl,rfl⟩|⟨eb,db⟩
    ·exact⟨rfl,rfl⟩
    ·obtain⟨k,k1,k2,_⟩:=h.val b j hb hj db
     simp only at e
     rw[at1,ne1 b j eb,k2]at e
     omega
   ·rcases new b j d' with⟨rfl,rfl⟩|⟨eb,db⟩
    ·obtain⟨k,k1,k2,_⟩:=h.val a i ha hi da
     simp only at e
     rw[at1,ne1 a i ea,k2]at e
     omega
    ·simp only at e
     rw[ne1 a i ea,ne1 b j eb]at e
     exact h.inj a i b j ha hi da hb hj db e
  ·intro k hk
   simp only at hk
   by_cases ek:k=s.1
   ·subst ek
    exact⟨r,c,hr,hc,by unfold Dn;omega,at1⟩
   ·obtain⟨a,i,ha,hi,d,e⟩:=h.all k (by omega)
    have hne: ¬(a=r∧i=c):=fun q=>by rw[q.1,q.2]at d;exact hnd d
    exact⟨a,i,ha,hi,by unfold Dn at d⊢;omega,by simp only;rw[ne1 a i hne];exact e⟩
  ·intro a i b j ha hi d hb hj d' e
   simp only at e
   rcases new a i d with⟨rfl,rfl⟩|⟨ea,da⟩
   ·rcases new b j d' with⟨rfl,rfl⟩|⟨eb,db⟩
    ·omega
    ·obtain⟨k,k1,k2,_⟩:=h.val b j hb hj db
     rw[at1,ne1 b j eb,k2]at e
     omega
   ·rcases new b j d' with⟨rfl,rfl⟩|⟨eb,db⟩
    ·unfold Dn at da
     omega
    ·rw[ne1 a i ea,ne1 b j eb]at e
     exact h.lex a i b j ha hi da hb hj db e
 ·next hc=>
  refine⟨F,h.congr fun a i ha hi=> ?_⟩
  unfold Dn
  constructor
  ·intro d;omega
  ·intro d
   by_cases e:a=r∧i=c
   ·obtain⟨rfl,rfl⟩:=e
    have:cel Q a i≠v:=fun q=>hc ⟨hi,q⟩
    omega
   ·omega
structure zh (Q X : List (List Int)) (f : Int → Int) : Prop where
  same : fq X Q
  val : ∀ r x, r < X.length → x < (X.getD r []).length → cel Q r x = f (cel X r x)
  lex : ∀ r x r' x', r < X.length → x < (X.getD r []).length → r' < X.length → x' < (X.getD r' []).length → cel X r x < cel X r' x' → cel Q r x < cel Q r' x' ∨ (cel Q r x = cel Q r' x' ∧ x < x')
theorem F5{t:Tab}(h:bj t=true){x:Nat}: ∀(d r:Nat),r+d+1<t.2.length→x<(t.2.getD (r+d+1) []).length→cel t.2 r x<cel t.2 (r+d+1) x
 |0,r,hr,hx=>(l9 h r hr).2 x hx
 |d+1,r,hr,hx=>by
  have h1:=(l9 h (r+d+1) hr)
  have h2:=F5 h d r (by omega) (Nj hx h1.1)
  exact Int.lt_trans h2 (h1.2 x hx)
end Go.Am.Pu
end
section
/- A pair of tableaux unrolled, the second one semistandard; sorting; the matrix of a pair. Plain words. -/
namespace Go.Am.Pu
def CL(R:Int→Prop)(rs:List (List Int)):Prop:= ∀r∈rs,∀v∈r,R v
theorem CL.at{R:Int→Prop}{rs:List (List Int)}(h:CL R rs){r x:Nat}(hr:r<rs.length)(hx:x<(rs.getD r []).length):R ((rs.getD r []).getD x 0):=by
 rw[an hx]
 exact h (rs.getD r []) (by rw[an hr];exact Ns hr) _ (Ns hx)
theorem CL.set{R:Int→Prop}{rs:List (List Int)}(h:CL R rs)(i:Nat){r:List Int}(hr: ∀v∈r,R v):CL R (rs.set i r):=fun y hy=>by
 rcases OO hy with h'|rfl
 ·exact h y h'
 ·exact hr
theorem CL.row{R:Int→Prop}{rs:List (List Int)}(h:CL R rs)(i:Nat): ∀v∈rs.getD i [],R v:=by
 by_cases hi:i<rs.length
 ·exact h _ (by rw[an hi];exact Ns hi)
 ·rw[bL (by omega)];simp
theorem Unr.top{q:Tab}{m:Nat}{P X:List (List Int)}(h:Unr q (m+1) P X){a:Nat}(ha:a<X.length)(htop:cel X a ((X.getD a []).length-1)=((m+1:Nat):Int)):
  (∀r,r<X.length→1≤(X.getD r []).length)∧(∀r,r<X.length→r≠a→cel X r ((X.getD r []).length-1)<((m+1:Nat):Int)):=by
 have hp:=fun r hr=>kp h.pl (r:=r) hr
 refine⟨hp,fun r hr hne=> ?_⟩
 have h1:=hp r hr
 have h2:=hp a ha
 simp only at h1 h2
 have hb:=((kN h.pl h.st).2 _ (mB (rs:=X) hr (show(X.getD r []).length-1<(X.getD r []).length by omega))).2
 have hf:=h.fl
 simp only at hb
 rw[hf]at hb
 have hx:cel X r ((X.getD r []).length-1)≠((m+1:Nat):Int):=fun e=>hne (wJ h.pl h.st (a:=r) (b:=a) (x:=(X.getD r []).length-1) (y:=(X.getD a []).length-1) hr (show _<(X.getD r []).length by omega) ha (show _<(X.getD a []).length by omega) (by rw[htop];exact e)).1
 omega
theorem EW{n m:Nat}{A B:List (List Int)}(h:dG n m A)(s:fq A B):dG n m B:=by
 refine⟨by rw[←s.1];exact h.1,fun x hx=> ?_⟩
 obtain⟨i,hi,rfl⟩:=Nx hx
 have:=h.at i
 rw[s.2 i,an hi]at this
 exact this
theorem zh.cut{Q X:List (List Int)}{f:Int→Int}(s:zh Q X f){a:Nat}(ha:a<X.length)(hc:(X.getD (a+1) []).length<(X.getD a []).length)(hp: ∀r,r<X.length→1≤(X.getD r []).length):zh (dY Q a) (dY X a) f:=by
 have hq: ∀r,r<Q.length→1≤(Q.getD r []).length:=fun r hr=>by rw[←s.same.2];exact hp r (by rw[s.same.1];exact hr)
 have rX:=sF ha hc hp
 have rQ:=sF (rs:=Q) (a:=a) (by rw[←s.same.1];exact ha) (by rw[←s.same.2,←s.same.2];exact hc) hq
 have old: ∀{r x},r<(dY X a).length→x<((dY X a).getD r []).length→r<X.length∧x<(X.getD r []).length∧cel (dY X a) r x=cel X r x∧cel (dY Q a) r x=cel Q r x:=fun{r x} hr hx=>by
  have hl:=xE (rs:=X) ha
  have hr':r<X.length:=by rw[hl]at hr;split at hr<;>omega
  have e1:=rX r
  have e2:=rQ r
  unfold cel
  by_cases e:r=a
  ·rw[if_pos e]at e1 e2
   rw[e1]at hx
   rw[NJ]at hx
   subst e
   refine⟨hr',by omega,by rw[e1,fH (by omega)],?_⟩
   rw[e2,fH (by have:=s.same.2 r;omega)]
  ·rw[if_neg e]at e1 e2
   rw[e1]at hx
   exact⟨hr',hx,by rw[e1],by rw[e2]⟩
 refine⟨Ck s.same a,fun r x hr hx=> ?_,fun r x r' x' hr hx hr' hx' hlt=> ?_⟩
 ·obtain⟨o1,o2,o3,o4⟩:=old hr hx
  rw[o3,o4]
  exact s.val r x o1 o2
 ·obtain⟨o1,o2,o3,o4⟩:=old hr hx
  obtain⟨p1,p2,p3,p4⟩:=old hr' hx'
  rw[o3,p3]at hlt
  rw[o4,p4]
  exact s.lex r x r' x' o1 o2 p1 p2 hlt
theorem zh.step{q:Tab}{m:Nat}{P X Q:List (List Int)}{f:Int→Int}(s:zh Q X f)(h:Unr q (m+1) P X):
  ∃a:Nat,rowOf q ((m+1:Nat):Int)=a∧a<Q.length∧1≤(Q.getD a []).length∧(Q.getD a []).getD ((Q.getD a []).length-1) 0=f ((m+1:Nat):Int)∧(∀r,r<Q.length→1≤(Q.getD r []).length)∧
   (∀r,r<Q.length→r≠a→(Q.getD r []).getD ((Q.getD r []).length-1) 0<f ((m+1:Nat):Int)∨((Q.getD r []).getD ((Q.getD r []).length-1) 0=f ((m+1:Nat):Int)∧(Q.getD r []).length<(Q.getD a []).length))∧
   dG 9 9 Q∧a<P.length∧1≤(P.getD a []).length∧Unr q m (nU P a).1 (dY X a)∧zh (dY Q a) (dY X a) f:=by
 obtain⟨a,a1,a2,a3,a4,a5,a6⟩:=h.step
 obtain⟨t1,t2⟩:=h.top a2 a4
 have v0:=s.val a ((X.getD a []).length-1) a2 (by omega)
 rw[a4]at v0
 unfold cel at v0
 rw[s.same.2]at v0
 refine⟨a,a1,by rw[←s.same.1];exact a2,by rw[←s.same.2];exact a3,v0,fun r hr=>by rw[←s.same.2];exact t1 r (by rw[s.same.1];exact hr),fun r hr hne=> ?_,EW (gY h.pl) s.same,
  by rw[h.same.1];exact a2,by rw[h.same.2];exact a3,a6,s.cut a2 a5 t1⟩
 have hr':r<X.length:=by rw[s.same.1];exact hr
 have u1:=t1 r hr'
 have hl:=s.lex r ((X.getD r []).length-1) a ((X.getD a []).length-1) hr' (by omega) a2 (by omega) (by rw[a4];exact t2 r hr' hne)
 have v:=s.val a ((X.getD a []).length-1) a2 (by omega)
 rw[v,a4]at hl
 unfold cel at hl
 rw[s.same.2 r,s.same.2 a]at hl
 have e1:=s.same.2 r
 rcases hl with hl|hl
 ·exact .inl hl
 ·exact .inr ⟨hl.1,by omega⟩
structure K8 (r c : Nat) (b : Int) (M : List (List Int)) : Prop where
  len : M.length = r
  row : ∀ i, i < r → (M.getD i []).length = c
  sm : ∀ x ∈ M, ∀ v ∈ x, 0 ≤ v ∧ v ≤ b
theorem F4{a b:List Int}{i:Nat}(ha:i<a.length)(hb:i<b.length):(a.zip b).drop i=(a.getD i 0,b.getD i 0)::(a.zip b).drop (i+1):=by
 have hl:i<(a.zip b).length:=by rw[List.length_zip];omega
 rw[drop_cons hl (0,0),an hl,MW,an ha,an hb]
end Go.Am.Pu
end
section
/- Standardizing any tableau: its cells in the order of number and column. Plain words. -/
namespace Go.Am.Pu
theorem AX{p:List Int}(hp:bK p=true)(r:Nat): ∀d:Nat,p.getD (r+d) 0≤p.getD r 0
 |0=>O5 _
 |d+1=>Int.le_trans (gp hp (r+d)) (AX hp r d)
def FT(t:Tab)(r:Nat):List (Int×Int×Int):=(LV (t.2.getD r []).length).map fun x=>(cel t.2 r x,t.1.getD r 0+x,(r:Int))
def cellsOf(t:Tab):List (Int×Int×Int):=((LV t.2.length).map (FT t)).flatten
def KLt(a b:Int×Int×Int):Prop:=a.1<b.1∨(a.1=b.1∧a.2.1<b.2.1)
end Go.Am.Pu
end
section
/- Sorting cells by insertion, as the library does. Plain words. -/
namespace Go.Am.Pu
instance(a b:Int×Int×Int):Decidable (KLt a b):=by unfold KLt;infer_instance
end Go.Am.Pu
end
section
/- All standard tableaux of given rows, found by taking out the greatest number. Plain words. -/
namespace Go.Am.Pu
def jH(ls:List Nat)(a:Nat):List Nat:=if ls.getD a 0=1 then ls.take a else ls.set a (ls.getD a 0-1)
theorem Gz{α:Type}{d:α}{A B:List α}(hl:A.length=B.length)(h: ∀i,i<A.length→A.getD i d=B.getD i d):A=B:=by
 refine OI hl fun i h1 h2=> ?_
 have:=h i h1
 rw[an h1,an h2]at this
 exact this
end Go.Am.Pu
end
section
/- Promotion of a rectangle comes back after as many steps as there are cells (reckoned over all of them). Plain words. -/
namespace Go.Am.Pu
end Go.Am.Pu
end
section
/- The length of an orbit divides every number of steps that come back. Plain words. -/
namespace Go.Am.Pu
end Go.Am.Pu
end
section
/- Knuth's relations: insertion does not tell related words apart, and a row and a number are related to what an insertion makes of them. Plain words. -/
namespace Go.Am.Pu
abbrev Up(r:List Int):Prop:=r.Pairwise (· ≤ ·)
def fU:List Int→Int→List Int×List Int
 | [],x=>([x],[])
 |a::r,x=>if x<a then(x::r,[a])else(a::(fU r x).1,(fU r x).2)
theorem gd{a x:Int}{r:List Int}(h:x<a):fU (a::r) x=(x::r,[a]):=by unfold fU;rw[if_pos h]
theorem fJ{a x:Int}{r:List Int}(h:a≤x):fU (a::r) x=(a::(fU r x).1,(fU r x).2):=by
 conv=>lhs;unfold fU
 rw[if_neg (by omega)]
theorem th: ∀(r:List Int) (x z:Int),z∈(fU r x).1→z=x∨z∈r
 | [],x,z,h=>by simp only[fU,Nt]at h;exact .inl h
 |a::r,x,z,h=>by
  by_cases c:x<a
  ·rw[gd c]at h
   rcases MH.1 h with h|h
   ·exact .inl h
   ·exact .inr (Mo _ h)
  ·rw[fJ (by omega)]at h
   rcases MH.1 h with h|h
   ·exact .inr (by rw[h];exact Mw ..)
   ·rcases th r x z h with h|h
    ·exact .inl h
    ·exact .inr (Mo _ h)
theorem wz: ∀{r:List Int} (x:Int),Up r→Up (fU r x).1
 | [],x,_=>Lu ..
 |a::r,x,h=>by
  have h':=Og.1 h
  by_cases c:x<a
  ·rw[gd c]
   exact Og.2 ⟨fun z hz=>by have:=h'.1 z hz;omega,h'.2⟩
  ·rw[fJ (by omega)]
   refine Og.2 ⟨fun z hz=> ?_,wz x h'.2⟩
   rcases th r x z hz with e|e
   ·omega
   ·exact h'.1 z e
theorem lD: ∀(r:List Int) (x:Int),(fU r x).2= []∨ ∃b,(fU r x).2= [b]∧x<b∧b∈r
 | [],x=> .inl rfl
 |a::r,x=>by
  by_cases c:x<a
  ·rw[gd c];exact .inr ⟨a,rfl,c,Mw ..⟩
  ·rw[fJ (by omega)]
   rcases lD r x with h|⟨b,h1,h2,h3⟩
   ·exact .inl h
   ·exact .inr ⟨b,h1,h2,Mo _ h3⟩
theorem D2: ∀{r:List Int} {y z:Int},Up r→y≤z→((fU r y).2= []→(fU (fU r y).1 z).2= [])∧ ∀p q,(fU r y).2= [p]→(fU (fU r y).1 z).2= [q]→p≤q
 | [],y,z,_,hz=>by
  refine⟨fun _=> ?_,fun p q h=>by simp[fU]at h⟩
  show(fU [y] z).2= []
  rw[fJ hz];rfl
 |a::r,y,z,h,hz=>by
  have h':=Og.1 h
  by_cases c:y<a
  ·rw[gd c]
   refine⟨fun e=>by simp at e,fun p q e1 e2=> ?_⟩
   rw[fJ hz]at e2
   rcases lD r z with o|⟨b,o1,_,o3⟩
   ·simp only at e2;rw[o]at e2;simp at e2
   ·simp only at e2
    rw[o1]at e2
    simp only[List.cons.injEq,and_true]at e1 e2
    have:=h'.1 b o3
    omega
  ·rw[fJ (show a≤y by omega)]
   show((fU r y).2= []→(fU (a::(fU r y).1) z).2= [])∧ ∀p q,(fU r y).2= [p]→(fU (a::(fU r y).1) z).2= [q]→p≤q
   rw[fJ (show a≤z by omega)]
   exact D2 h'.2 hz
theorem D4: ∀{r:List Int} {y z:Int},Up r→y<z→z∈r→ ∃c,(fU r y).2= [c]∧y<c∧c≤z
 | [],_,_,_,_,hm=>by simp at hm
 |a::r,y,z,h,hz,hm=>by
  have h':=Og.1 h
  by_cases c:y<a
  ·rw[gd c]
   refine⟨a,rfl,c,?_⟩
   rcases MH.1 hm with e|e
   ·omega
   ·exact h'.1 z e
  ·rw[fJ (by omega)]
   rcases MH.1 hm with e|e
   ·omega
   ·exact D4 h'.2 hz e
theorem uZ: ∀(r:List Int) (x:Int),x∈(fU r x).1
 | [],x=>Nt.2 rfl
 |a::r,x=>by
  by_cases c:x<a
  ·rw[gd c];exact Mw ..
  ·rw[fJ (by omega)];exact Mo _ (uZ r x)
def Tri(u v:List Int):Prop:= ∃x y z:Int,(x<y∧y≤z∧u= [y,z,x]∧v= [y,x,z])∨(x≤y∧y<z∧u= [x,z,y]∧v= [z,x,y])
theorem Tri.a{x y z:Int}(h1:x<y)(h2:y≤z):Tri [y,z,x] [y,x,z]:=⟨x,y,z,.inl ⟨h1,h2,rfl,rfl⟩⟩
theorem Tri.b{x y z:Int}(h1:x≤y)(h2:y<z):Tri [x,z,y] [z,x,y]:=⟨x,y,z,.inr ⟨h1,h2,rfl,rfl⟩⟩
def kq:List Int→List Int→List Int×List Int
 |r,[]=>(r,[])
 |r,x::w=>((kq (fU r x).1 w).1,(fU r x).2++(kq (fU r x).1 w).2)
def DV(p q:List Int×List Int):Prop:=p.1=q.1∧(p.2=q.2∨Tri p.2 q.2)
theorem qo{a:Int}: ∀{w r:List Int},(∀x∈w,a≤x)→kq (a::r) w=(a::(kq r w).1,(kq r w).2)
 | [],_,_=>rfl
 |x::w,r,h=>by
  show((kq (fU (a::r) x).1 w).1,(fU (a::r) x).2++(kq (fU (a::r) x).1 w).2)=_
  rw[fJ (h x (Mw ..))]
  simp only
  rw[qo fun y hy=>h y (Mo _ hy)]
  rfl
theorem n7(r:List Int)(x y z:Int):kq r [x,y,z]=((fU (fU (fU r x).1 y).1 z).1,(fU r x).2++((fU (fU r x).1 y).2++(fU (fU (fU r x).1 y).1 z).2)):=by
 simp[kq]
theorem H7: ∀{r:List Int} {x y z:Int},Up r→x<y→y≤z→DV (kq r [y,z,x]) (kq r [y,x,z])
 | [],x,y,z,_,h1,h2=>by
  refine⟨?_,.inl ?_⟩
  ·simp[kq,fU,h1,show¬z<y by omega,show¬z<x by omega]
  ·simp[kq,fU,h1,show¬z<y by omega,show¬z<x by omega]
 |a::r,x,y,z,h,h1,h2=>by
  have h':=Og.1 h
  by_cases c:y<a
  ·rw[n7,n7,gd c]
   simp only
   rw[fJ (r:=r) h2,gd (r:=r) h1]
   simp only
   rw[gd h1,fJ (show x≤z by omega)]
   refine⟨rfl,?_⟩
   rcases lD r z with o|⟨b,o1,o2,o3⟩
   ·simp only;rw[o];exact .inl rfl
   ·simp only;rw[o1]
    exact .inr (Tri.a c (h'.1 b o3))
  ·by_cases c2:x<a
   ·rw[n7,n7,fJ (show a≤y by omega)]
    simp only
    rw[fJ (show a≤z by omega),gd c2]
    simp only
    rw[gd c2,fJ (show x≤z by omega)]
    refine⟨rfl,?_⟩
    simp only
    obtain⟨e1,e2⟩:=D2 h'.2 h2
    rcases lD r y with o|⟨b,o1,o2,o3⟩
    ·rw[o,e1 o];exact .inl rfl
    ·rcases lD (fU r y).1 z with p|⟨d,p1,p2,p3⟩
     ·rw[p,o1];exact .inl rfl
     ·rw[o1,p1]
      exact .inr (Tri.a (by omega) (e2 _ _ o1 p1))
   ·have ih:=H7 h'.2 h1 h2
    rw[qo (by simp;omega),qo (by simp;omega)]
    exact⟨congrArg (a:: ·) ih.1,ih.2⟩
theorem H5: ∀{r:List Int} {x y z:Int},Up r→x≤y→y<z→DV (kq r [x,z,y]) (kq r [z,x,y])
 | [],x,y,z,_,h1,h2=>by
  refine⟨?_,.inl ?_⟩
  ·simp[kq,fU,h2,show x<z by omega,show¬z<x by omega,show¬y<x by omega]
  ·simp[kq,fU,h2,show x<z by omega,show¬z<x by omega,show¬y<x by omega]
 |a::r,x,y,z,h,h1,h2=>by
  have h':=Og.1 h
  by_cases c:z<a
  ·rw[n7,n7,gd (show x<a by omega),gd c]
   simp only
   rw[fJ (r:=r) (show x≤z by omega),gd (r:=r) (show x<z by omega)]
   simp only
   rw[fJ h1,fJ h1]
   cases r with
   |nil=>simp[fU,h2,DV]
   |cons b r=>
    have hb:=h'.1 b (Mw ..)
    rw[gd (show z<b by omega),gd (show y<b by omega)]
    simp only
    rw[gd h2]
    exact⟨rfl,.inr (Tri.a c hb)⟩
  ·by_cases c2:x<a
   ·rw[n7,n7,gd c2,fJ (show a≤z by omega)]
    simp only
    rw[gd c2,fJ (show x≤z by omega)]
    simp only
    rw[fJ h1]
    refine⟨rfl,?_⟩
    simp only
    rcases lD r z with o|⟨b,o1,o2,o3⟩
    ·rw[o];exact .inl rfl
    ·rw[o1]
     obtain⟨d,d1,d2,d3⟩:=D4 (wz z h'.2) h2 (uZ r z)
     rw[d1]
     refine .inr (Tri.b ?_ (by omega))
     rcases lD (fU r z).1 y with p|⟨q,p1,p2,p3⟩
     ·rw[p]at d1;simp at d1
     ·rw[p1]at d1
      have:q=d:=by simpa using d1
      subst this
      rcases th r z q p3 with e|e
      ·omega
      ·exact h'.1 q e
   ·have ih:=H5 h'.2 h1 h2
    rw[qo (by simp;omega),qo (by simp;omega)]
    exact⟨congrArg (a:: ·) ih.1,ih.2⟩
theorem HM{r u v:List Int}(h:Up r)(t:Tri u v):DV (kq r u) (kq r v):=by
 obtain⟨x,y,z,⟨h1,h2,rfl,rfl⟩|⟨h1,h2,rfl,rfl⟩⟩:=t
 ·exact H7 h h1 h2
 ·exact H5 h h1 h2
theorem FW(a x:Int)(r:List Int):fst (a::r) x=if x<a then 0 else fst r x+1:=by
 unfold fst
 rw[OU]
 by_cases c:x<a
 ·rw[if_pos c,decide_eq_true c];rfl
 ·rw[if_neg c,decide_eq_false c];rfl
theorem AZ: ∀(r:List Int) (x:Int),fU r x=if fst r x<r.length then(r.set (fst r x) x,[r.getD (fst r x) 0])else(r++ [x],[])
 | [],x=>rfl
 |a::r,x=>by
  rw[FW]
  by_cases c:x<a
  ·rw[gd c,if_pos c,if_pos (by simp)];rfl
  ·rw[fJ (by omega),if_neg c,AZ r x]
   by_cases d:fst r x<r.length
   ·rw[if_pos d,if_pos (by simpa using d)];rfl
   ·rw[if_neg d,if_neg (by simpa using d)];rfl
theorem Cd(r:List Int)(rs:List (List Int))(x:Int):(aS (r::rs) x).1=(fU r x).1::dO (fU r x).2 rs:=by
 rw[dF,AZ]
 by_cases c:fst r x<r.length
 ·rw[if_pos c,if_pos c];rfl
 ·rw[if_neg c,if_neg c];rfl
theorem uF: ∀(w r:List Int) (rs:List (List Int)),dO w (r::rs)=(kq r w).1::dO (kq r w).2 rs
 | [],_,_=>rfl
 |x::w,r,rs=>by
  show dO w (aS (r::rs) x).1=_
  rw[Cd,uF w]
  simp only[kq]
  rw[ky]
theorem Hq{u v:List Int}(t:Tri u v):dO u []=dO v []:=by
 obtain⟨x,y,z,⟨h1,h2,rfl,rfl⟩|⟨h1,h2,rfl,rfl⟩⟩:=t
 ·simp[dO,aS,OU,h1,show¬z<y by omega,show¬z<x by omega]
 ·simp[dO,aS,OU,h2,show x<z by omega,show¬z<x by omega,show¬y<x by omega]
theorem DY: ∀{P:List (List Int)} {u v:List Int},(∀r∈P,Up r)→Tri u v→dO u P=dO v P
 | [],_,_,_,t=>Hq t
 |r::rs,u,v,h,t=>by
  rw[uF,uF]
  obtain⟨a,b|b⟩:=HM (h r (Mw ..)) t
  ·rw[a,b]
  ·rw[a,DY (fun q hq=>h q (Mo _ hq)) b]
inductive Kn : List Int → List Int → Prop
  | refl (w) : Kn w w
  | symm {v w} : Kn v w → Kn w v
  | trans {u v w} : Kn u v → Kn v w → Kn u w
  | tri {u v} (a b) : Tri u v → Kn (a ++ u ++ b) (a ++ v ++ b)
theorem Kn.ctx{u v:List Int}(c d:List Int)(h:Kn u v):Kn (c++u++d) (c++v++d):=by
 induction h with
 |refl w=>exact .refl _
 |symm _ ih=>exact .symm ih
 |trans _ _ h1 h2=>exact .trans h1 h2
 |tri a b t=>
  have:=Kn.tri (c++a) (b++d) t
  simp only[NM]at this⊢
  exact this
theorem Kn.left{u v:List Int}(c:List Int)(h:Kn u v):Kn (c++u) (c++v):=by
 have:=h.ctx c []
 simpa using this
theorem Kn.right{u v:List Int}(d:List Int)(h:Kn u v):Kn (u++d) (v++d):=by
 have:=h.ctx [] d
 simpa using this
theorem Kn.cons{u v:List Int}(c:Int)(h:Kn u v):Kn (c::u) (c::v):=h.left [c]
theorem Kn.of{u v:List Int}(t:Tri u v):Kn u v:=by
 have:=Kn.tri [] [] t
 simpa using this
theorem Kn.app{u v u' v':List Int}(h:Kn u u')(g:Kn v v'):Kn (u++v) (u'++v'):=(h.right v).trans (g.left u')
theorem Ek: ∀{P:List (List Int)} (x:Int),(∀r∈P,Up r)→ ∀r∈(aS P x).1,Up r
 | [],x,_=>fun r hr=>by
  have:r= [x]:=by simpa[aS]using hr
  rw[this];exact Lu ..
 |q::P,x,h=>by
  rw[Cd]
  intro r hr
  have hP: ∀r∈P,Up r:=fun r hr=>h r (Mo _ hr)
  rcases MH.1 hr with e|e
  ·rw[e];exact wz x (h q (Mw ..))
  ·rcases lD q x with o|⟨b,o,_,_⟩
   ·rw[o]at e;exact hP r e
   ·rw[o]at e;exact Ek b hP r e
theorem DX: ∀{w:List Int} {P:List (List Int)},(∀r∈P,Up r)→ ∀r∈dO w P,Up r
 | [],_,h=>h
 |x::w,P,h=>show∀r∈dO w (aS P x).1,Up r from DX (Ek x h)
theorem Kn.ins{u v:List Int}(h:Kn u v): ∀{P:List (List Int)},(∀r∈P,Up r)→dO u P=dO v P:=by
 induction h with
 |refl w=>intro P _;rfl
 |symm _ ih=>intro P hP;exact(ih hP).symm
 |trans _ _ h1 h2=>intro P hP;rw[h1 hP,h2 hP]
 |tri a b t=>
  intro P hP
  rw[ky,ky,ky,ky,DY (DX hP) t]
end Go.Am.Pu
end
section
/- Rows and slides keep words related. Plain words. -/
namespace Go.Am.Pu
theorem nZ{a:Int}{r:List Int}(h:Up (a::r)):Up r:=(Og.1 h).2
theorem uc{a:Int}{r:List Int}(h:Up (a::r)): ∀z∈r,a≤z:=(Og.1 h).1
theorem wC: ∀{r:List Int} {x y:Int},Up (y::r)→x<y→Kn (y::(r++ [x])) (y::x::r)
 | [],x,y,_,_=> .refl _
 |c::r,x,y,h,hx=>by
  have hc:=uc h c (Mw ..)
  have ih:=(wC (nZ h) (show x<c by omega)).cons y
  refine Kn.trans ih ?_
  exact(Kn.of (Tri.a hx hc)).right r
theorem F0: ∀{r:List Int} (x:Int),Up r→Kn (r++ [x]) ((fU r x).2++(fU r x).1)
 | [],x,_=> .refl _
 |a::r,x,h=>by
  by_cases c:x<a
  ·rw[gd c];exact wC h c
  ·rw[fJ (by omega)]
   have ih:=(F0 x (nZ h)).cons a
   refine Kn.trans ih ?_
   rcases lD r x with o|⟨b,o,o2,_⟩
   ·simp only;rw[o];exact .refl _
   ·simp only;rw[o]
    have hs:=uZ r x
    have hu:=wz x (nZ h)
    have hm:=th r x
    cases hr:(fU r x).1 with
    |nil=>rw[hr]at hs;simp at hs
    |cons d q=>
     rw[hr]at hs hu hm
     have hd:d≤x:=by
      rcases MH.1 hs with e|e
      ·omega
      ·exact uc hu x e
     have ha:a≤d:=by
      rcases hm d (Mw ..)with e|e
      ·omega
      ·exact uc h d e
     exact(Kn.of (Tri.b ha (show d<b by omega))).right q
theorem Ee: ∀{s:List Int} {x y:Int} (r:List Int),(∀c∈s,c≤x)→x<y→fU (s++y::r) x=(s++x::r,[y])
 | [],x,y,r,_,hx=>gd hx
 |a::s,x,y,r,h,hx=>by
  have ha:=h a (Mw ..)
  show fU (a::(s++y::r)) x=_
  rw[fJ ha,Ee r (fun c hc=>h c (Mo _ hc)) hx]
  rfl
def Bel:List Int→List Int→Prop
 |_,[]=>True
 | [],_::_=>False
 |x::a,y::b=>x<y∧Bel a b
theorem uB: ∀{a b:List Int},b.length≤a.length→(∀j,j<b.length→a.getD j 0<b.getD j 0)→Bel a b
 |a,[],_,_=>by cases a<;>trivial
 | [],y::b,h,_=>by simp at h
 |x::a,y::b,h,g=>by
  refine⟨g 0 (by simp),uB (by simpa using h) fun j hj=> ?_⟩
  have:=g (j+1) (by simpa using hj)
  simpa using this
theorem Em: ∀{b s a:List Int},Up (s++b)→Up (s++a)→Bel a b→Kn (s++b++a) (b++s++a)
 | [],s,a,_,_,_=>by simpa using Kn.refl _
 |y::b,s,[],_,_,h=>h.elim
 |y::b,s,x::a,hb,ha,⟨h1,h2⟩=>by
  have hsx: ∀c∈s,c≤x:=fun c hc=>(Oh.1 ha).2.2 c hc x (Mw ..)
  have hb':=(Oh.1 hb)
  have k1:=F0 x hb
  rw[Ee b hsx h1]at k1
  have k2:=k1.right a
  have hyb:=uc hb'.2.1
  have u1:Up ((s++ [x])++b):=by
   rw[NM]
   refine Oh.2 ⟨hb'.1,Og.2 ⟨fun z hz=>by have:=hyb z hz;omega,nZ hb'.2.1⟩,fun c hc z hz=> ?_⟩
   rcases MH.1 hz with e|e
   ·rw[e];exact hsx c hc
   ·have:=hsx c hc;have:=hyb z e;omega
  have u2:Up ((s++ [x])++a):=by rw[NM];exact ha
  have ih:=(Em u1 u2 h2).cons y
  simp only[NM,Mp,N1,OG]at k2 ih⊢
  exact k2.trans ih
theorem H4: ∀{A B A' B':List Int} {b:Int},A.length=B.length→Bel A B→Up (B++b::B')→Up (A++b::A')→Bel A' B'→
  Kn ((B++b::B')++(A++A')) ((B++B')++(A++b::A'))
 | [],[],A',B',b,_,_,hb,ha,h=>by
  have:=Em (s:= [b]) (b:=B') (a:=A') hb ha h
  simpa using this
 | [],_::_,_,_,_,h,_,_,_,_=>by simp at h
 |_::_,[],_,_,_,h,_,_,_,_=>by simp at h
 |a::A,y::B,A',B',b,hl,⟨h1,h2⟩,hb,ha,h=>by
  have ih:=H4 (A:=A) (B:=B) (by simpa using hl) h2 (nZ hb) (nZ ha) h
  have k1:=(wC hb h1).right (A++A')
  have k2:=ih.left [y,a]
  have hb2:Up (y::(B++B')):=by
   have hb':=Oh.1 (show Up ((y::B)++b::B')from hb)
   exact Oh.2 ⟨hb'.1,nZ hb'.2.1,fun c hc z hz=>hb'.2.2 c hc z (Mo _ hz)⟩
  have k3:=(wC hb2 h1).right (A++b::A')
  simp only[List.append_eq,NM,Mp,N1]at k1 k2 k3⊢
  exact(k1.trans k2).trans k3.symm
theorem HY{r:List Int}(h:nW r):Up r:=by
 refine OB.2 fun i j hi hj hij=> ?_
 have:=h.mono (Nat.le_of_lt hij) hj
 rw[an hi,an hj]at this
 exact this
theorem DF: ∀{rs:List (List Int)},SSR rs→ ∀r∈rs,Up r
 | [],_,r,h=>by simp at h
 |q::rs,h,r,hr=>by
  rcases MH.1 hr with e|e
  ·rw[e];exact HY h.2.1
  ·exact DF h.2.2.2 r e
def lS(f:Nat→List Int):Nat→List Int
 |0=> []
 |n+1=>f n++lS f n
theorem mH{f f':Nat→List Int}: ∀{n:Nat},(∀r,r<n→f r=f' r)→lS f n=lS f' n
 |0,_=>rfl
 |n+1,h=>by
  show f n++lS f n=f' n++lS f' n
  rw[h n (by omega),mH fun r hr=>h r (by omega)]
theorem zu{f f':Nat→List Int}{i:Nat}(k:Kn (f (i+1)++f i) (f' (i+1)++f' i)): ∀{n:Nat},i+1<n→(∀r,r<n→r≠i→r≠i+1→f r=f' r)→Kn (lS f n) (lS f' n)
 |0,h,_=>by omega
 |n+1,hn,h=>by
  show Kn (f n++lS f n) (f' n++lS f' n)
  by_cases e:n=i+1
  ·subst e
   show Kn (f (i+1)++(f i++lS f i)) (f' (i+1)++(f' i++lS f' i))
   rw[mH (f:=f) (f':=f') (n:=i) fun r hr=>h r (by omega) (by omega) (by omega),←NM,←NM]
   exact k.right _
  ·rw[h n (by omega) (by omega) (by omega)]
   exact(zu k (by omega) fun r hr=>h r (by omega)).left _
theorem yl: ∀(rs:List (List Int)),rs.reverse.flatten=lS (fun r=>rs.getD r []) rs.length:=by
 intro rs
 have: ∀(n:Nat),n≤rs.length→(rs.take n).reverse.flatten=lS (fun r=>rs.getD r []) n:=by
  intro n
  induction n with
  |zero=>intro _;rfl
  |succ n ih=>
   intro hn
   rw[take_succ (by omega) [],OQ,OD,ih (by omega)]
   simp[lS]
 have h:=this rs.length (Ng _)
 rwa [Oz (Ng _)]at h
def yS(q:List Int)(g:List (List Int))(i c r:Nat):List Int:=
 if r=i then((g.getD r []).take c).drop (q.getD r 0).toNat++(g.getD r []).drop (c+1)else(g.getD r []).drop (q.getD r 0).toNat
def pX(q:List Int)(g:List (List Int))(i c:Nat):List Int:=lS (yS q g i c) g.length
theorem mO(g:List (List Int))(r c:Nat)(v:Int)(q:Nat):(fp g r c v).getD q []=if q=r then(g.getD r []).set c v else g.getD q []:=by
 unfold fp
 by_cases e:q=r
 ·subst e
  rw[if_pos rfl]
  by_cases h:q<g.length
  ·rw[an (by rw[Ml];exact h),NN]
  ·rw[bL (xs:=g.set q _) (by rw[Ml];omega),bL (xs:=g) (by omega)];rfl
 ·rw[if_neg e,getD_set_ne (Ne.symm e)]
theorem CF{r:List Int}{q c:Nat}(h1:q≤c)(h2:c<r.length):r.drop q=(r.take c).drop q++r.getD c 0::r.drop (c+1):=by
 conv=>lhs;rw[←NQ c r]
 rw[LD,NJ,drop_cons h2 0,show q-min c r.length=0 by omega]
 rfl
theorem yf{r:List Int}{q c:Nat}(v:Int)(h1:q≤c)(h2:c<r.length):(r.set c v).drop q=(r.take c).drop q++v::r.drop (c+1):=by
 rw[CF h1 (by rw[Ml];exact h2),gP v h2,if_pos rfl,NS (Ng _),NT (by omega)]
theorem xN{r:List Int}{q:Nat}(h: ∀x,q≤x→x+1<r.length→r.getD x 0≤r.getD (x+1) 0):Up (r.drop q):=by
 refine HY fun i hi=> ?_
 rw[NK]at hi
 rw[il,il]
 exact h (q+i) (by omega) (by omega)
theorem BK{q:List Int}{g:List (List Int)}{i c:Nat}(h:Sl q g i c)(hr:cel g i (c+1)≠0):pX q (fp g i c (cel g i (c+1))) i (c+1)=pX q g i c:=by
 obtain⟨b1,b2⟩:=ot hr
 have hq:=h.hq
 have hq0:=h.q0 i
 unfold pX
 rw[dQ]
 refine mH fun r _=> ?_
 unfold yS
 rw[mO]
 by_cases e:r=i
 ·subst e
  rw[if_pos rfl,if_pos rfl,if_pos rfl]
  have e1:((g.getD r []).set c (cel g r (c+1))).take (c+1)=(g.getD r []).take c++ [cel g r (c+1)]:=by
   rw[take_succ (by rw[Ml];omega) 0,gP _ (by omega),if_pos rfl,NS (Ng _)]
  rw[e1,NT (by omega),LD,NJ,show(q.getD r 0).toNat-min c (g.getD r []).length=0 by omega,NM]
  congr 1
  exact(drop_cons b2 0).symm
 ·rw[if_neg e,if_neg e,if_neg e]
theorem Dh{q:List Int}{g:List (List Int)}{i c:Nat}(h:Sl q g i c)(hb:cel g (i+1) c≠0)(hd:Sl q (fp g i c (cel g (i+1) c)) (i+1) c):
  Kn (pX q g i c) (pX q (fp g i c (cel g (i+1) c)) (i+1) c):=by
 obtain⟨b1,b2⟩:=ot hb
 have hq:=h.hq
 have hq0:=h.q0 i
 have hq1:=h.q0 (i+1)
 have hqm:=h.qm i
 have hc:=h.hc
 have hl:=h.lm i
 unfold pX
 rw[dQ]
 refine zu ?_ b1 fun r _ h1 h2=> ?_
 ·unfold yS
  rw[if_pos rfl,if_neg (show¬i+1=i by omega),if_pos rfl,if_neg (show¬i=i+1 by omega),mO,mO,if_pos rfl,if_neg (show¬i+1=i by omega),yf _ (by omega) hc,CF (by omega) b2]
  have hC: ∀m:List Int,c≤m.length→(m.take c).drop (q.getD (i+1) 0).toNat=((m.take c).take (q.getD i 0).toNat).drop (q.getD (i+1) 0).toNat++(m.take c).drop (q.getD i 0).toNat:=fun m hm=>by
   conv=>lhs;rw[←NQ (q.getD i 0).toNat (m.take c)]
   rw[LD,NJ,NJ,show(q.getD (i+1) 0).toNat-min (q.getD i 0).toNat (min c m.length)=0 by omega]
   rfl
  rw[hC _ (by omega)]
  have key:=H4 (A:=((g.getD i []).take c).drop (q.getD i 0).toNat) (B:=((g.getD (i+1) []).take c).drop (q.getD i 0).toNat) (A':=(g.getD i []).drop (c+1)) (B':=(g.getD (i+1) []).drop (c+1)) (b:=cel g (i+1) c)
   (by simp only[NK,NJ];omega)
   (uB (by simp only[NK,NJ];omega) fun j hj=>by
    simp only[NK,NJ]at hj
    rw[il,il,fH (by omega),fH (by omega)]
    exact h.col i ((q.getD i 0).toNat+j) (by omega) (by omega) (by omega) (by omega))
   (by
    have:=xN (r:=g.getD (i+1) []) (q:=(q.getD i 0).toNat) fun x h1 h2=>h.row (i+1) x (by omega) h2 (by omega) (by omega)
    rwa [CF (by omega) b2]at this)
   (by
    have:=xN (r:=(fp g i c (cel g (i+1) c)).getD i []) (q:=(q.getD i 0).toNat) fun x h1 h2=>hd.row i x (by omega) h2 (by omega) (by omega)
    rwa [mO,if_pos rfl,yf _ (by omega) hc]at this)
   (uB (by simp only[NK];omega) fun j hj=>by
    simp only[NK]at hj
    rw[il,il]
    exact h.col i (c+1+j) (by omega) (by omega) (by omega) (by omega))
  have:=key.left (((g.getD (i+1) []).take c).take (q.getD i 0).toNat|>.drop (q.getD (i+1) 0).toNat)
  simp only[NM]at this⊢
  exact this
 ·unfold yS
  rw[if_neg h1,if_neg h2,mO,if_neg h1]
theorem yI{q:List Int}: ∀(m:Nat) (g:List (List Int)) (i c:Nat),Sl q g i c→Kn (pX q g i c) (pX q (cJ m g i c).1 (cJ m g i c).2.1 (cJ m g i c).2.2)
 |0,g,i,c,h=> .refl _
 |m+1,g,i,c,h=>by
  unfold cJ
  by_cases c1:cel g i (c+1)=0∧cel g (i+1) c=0
  ·rw[if_pos c1];exact .refl _
  ·rw[if_neg c1]
   by_cases c2:cel g i (c+1)=0∨(0<cel g (i+1) c∧cel g (i+1) c≤cel g i (c+1))
   ·rw[if_pos c2]
    have hb:cel g (i+1) c≠0:=by
     intro e
     rcases c2 with c2|c2
     ·exact c1 ⟨c2,e⟩
     ·omega
    have hd:=h.down hb c2
    exact(Dh h hb hd).trans (yI m _ _ _ hd)
   ·rw[if_neg c2]
    have hr:cel g i (c+1)≠0:=fun e=>c2 (.inl e)
    have hd:=h.right hr (fun e=>c2 (.inr e))
    have:=yI m _ _ _ hd
    rw[BK h hr]at this
    exact this
end Go.Am.Pu
end
section
/- The rectification is the tableau of the word. Plain words. -/
namespace Go.Am.Pu
theorem xA{f:Nat→List Int}{m:Nat}: ∀{n:Nat},m≤n→(∀r,m≤r→r<n→f r= [])→lS f n=lS f m
 |0,h,_=>by rw[show m=0 by omega]
 |n+1,h,g=>by
  by_cases e:m=n+1
  ·rw[e]
  ·show f n++lS f n=_
   rw[g n (by omega) (by omega),xA (n:=n) (by omega) fun r h1 h2=>g r h1 (by omega)]
   rfl
theorem zA{t:Tab}{r:Nat}(h:r<t.2.length):((dv t).getD r []).drop (t.1.getD r 0).toNat=t.2.getD r []:=by
 rw[sR h,LD,Oy,O0,Ny,OE (by simp)]
 rfl
def dq(t:Tab):List Int:=t.2.reverse.flatten
theorem GJ{t:Tab}(h:eH t=true){n:Nat}(hn:n<t.1.length)(hc:t.1.getD (n+1) 0<t.1.getD n 0):Kn (dq t) (dq (g8 t n).1):=by
 obtain⟨hp,ho,hl,_⟩:=jg h
 have hst:=sH h hn hc
 have hgo:=yI 18 _ _ _ hst
 obtain⟨E,_,_⟩:=Gy h hn hc
 have hdg:=fun r=>lL hp hn hc r
 have hpos:1≤t.1.getD n 0:=by
  have:=(ba hp).1 _ (Ns hn)
  rw[an hn];exact this.1
 have e1:dq t=pX (aO t.1 n) (dv t) n (t.1.getD n 0-1).toNat:=by
  unfold dq pX
  rw[yl,jQ]
  refine mH fun r hr=> ?_
  unfold yS
  rw[hdg]
  by_cases e:r=n
  ·subst e
   rw[if_pos rfl,if_pos rfl,show(t.1.getD r 0-1).toNat+1=(t.1.getD r 0).toNat by omega,zA hr,OE (by rw[NJ];omega)]
   rfl
  ·rw[if_neg e,if_neg e,zA hr]
 have e2:dq (g8 t n).1=pX (aO t.1 n) (dn t n).1 (dn t n).2.1 (dn t n).2.2:=by
  unfold dq g8
  simp only
  rw[yl,fw]
  unfold pX
  rw[E.len]
  have hol:=cd t
  have hdl:=jv (outer t) (dn t n).2.1
  have hrow: ∀r,yS (aO t.1 n) (dn t n).1 (dn t n).2.1 (dn t n).2.2 r=((mS (dn t n).1 (dn t n).2.1 (dn t n).2.2).getD r []).drop ((aO t.1 n).getD r 0).toNat:=fun r=>by
   unfold yS
   rw[wu E.sl.hi]
   by_cases e:r=(dn t n).2.1
   ·rw[if_pos e,if_pos e,e,OE (i:=(dn t n).2.2+1),MR]
    have a:=E.row (dn t n).2.1
    have b:=lq hp (dn t n).2.1
    have c:=E.end_
    omega
   ·rw[if_neg e,if_neg e]
  rw[xA (m:=(aO (outer t) (dn t n).2.1).length) (n:=t.2.length) (by omega) fun r h1 h2=>by
   rw[hrow]
   have:=E.cutl r
   rw[bL (xs:=aO (outer t) (dn t n).2.1) h1]at this
   exact OE (by omega)]
  refine mH fun r hr=> ?_
  rw[jI hr,hrow]
 rw[e1,e2]
 exact hgo
end Go.Am.Pu
end
section
/- Slides outwards: what holds on the way, what they leave; slides in and out undo each other. Plain words. -/
namespace Go.Am.Pu
theorem lu{p:List Int}(hp:bK p=true)(r:Nat):0≤p.getD r 0∧p.getD r 0≤9:=by
 have:=dR hp r
 rwa [cG]at this
theorem tq{p:List Int}(hp:bK p=true){r:Nat}(hr:r<p.length):1≤p.getD r 0:=by
 rw[an hr];exact((ba hp).1 _ (Ns hr)).1
theorem GB{p q:List Int}(hp:bK p=true)(hq:bK q=true)(h: ∀r,p.getD r 0=q.getD r 0):p=q:=by
 have hl:p.length=q.length:=by
  rcases O3 p.length q.length with c|c|c
  ·have:=tq hq c
   rw[←h,bL (Ng _)]at this;omega
  ·exact c
  ·have:=tq hp c
   rw[h,bL (Ng _)]at this;omega
 exact Cl hl fun x _=>h x
theorem su: ∀{a b:List Int},(∀i,a.getD i 0≤b.getD i 0)→dD a≤dD b∧ ∀j,a.getD j 0<b.getD j 0→dD a<dD b
 | [],[],_=>⟨O5 _,fun j h=>by simp at h⟩
 | [],y::b,h=>by
  have h0:=h 0
  obtain⟨i1,i2⟩:=su (a:= []) (b:=b) fun i=>by have:=h (i+1);simpa using this
  simp only[Li,OK]at h0
  simp only[dD]at*
  refine⟨by omega,fun j hj=> ?_⟩
  cases j with
  |zero=>simp at hj;omega
  |succ j=>have:=i2 j (by simpa using hj);omega
 |x::a,[],h=>by
  have h0:=h 0
  obtain⟨i1,i2⟩:=su (a:=a) (b:= []) fun i=>by have:=h (i+1);simpa using this
  simp only[Li,OK]at h0
  simp only[dD]at*
  refine⟨by omega,fun j hj=> ?_⟩
  cases j with
  |zero=>simp at hj;omega
  |succ j=>have:=i2 j (by simpa using hj);omega
 |x::a,y::b,h=>by
  have h0:=h 0
  obtain⟨i1,i2⟩:=su (a:=a) (b:=b) fun i=>by have:=h (i+1);simpa using this
  simp only[OK]at h0
  simp only[dD]at*
  refine⟨by omega,fun j hj=> ?_⟩
  cases j with
  |zero=>simp at hj;omega
  |succ j=>have:=i2 j (by simpa using hj);omega
theorem F8{q:List Int}{i:Nat}: ∀r,(if(i:Int)=q.length then q++ [0]else q).getD r 0=q.getD r 0:=fun r=>by
 split
 ·by_cases hr:r<q.length
  ·rw[jq hr]
  ·rw[mj (by omega),bL (xs:=q) (by omega)]
   cases r-q.length<;>rfl
 ·rfl
theorem E6{q:List Int}{i:Nat}(hq:bK q=true)(hi:i≤q.length)(hm:i=0∨q.getD i 0+1≤q.getD (i-1) 0)(hs:dD q+1≤9): ∃o,jR q i=(o,true):=by
 have hlen:i<(if(i:Int)=q.length then q++ [0]else q).length:=by
  split
  ·rw[Mb,Ox];omega
  ·omega
 have hsum:dD (if(i:Int)=q.length then q++ [0]else q)=dD q:=by
  split
  ·rw[Bm];simp[dD]
  ·rfl
 have hg:=F8 (q:=q) (i:=i)
 unfold jR
 rw[if_pos ⟨hq,by omega,by omega⟩]
 simp only[O4]
 generalize hw:(if(i:Int)=q.length then q++ [0]else q)=w at*
 have hset: ∀r,(w.set i (w.getD i 0+1)).getD r 0=if r=i then q.getD i 0+1 else q.getD r 0:=fun r=>by
  rw[gP _ hlen,hg]
  by_cases e:r=i
  ·rw[if_pos e,if_pos e]
  ·rw[if_neg e,if_neg e,hg]
 have hpart:bK (w.set i (w.getD i 0+1))=true:=by
  have hle:dD q≤8:=by omega
  have h1: ∀r,q.getD r 0≤8:=fun r=>by
   have h0:=(lu hq r).1
   by_cases hr:r<q.length
   ·have:=su (a:=LH (r+1) 0|>.set r (q.getD r 0)) (b:=q) fun i=>by
     rw[gP _ (by simp)]
     by_cases e:i=r
     ·rw[if_pos e,e];exact O5 _
     ·rw[if_neg e]
      have:(LH (r+1) (0:Int)).getD i 0=0:=by
       by_cases hi:i<r+1
       ·rw[an (by simpa using hi)];simp
       ·rw[bL (by simp;omega)]
      rw[this];exact(lu hq i).1
    have h2:=this.1
    rw[pZ _ _ _ (by simp)]at h2
    have h3: ∀n,dD (LH n 0)=0:=fun n=>by
     induction n with
     |zero=>rfl
     |succ n ih=>rw[LS];simp[dD,ih]
    have h4:(LH (r+1) (0:Int)).getD r 0=0:=by rw[an (by simp)];simp
    rw[h3,h4]at h2
    omega
   ·rw[bL (by omega)];omega
  refine ly _ _ _ (fun x hx=> ?_) (fun _=> ?_) (fun r _=> ?_) ?_
  ·obtain⟨r,hr,rfl⟩:=Nx hx
   rw[←an hr 0,hset]
   by_cases e:r=i
   ·rw[if_pos e]
    have:=(lu hq i).1
    omega
   ·rw[if_neg e]
    rw[Ml]at hr
    refine tq hq ?_
    rw[←hw]at hr
    split at hr
    ·rw[Mb,Ox]at hr;omega
    ·exact hr
  ·rw[hset]
   have:=h1 0
   have:=h1 i
   split<;>omega
  ·rw[hset,hset]
   have:=gp hq r
   by_cases e:r=i
   ·subst e
    rw[if_neg (by omega),if_pos rfl];omega
   ·rw[if_neg e]
    by_cases e2:r+1=i
    ·subst e2
     rw[if_pos rfl]
     rcases hm with hm|hm
     ·omega
     ·simpa using hm
    ·rw[if_neg e2];exact this
  ·rw[pZ _ _ _ hlen,hg,hsum];omega
 rw[if_pos hpart]
 exact⟨_,rfl⟩
theorem GP{p q:List Int}{n:Nat}(hp:bK p=true)(h:jR p n=(q,true)):aO q n=p∧q.getD (n+1) 0<q.getD n 0:=by
 obtain⟨b1,b2,b3,b4,b5⟩:=oJ h
 have hc:q.getD (n+1) 0<q.getD n 0:=by
  rw[b4,b4,if_neg (by omega),if_pos rfl]
  have:=gp hp n
  omega
 refine⟨GB (rj b5 b2 hc) hp fun r=> ?_,hc⟩
 rw[lL b5 b2 hc,b4,b4,if_pos rfl]
 by_cases e:r=n
 ·rw[if_pos e,e];omega
 ·rw[if_neg e,if_neg e]
theorem Sl.up{q:List Int}{g:List (List Int)}{i c:Nat}(h:Sl q g (i+1) c)(hi:Inn q g)(hu:cel g i c≠0)(hl:leftOf g (i+1) c≤cel g i c):Sl q (fp g (i+1) c (cel g i c)) i c:=by
 obtain⟨b1,b2⟩:=ot hu
 have hq:q.getD i 0≤c:=Mc.1 fun hlt=>hu (hi i c hlt)
 have hqm:=h.qm i
 have hun:=h.num i c hq b2 (by omega)
 have e0:=j8 (cel g i c) h.hi h.hc
 have en: ∀r x,¬(r=i+1∧x=c)→cel (fp g (i+1) c (cel g i c)) r x=cel g r x:=fun r x hh=>ja _ hh
 have hll:=h.lm i
 refine⟨h.q0,h.qm,fun r=> ?_,?_,?_,hq,fun r x=> ?_,fun r x h1 h2 h3=> ?_,fun r x h1 h2 h3 h4=> ?_,fun r x h1 h2 h3 h4=> ?_,fun x h1 h2 h3=> ?_,fun r h1 h2 h3=> ?_⟩
 ·rw[bG,bG];exact h.lm r
 ·rw[dQ];exact b1
 ·rw[bG];exact b2
 ·by_cases e:r=i+1∧x=c
  ·rw[e.1,e.2,e0];exact h.pos _ _
  ·rw[en r x e];exact h.pos _ _
 ·rw[bG]at h2
  by_cases e:r=i+1∧x=c
  ·rw[e.1,e.2,e0];exact hun
  ·rw[en r x e];exact h.num r x h1 h2 e
 ·rw[bG]at h2
  by_cases e:r=i+1∧x=c
  ·obtain⟨rfl,rfl⟩:=e
   rw[e0,en _ _ (by omega)]
   have h5:=h.row i x hq (by omega) (by omega) (by omega)
   have h6:=h.col i (x+1) (by omega) h2 (by omega) (by omega)
   omega
  ·rw[en r x e]
   by_cases e':r=i+1∧x+1=c
   ·obtain⟨rfl,rfl⟩:=e'
    rw[e0]
    unfold leftOf at hl
    rw[if_neg (by omega),show x+1-1=x by omega]at hl
    exact hl
   ·rw[en r (x+1) e'];exact h.row r x h1 h2 e e'
 ·rw[bG]at h2
  by_cases e:r=i+1∧x=c
  ·obtain⟨rfl,rfl⟩:=e
   rw[e0,en _ _ (by omega)]
   exact h.colH i rfl hq h2
  ·rw[en r x e]
   by_cases e':r+1=i+1∧x=c
   ·exact(h3 ⟨by omega,e'.2⟩).elim
   ·rw[en (r+1) x e']
    exact h.col r x h1 h2 e e'
 ·rw[bG]at h3
  rw[en _ _ (by omega),en _ _ (by omega)]
  subst h1
  have h5:=h.row i x h2 (by omega) (by omega) (by omega)
  have h6:=h.row i (x+1) (by omega) h3 (by omega) (by omega)
  omega
 ·rw[bG]at h3
  subst h1
  rw[en _ _ (by omega),e0]
  exact h.col r c h2 b2 (by omega) (by omega)
theorem Sl.left{q:List Int}{g:List (List Int)}{i c:Nat}(h:Sl q g i (c+1))(hi:Inn q g)(hv:cel g i c≠0)(hu:ye g i (c+1)<cel g i c):Sl q (fp g i (c+1) (cel g i c)) i c:=by
 obtain⟨b1,b2⟩:=ot hv
 have hq:q.getD i 0≤c:=Mc.1 fun hlt=>hv (hi i c hlt)
 have hqm:=h.qm i
 have hvn:=h.num i c hq b2 (by omega)
 have e0:=j8 (cel g i c) h.hi h.hc
 have en: ∀r x,¬(r=i∧x=c+1)→cel (fp g i (c+1) (cel g i c)) r x=cel g r x:=fun r x hh=>ja _ hh
 have hll:=h.lm i
 refine⟨h.q0,h.qm,fun r=> ?_,?_,?_,hq,fun r x=> ?_,fun r x h1 h2 h3=> ?_,fun r x h1 h2 h3 h4=> ?_,fun r x h1 h2 h3 h4=> ?_,fun x h1 h2 h3=> ?_,fun r h1 h2 h3=> ?_⟩
 ·rw[bG,bG];exact h.lm r
 ·rw[dQ];exact b1
 ·rw[bG];exact b2
 ·by_cases e:r=i∧x=c+1
  ·rw[e.1,e.2,e0];exact h.pos _ _
  ·rw[en r x e];exact h.pos _ _
 ·rw[bG]at h2
  by_cases e:r=i∧x=c+1
  ·rw[e.1,e.2,e0];exact hvn
  ·rw[en r x e];exact h.num r x h1 h2 e
 ·rw[bG]at h2
  by_cases e:r=i∧x=c+1
  ·obtain⟨rfl,rfl⟩:=e
   rw[e0,en _ _ (by omega)]
   exact h.yS c rfl hq h2
  ·rw[en r x e]
   by_cases e':r=i∧x+1=c+1
   ·exact(h3 ⟨e'.1,by omega⟩).elim
   ·rw[en r (x+1) e'];exact h.row r x h1 h2 e e'
 ·rw[bG]at h2
  by_cases e:r=i∧x=c+1
  ·obtain⟨rfl,rfl⟩:=e
   rw[e0,en _ _ (by omega)]
   have h5:=h.col r c hq (by omega) (by omega) (by omega)
   have h6:=h.row (r+1) c (by omega) h2 (by omega) (by omega)
   omega
  ·rw[en r x e]
   by_cases e':r+1=i∧x=c+1
   ·obtain⟨rfl,rfl⟩:=e'
    rw[e0]
    unfold ye at hu
    rw[if_neg (by omega),show r+1-1=r by omega]at hu
    exact hu
   ·rw[en (r+1) x e']
    exact h.col r x h1 h2 e e'
 ·rw[bG]at h3
  subst h1
  rw[en _ _ (by omega),e0]
  exact h.row i x h2 b2 (by omega) (by omega)
 ·rw[bG]at h3
  rw[en _ _ (by omega),en _ _ (by omega)]
  subst h1
  have h5:=h.col r c h2 b2 (by omega) (by omega)
  have h6:=h.col (r+1) c hq h3 (by omega) (by omega)
  omega
end Go.Am.Pu
end
section
/- What a slide outwards leaves is a tableau; slides in and out undo each other. Plain words. -/
namespace Go.Am.Pu
theorem EG{q o:List Int}{g:List (List Int)}(hq:bK q=true)(ho:bK o=true)(hin: ∀r,q.getD r 0≤o.getD r 0)(hl: ∀r,r<o.length→((g.getD r []).length:Int)=o.getD r 0)
  (num: ∀r x:Nat,r<o.length→q.getD r 0≤x→(x:Int)<o.getD r 0→1≤cel g r x∧cel g r x≤9)
  (row: ∀r x:Nat,r<o.length→q.getD r 0≤x→(x:Int)+1<o.getD r 0→cel g r x≤cel g r (x+1))
  (col: ∀r x:Nat,r+1<o.length→q.getD r 0≤x→(x:Int)<o.getD (r+1) 0→cel g r x<cel g (r+1) x):
  eH (q,dt q g o.length)=true∧outer (q,dt q g o.length)=o:=by
 have q0:=fun r=>(lu hq r).1
 generalize hR:dt q g o.length=R
 have hRl:R.length=o.length:=by rw[←hR,fw]
 have cell: ∀{r k:Nat},r<R.length→k<(R.getD r []).length→((q.getD r 0).toNat+k:Int)<o.getD r 0∧(R.getD r []).getD k 0=cel g r ((q.getD r 0).toNat+k):=by
  intro r k hr hk
  subst hR
  rw[jI (by omega)]at hk⊢
  rw[NK]at hk
  have:=hl r (by omega)
  refine⟨by omega,?_⟩
  rw[il];rfl
 have Aq: ∀{r:Nat},r<R.length→o.getD r 0=q.getD r 0+((R.getD r []).length:Int):=by
  intro r hr
  subst hR
  rw[jI (by omega),NK]
  have:=hl r (by omega)
  have:=hin r
  have:=q0 r
  omega
 have hout:outer (q,R)=o:=by
  refine OI (by rw[cd];exact hRl) fun r h1 h2=> ?_
  rw[←an h1 0,←an h2 0]
  have h3:r<R.length:=by omega
  have:=fV q R 0 r h3
  rw[Ni]at this
  unfold outer
  rw[this]
  exact(Aq h3).symm
 refine⟨?_,hout⟩
 have hlen:q.length≤R.length:=by
  refine Oa fun hlt=> ?_
  have a:=tq hq hlt
  have b:=hin R.length
  rw[bL (xs:=o) (by omega)]at b
  omega
 have om:=gp ho
 have qm:=gp hq
 simp only[eH,dU,cN,Nc,decide_eq_true_eq]
 rw[hout]
 refine⟨⟨hq,hlen,hq,ho,by omega,?_⟩,?_⟩
 ·rw[dM]
  intro r _
  exact decide_eq_true (hin r)
 ·rw[dM]
  intro r hr
  rw[dM]
  intro k hk
  have hqr:=q0 r
  obtain⟨c1,c4⟩:=cell hr hk
  have hnum:=num r ((q.getD r 0).toNat+k) (by omega) (by omega) (by omega)
  simp only[gL,within,Nc,Ol,decide_eq_true_eq]
  rw[c4]
  refine⟨hnum,?_,?_⟩
  ·cases k with
   |zero=>exact .inl rfl
   |succ k=>
    obtain⟨d1,d4⟩:=cell hr (show k<(R.getD r []).length by omega)
    right
    rw[show k+1-1=k from rfl,d4]
    exact row r ((q.getD r 0).toNat+k) (by omega) (by omega) (by omega)
  ·cases r with
   |zero=>exact .inl rfl
   |succ r=>
    right
    have hr':r<R.length:=by omega
    have em:((r+1:Nat):Int)-1=(r:Int):=by omega
    rw[em,ke hr']
    have hqr:=q0 r
    have hqm:=qm r
    have hrl:=Aq hr'
    have hom:=om r
    simp only
    by_cases e:q.getD (r+1) 0+(k:Int)<q.getD r 0
    ·rw[od (by omega)];omega
    ·obtain⟨y,hy⟩: ∃y:Nat,q.getD (r+1) 0+(k:Int)-q.getD r 0=y:=⟨(q.getD (r+1) 0+(k:Int)-q.getD r 0).toNat,by omega⟩
     rw[hy,cG]
     obtain⟨d1,d4⟩:=cell hr' (show y<(R.getD r []).length by omega)
     have ey:(q.getD r 0).toNat+y=(q.getD (r+1) 0).toNat+k:=by omega
     rw[d4,ey]
     exact col r _ (by omega) (by omega) (by omega)
section
variable {t : Tab} {n : Nat} {p : List Int}
def uo(t:Tab)(n:Nat)(p:List Int):List (List Int)×(Nat×Nat):=pS 18 (Hb t n) n (p.getD n 0-1).toNat
structure Hk (t : Tab) (n : Nat) (p : List Int) (g : List (List Int)) (i c : Nat) (q : List Int) : Prop where
  sl : Sl t.1 g i c
  inn : Inn t.1 g
  len : g.length = p.length
  row : ∀ r, ((g.getD r []).length : Int) = p.getD r 0
  l0 : leftOf g i c = 0
  u0 : ye g i c = 0
  add : jR t.1 i = (q, true)
  qi : q.getD i 0 = c + 1
  qr : ∀ r, q.getD r 0 = if r = i then (c : Int) + 1 else t.1.getD r 0
  qp : bK q = true
  ins : ∀ r, q.getD r 0 ≤ p.getD r 0
def vF(t:Tab)(n:Nat):Tab×Nat:=
 let p:=(jR (outer t) n).1
 let s:=uo t n p
 let q:=(jR t.1 s.2.1).1
 ((q,dt q s.1 p.length),s.2.1)
theorem Hk.tab{g:List (List Int)}{i c:Nat}{q:List Int}(E:Hk t n p g i c q)(hp:jR (outer t) n=(p,true)):eH (q,dt q g p.length)=true∧outer (q,dt q g p.length)=p:=by
 obtain⟨b1,b2,b3,b4,b5⟩:=oJ hp
 have hq:=E.sl.hq
 have old: ∀r x:Nat,q.getD r 0≤x→t.1.getD r 0≤x∧ ¬(r=i∧x=c):=fun r x hx=>by
  rw[E.qr]at hx
  by_cases e:r=i
  ·rw[if_pos e]at hx
   rw[e]
   exact⟨by omega,by omega⟩
  ·rw[if_neg e]at hx;exact⟨hx,fun e'=>e e'.1⟩
 refine EG E.qp b5 E.ins (fun r _=>E.row r) (fun r x _ h1 h2=> ?_) (fun r x _ h1 h2=> ?_) (fun r x _ h1 h2=> ?_)
 ·have:=E.row r
  exact E.sl.num r x (old r x h1).1 (by omega) (old r x h1).2
 ·have:=E.row r
  exact E.sl.row r x (old r x h1).1 (by omega) (old r x h1).2 (by have:=(old r (x+1) (by omega)).2;exact this)
 ·have:=E.row (r+1)
  have hm:=gp E.qp r
  exact E.sl.col r x (old r x h1).1 (by omega) (old r x h1).2 (by have:=(old (r+1) x (by omega)).2;exact this)
theorem Hk.eq{q:List Int}(E:Hk t n p (uo t n p).1 (uo t n p).2.1 (uo t n p).2.2 q)(hp:jR (outer t) n=(p,true)):vF t n=((q,dt q (uo t n p).1 p.length),(uo t n p).2.1):=by
 unfold vF
 rw[hp]
 simp only[E.add]
end
section
variable {t : Tab} {n : Nat}
end
end Go.Am.Pu
end
section
/- Words of tableaux; the rows of a slide outwards. Plain words. -/
namespace Go.Am.Pu
def gE(a n m:Nat)(t:Tab):Prop:=t.1.length≤a∧dG n m t.2
theorem gE.tab{a n m:Nat}{t:Tab}(h:gE a n m t)(ha:a≤1048576)(hn:n≤1048576)(hm:m≤1048576):t.1.length≤1048576∧t.2.length≤1048576∧ ∀x∈t.2,x.length≤1048576:=
 ⟨Ob h.1 ha,Ob h.2.1 hn,fun x hx=>Ob (h.2.2 x hx) hm⟩
end Go.Am.Pu
end
section
/- Partitions that are drawn; chains of partitions. Plain words. -/
namespace Go.Am.Pu
def Gm(n:Nat)(m:Int)(x:List Int):Prop:=oL n x∧(∀s:Int,0≤s→s+n≤9→g9 x m s=true)∧dD x=n
theorem Ct: ∀(x:List Int) {m m' s:Int},m≤m'→g9 x m s=true→g9 x m' s=true
 | [],_,_,_,_,_=>rfl
 |y::x,m,m',s,h,h1=>by
  simp only[g9,Nc,decide_eq_true_eq]at h1⊢
  exact⟨h1.1,by omega,h1.2.2⟩
end Go.Am.Pu
end
section
/- Plain laws: tableaux side by side; a number's copies. -/
namespace Go.Am.Pu
open Go Go.Am
attribute [local instance] D.real
end Go.Am.Pu
end
section
/- Plain laws: boxes that lead on to an outer partition; chains. -/
namespace Go.Am.Pu
open Go Go.Am
attribute [local instance] D.real
theorem rn{p q:List Int}(h:cN p q=true)(i:Nat):p.getD i 0≤q.getD i 0:=by
 rw[oc]at h
 simp only[Nc]at h
 rcases Nh i p.length with hi|hi
 ·have:=dM.1 h.2.2 i hi
  simpa using this
 ·rw[bL hi];exact(lu h.2.1 i).1
theorem na{p q:List Int}(h:cN p q=true):bK p=true∧bK q=true:=by
 rw[oc]at h
 simp only[Nc]at h
 exact⟨h.1,h.2.1⟩
theorem ng{p q:List Int}(hp:bK p=true)(hq:bK q=true)(h: ∀i,p.getD i 0≤q.getD i 0):cN p q=true:=by
 rw[oc,hp,hq]
 simp only[Nf]
 exact dM.2 fun i _=>decide_eq_true (h i)
theorem sum_add{p o:List Int}{r:Nat}(hp:bK p=true)(h:jR p r=(o,true)):dD o=dD p+1:=by
 obtain⟨_,b2,_,_,b5⟩:=oJ h
 obtain⟨e,hc⟩:=GP hp h
 have:=yK b5 b2 hc
 rw[e]at this
 omega
theorem EZ{P:Nat→Prop} [DecidablePred P]: ∀(n:Nat),P n→ ∃m,P m∧ ∀i,i<m→ ¬P i:=by
 intro n
 induction n using Ll with
 |_ n ih=>
  intro h
  by_cases hm: ∃m,m<n∧P m
  ·obtain⟨m,h1,h2⟩:=hm;exact ih m h1 h2
  ·exact⟨n,h,fun i hi hP=>hm ⟨i,hi,hP⟩⟩
theorem Hr{p q:List Int}(h:cN p q=true)(hs:dD p<dD q): ∃(r:Nat) (o:List Int),r≤p.length∧jR p r=(o,true)∧cN o q=true:=by
 obtain⟨hp,hq⟩:=na h
 have hle:=rn h
 have hex: ∃i,p.getD i 0<q.getD i 0:=by
  refine O6 fun hn=> ?_
  have: ∀i,q.getD i 0≤p.getD i 0:=fun i=>Mc.1 fun hlt=>hn ⟨i,hlt⟩
  have:=(su this).1
  omega
 obtain⟨i,hi⟩:=hex
 obtain⟨r,hr,hmin⟩:=EZ (P:=fun i=>p.getD i 0<q.getD i 0) i hi
 have hrl:r≤p.length:=by
  refine Oa fun hlt=> ?_
  have h1:=hmin p.length hlt
  have h2:p.getD p.length 0=0:=bL (Ng _) 0
  have h3:=AX hq p.length (r-p.length)
  rw[show p.length+(r-p.length)=r by omega]at h3
  have h4:=(lu hp r).1
  omega
 have hsq:=(ba hq).2.1
 obtain⟨o,ho⟩:=E6 hp hrl (by
  rcases Nat.eq_zero_or_pos r with h0|h0
  ·exact .inl h0
  ·right
   have h1:=hmin (r-1) (by omega)
   have h2:=gp hq (r-1)
   rw[show r-1+1=r by omega]at h2
   omega) (by omega)
 refine⟨r,o,hrl,ho,?_⟩
 obtain⟨_,_,_,b4,b5⟩:=oJ ho
 refine ng b5 hq fun i=> ?_
 rw[b4]
 split
 ·next e=>subst e;omega
 ·exact hle i
def Ch(c:List (List Int)):Prop:=1≤c.length∧c.length≤10∧ ∀x∈c,oL 9 x
theorem gr{p:List Int}(h:bK p=true):oL 9 p:=⟨(ba h).2.2.1,(ba h).1⟩
def jL(c:List (List Int)):List Int:=c.getD (c.length-1) []
theorem FG(c:List (List Int))(o:List Int):jL (c++ [o])=o:=by
 unfold jL
 rw[Mb,Ox,Nat.add_sub_cancel,Mk,Mr (Ng _),O0]
 rfl
def fct:Nat→Nat
 |0=>1
 |n+1=>(n+1)*fct n
theorem FV{d:Nat}(h:d≤9):1≤fct d∧fct d≤362880:=by
 have: ∀d,d<10→1≤fct d∧fct d≤362880:=by decide
 exact this d (by omega)
theorem yQ(w:List Int)(r:Nat):dD (w.take (r+1))=dD (w.take r)+w.getD r 0:=by
 rcases Nh r w.length with h|h
 ·rw[take_succ h 0,Bm];simp[dD]
 ·rw[Oz (by omega),Oz (by omega),bL h];simp
end Go.Am.Pu
end
section
/- Plain laws: the local rule of insertion; exchanging places and numbers exchanges the two tableaux. -/
namespace Go.Am.Pu
def pP:List (List Int)→Nat→Int→List (List Int)
 | [],_,v=> [[v]]
 |r::rs,0,v=>(r++ [v])::rs
 |r::rs,a+1,v=>r::pP rs a v
theorem D9: ∀(rs:List (List Int)) (a:Nat) (v:Int),a≤rs.length→iG rs a v=pP rs a v
 | [],a,v,h=>by
  have:a=0:=by simpa using h
  subst this;rfl
 |r::rs,0,v,_=>by
  unfold iG
  rw[if_neg (by simp)];rfl
 |r::rs,a+1,v,h=>by
  have ih:=D9 rs a v (by simpa using h)
  unfold iG at ih⊢
  show _=r::pP rs a v
  rw[←ih]
  by_cases e:a=rs.length
  ·rw[if_pos (by simp[e]),if_pos e];rfl
  ·rw[if_neg (by simp[e]),if_neg e];rfl
theorem AY: ∀(rs:List (List Int)) (a:Nat) (v:Int),a≤rs.length→ ∀s,((pP rs a v).getD s []).length=(rs.getD s []).length+if s=a then 1 else 0
 | [],a,v,h,s=>by
  have:a=0:=by simpa using h
  subst this
  cases s<;>simp[pP]
 |r::rs,0,v,_,s=>by cases s<;>simp[pP]
 |r::rs,a+1,v,h,s=>by
  cases s with
  |zero=>simp[pP]
  |succ s=>simpa[pP]using AY rs a v (by simpa using h) s
theorem zT{rs:List (List Int)}{v:Int}(h: ∀z∈rs.flatten,z<v):aS rs v=(pP rs 0 v,0):=by
 cases rs with
 |nil=>rfl
 |cons r rs=>
  have hr: ∀z∈r,z<v:=fun z hz=>h z (by simp[hz])
  rw[dF,if_neg ?_]
  ·rfl
  ·rw[wP (fun q hq=>by rw[an hq];have:=hr _ (Ns hq);omega)]
   omega
theorem uP: ∀(R:List (List Int)) (r:Nat) (x v:Int),r≤R.length→(∀z∈R.flatten,z<v)→x<v→
  aS (pP R r v) x=if(aS R x).2=r then(pP (aS R x).1 (r+1) v,r+1)else(pP (aS R x).1 r v,(aS R x).2)
 | [],r,x,v,h,_,hx=>by
  have:r=0:=by simpa using h
  subst this
  have e1:aS [] x=([[x]],0):=rfl
  rw[e1,if_pos rfl]
  show aS [[v]] x=_
  have hf:fst [v] x=0:=fst_eq (by simp) (by simpa using hx) (fun j hj=>by omega)
  rw[dF,hf,if_pos (by simp)]
  rfl
 |row::rest,0,x,v,_,hR,hx=>by
  have hrow: ∀z∈row,z<v:=fun z hz=>hR z (by simp[hz])
  have hrest: ∀z∈rest.flatten,z<v:=fun z hz=>hR z (by simp[hz])
  show aS ((row++ [v])::rest) x=_
  rw[dF (row++ [v]),dF row]
  by_cases c:fst row x<row.length
  ·have hf:fst (row++ [v]) x=fst row x:=by
    refine fst_eq (by simp;omega) ?_ (fun q hq=> ?_)
    ·rw[jq c];exact u7 c
    ·rw[jq (by omega)];exact oz hq
   rw[hf,if_pos (by simp;omega),if_pos c,jq c,if_neg (by simp)]
   have:(row++ [v]).set (fst row x) x=row.set (fst row x) x++ [v]:=by rw[List.set_append_left _ _ c]
   rw[this];rfl
  ·have he:fst row x=row.length:=by have:= @uz row x;omega
   have hf:fst (row++ [v]) x=row.length:=by
    refine fst_eq (by simp) ?_ (fun q hq=> ?_)
    ·rw[mj (Ng _),O0];exact hx
    ·rw[jq hq];exact oz (by omega)
   rw[hf,if_pos (by simp),if_neg c,if_pos rfl,mj (Ng _),O0]
   have h1:(row++ [v]).set row.length x=row++ [x]:=by
    rw[Mt _ _ (Ng _),O0];rfl
   have h2:([v]:List Int).getD 0 0=v:=rfl
   rw[h1,h2,zT hrest]
   rfl
 |row::rest,r+1,x,v,h,hR,hx=>by
  have hrow: ∀z∈row,z<v:=fun z hz=>hR z (by simp[hz])
  have hrest: ∀z∈rest.flatten,z<v:=fun z hz=>hR z (by simp[hz])
  show aS (row::pP rest r v) x=_
  rw[dF row (pP rest r v),dF row rest]
  by_cases c:fst row x<row.length
  ·rw[if_pos c,if_pos c]
   have hy:row.getD (fst row x) 0<v:=by rw[an c];exact hrow _ (Ns c)
   rw[uP rest r _ v (by simpa using h) hrest hy]
   by_cases e:(aS rest (row.getD (fst row x) 0)).2=r
   ·rw[if_pos e,if_pos (by show(aS rest _).2+1=r+1;rw[e])];rfl
   ·rw[if_neg e,if_neg (by show¬(aS rest _).2+1=r+1;omega)];rfl
  ·rw[if_neg c,if_neg c,if_neg (by simp)];rfl
theorem wk{v:Int}: ∀(w:List Int) (R:List (List Int)),(∀z∈R.flatten,z<v)→(∀z∈w,z<v)→ ∀z∈(dO w R).flatten,z<v
 | [],R,h,_=>h
 |x::w,R,h,hw=>wk w _ (fun z hz=>by
  rcases pM R x z hz with e|e
  ·rw[e];exact hw x (Mw ..)
  ·exact h z e) fun z hz=>hw z (Mo _ hz)
theorem xW{v:Int}: ∀(w:List Int) (R:List (List Int)) (r:Nat),r≤R.length→(∀z∈R.flatten,z<v)→(∀z∈w,z<v)→ ∃r',r'≤(dO w R).length∧dO w (pP R r v)=pP (dO w R) r' v
 | [],R,r,h,_,_=>⟨r,h,rfl⟩
 |x::w,R,r,h,hR,hw=>by
  have hx:=hw x (Mw ..)
  obtain⟨a,b,_⟩:=ru R x
  have hl:=uP R r x v h hR hx
  have hR': ∀z∈(aS R x).1.flatten,z<v:=fun z hz=>by
   rcases pM R x z hz with e|e
   ·rw[e];exact hx
   ·exact hR z e
  show∃r',r'≤(dO w (aS R x).1).length∧dO w (aS (pP R r v) x).1=pP (dO w (aS R x).1) r' v
  rw[hl]
  split
  ·next e=>
   refine xW w _ (r+1) ?_ hR' fun z hz=>hw z (Mo _ hz)
   rw[b];split<;>omega
  ·next e=>
   refine xW w _ r ?_ hR' fun z hz=>hw z (Mo _ hz)
   rw[b];split<;>omega
theorem yd{v:Int}{u1 u2:List Int}(h1: ∀z∈u1,z<v)(h2: ∀z∈u2,z<v): ∃r,r≤(dO (u1++u2) []).length∧dO (u1++v::u2) []=pP (dO (u1++u2) []) r v:=by
 rw[ky,ky]
 have hR:=wk (v:=v) u1 [] (fun z hz=>by simp at hz) h1
 show∃r,r≤(dO u2 (dO u1 [])).length∧dO u2 (aS (dO u1 []) v).1=_
 rw[zT hR]
 exact xW u2 _ 0 (NF _) hR h2
end Go.Am.Pu
end
section
/- Plain laws: places and numbers exchanged: the tableau of the one is the recording of the other. -/
namespace Go.Am.Pu
def wd(L:List (Int×Int)):List Int:=L.map Mz
def shp(w:List Int)(s:Nat):Nat:=((dO w []).getD s []).length
def at1(s r:Nat):Nat:=if s=r then 1 else 0
theorem El{r a:Nat}(h: ∀s,at1 s r=at1 s a):r=a:=by
 have:=h r
 unfold at1 at this
 rw[if_pos rfl]at this
 split at this
 ·assumption
 ·omega
theorem zE(w:List Int)(x:Int):dO (w++ [x]) []=(aS (dO w []) x).1:=by rw[ky];rfl
theorem xZ(w:List Int)(x:Int)(s:Nat):shp (w++ [x]) s=shp w s+at1 s (aS (dO w []) x).2:=by
 unfold shp at1
 rw[zE,(ru _ _).2.2]
 split<;>rfl
theorem DH{w:List Int}{v:Int}(h: ∀z∈w,z<v)(s:Nat):shp (w++ [v]) s=shp w s+at1 s 0:=by
 rw[xZ,zT (wk w [] (fun z hz=>by simp at hz) h)]
theorem AQ{A B:List Int}{v x:Int}(hA: ∀z∈A,z<v)(hB: ∀z∈B,z<v)(hx:x<v):
  ∃r a,(∀s,shp (A++v::B) s=shp (A++B) s+at1 s r)∧(∀s,shp (A++B++ [x]) s=shp (A++B) s+at1 s a)∧
   ∀s,shp (A++v::B++ [x]) s=shp (A++B) s+at1 s r+if a=r then at1 s (r+1)else at1 s a:=by
 obtain⟨r,h1,h2⟩:=yd hA hB
 have hR: ∀z∈(dO (A++B) []).flatten,z<v:=wk _ [] (fun z hz=>by simp at hz) fun z hz=>by
  rcases Md.1 hz with h|h
  ·exact hA z h
  ·exact hB z h
 have e1: ∀s,shp (A++v::B) s=shp (A++B) s+at1 s r:=fun s=>by
  unfold shp
  rw[h2,AY _ _ _ h1];rfl
 refine⟨r,(aS (dO (A++B) []) x).2,e1,fun s=>xZ _ _ s,fun s=> ?_⟩
 rw[xZ,e1,h2,uP _ r x v h1 hR hx]
 split<;>rfl
structure Tr (L M : List (Int × Int)) : Prop where
  sl : L.Pairwise fun p q => p.1 < q.1
  sm : M.Pairwise fun p q => p.1 < q.1
  perm : M.Perm (L.map O7)
theorem Tr.symm{L M:List (Int×Int)}(h:Tr L M):Tr M L:=by
 refine⟨h.sm,h.sl,?_⟩
 have:=(h.perm.map O7).symm
 rwa [N6,Prod.swap_swap_eq,MT]at this
theorem Tr.len{L M:List (Int×Int)}(h:Tr L M):M.length=L.length:=by simpa using h.perm.length_eq
theorem Tr.mem{L M:List (Int×Int)}(h:Tr L M){p:Int×Int}(hp:p∈L):p.swap∈M:=h.perm.mem_iff.2 (List.mem_map_of_mem hp)
theorem HL{A B:List (Int×Int)}{x:Int×Int}:(A++B).Sublist (A++x::B):=(List.Sublist.refl A).append (List.sublist_cons_self x B)
theorem Tr.cut{L0 A B:List (Int×Int)}{p:Int×Int}(h:Tr (L0++ [p]) (A++p.swap::B)):Tr L0 (A++B):=by
 refine⟨(Oh.1 h.sl).1,h.sm.sublist HL,?_⟩
 have h1:(A++p.swap::B).Perm (p.swap::(A++B)):=LF
 have h2:((L0++ [p]).map O7).Perm (p.swap::L0.map O7):=by
  rw[NP]
  exact Mu
 exact(List.perm_cons _).1 (h1.symm.trans (h.perm.trans h2))
theorem xj{L0:List (Int×Int)}{p:Int×Int}(h:(L0++ [p]).Pairwise fun p q=>p.1<q.1): ∀x∈L0,x.1<p.1:=fun x hx=>(Oh.1 h).2.2 x hx p (by simp)
theorem Tr.top{L M0:List (Int×Int)}{q:Int×Int}(h:Tr L (M0++ [q])): ∀x∈L,x≠q.swap→x.2<q.1:=fun x hx hne=>by
 have hm:=h.mem hx
 rcases Md.1 hm with h1|h1
 ·exact xj h.sm _ h1
 ·simp only[Nt]at h1
  exact absurd (by rw[←h1,LX]) hne
theorem GR(A B:List (Int×Int)):wd (A++B)=wd A++wd B:=NP ..
theorem zH{L:List (Int×Int)}{v:Int}(h: ∀x∈L,x.2<v): ∀z∈wd L,z<v:=fun z hz=>by
 obtain⟨x,hx,rfl⟩:=M5.1 hz
 exact h x hx
theorem DP{L:List (Int×Int)}(h:L.Pairwise fun p q=>p.1<q.1): ∀{A B:List (Int×Int)} {q:Int×Int},L=A++q::B→ ∀x∈A++B,x≠q:=by
 intro A B q e x hx hxq
 subst e;subst hxq
 have h1:=Oh.1 h
 rcases Md.1 hx with hx|hx
 ·have:=h1.2.2 x hx x (by simp);omega
 ·have:=(Og.1 h1.2.1).1 x hx;omega
theorem zI: ∀(n:Nat) (L M:List (Int×Int)),L.length=n→Tr L M→ ∀s,shp (wd L) s=shp (wd M) s:=by
 intro n
 induction n using Ll with
 |_ n ih=>
 intro L M hn h s
 rcases Mv L with e|⟨L0,p,e⟩
 ·subst e
  have:M= []:=N3 (by rw[h.len];rfl)
  subst this;rfl
 rcases Mv M with e'|⟨M0,q,e'⟩
 ·subst e'
  have:=h.len
  rw[e]at this
  simp at this
 rw[List.concat_eq_append]at e e'
 subst e;subst e'
 rw[Mb,Ox]at hn
 have hp:=h.mem (show p∈L0++ [p] by simp)
 have hq:=h.symm.mem (show q∈M0++ [q] by simp)
 have t1:=h.top
 have t2:=h.symm.top
 by_cases hpq:p=q.swap
 ·
  have e:q=p.swap:=by rw[hpq,LX]
  subst e
  have h0:Tr L0 (M0++ []):=Tr.cut (A:=M0) (B:= []) (by simpa using h)
  rw[MR]at h0
  have hL: ∀z∈wd L0,z<p.2:=zH fun x hx=>by
   have:=t1 x (by simp[hx]) (fun e=>by
    rw[LX]at e
    have:=xj h.sl x hx
    rw[e]at this;omega)
   exact this
  have hM: ∀z∈wd M0,z<p.1:=zH fun x hx=>by
   have:=t2 x (by simp[hx]) (fun e=>by
    have:=xj h.sm x hx
    rw[e]at this;omega)
   exact this
  have w1:wd (L0++ [p])=wd L0++ [p.2]:=GR ..
  have w2:wd (M0++ [p.swap])=wd M0++ [p.1]:=GR ..
  rw[w1,w2,DH hL,DH hM,ih L0.length (by omega) L0 M0 rfl h0]
 ·have hq0:q.swap∈L0:=by
   rcases Md.1 hq with hx|hx
   ·exact hx
   ·simp only[Nt]at hx;exact absurd hx.symm hpq
  have hp0:p.swap∈M0:=by
   rcases Md.1 hp with hx|hx
   ·exact hx
   ·simp only[Nt]at hx;exact absurd (by rw[←hx,LX]) hpq
  obtain⟨A,B,rfl⟩:=L5 hq0
  obtain⟨C,E,rfl⟩:=L5 hp0
  have nA:=DP h.sl (A:=A) (B:=B++ [p]) (q:=q.swap) (by simp)
  have nC:=DP h.sm (A:=C) (B:=E++ [q]) (q:=p.swap) (by simp)
  have bA: ∀x∈A++(B++ [p]),x.2<q.1:=fun x hx=>t1 x (by simp only[Md,MH]at hx⊢;rcases hx with h|h|h<;>simp_all) (nA x hx)
  have bC: ∀x∈C++(E++ [q]),x.2<p.1:=fun x hx=>t2 x (by simp only[Md,MH]at hx⊢;rcases hx with h|h|h<;>simp_all) (nC x hx)
  obtain⟨r,a,r1,r2,r3⟩:=AQ (A:=wd A) (B:=wd B) (v:=q.1) (x:=p.2) (zH fun x hx=>bA x (by simp[hx])) (zH fun x hx=>bA x (by simp[hx])) (bA p (by simp))
  obtain⟨r',a',s1,s2,s3⟩:=AQ (A:=wd C) (B:=wd E) (v:=p.1) (x:=q.2) (zH fun x hx=>bC x (by simp[hx])) (zH fun x hx=>bC x (by simp[hx])) (bC q (by simp))
  have hlA:(A++q.swap::B).length=(A++B).length+1:=by simp only[Mb,Nr];omega
  have hlM:=h.len
  simp only[Mb,Nr,List.length_nil]at hn hlM hlA
  have T1:Tr (A++q.swap::B) (C++(E++ [q])):=Tr.cut (by simpa using h)
  have T2:Tr (C++p.swap::E) (A++(B++ [p])):=Tr.cut (by simpa using h.symm)
  have T3:Tr (C++E) (A++B):=Tr.cut (L0:=C++E) (p:=q) (by simpa using T1.symm)
  have i1: ∀s,shp (wd A++q.1::wd B) s=shp (wd C++wd E++ [q.2]) s:=fun s=>by
   have:=ih (A++q.swap::B).length (by simp only[Mb,Nr];omega) _ _ rfl T1 s
   simpa[wd]using this
  have i2: ∀s,shp (wd C++p.1::wd E) s=shp (wd A++wd B++ [p.2]) s:=fun s=>by
   have:=ih (C++p.swap::E).length (by simp only[Mb,Nr];omega) _ _ rfl T2 s
   simpa[wd]using this
  have i3: ∀s,shp (wd C++wd E) s=shp (wd A++wd B) s:=fun s=>by
   have:=ih (C++E).length (by simp only[Mb];omega) _ _ rfl T3 s
   simpa[wd]using this
  have e1:r=a':=El fun s=>by have:=i1 s;rw[r1,s2,i3]at this;omega
  have e2:r'=a:=El fun s=>by have:=i2 s;rw[s1,r2,i3]at this;omega
  have g1:=r3 s
  have g2:=s3 s
  have w1:wd (A++q.swap::B++ [p])=wd A++q.1::wd B++ [p.2]:=by simp[wd]
  have w2:wd (C++p.swap::E++ [q])=wd C++p.1::wd E++ [q.2]:=by simp[wd]
  rw[w1,w2,g1,g2,i3]
  subst e1;subst e2
  by_cases c:r'=r
  ·rw[if_pos c,if_pos c.symm,c]
  ·rw[if_neg c,if_neg fun e=>c e.symm];omega
def Dt:List (Int×Int)→List (List Int)→List (List Int)→List (List Int)
 | [],_,Q=>Q
 |p::L,P,Q=>Dt L (aS P p.2).1 (iG Q (aS P p.2).2 p.1)
end Go.Am.Pu
end
section
/- Plain laws: taking a cell out undoes an insertion. -/
namespace Go.Am.Pu
structure Tk (rs : List (List Int)) (a : Nat) (R : List (List Int)) (y : Int) : Prop where
  ins : aS R y = (rs, a)
  ssr : SSR R
  pos : ∃ p, p < (rs.getD 0 []).length ∧ y = (rs.getD 0 []).getD p 0 ∧ (R.getD 0 []).length ≤ (rs.getD 0 []).length ∧ (∀ i, i < (R.getD 0 []).length → (rs.getD 0 []).getD i 0 ≤ (R.getD 0 []).getD i 0) ∧
    ∀ i, p ≤ i → i < (R.getD 0 []).length → y < (R.getD 0 []).getD i 0
end Go.Am.Pu
end
section
/- Plain laws: a removed number inserted again; a pair is what its word makes; the inverse of a permutation. -/
namespace Go.Am.Pu
end Go.Am.Pu
end
section
/- Plain laws: the inverse of a permutation; words that are their own standardization. -/
namespace Go.Am.Pu
def plk:List Int→Nat→List (Int×Int)
 | [],_=> []
 |x::w,k=>(((k+1:Nat):Int),x)::plk w (k+1)
theorem zR: ∀(w:List Int) (k:Nat),wd (plk w k)=w
 | [],_=>rfl
 |x::w,k=>by
  show x::wd (plk w (k+1))=_
  rw[zR w]
theorem DQ: ∀(w:List Int) (k:Nat) (p:Int×Int),p∈plk w k↔ ∃i,i<w.length∧p=(((k+i+1:Nat):Int),w.getD i 0)
 | [],k,p=>by simp[plk]
 |x::w,k,p=>by
  simp only[plk,MH,DQ w]
  constructor
  ·rintro(h|⟨i,h1,h2⟩)
   ·exact⟨0,by simp,h⟩
   ·refine⟨i+1,by simpa using h1,?_⟩
    rw[h2,OH,show k+1+i+1=k+(i+1)+1 by omega]
  ·rintro⟨i,h1,h2⟩
   cases i with
   |zero=>exact .inl h2
   |succ i=>
    right
    refine⟨i,by simpa using h1,?_⟩
    rw[h2,OH,show k+1+i+1=k+(i+1)+1 by omega]
theorem zQ: ∀(w:List Int) (k:Nat),(plk w k).Pairwise fun p q=>p.1<q.1
 | [],_=>List.Pairwise.nil
 |x::w,k=>by
  refine List.Pairwise.cons (fun q hq=> ?_) (zQ w (k+1))
  obtain⟨i,_,rfl⟩:=(DQ _ _ _).1 hq
  show((k+1:Nat):Int)<((k+1+i+1:Nat):Int)
  omega
section
variable {w : List Int} (h : isWord w = true) (ho : kH w = true)
include h ho
end
def plc(w:List Int)(i:Nat):Nat:=((LV w.length).filter fun k=>decide (w.getD k 0<w.getD i 0)||(decide (w.getD k 0=w.getD i 0)&&decide (k<i))).length
def Iv(w:List Int):List Int:=if isWord w=true then(LV w.length).map fun i=>((plc w i+1:Nat):Int)else []
end Go.Am.Pu
end
section
/- Standardization step by step; what the law of the pairs wants, with no program in sight. -/
namespace Go.Am.Pu
set_option linter.unusedSimpArgs false
set_option linter.unusedVariables false
def pc(w:List Int)(i q:Nat):Nat:=((LV q).filter fun k=>decide (w.getD k 0<w.getD i 0)||(decide (w.getD k 0=w.getD i 0)&&decide (k<i))).length
theorem Jq(w:List Int)(i q:Nat):pc w i q≤q:=by
 have:=List.length_filter_le (fun k=>decide (w.getD k 0<w.getD i 0)||(decide (w.getD k 0=w.getD i 0)&&decide (k<i))) (LV q)
 rw[List.length_range]at this
 exact this
theorem J7{w:List Int}{i q:Nat}(h:w.getD q 0<w.getD i 0):pc w i (q+1)=pc w i q+1:=by
 simp only[pc,LO,L7,h,Mi,decide_true,Bool.true_or,Mm,if_true,Mb,Ox]
theorem KM{w:List Int}{i q:Nat}(h:w.getD q 0=w.getD i 0):pc w i (q+1)=pc w i q+(if decide ((q:Int)<(i:Int))=true then 1 else 0):=by
 have e:decide ((q:Int)<(i:Int))=decide (q<i):=by simp
 rw[e]
 simp only[pc,LO,L7,h,Mi,decide_true,Int.lt_irrefl,decide_false,Bool.false_or,Nf,Mm,Mb]
 cases decide (q<i)<;>rfl
theorem J4{w:List Int}{i q:Nat}(h: ¬w.getD q 0<w.getD i 0)(h': ¬w.getD q 0=w.getD i 0):pc w i (q+1)=pc w i q:=by
 simp only[pc,LO,L7,h,h',Mi,decide_false,Ms,Bool.or_false,Mm,MR,Bool.false_eq_true,if_false]
theorem Il(w:List Int)(i:Nat):pc w i w.length=plc w i:=rfl
end Go.Am.Pu
end
section
/- Plain laws: insertion of letters told anew; insertion and recording of pairs in order, with repeats. -/
namespace Go.Am.Pu
set_option linter.unusedVariables false
section
variable {f : Int → Int} (hf : ∀ a b, a ≤ b → f a ≤ f b)
def New(f:Int→Int)(x:Int)(rs:List (List Int)):Prop:= ∀z∈rs.flatten,f z=f x→z<x
def EK(f:Int→Int):List (List Int)→Prop
 | []=>True
 |r::rs=>r.Pairwise (· < ·)∧(∀a∈r,∀b∈rs.flatten,f a=f b→b<a)∧EK f rs
include hf
theorem Hl{r:List Int}{x:Int}(h: ∀z∈r,f z=f x→z<x):fst (r.map f) (f x)=fst r x:=by
 unfold fst
 rw[List.findIdx_map]
 induction r with
 |nil=>rfl
 |cons a r ih=>
  have e:decide (f x<f a)=decide (x<a):=by
   have h1:=h a (Mw ..)
   have h2:=hf x a
   have h3:=hf a x
   by_cases c:x<a
   ·rw[decide_eq_true c,decide_eq_true (by omega)]
   ·rw[decide_eq_false c,decide_eq_false (by have:=h3 (by omega);omega)]
  simp only[OU,Function.comp,e]
  rw[ih fun z hz=>h z (Mo _ hz)]
theorem D6: ∀(rs:List (List Int)) (x:Int),EK f rs→New f x rs→aS (rs.map (LY f)) (f x)=((aS rs x).1.map (LY f),(aS rs x).2)∧EK f (aS rs x).1
 | [],x,_,_=>⟨rfl,by simp[aS,EK]⟩
 |r::rs,x,⟨h1,h2,h3⟩,hn=>by
  have hn1: ∀z∈r,f z=f x→z<x:=fun z hz=>hn z (by rw[OA];exact OX _ hz)
  have hn2: ∀z∈rs.flatten,f z=f x→z<x:=fun z hz=>hn z (by rw[OA];exact OY _ hz)
  have hfs:=Hl hf hn1
  rw[MP,dF,dF,hfs,N2]
  by_cases c:fst r x<r.length
  ·rw[if_pos c,if_pos c]
   have hy:x<r.getD (fst r x) 0:=u7 c
   have hym:r.getD (fst r x) 0∈r:=by rw[an c];exact Ns c
   have hfy:f x<f (r.getD (fst r x) 0):=by
    have a1:=hf x (r.getD (fst r x) 0) (by omega)
    have a2:=hn1 _ hym
    omega
   have e:(r.map f).getD (fst r x) 0=f (r.getD (fst r x) 0):=by rw[an (by simpa using c),an c,MX]
   obtain⟨i1,i2⟩:=D6 rs (r.getD (fst r x) 0) h3 fun z hz he=>h2 _ hym z hz he.symm
   rw[e,i1]
   refine⟨by simp only[MP,List.map_set],?_,?_,i2⟩
   ·rw[OB]at h1⊢
    intro i j hi hj hij
    rw[Ml]at hi hj
    simp only[MY]
    have hu:=h1 i j hi hj hij
    by_cases ci:fst r x=i
    ·rw[if_pos ci,if_neg (by omega)]
     subst ci
     rw[an hi]at hy
     omega
    ·rw[if_neg ci]
     by_cases cj:fst r x=j
     ·rw[if_pos cj]
      have h4:=oz (r:=r) (x:=x) (i:=i) (by omega)
      have h5:=hn1 (r[i]) (Ns hi)
      rw[an hi]at h4
      exact MA.2 ⟨h4,fun e=>by have:=h5 (by rw[e]);omega⟩
     ·rw[if_neg cj];exact hu
   ·intro a ha b hb he
    obtain⟨i,hi,rfl⟩:=Nx ha
    rw[Ml]at hi
    rw[MY]at he⊢
    by_cases ci:fst r x=i
    ·rw[if_pos ci]at he⊢
     rcases pM rs _ b hb with hb|hb
     ·subst hb;omega
     ·exact hn2 b hb he.symm
    ·rw[if_neg ci]at he⊢
     rcases pM rs _ b hb with hb|hb
     ·subst hb
      rw[OB]at h1
      rcases Nh i (fst r x)with q|q
      ·have h4:=oz (r:=r) (x:=x) q
       rw[an hi]at h4
       have:=hf _ _ h4
       omega
      ·have:=h1 _ i c hi (by omega)
       rw[an c];exact this
     ·exact h2 _ (Ns hi) b hb he
  ·rw[if_neg c,if_neg c]
   refine⟨by simp only[MP,NP,List.map_nil],?_,fun a ha b hb he=> ?_,h3⟩
   ·refine Oh.2 ⟨h1,Lu _ _,fun a ha b hb=> ?_⟩
    rw[Nt.1 hb]
    obtain⟨i,hi,rfl⟩:=Nx ha
    have h4:=oz (r:=r) (x:=x) (i:=i) (by omega)
    rw[an hi]at h4
    have h5:=hn1 _ (Ns hi)
    exact MA.2 ⟨h4,fun e=>by have:=h5 (by rw[e]);omega⟩
   ·rcases Md.1 ha with ha|ha
    ·exact h2 a ha b hb he
    ·rw[Nt.1 ha]at he⊢
     exact hn2 b hb he.symm
theorem BW: ∀(w:List Int) (P:List (List Int)),EK f P→(∀x∈w,New f x P)→w.Pairwise (fun x y=>f x=f y→x<y)→dO (w.map f) (P.map (LY f))=(dO w P).map (LY f)∧EK f (dO w P)
 | [],P,h,_,_=>⟨rfl,h⟩
 |x::w,P,h,hn,hp=>by
  obtain⟨p1,p2⟩:=Og.1 hp
  obtain⟨a,b⟩:=D6 hf P x h (hn x (Mw ..))
  have:=BW w (aS P x).1 b (fun y hy z hz he=>by
   rcases pM P x z hz with e|e
   ·subst e;exact p1 y hy he
   ·exact hn y (Mo _ hy) z e he) p2
  show dO (w.map f) (aS (P.map (LY f)) (f x)).1=_∧_
  rw[a]
  exact this
omit hf in
end
def Lex(p q:Int×Int):Prop:=p.1<q.1∨(p.1=q.1∧p.2≤q.2)
def dec(v:Int):Int:=v/100
theorem Gx: ∀a b:Int,a≤b→dec a≤dec b:=fun a b h=>by unfold dec;omega
theorem Hd{a:Int}{i:Nat}(h:i<100):dec (100*a+i)=a:=by unfold dec;omega
theorem HO(K:List (Int×Int))(h:(K.map LW).Nodup): ∃S:List (Int×Int),S.Perm K∧S.Pairwise fun p q=>p.1<q.1:=by
 refine⟨K.mergeSort fun p q=>decide (p.1≤q.1),ME _ _,?_⟩
 have h1:=List.pairwise_mergeSort (le:=fun p q:Int×Int=>decide (p.1≤q.1)) (fun a b c h h'=>by simp only[decide_eq_true_eq]at*;omega) (fun a b=>by simp only[Ol,decide_eq_true_eq];omega) K
 have h2:(K.mergeSort fun p q=>decide (p.1≤q.1)).Pairwise fun p q=>p.1≠q.1:=by
  have:=(((ME K fun p q=>decide (p.1≤q.1)).map LW).nodup_iff).2 h
  exact OP.1 this
 exact(h1.and h2).imp fun⟨a,b⟩=>by simp only[decide_eq_true_eq]at a;omega
end Go.Am.Pu
end
section
/- Plain laws: the word of a recorded pair is the word; a recording with repeats, told by standard numbers. -/
namespace Go.Am.Pu
set_option linter.unusedVariables false
theorem BR: ∀(w:List Int) (P:List (List Int)),SSR P→SSR (dO w P)
 | [],P,h=>h
 |x::w,P,h=>BR w _ (zX P x h)
theorem FO(f:Int→Int)(S:List (List Int)):fq S (S.map (LY f)):=⟨by simp,fun i=>by
 by_cases h:i<S.length
 ·rw[an h,an (by simpa using h)];simp
 ·simp[List.getD,MG (show S.length≤i by omega)]⟩
theorem JL{t:Tab}(h:bj t=true){r r' x x':Nat}(hr:r<t.2.length)(hx:x<(t.2.getD r []).length)(hr':r'≤r)(hx':x'≤x):cel t.2 r' x'≤cel t.2 r x∧(r'<r→cel t.2 r' x'<cel t.2 r x):=by
 have hs:=lK h
 have hu:=(tp hs r hr).2
 have h1:cel t.2 r x'≤cel t.2 r x:=hu.mono hx' hx
 by_cases e:r'=r
 ·subst e;exact⟨h1,fun h=>by omega⟩
 ·obtain⟨d,rfl⟩: ∃d,r=r'+d+1:=⟨r-r'-1,by omega⟩
  have:=F5 h (x:=x') d r' hr (by omega)
  exact⟨by omega,fun _=>by omega⟩
theorem G9{t:Tab}(h:bj t=true)(hs:gh t=true){v:Int}(h1:1≤v)(h2:v≤t.2.flatten.length): ∃r x,r<t.2.length∧x<(t.2.getD r []).length∧cel t.2 r x=v:=by
 simp only[gh,Nc]at hs
 exact pN (mC.1 hs.2 v (j2.2 ⟨h1,h2⟩))
theorem zB{X Y:List (List Int)}(h:fq X Y)(he: ∀r x,r<X.length→x<(X.getD r []).length→cel X r x=cel Y r x):X=Y:=by
 refine Gz (d:= []) h.1 fun r hr=>Gz (d:=0) (h.2 r) fun x hx=>he r x hr hx
end Go.Am.Pu
end
section
/- Plain laws: pairs in order and their two tableaux. -/
namespace Go.Am.Pu
set_option linter.unusedVariables false
theorem GL: ∀{a b:List Int},a.length=b.length→wd (a.zip b)=b∧(a.zip b).map LW=a
 | [],[],_=>⟨rfl,rfl⟩
 | [],b::B,h=>by simp at h
 |a::A,[],h=>by simp at h
 |a::A,b::B,h=>by
  obtain⟨i1,i2⟩:=GL (a:=A) (b:=B) (by simpa using h)
  exact⟨congrArg (b:: ·) i1,congrArg (a:: ·) i2⟩
def POK(L:List (Int×Int)):Prop:=L.length≤9∧ ∀p∈L,(1≤p.1∧p.1≤9)∧1≤p.2∧p.2≤9
theorem POK.word{L:List (Int×Int)}(h:POK L):isWord (wd L)=true:=by
 unfold isWord within
 simp only[Nc,decide_eq_true_eq,Nw,wd,N2]
 refine⟨h.1,fun x hx=> ?_⟩
 obtain⟨p,hp,rfl⟩:=M5.1 hx
 exact(h.2 p hp).2
section
variable {L : List (Int × Int)} (h : POK L) (hl : L.Pairwise Lex)
include h
theorem I4:bj (([],oB (wd L) [] [] 0):Tab)=true∧gh (([],oB (wd L) [] [] 0):Tab)=true∧(oB (wd L) [] [] 0).flatten.length=L.length:=by
 have hw:=h.word
 have:=wM hw
 unfold nK at this
 rw[if_pos hw]at this
 simpa[wd]using this
theorem jJ{r x i:Nat}(hi:i<L.length)(hr:r<(oB (wd L) [] [] 0).length)(hx:x<((oB (wd L) [] [] 0).getD r []).length)(e:cel (oB (wd L) [] [] 0) r x=((i+1:Nat):Int)):(Ey (wd L) []).getD i 0=r:=by
 obtain⟨p1,p2,p3⟩:=I4 h
 have a:=(w9 h.word).2 i (by simpa[wd]using hi)
 have b:=l6 p1 p2 hr hx e
 omega
include hl
end
end Go.Am.Pu
end
section
/- Plain laws: matrices and their pairs. -/
namespace Go.Am.Pu
set_option linter.unusedVariables false
set_option linter.unusedSimpArgs false
def KD(c:Nat)(r:List Int):Bool:=decide (r.length=c)&&(decide (r.length≤9)&&r.all fun n=>within n 0 9)
def xr(m:List (List Int)):Bool:=decide (m.length≤9)&&(m.all (KD (m.getD 0 []).length)&&decide (dD m.flatten≤9))
structure Ix (r c : Nat) (m : List (List Int)) : Prop where
  len : m.length = r
  r9 : r ≤ 9
  row : ∀ x ∈ m, x.length = c
  c9 : ∀ x ∈ m, x.length ≤ 9
  num : ∀ x ∈ m, ∀ n ∈ x, 0 ≤ n ∧ n ≤ 9
  sum : dD m.flatten ≤ 9
theorem Ak{m:List (List Int)}:xr m=true↔Ix m.length (m.getD 0 []).length m:=by
 unfold xr KD within
 simp only[Nc,decide_eq_true_eq,Nw]
 constructor
 ·rintro⟨a,b,c⟩
  exact⟨rfl,a,fun x hx=>(b x hx).1,fun x hx=>(b x hx).2.1,fun x hx=>(b x hx).2.2,c⟩
 ·rintro⟨_,a,b,c,d,e⟩
  exact⟨a,fun x hx=>⟨b x hx,c x hx,d x hx⟩,e⟩
theorem Ix.is{r c:Nat}{m:List (List Int)}(h:Ix r c m):xr m=true:=by
 rw[Ak]
 cases m with
 |nil=>exact⟨rfl,NF _,fun x hx=>(by cases hx),fun x hx=>(by cases hx),fun x hx=>(by cases hx),h.sum⟩
 |cons a m=>
  have:=h.row a (Mw ..)
  exact⟨rfl,by rw[h.len];exact h.r9,fun x hx=>by rw[OK,this];exact h.row x hx,h.c9,h.num,h.sum⟩
end Go.Am.Pu
end
section
/- Plain laws: a matrix is told by its two tableaux, and turning it exchanges them. -/
namespace Go.Am.Pu
set_option linter.unusedVariables false
end Go.Am.Pu
end
section
/- Plain laws: what the functions on matrices make step by step. -/
namespace Go.Am.Pu
set_option linter.unusedVariables false
theorem Cz{Q Q':List (List Int)}(h:fq Q Q'){a:Nat}(ha:a≤Q.length)(z z':Int):fq (iG Q a z) (iG Q' a z'):=by
 refine⟨by rw[np,np,h.1],fun i=> ?_⟩
 rw[oS z ha,oS z' (by rw[←h.1];exact ha)]
 have h1:=h.2 i
 have h2:=h.2 a
 split
 ·rw[Mb,Mb,h2];rfl
 ·exact h1
theorem Bw: ∀(L:List (Int×Int)) (P Q:List (List Int)) (k:Nat),(∀i,i<L.length→(L.getD i (0,0)).1=((k+i+1:Nat):Int))→Dt L P Q=oB (wd L) P Q k
 | [],_,_,_,_=>rfl
 |p::L,P,Q,k,h=>by
  have h0:=h 0 (Nat.zero_lt_succ _)
  rw[NG]at h0
  simp only[OK]at h0
  show Dt L (aS P p.2).1 (iG Q (aS P p.2).2 p.1)=_
  rw[h0]
  exact Bw L _ _ (k+1) fun i hi=>by
   have:=h (i+1) (by simpa using hi)
   rw[show k+1+i+1=k+(i+1)+1 by omega,←this,OH]
theorem EO{W:List Int}:Dt ((ou W.length).zip W) [] []=oB W [] [] 0:=by
 have hl:(ou W.length).length=W.length:=o6 _
 rw[Bw _ _ _ 0 fun i hi=>by
  rw[an hi,MW]
  simp only[ou,MX,List.getElem_range]
  omega]
 rw[(GL hl).1]
theorem within_iff{n a b:Int}:within n a b=true↔a≤n∧n≤b:=by simp[within]
end Go.Am.Pu
end
section
/- Plain laws: insertion by columns keeps the word's class. -/
namespace Go.Am.Pu
set_option linter.unusedVariables false
def eW(c:List Int)(x:Int):Nat:=c.findIdx fun n=>decide (x≤n)
def tZ:List (List Int)→Int→List (List Int)
 | [],x=> [[x]]
 |c::cs,x=>if eW c x<c.length then c.set (eW c x) x::tZ cs (c.getD (eW c x) 0)else(c++ [x])::cs
def vT(C:List (List Int)):List Int:=(C.map List.reverse).flatten
def xQ:List Int→Int→List Int×List Int
 | [],x=>([x],[])
 |a::c,x=>if x≤a then(x::c,[a])else(a::(xQ c x).1,(xQ c x).2)
theorem tH: ∀(c:List Int) (x:Int),xQ c x=if eW c x<c.length then(c.set (eW c x) x,[c.getD (eW c x) 0])else(c++ [x],[])
 | [],x=>rfl
 |a::c,x=>by
  unfold xQ
  have e:eW (a::c) x=if x≤a then 0 else eW c x+1:=by
   unfold eW
   rw[OU]
   by_cases h:x≤a
   ·rw[if_pos h,decide_eq_true h];rfl
   ·rw[if_neg h,decide_eq_false h];rfl
  rw[e]
  by_cases h:x≤a
  ·rw[if_pos h,if_pos h,if_pos (by simp)];rfl
  ·rw[if_neg h,if_neg h,tH c x]
   by_cases g:eW c x<c.length
   ·rw[if_pos g,if_pos (by simpa using g)];simp
   ·rw[if_neg g,if_neg (by simpa using g)];rfl
theorem Fi(c:List Int)(cs:List (List Int))(x:Int):tZ (c::cs) x=(xQ c x).1::(match (xQ c x).2 with
  | []=>cs
  |y::_=>tZ cs y):=by
 show(if eW c x<c.length then _ else _)=_
 rw[tH]
 by_cases g:eW c x<c.length
 ·rw[if_pos g,if_pos g]
 ·rw[if_neg g,if_neg g]
theorem DZ: ∀{u:List Int} {x y:Int},(u++ [y]).Pairwise (· > ·)→x≤y→Kn (x::(u++ [y])) (u++ [x,y])
 | [],x,y,_,_=>Kn.refl _
 | [a],x,y,h,hx=>by
  have:y<a:=by
   have:=Og.1 (show(a:: [y]).Pairwise (· > ·)from h)
   exact this.1 y (by simp)
  exact Kn.of (Tri.b hx this)
 |a::b::u,x,y,h,hx=>by
  obtain⟨h1,h2⟩:=Og.1 (show(a::(b::u++ [y])).Pairwise (· > ·)from h)
  have hb:b<a:=h1 b (by simp)
  have hyb:x≤b:=by
   have:=(Og.1 (show(b::(u++ [y])).Pairwise (· > ·)from h2)).1 y (by simp)
   omega
  have e:Kn (x::a::b::(u++ [y])) (a::x::b::(u++ [y])):=(Kn.of (Tri.b hyb hb)).right (u++ [y])
  exact e.trans ((DZ (u:=b::u) h2 hx).cons a)
theorem GF: ∀{v:List Int} {x y:Int},(x::v).Pairwise (· > ·)→x≤y→Kn (x::y::v) (x::v++ [y])
 | [],x,y,_,_=>Kn.refl _
 |a::v,x,y,h,hx=>by
  obtain⟨h1,h2⟩:=Og.1 h
  have ha:a<x:=h1 a (by simp)
  have e:Kn (x::y::a::v) (x::a::y::v):=(Kn.of (Tri.a ha hx)).right v
  exact e.trans ((GF (v:=v) (x:=a) (y:=y) h2 (by omega)).cons x)
theorem Ht: ∀{c:List Int} (x:Int),c.Pairwise (· < ·)→Kn (x::c.reverse) ((xQ c x).1.reverse++(xQ c x).2)
 |c,x,h=>by
  rw[tH]
  by_cases g:eW c x<c.length
  ·rw[if_pos g]
   have hsp:c=c.take (eW c x)++c.getD (eW c x) 0::c.drop (eW c x+1):=by
    rw[←drop_cons g 0,NQ]
   have hset:c.set (eW c x) x=c.take (eW c x)++x::c.drop (eW c x+1):=by
    rw[OL,if_pos g]
   have hy:x≤c.getD (eW c x) 0:=by
    have:=OV (w:=g) (p:=fun n=>decide (x≤n))
    simp only[decide_eq_true_eq]at this
    rw[an g];exact this
   have hlo: ∀z∈c.take (eW c x),z<x:=fun z hz=>by
    obtain⟨i,hi,rfl⟩:=Nx hz
    rw[NJ]at hi
    rw[Ma]
    have hlt:i<c.findIdx fun n=>decide (x≤n):=by unfold eW at hi;omega
    have hno:=OS hlt
    have hno: ¬x≤c[i]:=of_decide_eq_false hno
    omega
   generalize c.getD (eW c x) 0=y at*
   generalize c.take (eW c x)=A at*
   generalize c.drop (eW c x+1)=B at*
   rw[hset]
   simp only[OQ,OJ,NM,OG,Mp,N1]
   rw[hsp]at h
   simp only[hsp,OQ,OJ,NM,OG]
   have hr:(B.reverse++ [y]++A.reverse).Pairwise (· > ·):=by
    have:=ON.2 (show(A++y::B).Pairwise (fun a b=>b>a)from h)
    simpa using this
   have h1:(B.reverse++ [y]).Pairwise (· > ·):=(Oh.1 hr).1
   have h2:(x::A.reverse).Pairwise (· > ·):=Og.2 ⟨fun z hz=>hlo z (OM.1 hz),(Oh.1 hr).2.1⟩
   have k1:=(DZ h1 hy).right A.reverse
   have k2:=(GF h2 hy).left B.reverse
   simp only[NM,Mp,OG,N1]at k1 k2
   exact k1.trans k2
  ·rw[if_neg g]
   simp only[OQ,List.reverse_singleton,OG,MR]
   exact Kn.refl _
theorem Eb: ∀{C:List (List Int)} (x:Int),(∀c∈C,c.Pairwise (· < ·))→Kn (x::vT C) (vT (tZ C x))
 | [],x,_=>Kn.refl _
 |c::cs,x,h=>by
  have hc:=h c (Mw ..)
  have hcs: ∀d∈cs,d.Pairwise (· < ·):=fun d hd=>h d (Mo _ hd)
  have k:=(Ht x hc).right (vT cs)
  rw[Fi]
  show Kn (x::(c.reverse++vT cs)) ((xQ c x).1.reverse++vT _)
  refine k.trans ?_
  rw[NM]
  refine Kn.left _ ?_
  have h2:(xQ c x).2= []∨ ∃y,(xQ c x).2= [y]:=by
   rw[tH]
   by_cases g:eW c x<c.length
   ·rw[if_pos g];exact .inr ⟨_,rfl⟩
   ·rw[if_neg g];exact .inl rfl
  rcases h2 with e|⟨y,e⟩
  ·rw[e];exact Kn.refl _
  ·rw[e];exact Eb y hcs
theorem Gc: ∀{cs r:List Int} {a:Int},Up (a::r)→(a::cs).Pairwise (· > ·)→Kn (a::(r++cs)) (a::(cs++r))
 | [],r,a,_,_=>by rw[MR,N1];exact Kn.refl _
 |x::cs,r,a,h,hc=>by
  obtain⟨h1,h2⟩:=Og.1 hc
  have hx:x<a:=h1 x (by simp)
  have k1:=(wC h hx).right cs
  simp only[Mp,NM,N1,OG]at k1
  have hu:Up (x::r):=Og.2 ⟨fun z hz=>by have:=uc h z hz;omega,nZ h⟩
  exact k1.trans ((Gc hu h2).cons a)
theorem Ed: ∀{R:List (List Int)},(∀r∈R,Up r)→(∀r∈R,r≠ [])→(R.map fun r=>r.headD 0).Pairwise (· > ·)→Kn R.flatten ((R.map fun r=>r.headD 0)++(R.map MM).flatten)
 | [],_,_,_=>Kn.refl _
 | []::R,_,h,_=>absurd rfl (h [] (Mw ..))
 |(a::r)::R,hu,hn,hd=>by
  have hd':(a::R.map fun r=>r.headD 0).Pairwise (· > ·):=hd
  have ih:=Ed (fun r hr=>hu r (Mo _ hr)) (fun r hr=>hn r (Mo _ hr)) (Og.1 hd').2
  have k1:=(ih.left (a::r))
  have k2:=(Gc (hu (a::r) (Mw ..)) hd').right (R.map MM).flatten
  simp only[OA,MP,List.headD_cons,List.tail_cons,Mp,NM]at k1 k2⊢
  exact k1.trans k2
end Go.Am.Pu
end
section
/- Plain laws: columns and rows of a tableau; insertion by columns keeps it a tableau. -/
namespace Go.Am.Pu
set_option linter.unusedVariables false
def Eo(c:List Int):List (List Int)→Prop
 | []=>True
 |d::_=>d.length≤c.length∧ ∀q,q<d.length→c.getD q 0≤d.getD q 0
def CC:List (List Int)→Prop
 | []=>True
 |c::cs=>0<c.length∧c.Pairwise (· < ·)∧Eo c cs∧CC cs
theorem BL{c:List Int}(h:c.Pairwise (· < ·)){i j:Nat}(hij:i<j)(hj:j<c.length):c.getD i 0<c.getD j 0:=by
 rw[OB]at h
 rw[an (by omega),an hj]
 exact h i j (by omega) hj hij
theorem Jo{c:List Int}(h:c.Pairwise (· < ·)){i j:Nat}(hij:i≤j)(hj:j<c.length):c.getD i 0≤c.getD j 0:=by
 rcases Nh i j with q|q
 ·have:=BL h q hj;omega
 ·rw[show i=j by omega];exact O5 _
theorem Bd{c:List Int}(h: ∀i j,i<j→j<c.length→c.getD i 0<c.getD j 0):c.Pairwise (· < ·):=by
 rw[OB]
 intro i j hi hj hij
 have:=h i j hij hj
 rwa [an hi,an hj]at this
theorem Ef{c:List Int}{x:Int}(h:eW c x<c.length):x≤c.getD (eW c x) 0:=by
 have:=OV (w:=h) (p:=fun n=>decide (x≤n))
 rw[an h];exact of_decide_eq_true this
theorem An{c:List Int}{x:Int}{i:Nat}(h:i<eW c x):c.getD i 0<x:=by
 have hl:i<c.length:=Nj h OT
 have:=OS (p:=fun n=>decide (x≤n)) (xs:=c) h
 have:=of_decide_eq_false this
 rw[an hl];omega
theorem AK{c:List Int}{x:Int}:eW c x≤c.length:=OT
theorem Hg{c:List Int}{x:Int}(h:c.Pairwise (· < ·))(hk:eW c x<c.length):(c.set (eW c x) x).Pairwise (· < ·):=Bd fun i j hij hj=>by
 rw[Ml]at hj
 rw[gP x hk,gP x hk]
 have ha:=Ef hk
 by_cases ci:i=eW c x
 ·rw[if_pos ci,if_neg (by omega)]
  have:=BL h (i:=eW c x) (j:=j) (by omega) hj
  omega
 ·rw[if_neg ci]
  by_cases cj:j=eW c x
  ·rw[if_pos cj];exact An (by omega)
  ·rw[if_neg cj];exact BL h hij hj
theorem HN{c:List Int}{x:Int}(h:c.Pairwise (· < ·))(hk: ¬eW c x<c.length):(c++ [x]).Pairwise (· < ·):=Bd fun i j hij hj=>by
 rw[Mb,Ox]at hj
 rw[fZ,fZ]
 by_cases cj:j=c.length
 ·rw[if_neg (by omega),if_pos cj];exact An (by have:= @AK c x;omega)
 ·rw[if_neg (by omega),if_neg cj];exact BL h hij (by omega)
theorem E5{c:List Int}{x:Int}{cs:List (List Int)}(h:c.Pairwise (· < ·))(hk:eW c x<c.length)(ho:Eo c cs)(hc:CC cs):Eo (c.set (eW c x) x) (tZ cs (c.getD (eW c x) 0)):=by
 have hy:=Ef hk
 have hle: ∀q,q<c.length→(c.set (eW c x) x).getD q 0≤c.getD q 0:=fun q hq=>by
  rw[gP x hk]
  split
  ·next e=>rw[e];exact hy
  ·exact O5 _
 have hset: ∀q,q≤eW c x→(c.set (eW c x) x).getD q 0≤c.getD (eW c x) 0:=fun q hq=>by
  have:=hle q (by omega)
  have:=Jo h hq hk
  omega
 cases cs with
 |nil=>
  refine⟨by show 1≤_;rw[Ml];omega,fun q hq=> ?_⟩
  have hq:q<1:=hq
  rw[show q=0 by omega]
  exact hset 0 (NF _)
 |cons d ds=>
  obtain⟨o1,o2⟩:=ho
  have hk':eW d (c.getD (eW c x) 0)≤eW c x:=Oa fun hlt=>by
   have hd:eW c x<d.length:=by have:= @AK d (c.getD (eW c x) 0);omega
   have a:=An hlt
   have b:=o2 _ hd
   omega
  show Eo _ (if eW d (c.getD (eW c x) 0)<d.length then _ else _)
  by_cases g:eW d (c.getD (eW c x) 0)<d.length
  ·rw[if_pos g]
   refine⟨by rw[Ml,Ml];exact o1,fun q hq=> ?_⟩
   rw[Ml]at hq
   rw[gP _ g]
   split
   ·next e=>exact hset q (by omega)
   ·have:=hle q (by omega)
    have:=o2 q hq
    omega
  ·rw[if_neg g]
   have e:eW d (c.getD (eW c x) 0)=d.length:=by have:= @AK d (c.getD (eW c x) 0);omega
   refine⟨by rw[Ml,Mb,Ox];omega,fun q hq=> ?_⟩
   rw[Mb,Ox]at hq
   rw[fZ]
   split
   ·next e2=>exact hset q (by omega)
   ·have:=hle q (by omega)
    have:=o2 q (by omega)
    omega
theorem Cx: ∀(C:List (List Int)) (x:Int),CC C→CC (tZ C x)
 | [],x,_=>⟨by simp,by simp,trivial,trivial⟩
 |c::cs,x,⟨h1,h2,h3,h4⟩=>by
  show CC (if eW c x<c.length then _ else _)
  by_cases g:eW c x<c.length
  ·rw[if_pos g]
   exact⟨by rw[Ml];exact h1,Hg h2 g,E5 h2 g h3 h4,Cx cs _ h4⟩
  ·rw[if_neg g]
   refine⟨by rw[Mb,Ox];omega,HN h2 g,?_,h4⟩
   cases cs with
   |nil=>trivial
   |cons d ds=>
    obtain⟨o1,o2⟩:=h3
    exact⟨by rw[Mb,Ox];omega,fun q hq=>by rw[fZ,if_neg (by omega)];exact o2 q hq⟩
theorem u3: ∀{C:List (List Int)},CC C→(∀c∈C,0<c.length∧c.Pairwise (· < ·))∧ ∀i,i+1<C.length→(C.getD (i+1) []).length≤(C.getD i []).length∧ ∀q,q<(C.getD (i+1) []).length→(C.getD i []).getD q 0≤(C.getD (i+1) []).getD q 0
 | [],_=>⟨fun c hc=>(by cases hc),fun i hi=>(by simp at hi)⟩
 |c::cs,⟨h1,h2,h3,h4⟩=>by
  obtain⟨a,b⟩:=u3 h4
  refine⟨fun d hd=> ?_,fun i hi=> ?_⟩
  ·rcases MH.1 hd with rfl|hd
   ·exact⟨h1,h2⟩
   ·exact a d hd
  ·cases i with
   |zero=>
    cases cs with
    |nil=>simp at hi
    |cons d ds=>exact h3
   |succ i=>exact b i (by simpa using hi)
def lk:List Int→List (List Int)→List (List Int)
 | [],C=>C
 |n::r,[]=> [n]::lk r []
 |n::r,c::C=>(n::c)::lk r C
def dE:List (List Int)→List (List Int)
 | []=> []
 |r::rs=>lk r (dE rs)
def Reg(t:List (List Int)):Prop:=(∀r∈t,0<r.length)∧ ∀i,i+1<t.length→(t.getD (i+1) []).length≤(t.getD i []).length
theorem Reg.tail{r:List Int}{rs:List (List Int)}(h:Reg (r::rs)):Reg rs∧(rs.getD 0 []).length≤r.length:=by
 refine⟨⟨fun s hs=>h.1 s (Mo _ hs),fun i hi=>h.2 (i+1) (by simpa using hi)⟩,?_⟩
 cases rs with
 |nil=>exact NF _
 |cons s rs=>exact h.2 0 (by simp)
theorem uI: ∀(r:List Int) (C:List (List Int)),C.length≤r.length→(lk r C).length=r.length
 | [],C,h=>by simp at h;subst h;rfl
 |n::r,[],_=>by simp[lk,uI r [] (NF _)]
 |n::r,c::C,h=>by simp[lk,uI r C (by simpa using h)]
theorem uy: ∀(r:List Int) (C:List (List Int)) (q:Nat),C.length≤r.length→(lk r C).getD q []=if q<r.length then r.getD q 0::C.getD q []else []
 | [],C,q,h=>by simp at h;subst h;simp[lk]
 |n::r,[],0,_=>by simp[lk]
 |n::r,[],q+1,_=>by
  have:=uy r [] q (NF _)
  simp only[lk,OH,this,Nr]
  by_cases h:q<r.length
  ·rw[if_pos h,if_pos (by omega)];simp
  ·rw[if_neg h,if_neg (by omega)]
 |n::r,c::C,0,_=>by simp[lk]
 |n::r,c::C,q+1,h=>by
  have:=uy r C q (by simpa using h)
  simp only[lk,OH,this,Nr]
  by_cases g:q<r.length
  ·rw[if_pos g,if_pos (by omega)]
  ·rw[if_neg g,if_neg (by omega)]
theorem nr: ∀{t:List (List Int)},Reg t→(dE t).length=(t.getD 0 []).length
 | [],_=>rfl
 |r::rs,h=>by
  have:=nr h.tail.1
  exact uI r _ (by rw[this];exact h.tail.2)
theorem ic: ∀{t:List (List Int)},Reg t→ ∀q i,(i<((dE t).getD q []).length↔q<(t.getD i []).length)∧((dE t).getD q []).getD i 0=(t.getD i []).getD q 0
 | [],_,q,i=>by simp[dE]
 |r::rs,h,q,i=>by
  have hl:=nr h.tail.1
  have ht:=h.tail.2
  have e:=uy r (dE rs) q (by rw[hl];exact ht)
  show(i<((lk r (dE rs)).getD q []).length↔_)∧((lk r (dE rs)).getD q []).getD i 0=_
  rw[e]
  by_cases g:q<r.length
  ·rw[if_pos g]
   cases i with
   |zero=>simp[g]
   |succ i=>
    have:=ic h.tail.1 q i
    simp only[Nr,OH]
    exact⟨by rw[←this.1];omega,this.2⟩
  ·rw[if_neg g]
   have hle: ∀i,((r::rs).getD i []).length≤r.length:=by
    intro i
    induction i with
    |zero=>simp
    |succ i ih=>
     by_cases hi:i+1<(r::rs).length
     ·exact Ob (h.2 i hi) ih
     ·rw[Mk,MG (by omega)];exact NF _
   have:=hle i
   refine⟨⟨fun h=>by simp at h,fun h=>by omega⟩,?_⟩
   rw[Mk (l:=(r::rs).getD i []),MG (by omega)]
   simp
theorem Gv{t:List (List Int)}(h:Reg t):Reg (dE t):=by
 have hl:=nr h
 refine⟨fun c hc=> ?_,fun q hq=> ?_⟩
 ·obtain⟨q,hq,rfl⟩:=Nx hc
  rw[←an hq []]
  exact(ic h q 0).1.2 (by omega)
 ·refine Oa fun hlt=> ?_
  have a:=(ic h (q+1) ((dE t).getD q []).length).1.1 hlt
  have b:=(ic h q ((dE t).getD q []).length).1.2 (by omega)
  omega
theorem wm{t:List (List Int)}(h:SSR t):Reg t:=⟨fun r hr=>by
 obtain⟨i,hi,rfl⟩:=Nx hr
 rw[←an hi []];exact(tp h i hi).1,fun i hi=>(wg h i hi).1⟩
theorem Ah{C:List (List Int)}(h:CC C):Reg C:=⟨fun c hc=>((u3 h).1 c hc).1,fun i hi=>((u3 h).2 i hi).1⟩
theorem Ci{C:List (List Int)}(h:CC C):SSR (dE C):=by
 have hr:=Ah h
 have hreg:=Gv hr
 obtain⟨a,b⟩:=u3 h
 refine rk (fun i hi=>⟨hreg.1 _ (by rw[an hi];exact Ns hi),fun q hq=> ?_⟩) fun i hi=>⟨hreg.2 i hi,fun q hq=> ?_⟩
 ·rw[(ic hr i q).2,(ic hr i (q+1)).2]
  have h1:=(ic hr i (q+1)).1.1 hq
  have hq1:q+1<C.length:=On fun hle=>by
   rw[Mk,MG hle]at h1
   simp at h1
  exact(b q hq1).2 i h1
 ·rw[(ic hr i q).2,(ic hr (i+1) q).2]
  have h1:=(ic hr (i+1) q).1.1 hq
  have hq1:q<C.length:=On fun hle=>by
   rw[Mk,MG hle]at h1
   simp at h1
  exact BL (a _ (by rw[an hq1];exact Ns hq1)).2 (by omega) h1
theorem Aa: ∀{C:List (List Int)},CC C→Kn (dE C).reverse.flatten (vT C)
 | [],_=>Kn.refl _
 |c::cs,h=>by
  have hs:=Ci h
  have hr:=Ah h
  have hl:=nr hr.tail.1
  have hle:(dE cs).length≤c.length:=by rw[hl];exact hr.tail.2
  have heads: ∀(r:List Int) (C:List (List Int)),C.length≤r.length→(lk r C).map (fun r=>r.headD 0)=r∧((lk r C).map MM).reverse.flatten=C.reverse.flatten:=by
   intro r
   induction r with
   |nil=>intro C h;simp at h;subst h;exact⟨rfl,rfl⟩
   |cons n r ih=>
    intro C h
    cases C with
    |nil=>
     obtain⟨a,b⟩:=ih [] (NF _)
     simp only[lk,MP,a,OJ,OD,b]
     exact⟨rfl,rfl⟩
    |cons c C=>
     obtain⟨a,b⟩:=ih C (by simpa using h)
     simp only[lk,MP,a,OJ,OD,b]
     exact⟨rfl,rfl⟩
  obtain⟨e1,e2⟩:=heads c (dE cs) hle
  have k:=Ed (R:=(lk c (dE cs)).reverse) (fun r hm=>DF hs r (OM.1 hm)) (fun r hm e=>by
   have:=(wm hs).1 r (OM.1 hm)
   rw[e]at this;simp at this) (by
   rw[OR,e1]
   exact ON.2 h.2.1)
  rw[OR,e1,OR,e2]at k
  show Kn (lk c (dE cs)).reverse.flatten (c.reverse++vT cs)
  exact k.trans ((Aa h.2.2.2).left _)
def BN:List Int→List (List Int)
 | []=> []
 |x::w=>tZ (BN w) x
theorem sK: ∀w:List Int,CC (BN w)
 | []=>trivial
 |x::w=>Cx _ x (sK w)
theorem zZ: ∀w:List Int,Kn w (vT (BN w))
 | []=>Kn.refl _
 |x::w=>((zZ w).cons x).trans (Eb x fun c hm=>((u3 (sK w)).1 c hm).2)
theorem Cm(w:List Int):dE (BN w)=dO w []:=by
 have hs:=Ci (sK w)
 have k:=(zZ w).trans (Aa (sK w)).symm
 rw[k.ins (P:= []) (fun r hr=>by cases hr),md _ hs]
end Go.Am.Pu
end
section
/- Plain laws: one step of insertion by columns, seen in the rows. -/
namespace Go.Am.Pu
set_option linter.unusedVariables false
theorem oT{α:Type}{l:List α}{i:Nat}(h:l.length≤i)(d:α):l.getD i d=d:=by
 rw[Mk,MG h];rfl
theorem gss{l:List (List Int)}{i:Nat}(h:i<l.length)(v:List Int):(l.set i v).getD i []=v:=by
 rw[an (by rw[Ml];exact h),NN]
def nN(D:List (List Int))(c:Nat)(x:Int):List (List Int):=if c=D.length then D++ [[x]]else D.set c (D.getD c []++ [x])
theorem BU{D:List (List Int)}{c:Nat}(x:Int)(hc:c≤D.length)(i:Nat):(nN D c x).getD i []=if i=c then D.getD c []++ [x]else D.getD i []:=oS (Q:=D) (a:=c) x hc i
theorem Gq{D:List (List Int)}(h:Reg D){c:Nat}(hc:c≤D.length)(x:Int)(h':Reg (nN D c x)):dE (nN D c x)=nN (dE D) (D.getD c []).length x∧(D.getD c []).length≤(dE D).length∧((dE D).getD (D.getD c []).length []).length=c:=by
 have hg:=BU x hc
 have hlen: ∀i,((nN D c x).getD i []).length=if i=c then(D.getD c []).length+1 else(D.getD i []).length:=fun i=>by
  rw[hg];split
  ·rw[Mb,Ox]
  ·rfl
 have ant: ∀d,(D.getD d []).length≤(D.getD 0 []).length:=by
  intro d
  induction d with
  |zero=>exact Ng _
  |succ d ih=>
   by_cases hd:d+1<D.length
   ·exact Ob (h.2 d hd) ih
   ·rw[oT (by omega)];exact NF _
 have hrl:(D.getD c []).length≤(dE D).length:=by rw[nr h];exact ant c
 have hrc:((dE D).getD (D.getD c []).length []).length=c:=by
  refine OZ (Oa fun hlt=> ?_) (Oa fun hlt=> ?_)
  ·have:=(ic h _ c).1.1 hlt
   omega
  ·
   have a:=(ic h (D.getD c []).length ((dE D).getD (D.getD c []).length []).length).1
   have hc':((dE D).getD (D.getD c []).length []).length<D.length:=by omega
   generalize hm:((dE D).getD (D.getD c []).length []).length=m at*
   have b: ¬(D.getD c []).length<(D.getD m []).length:=fun hh=>by have:=a.2 hh;omega
   have mono: ∀e,m+e≤c→((nN D c x).getD (m+e) []).length≤((nN D c x).getD m []).length:=by
    intro e
    induction e with
    |zero=>intro _;exact Ng _
    |succ e ih=>
     intro he
     have hl2:(nN D c x).length=if c=D.length then D.length+1 else D.length:=np x
     exact Ob (h'.2 (m+e) (by rw[hl2];split<;>omega)) (ih (by omega))
   have:=mono (c-m) (by omega)
   rw[show m+(c-m)=c by omega,hlen,hlen,if_pos rfl,if_neg (by omega)]at this
   omega
 refine⟨?_,hrl,hrc⟩
 have hg2:=BU (D:=dE D) (c:=(D.getD c []).length) x hrl
 have hl2:(nN (dE D) (D.getD c []).length x).length=if(D.getD c []).length=(dE D).length then(dE D).length+1 else(dE D).length:=np x
 have hrow2: ∀i,((nN (dE D) (D.getD c []).length x).getD i []).length=if i=(D.getD c []).length then c+1 else((dE D).getD i []).length:=fun i=>by
  rw[hg2];split
  ·rw[Mb,Ox,hrc]
  ·rfl
 have key: ∀i q,q<((dE (nN D c x)).getD i []).length↔q<((nN (dE D) (D.getD c []).length x).getD i []).length:=fun i q=>by
  rw[(ic h' i q).1,hlen,hrow2]
  have a:=(ic h i q).1
  by_cases e:q=c
  ·subst e
   rw[if_pos rfl]
   by_cases e2:i=(D.getD q []).length
   ·rw[if_pos e2];omega
   ·rw[if_neg e2,a];omega
  ·rw[if_neg e]
   by_cases e2:i=(D.getD c []).length
   ·rw[if_pos e2,←a,e2,hrc];omega
   ·rw[if_neg e2,a]
 have hl:(dE (nN D c x)).length=(nN (dE D) (D.getD c []).length x).length:=by
  rw[nr h',hlen,hl2,nr h]
  by_cases e:0=c
  ·subst e
   rw[if_pos rfl,if_pos rfl]
  ·rw[if_neg e]
   split
   ·next e2=>
    exfalso
    have mono: ∀e,e≤c→((nN D c x).getD e []).length≤((nN D c x).getD 0 []).length:=by
     intro e
     induction e with
     |zero=>intro _;exact Ng _
     |succ e ih=>
      intro he
      have hl3:(nN D c x).length=if c=D.length then D.length+1 else D.length:=np x
      exact Ob (h'.2 e (by rw[hl3];split<;>omega)) (ih (by omega))
    have:=mono c (Ng _)
    rw[hlen,hlen,if_pos rfl,if_neg e]at this
    omega
   ·rfl
 refine zB ⟨hl,fun i=> ?_⟩ fun i q hi hq=> ?_
 ·refine OZ (Oa fun hlt=> ?_) (Oa fun hlt=> ?_)
  ·have:=(key i _).1 hlt;omega
  ·have:=(key i _).2 hlt;omega
 ·show((dE (nN D c x)).getD i []).getD q 0=((nN (dE D) (D.getD c []).length x).getD i []).getD q 0
  rw[(ic h' i q).2,hg,hg2]
  by_cases e:q=c
  ·rw[if_pos e]
   by_cases e2:i=(D.getD c []).length
   ·rw[if_pos e2,e2,fZ,if_pos rfl,fZ,if_pos (by rw[hrc];exact e)]
   ·rw[if_neg e2,fZ,if_neg e2,(ic h i q).2,e]
  ·rw[if_neg e]
   by_cases e2:i=(D.getD c []).length
   ·rw[if_pos e2,fZ,if_neg (by rw[hrc];exact e),(ic h _ q).2,e2]
   ·rw[if_neg e2,(ic h i q).2]
structure xO (C : List (List Int)) (z : Int) (D : List (List Int)) (c : Nat) (x : Int) : Prop where
  same : fq D C
  rest : D.drop c = C.drop c
  inv : D.take c ++ tZ (D.drop c) x = tZ C z
  le : c ≤ D.length
section
variable {C D : List (List Int)} {z x : Int} {c : Nat} (h : CC C) (s : xO C z D c x)
include s
theorem xO.col:D.getD c []=C.getD c []:=by
 have:=congrArg (fun l:List (List Int)=>l.getD 0 []) s.rest
 simp only[Mk,N8,NG]at this⊢
 exact this
include h
theorem xO.reg:Reg D:=by
 have hr:=Ah h
 refine⟨fun d hd=> ?_,fun i hi=> ?_⟩
 ·obtain⟨i,hi,rfl⟩:=Nx hd
  rw[←an hi [],s.same.2 i]
  have:i<C.length:=by rw[←s.same.1];exact hi
  exact hr.1 _ (by rw[an this];exact Ns this)
 ·rw[s.same.2,s.same.2];exact hr.2 i (by rw[←s.same.1];exact hi)
theorem xO.up:(D.getD c []).Pairwise (· < ·):=by
 rw[s.col]
 by_cases hc:c<C.length
 ·rw[an hc];exact((u3 h).1 _ (Ns hc)).2
 ·rw[oT (by omega)];exact List.Pairwise.nil
theorem xO.step(hr:eW (D.getD c []) x<(D.getD c []).length):c<D.length∧xO C z (D.set c ((D.getD c []).set (eW (D.getD c []) x) x)) (c+1) ((D.getD c []).getD (eW (D.getD c []) x) 0):=by
 have hc:c<D.length:=On fun hle=>by rw[oT hle]at hr;simp at hr
 refine⟨hc,⟨⟨by rw[Ml];exact s.same.1,fun i=> ?_⟩,?_,?_,by rw[Ml];exact hc⟩⟩
 ·rw[←s.same.2 i]
  by_cases e:i=c
  ·subst e;rw[gss hc,Ml]
  ·rw[getD_set_ne (fun h=>e h.symm)]
 ·have:=congrArg MM s.rest
  rw[List.tail_drop,List.tail_drop]at this
  rw[NT (MZ _)]
  exact this
 ·rw[←s.inv,drop_cons hc [],NT (MZ _),NU (by rw[Ml];exact hc),NS (Ng _),NN]
  show _=D.take c++(if eW (D.getD c []) x<(D.getD c []).length then _ else _)
  rw[if_pos hr]
  simp only[NM,OG]
theorem xO.fin(hr: ¬eW (D.getD c []) x<(D.getD c []).length):dE (tZ C z)=nN (dE D) (D.getD c []).length x∧(D.getD c []).length≤(dE D).length∧((dE D).getD (D.getD c []).length []).length=c:=by
 have e:nN D c x=tZ C z:=by
  rw[←s.inv]
  unfold nN
  by_cases hc:c=D.length
  ·rw[if_pos hc,hc,List.take_length,List.drop_length];rfl
  ·have hlt:c<D.length:=by have:=s.le;omega
   rw[if_neg hc,drop_cons hlt []]
   show _=D.take c++(if eW (D.getD c []) x<(D.getD c []).length then _ else _)
   rw[if_neg hr,OL,if_pos hlt]
 have:=Gq (s.reg h) s.le x (by rw[e];exact Ah (Cx C z h))
 rw[e]at this
 exact this
end
end Go.Am.Pu
end
section
/- Plain laws: columns gathered row by row. -/
namespace Go.Am.Pu
set_option linter.unusedVariables false
theorem B9{C:List (List Int)}(q:Nat):(C.getD q []).length≤C.flatten.length:=by
 by_cases h:q<C.length
 ·rw[an h];exact s9 (Ns h)
 ·rw[oT (by omega)];exact NF _
section
variable {C : List (List Int)} {x : Int} {c : Nat}
end
end Go.Am.Pu
end
section
/- Plain laws: a word turned about and complemented. -/
namespace Go.Am.Pu
set_option linter.unusedVariables false
def rcN(n:Int)(w:List Int):List Int:=(w.map fun x=>n+1-x).reverse
theorem wo(n:Int)(u v:List Int):rcN n (u++v)=rcN n v++rcN n u:=by simp[rcN]
theorem Hi(n:Int)(w:List Int):rcN n (rcN n w)=w:=by
 unfold rcN
 rw[OR,List.reverse_reverse,N6]
 have:((fun x=>n+1-x)∘fun x:Int=>n+1-x)=id:=by funext x;simp only[Function.comp,id];omega
 rw[this,MT]
theorem Hj{n:Int}{u v:List Int}(t:Tri u v):Kn (rcN n u) (rcN n v):=by
 obtain⟨x,y,z,⟨h1,h2,rfl,rfl⟩|⟨h1,h2,rfl,rfl⟩⟩:=t
 ·exact(Kn.of (Tri.b (x:=n+1-z) (y:=n+1-y) (z:=n+1-x) (by omega) (by omega))).symm
 ·exact(Kn.of (Tri.a (x:=n+1-z) (y:=n+1-y) (z:=n+1-x) (by omega) (by omega))).symm
theorem Ej(w:List Int):Kn w (dO w []).reverse.flatten:=by
 have:=(zZ w).trans (Aa (sK w)).symm
 rw[Cm]at this
 exact this
theorem zL: ∀(C:List (List Int)) (x:Int),(tZ C x).flatten.Perm (x::C.flatten)
 | [],x=>List.Perm.refl _
 |c::cs,x=>by
  show(if eW c x<c.length then _ else _:List (List Int)).flatten.Perm _
  by_cases g:eW c x<c.length
  ·rw[if_pos g]
   have ih:=zL cs (c.getD (eW c x) 0)
   have e:c=c.take (eW c x)++c.getD (eW c x) 0::c.drop (eW c x+1):=by rw[←drop_cons g 0,NQ]
   rw[OA,OA,OL,if_pos g]
   refine MF.2 fun a=> ?_
   have h:=MF.1 ih a
   conv=>rhs;rw[e]
   simp only[List.count_append,List.count_cons]at h⊢
   omega
  ·rw[if_neg g]
   simp only[OA,NM,OG]
   exact LF
theorem zp: ∀(C:List (List Int)) (x:Int),C.flatten.Nodup→x∉C.flatten→tZ C x=(aS C x).1
 | [],x,_,_=>rfl
 |c::cs,x,hn,hx=>by
  rw[OA]at hn hx
  have hn':=List.nodup_append.1 hn
  have e:eW c x=fst c x:=by
   unfold eW fst
   have: ∀l:List Int,(∀z∈l,z≠x)→(l.findIdx fun n=>decide (x≤n))=l.findIdx fun n=>decide (x<n):=by
    intro l
    induction l with
    |nil=>intro _;rfl
    |cons a l ih=>
     intro h
     have ha:=h a (Mw ..)
     have:decide (x≤a)=decide (x<a):=by
      by_cases q:x<a
      ·rw[decide_eq_true q,decide_eq_true (by omega)]
      ·rw[decide_eq_false q,decide_eq_false (by omega)]
     simp only[OU,this,ih fun z hz=>h z (Mo _ hz)]
   exact this c fun z hz e=>hx (OX _ (e▸hz))
  rw[dF]
  show(if eW c x<c.length then _ else _)=_
  rw[e]
  by_cases g:fst c x<c.length
  ·rw[if_pos g,if_pos g]
   have:=zp cs (c.getD (fst c x) 0) hn'.2.1 fun h=>by
    have hm:c.getD (fst c x) 0∈c:=by rw[an g];exact Ns g
    exact hn'.2.2 _ hm _ h rfl
   rw[this]
  ·rw[if_neg g,if_neg g]
theorem u5: ∀w:List Int,(BN w).flatten.Perm w
 | []=>List.Perm.refl _
 |x::w=>(zL (BN w) x).trans ((u5 w).cons x)
theorem Bz: ∀w:List Int,w.Nodup→BN w=dO w.reverse []
 | [],_=>rfl
 |x::w,h=>by
  obtain⟨h1,h2⟩:=N5.1 h
  show tZ (BN w) x=_
  rw[zp _ _ ((u5 w).nodup_iff.2 h2) (fun hm=>h1 ((u5 w).mem_iff.1 hm)),Bz w h2,OJ,zE]
theorem yr(w:List Int):Reg (dO w []):=wm (BR w [] trivial)
theorem D3{w:List Int}(h:w.Nodup)(i q:Nat):q<shp w i↔i<shp w.reverse q:=by
 have e:=Cm w
 rw[Bz w h]at e
 unfold shp
 rw[←e]
 exact(ic (yr w.reverse) i q).1
theorem yD{w:List Int}(h:w.Nodup)(k:Nat):(((plk w k).map O7).map LW).Nodup:=by
 rw[N6]
 have:(LW∘O7:Int×Int→Int)=Mz:=rfl
 rw[this]
 show(wd (plk w k)).Nodup
 rw[zR];exact h
theorem F2{w:List Int}(h:w.Nodup)(K:Int): ∃v:List Int,v.Nodup∧(∀s,shp w s=shp v s)∧ ∀s,shp (w.map fun x=>K-x) s=shp v.reverse s:=by
 obtain⟨M,m1,m2⟩:=HO ((plk w 0).map O7) (yD h 0)
 have hT:Tr (plk w 0) M:=⟨zQ w 0,m2,m1⟩
 have hv:(wd M).Nodup:=by
  have:=(m1.map Mz).nodup_iff.2 (by
   rw[N6]
   exact OP.2 ((zQ w 0).imp fun h e=>by simp only[Function.comp,Prod.snd_swap]at e;omega))
  exact this
 refine⟨wd M,hv,fun s=> ?_,fun s=> ?_⟩
 ·have:=zI _ _ _ rfl hT s
  rwa [zR]at this
 ·have hT2:Tr ((plk w 0).map fun p=>(p.1,K-p.2)) (M.map fun p=>(K-p.1,p.2)).reverse:=by
   refine⟨OP.2 (zQ w 0),ON.2 (OP.2 (m2.imp fun h=>by simp only;omega)),?_⟩
   refine(List.reverse_perm _).trans ((m1.map _).trans (List.Perm.of_eq ?_))
   rw[N6,N6]
   rfl
  have:=zI _ _ _ rfl hT2 s
  have e1:wd ((plk w 0).map fun p=>(p.1,K-p.2))=w.map fun x=>K-x:=by
   conv=>rhs;rw[←zR w 0]
   unfold wd
   rw[N6,N6];rfl
  have e2:wd (M.map fun p=>(K-p.1,p.2)).reverse=(wd M).reverse:=by
   unfold wd
   rw[OR,N6];rfl
  rw[e1,e2]at this
  exact this
theorem Im{a b:Nat}(h: ∀i,i<a↔i<b):a=b:=by
 have h1:=h a
 have h2:=h b
 omega
theorem Ik{w:List Int}(h:w.Nodup)(n:Int)(s:Nat):shp (rcN n w) s=shp w s:=by
 obtain⟨v,v1,v2,v3⟩:=F2 h (n+1)
 have hc:(w.map fun x=>n+1-x).Nodup:=OP.2 (List.Pairwise.imp (fun h e=>h (by omega)) h)
 refine Im fun i=> ?_
 show i<shp (w.map fun x=>n+1-x).reverse s↔_
 rw[←D3 hc i s,v3,←D3 v1 s i,v2]
def cw:Nat→List Int→List Int
 |_,[]=> []
 |i,x::w=>(100*x+i)::cw (i+1) w
theorem FQ: ∀(w:List Int) (i:Nat),i+w.length≤100→(cw i w).map dec=w
 | [],_,_=>rfl
 |x::w,i,h=>by
  simp only[Nr]at h
  simp only[cw,MP]
  rw[FQ w (i+1) (by omega),Hd (by omega)]
theorem Dy: ∀(w:List Int) (i:Nat) (c:Int),c∈cw i w→ ∃k x,i≤k∧k<i+w.length∧c=100*x+(k:Nat)
 | [],_,c,h=>by cases h
 |x::w,i,c,h=>by
  rcases MH.1 h with e|h
  ·exact⟨i,x,Ng _,by simp only[Nr];omega,e⟩
  ·obtain⟨k,y,a,b,e⟩:=Dy w (i+1) c h
   exact⟨k,y,by omega,by simp only[Nr];omega,e⟩
theorem H3: ∀(w:List Int) (i:Nat),i+w.length≤100→(cw i w).Pairwise fun a b=>a % 100<b % 100
 | [],_,_=>List.Pairwise.nil
 |x::w,i,h=>by
  simp only[Nr]at h
  refine Og.2 ⟨fun c hc=> ?_,H3 w (i+1) (by omega)⟩
  obtain⟨k,y,a,b,e⟩:=Dy w (i+1) c hc
  omega
theorem DK{c:List Int}(h:c.Pairwise fun x y=>dec x=dec y→x<y)(s:Nat):shp (c.map dec) s=shp c s:=by
 have:=(BW Gx c [] trivial (fun x _ z hz=>by cases hz) h).1
 unfold shp
 have this:dO (c.map dec) []=(dO c []).map (LY dec):=this
 rw[this]
 exact((FO dec (dO c [])).2 s).symm
theorem pw{w:List Int}(hl:w.length≤99)(n:Int)(s:Nat):shp (rcN n w) s=shp w s:=by
 have hu:=H3 w 0 (by omega)
 have hd:=FQ w 0 (by omega)
 have hn:(cw 0 w).Nodup:=hu.imp fun h e=>by rw[e]at h;omega
 have e1:shp w s=shp (cw 0 w) s:=by
  conv=>lhs;rw[←hd]
  exact DK (hu.imp fun h e=>by unfold dec at e;omega) s
 have e2:rcN n w=(rcN (100*(n+1)+98) (cw 0 w)).map dec:=by
  conv=>lhs;rw[←hd]
  unfold rcN
  rw[N6,OR,N6]
  congr 1
  refine List.map_congr_left fun c hc=> ?_
  obtain⟨k,x,a,b,e⟩:=Dy w 0 c hc
  simp only[Function.comp,dec]
  omega
 rw[e1,←Ik hn (100*(n+1)+98) s,e2]
 refine DK ?_ s
 unfold rcN
 refine ON.2 (OP.2 (hu.imp fun{a b} h e=> ?_))
 unfold dec at e
 omega
end Go.Am.Pu
end
section
/- Plain laws: evacuation is insertion of the word turned about. -/
namespace Go.Am.Pu
set_option linter.unusedVariables false
theorem H9{n:Int}{u v:List Int}(h:Kn u v):Kn (rcN n u) (rcN n v):=by
 induction h with
 |refl w=>exact .refl _
 |symm _ ih=>exact .symm ih
 |trans _ _ h1 h2=>exact .trans h1 h2
 |tri a b t=>
  simp only[wo,←NM]
  have:=(Hj (n:=n) t).ctx (rcN n b) (rcN n a)
  simpa only[NM]using this
theorem Kn.perm{u v:List Int}(h:Kn u v):u.Perm v:=by
 induction h with
 |refl w=>exact .refl _
 |symm _ ih=>exact ih.symm
 |trans _ _ h1 h2=>exact h1.trans h2
 |tri a b t=>
  refine(List.Perm.append_left a ?_).append_right b
  obtain⟨x,y,z,⟨_,_,rfl,rfl⟩|⟨_,_,rfl,rfl⟩⟩:=t
  ·exact(List.Perm.swap x z []).cons y
  ·exact List.Perm.swap z x [y]
theorem ik(rs:List (List Int)):rs.reverse.flatten.Perm rs.flatten:=by
 induction rs with
 |nil=>exact .refl _
 |cons r rs ih=>
  simp only[OJ,OD,OA,List.flatten_nil,MR]
  exact(Mu).trans (List.Perm.append_left r ih)
theorem Gl{g:List (List Int)}{r c:Nat}{v:Int}(hc:c<(g.getD r []).length)(s x:Nat):cel (fp g r c v) s x=if s=r∧x=c then v else cel g s x:=by
 unfold cel
 rw[mO]
 by_cases e:s=r
 ·rw[if_pos e,gP v hc]
  by_cases f:x=c
  ·rw[if_pos f,if_pos ⟨e,f⟩]
  ·rw[if_neg f,if_neg (fun h=>f h.2),e]
 ·rw[if_neg e,if_neg (fun h=>e h.1)]
theorem Et(n:Int): ∀(m:Nat) (now:Tab) (o:List (List Int)),bj now=true→now.2.flatten.length=m→now.2.flatten.Nodup→(∀z,z∈now.2.flatten↔n-m<z∧z≤n)→(∀r,(now.2.getD r []).length≤(o.getD r []).length)→
  (∀r x,x<(now.2.getD r []).length→cel (ku m o now) r x=cel (dO (rcN n (dq now)) []) r x)∧ ∀r x,¬x<(now.2.getD r []).length→cel (ku m o now) r x=cel o r x
 |0,now,o,hp,hl,_,_,_=>by
  refine⟨fun r x hx=> ?_,fun r x _=>rfl⟩
  have:=B9 (C:=now.2) r
  omega
 |m+1,now,o,hp,hl,hn,hmem,hfit=>by
  have h0:0<now.2.length:=xw (by omega)
  have hs:=lK hp
  obtain⟨q1,q2,q3,q4⟩:=oP hp h0
  have q5:=xR hp h0
  have q6:=uq hp h0
  have hw:dq now=now.2.tail.reverse.flatten++now.2.getD 0 []:=by
   unfold dq
   cases hh:now.2 with
   |nil=>rw[hh]at h0;simp at h0
   |cons r rs=>simp
  have ho:dq (jj now)=now.2.tail.reverse.flatten++(now.2.getD 0 []).drop 1:=by
   unfold dq jj
   cases hh:now.2 with
   |nil=>rw[hh]at h0;simp at h0
   |cons r rs=>simp
  have hr0:=kp hp h0
  obtain⟨a,B,hB⟩: ∃a B,now.2.getD 0 []=a::B:=by
   cases hh:now.2.getD 0 []with
   |nil=>rw[hh]at hr0;simp at hr0
   |cons a B=>exact⟨a,B,rfl⟩
  rw[hB]at hw ho
  simp only[List.drop_succ_cons,Ny]at ho
  generalize now.2.tail.reverse.flatten=A at hw ho
  have hpw:(dq now).Perm now.2.flatten:=ik now.2
  have hac:cel now.2 0 0=a:=by unfold cel;rw[hB];rfl
  have ha:a=n-m:=by
   have h1:n-((m+1:Nat):Int)<n-m∧n-(m:Int)≤n:=by omega
   obtain⟨r,x,c1,c2,c3⟩:=pN ((hmem (n-m)).2 h1)
   have:=(JL hp c1 c2 (NF r) (NF x)).1
   have h2:=(hmem a).1 (by rw[←hac];exact mB h0 (by rw[hB];simp))
   omega
  have hnd:(A++a::B).Nodup:=by rw[←hw];exact hpw.nodup_iff.2 hn
  have hnd2:(A++B).Nodup∧a∉A++B:=by
   have:=(LF (a:=a) (l₁:=A) (l₂:=B)).nodup_iff.1 hnd
   exact⟨(N5.1 this).2,(N5.1 this).1⟩
  have hin: ∀z,z∈A++B↔n-m<z∧z≤n:=fun z=>by
   have h1:z∈A++a::B↔z=a∨z∈A++B:=by
    rw[(LF (a:=a) (l₁:=A) (l₂:=B)).mem_iff,MH]
   have h2:=hmem z
   rw[←hpw.mem_iff,hw,h1]at h2
   have h3:=hnd2.2
   constructor
   ·intro h
    have:=h2.1 (.inr h)
    have hne:z≠a:=fun e=>h3 (e▸h)
    omega
   ·intro h
    rcases h2.2 (by omega)with e|e
    ·omega
    ·exact e
  have hk:Kn (A++B) (dq (cx now).1):=by
   have:=GJ (tT hp h0) (n:=0) (by show 0<1;omega) (by show([1]:List Int).getD 1 0<([1]:List Int).getD 0 0;simp)
   rw[ho]at this
   exact this
  have hpn:(cx now).1.2.flatten.Perm (A++B):=(ik _).symm.trans hk.perm.symm
  have hlt: ∀z∈A++B,n+1-z<((m+1:Nat):Int):=fun z hz=>by have:=(hin z).1 hz;omega
  obtain⟨r,r1,r2⟩:=yd (v:=((m+1:Nat):Int)) (u1:=rcN n B) (u2:=rcN n A) (fun z hz=>by
   unfold rcN at hz
   obtain⟨y,hy,rfl⟩:=M5.1 (OM.1 hz)
   exact hlt y (OY _ hy)) (fun z hz=>by
   unfold rcN at hz
   obtain⟨y,hy,rfl⟩:=M5.1 (OM.1 hz)
   exact hlt y (OX _ hy))
  have hT:rcN n (dq now)=rcN n B++((m+1:Nat):Int)::rcN n A:=by
   rw[hw,show A++a::B=A++([a]++B)from rfl,wo,wo,NM]
   have:rcN n [a]= [((m+1:Nat):Int)]:=by unfold rcN;simp;omega
   rw[this];rfl
  have hT':dO (rcN n B++rcN n A) []=dO (rcN n (dq (cx now).1)) []:=by
   rw[←wo]
   exact(H9 hk).ins (fun r hr=>by cases hr)
  rw[hT']at r1 r2
  rw[←hT]at r2
  have h9:=iu hp
  have lenT: ∀s,((dO (rcN n (dq now)) []).getD s []).length=(now.2.getD s []).length:=fun s=>by
   have:=pw (w:=dq now) (by rw[hpw.length_eq];omega) n s
   unfold shp at this
   rw[this,show dO (dq now) []=now.2 from md _ hs]
  have lenT': ∀s,((dO (rcN n (dq (cx now).1)) []).getD s []).length=((cx now).1.2.getD s []).length:=fun s=>by
   have hl2:(dq (cx now).1).length≤99:=by show(cx now).1.2.reverse.flatten.length≤99;rw[(ik (cx now).1.2).length_eq];omega
   have:=pw hl2 n s
   unfold shp at this
   rw[this,show dO (dq (cx now).1) []=(cx now).1.2 from md _ (lK q1)]
  rw[←D9 _ _ _ r1]at r2
  generalize hTT:dO (rcN n (dq now)) []=T at*
  generalize hTT':dO (rcN n (dq (cx now).1)) []=T' at*
  have hget: ∀s,T.getD s []=if s=r then T'.getD r []++ [((m+1:Nat):Int)]else T'.getD s []:=fun s=>by rw[r2,oS _ r1]
  have hvr:=kp hp q3
  have hrv:r=(cx now).2:=by
   have h1:=lenT r
   rw[hget,if_pos rfl,Mb,Ox,lenT',q6]at h1
   split at h1
   ·next e=>exact e
   ·omega
  subst hrv
  have hfo:(now.2.getD (cx now).2 []).length-1<(o.getD (cx now).2 []).length:=by have:=hfit (cx now).2;omega
  obtain⟨i1,i2⟩:=Et n m (cx now).1 (fp o (cx now).2 ((now.2.getD (cx now).2 []).length-1) ((m+1:Nat):Int)) q1 (by omega) (hpn.nodup_iff.2 hnd2.1) (fun z=>by rw[hpn.mem_iff];exact hin z) (fun s=>by
   have h1:=hfit s
   have h2:((fp o (cx now).2 ((now.2.getD (cx now).2 []).length-1) ((m+1:Nat):Int)).getD s []).length=(o.getD s []).length:=by
    rw[mO]
    split
    ·next e=>rw[Ml,e]
    ·rfl
   rw[h2,q6]
   split<;>omega)
  rw[hTT']at i1
  have hcc:=Gl (v:=((m+1:Nat):Int)) hfo
  refine⟨fun s x hx=> ?_,fun s x hx=> ?_⟩
  ·show cel (ku m (fp o (cx now).2 ((now.2.getD (cx now).2 []).length-1) ((m+1:Nat):Int)) (cx now).1) s x=_
   have hq:=q6 s
   have ht:=lenT' (cx now).2
   rw[q6,if_pos rfl]at ht
   by_cases c:x<((cx now).1.2.getD s []).length
   ·rw[i1 s x c]
    unfold cel
    rw[hget]
    by_cases e:s=(cx now).2
    ·rw[if_pos e,fZ,if_neg (by rw[ht];subst e;rw[if_pos rfl]at hq;omega),e]
    ·rw[if_neg e]
   ·rw[i2 s x c,hcc]
    have e:s=(cx now).2:=by
     refine O6 fun e=> ?_
     rw[if_neg e]at hq
     omega
    subst e
    rw[if_pos rfl]at hq
    rw[if_pos ⟨rfl,by omega⟩]
    unfold cel
    rw[hget,if_pos rfl,fZ,if_pos (by omega)]
  ·show cel (ku m (fp o (cx now).2 ((now.2.getD (cx now).2 []).length-1) ((m+1:Nat):Int)) (cx now).1) s x=_
   have hq:=q6 s
   rw[i2 s x (by rw[hq];split<;>omega),hcc,if_neg]
   rintro⟨e1,e2⟩
   subst e1
   omega
theorem vD: ∀(k:Nat) (o:List (List Int)) (t:Tab),fq (ku k o t) o
 |0,o,t=>⟨rfl,fun _=>rfl⟩
 |k+1,o,t=>by
  refine(vD k _ _).trans ⟨by simp[fp],fun i=> ?_⟩
  rw[mO]
  split
  ·next e=>rw[Ml,e]
  ·rfl
theorem Ep{A B:List (List Int)}(ha:Reg A)(hb:Reg B)(h: ∀s,(A.getD s []).length=(B.getD s []).length):fq A B:=by
 refine⟨OZ (Oa fun hlt=> ?_) (Oa fun hlt=> ?_),h⟩
 ·have h1:=ha.1 (A.getD B.length []) (by rw[an hlt];exact Ns hlt)
  rw[h,oT (Ng _)]at h1
  simp at h1
 ·have h1:=hb.1 (B.getD A.length []) (by rw[an hlt];exact Ns hlt)
  rw[←h,oT (Ng _)]at h1
  simp at h1
theorem tx{t:Tab}(hp:bj t=true)(hs:gh t=true):(jr t).1=([],dO (rcN t.2.flatten.length (dq t)) []):=by
 obtain⟨b1,b2⟩:=kN hp hs
 have h9:=iu hp
 have hss:=lK hp
 obtain⟨e1,e2⟩:=Et t.2.flatten.length t.2.flatten.length t t.2 hp rfl b1 (fun z=>by
  constructor
  ·intro h;have:=b2 z h;omega
  ·intro h
   obtain⟨r,x,c1,c2,c3⟩:=G9 hp hs (v:=z) (by omega) (by omega)
   rw[←c3];exact mB c1 c2) (fun r=>Ng _)
 unfold jr
 rw[if_pos ⟨hp,hs⟩]
 have hlen: ∀s,((dO (rcN t.2.flatten.length (dq t)) []).getD s []).length=(t.2.getD s []).length:=fun s=>by
  have:=pw (w:=dq t) (by show t.2.reverse.flatten.length≤99;rw[(ik t.2).length_eq];omega) t.2.flatten.length s
  unfold shp at this
  rw[this,show dO (dq t) []=t.2 from md _ hss]
 have sm:fq t.2 (dO (rcN t.2.flatten.length (dq t)) []):=Ep (wm hss) (yr _) fun s=>(hlen s).symm
 have se:=vD t.2.flatten.length t.2 t
 refine Mj (show t.1= []from eB hp) (zB (se.trans sm) fun r x hr hx=>e1 r x (by rw[←se.2];exact hx))
def lR(w:List Int)(n:Int):Bool:=isWord w&&(within n 1 9&&w.all fun x=>decide (x≤n))
def jf(w:List Int)(n:Int):List Int×Bool:=if lR w n=true then(w.map (fun x=>n+1-x),true)else([],false)
def iR(w:List Int)(n:Int):List Int×Bool:=if lR w n=true then(rcN n w,true)else([],false)
def bB(t:Tab)(n:Int):Tab×Bool:=if bj t=true∧lR (dq t) n=true then iv (rcN n (dq t))else(([],[]),false)
theorem kE{w:List Int}{n:Int}:lR w n=true↔isWord w=true∧(1≤n∧n≤9)∧ ∀x∈w,x≤n:=by
 unfold lR within
 simp only[Nc,decide_eq_true_eq,Nw]
theorem pV{w:List Int}:isWord w=true↔w.length≤9∧ ∀x∈w,1≤x∧x≤9:=by
 unfold isWord within
 simp only[Nc,decide_eq_true_eq,Nw]
theorem Dm{w:List Int}{n:Int}(h:lR w n=true):lR (rcN n w) n=true:=by
 obtain⟨h1,h2,h3⟩:=kE.1 h
 obtain⟨a,b⟩:=pV.1 h1
 have hm: ∀x∈rcN n w,1≤x∧x≤n:=fun x hx=>by
  unfold rcN at hx
  obtain⟨y,hy,rfl⟩:=M5.1 (OM.1 hx)
  have:=b y hy
  have:=h3 y hy
  omega
 exact kE.2 ⟨pV.2 ⟨by simp[rcN];exact a,fun x hx=>by have:=hm x hx;omega⟩,h2,fun x hx=>(hm x hx).2⟩
theorem pH{t:Tab}{n:Int}(hp:bj t=true)(h:lR (dq t) n=true):bB t n=(([],dO (rcN n (dq t)) []),true):=by
 unfold bB iv
 rw[if_pos ⟨hp,h⟩,if_pos (kE.1 (Dm h)).1]
theorem vP{t:Tab}{n:Int}(h:(bB t n).2=true):bB (bB t n).1 n=(t,true)∧outer (bB t n).1=outer t∧bj (bB t n).1=true∧bj t=true:=by
 have hc:bj t=true∧lR (dq t) n=true:=by
  unfold bB at h
  split at h
  ·assumption
  ·cases h
 obtain⟨hp,hc⟩:=hc
 have hs:=lK hp
 have hw:=(kE.1 (Dm hc)).1
 have hpl:=ph hw
 unfold iv at hpl
 rw[if_pos hw]at hpl
 have k:=Ej (rcN n (dq t))
 have hcom:lR (dq (([],dO (rcN n (dq t)) []):Tab)) n=true:=by
  obtain⟨h1,h2,h3⟩:=kE.1 (Dm hc)
  obtain⟨a,b⟩:=pV.1 h1
  have pm:(dq (([],dO (rcN n (dq t)) []):Tab)).Perm (rcN n (dq t)):=k.perm.symm
  exact kE.2 ⟨pV.2 ⟨by rw[pm.length_eq];exact a,fun x hx=>b x (pm.mem_iff.1 hx)⟩,h2,fun x hx=>h3 x (pm.mem_iff.1 hx)⟩
 have h9:=iu hp
 have hlen: ∀s,((dO (rcN n (dq t)) []).getD s []).length=(t.2.getD s []).length:=fun s=>by
  have:=pw (w:=dq t) (by show t.2.reverse.flatten.length≤99;rw[(ik t.2).length_eq];omega) n s
  unfold shp at this
  rw[this,show dO (dq t) []=t.2 from md _ hs]
 have sm:=Ep (yr (rcN n (dq t))) (wm hs) hlen
 rw[pH hp hc,pH hpl hcom]
 refine⟨?_,E0 rfl (eB hp) sm.1 sm.2,hpl,hp⟩
 have e:dO (rcN n (dq (([],dO (rcN n (dq t)) []):Tab))) []=t.2:=by
  have k2:=(H9 (n:=n) k).symm
  rw[Hi]at k2
  rw[show rcN n (dq (([],dO (rcN n (dq t)) []):Tab))=rcN n (dO (rcN n (dq t)) []).reverse.flatten from rfl,k2.ins (P:= []) (fun r hr=>by cases hr)]
  exact md _ hs
 exact Mj (Mj (eB hp).symm e) rfl
end Go.Am.Pu
end
section
/- Plain laws: evacuating a standard tableau twice. -/
namespace Go.Am.Pu
set_option linter.unusedVariables false
theorem D1{t:Tab}(hp:bj t=true)(hs:gh t=true)(h0:0<t.2.flatten.length):lR (dq t) t.2.flatten.length=true:=by
 obtain⟨b1,b2⟩:=kN hp hs
 have h9:=iu hp
 have pm:(dq t).Perm t.2.flatten:=ik t.2
 exact kE.2 ⟨pV.2 ⟨by rw[pm.length_eq];exact h9,fun x hx=>by have:=b2 x (pm.mem_iff.1 hx);omega⟩,⟨by omega,by omega⟩,fun x hx=>(b2 x (pm.mem_iff.1 hx)).2⟩
theorem zo{t:Tab}(h:(jr t).2=true)(h0:0<t.2.flatten.length):bB t t.2.flatten.length=((jr t).1,true):=by
 have hc:bj t=true∧gh t=true:=by
  unfold jr at h
  split at h
  ·assumption
  ·cases h
 rw[tx hc.1 hc.2,pH hc.1 (D1 hc.1 hc.2 h0)]
theorem C9{t:Tab}(h:(jr t).2=true):jr (jr t).1=(t,true):=by
 have hc:bj t=true∧gh t=true:=by
  unfold jr at h
  split at h
  ·assumption
  ·cases h
 obtain⟨hp,hs⟩:=hc
 by_cases h0:0<t.2.flatten.length
 ·have e:=zo h h0
  obtain⟨a1,a2,a3,a4⟩:=vP (t:=t) (n:=t.2.flatten.length) (by rw[e])
  rw[e]at a1 a2 a3
  simp only at a1 a2 a3
  have hpm:(jr t).1.2.flatten.Perm (rcN t.2.flatten.length (dq t)):=by
   rw[tx hp hs]
   exact(ik _).symm.trans (Ej _).perm.symm
  obtain⟨b1,b2⟩:=kN hp hs
  have pm:(dq t).Perm t.2.flatten:=ik t.2
  have hrl:(rcN t.2.flatten.length (dq t)).length=t.2.flatten.length:=by
   unfold rcN
   rw[List.length_reverse,N2,pm.length_eq]
  have hrm: ∀z∈rcN t.2.flatten.length (dq t),1≤z∧z≤t.2.flatten.length:=fun z hz=>by
   unfold rcN at hz
   obtain⟨y,hy,rfl⟩:=M5.1 (OM.1 hz)
   have:=b2 y (pm.mem_iff.1 hy)
   omega
  have hrn:(rcN t.2.flatten.length (dq t)).Nodup:=by
   unfold rcN
   exact ON.2 (OP.2 (List.Pairwise.imp (fun h e=>h (by omega)) (pm.nodup_iff.2 b1)))
  have hal:(jr t).1.2.flatten.length=t.2.flatten.length:=by rw[hpm.length_eq,hrl]
  have hst:gh (jr t).1=true:=by
   unfold gh
   unfold bj at a3
   simp only[Nc]at a3⊢
   refine⟨a3.1,(sB fun x hx=>(hrm x (hpm.mem_iff.1 hx)).1).2 ⟨hpm.nodup_iff.2 hrn,fun x hx=> ?_⟩⟩
   rw[hal];exact(hrm x (hpm.mem_iff.1 hx)).2
  have e2:=tx a3 hst
  have e3:=D1 a3 hst (by omega)
  rw[hal]at e2 e3
  rw[pH a3 e3]at a1
  have e4:(jr (jr t).1).2=true:=by unfold jr;rw[if_pos ⟨a3,hst⟩]
  exact Mj (e2.trans (congrArg LW a1)) e4
 ·have hw:dq t= []:=N3 (by
   show t.2.reverse.flatten.length=0
   rw[(ik t.2).length_eq];omega)
  have ht:t.2= []:=by
   refine O6 fun hne=> ?_
   have hl:0<t.2.length:=List.length_pos_iff.2 hne
   have h1:=kp hp hl
   have h2:=B9 (C:=t.2) 0
   omega
  have e:(jr t).1=t:=by
   rw[tx hp hs,hw]
   exact Mj (eB hp).symm ht.symm
  rw[e]
  exact Mj e h
theorem zn{w:List Int}{n:Int}(h:lR w n=true):isWord (w.map fun x=>n+1-x)=true:=by
 obtain⟨h1,h2,h3⟩:=kE.1 h
 obtain⟨a,b⟩:=pV.1 h1
 refine pV.2 ⟨by rw[N2];exact a,fun x hx=> ?_⟩
 obtain⟨y,hy,rfl⟩:=M5.1 hx
 have:=b y hy
 have:=h3 y hy
 omega
theorem yk{t:Tab}{n:Int}:lT (bB t n).1:=by
 unfold bB
 split
 ·exact yR
 ·exact lT.nil
theorem Fg{w:List Int}{n:Int}:(iR w n).1.length≤w.length:=by
 unfold iR rcN
 split
 ·simp
 ·exact NF _
end Go.Am.Pu
end
