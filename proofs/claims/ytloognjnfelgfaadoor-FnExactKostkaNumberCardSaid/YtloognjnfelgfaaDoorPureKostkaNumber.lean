/- What the functions make of data, as plain words; each holds for all data within the bounds that it names. -/
import Derived.Test.YtloognjnfelgfaaDoorEqsKostkaNumber
import Derived.Test.YtloognjnfelgfaaDoorPu
set_option linter.unusedSimpArgs false
set_option linter.unusedVariables false
set_option linter.unnecessarySimpa false
set_option linter.unusedSectionVars false
namespace Go.Am.Seat
open Go Go.Am Go.Am.Pu
attribute [local instance] D.real
set_option linter.unusedSimpArgs false
set_option linter.unusedVariables false
set_option maxRecDepth 4000
theorem eU.is{k:Nat}{a:LI}{b:Int}(hk:4194304+1≤k)(ha:a.length≤maxLen)(h1:0≤b)(h2:b≤1048576):eU k a b=some (if b-a.length<0 then-1 else b-a.length):=by
 obtain⟨k,rfl⟩: ∃k',k=k'+1:=⟨k-1,by omega⟩
 have ha:a.length≤9223372036854775807:=ha
 rw[eU.eq]
 simp (disch:=omega) only[aR,fJ,bX,dA,cM,cO,decide_eq_true_eq,w64]
 split<;>rfl
theorem gm.is{k:Nat}{a:LI×LI}{b:Int}(hk:4194304+3≤k)(ha:a.1.length≤maxLen)(ha2:a.2.length≤maxLen)(h1:0≤b)(h2:b≤1048576):
  ∃r,gm k a b=some r∧(0≤r→r≤b∧(a.1.length:Int)≤b∧(a.2.length:Int)≤b):=by
 obtain⟨k,rfl⟩: ∃k',k=k'+1:=⟨k-1,by omega⟩
 rw[gm.eq,eU.is (by omega) ha h1 h2]
 by_cases hc:b-a.1.length<0
 ·exact⟨-1,by simp[hc],fun h=>by omega⟩
 ·by_cases hd:b-a.1.length-a.2.length<0
  ·refine⟨-1,?_,fun h=>by omega⟩
   simp only[b7,hc,if_false]
   rw[eU.is (by omega) ha2 (by omega) (by omega)]
   simp[hc,hd]
  ·refine⟨b-a.1.length-a.2.length,?_,fun h=>by omega⟩
   simp only[b7,hc,if_false]
   rw[eU.is (by omega) ha2 (by omega) (by omega)]
   simp[hc,hd]
theorem bt.loop{k:Nat}{a:LI}(ha:a.length≤1048576): ∀(m j i:Nat),i+m=a.length→m<j→bt.L0 k j i a (a.take i++List.replicate (a.length-i) 0)=some a
 |m,0,i,_,hj=>by omega
 |0,j+1,i,hi,_=>by
  rw[bt.cN]
  have e:i=a.length:=by omega
  subst e
  simp
 |m+1,j+1,i,hi,hj=>by
  rw[bt.cN]
  have hlt:i<a.length:=by omega
  have ih:=bt.loop (k:=k) ha m j (i+1) (by omega) (by omega)
  rw[Int.natCast_succ]at ih
  have hl:i<(a.take i++List.replicate (a.length-i) (0:Int)).length:=by simp;omega
  have hf:=Pu.DQ hlt (0:Int) 0
  simp (disch:=omega) only[aR,fJ,fR,dm,cO,cM,di,fU,dt,bX,dj,w64,Int.toNat_natCast,decide_eq_true_eq,Int.ofNat_lt,hlt,hl,if_true,Int.natCast_nonneg,decide_true,hf,ih]
theorem bt.is{k:Nat}{a:LI}(hk:4194304+1≤k)(ha:a.length≤1048576):bt k a=some a:=by
 obtain⟨k,rfl⟩: ∃k',k=k'+1:=⟨k-1,by omega⟩
 rw[bt.eq]
 have h:=bt.loop (k:=k) ha a.length k 0 (by omega) (by omega)
 rw[Int.natCast_zero]at h
 simp only[List.take_zero,List.nil_append,Nat.sub_zero]at h
 have hl:a.length≤1099511627776:=by omega
 simp[h,hl]
theorem eM.is{k:Nat}{a:LI×LI}(hk:4194304+2≤k)(h1:a.1.length≤1048576)(h2:a.2.length≤1048576):eM k a=some a:=by
 obtain⟨k,rfl⟩: ∃k',k=k'+1:=⟨k-1,by omega⟩
 rw[eM.eq,bt.is (by omega) h1,b7,bt.is (by omega) h2]
 rfl
theorem ij.is{k:Nat}{x lo hi:Int}(hk:1≤k):ij k x lo hi=some (Pu.within x lo hi):=by
 obtain⟨k,rfl⟩: ∃k',k=k'+1:=⟨k-1,by omega⟩
 rw[ij.eq]
 by_cases h:lo≤x<;>simp[Pu.within,h]
theorem aC.loop{k:Nat}{p:LI}(hk:4194304≤k)(hp:p.length≤1048576): ∀(m j i:Nat) (s v:Int),i+m=p.length→m<j→(i=0→v=9)→(0<i→v=p.getD (i-1) 0)→v≤9→0≤s→s≤9→
  aC.L0 k j s i p=some (Pu.gq (p.drop i) v s)
 |m,0,i,s,v,_,hj,_,_,_,_,_=>by omega
 |0,j+1,i,s,v,hi,_,_,_,_,_,_=>by
  rw[aC.cN]
  have e:i=p.length:=by omega
  subst e
  simp[Pu.gq]
 |m+1,j+1,i,s,v,hi,hj,h0,h1,hv,hs,hs9=>by
  rw[aC.cN]
  have hlt:i<p.length:=by omega
  have hj1: ∀x:Int,x=p.getD i 0→1≤x→x≤v→aC.J1 k j s i p=some (decide (s+x≤9)&&Pu.gq (p.drop (i+1)) x (s+x)):=by
   intro x hx hx1 hx2
   rw[aC.wm]
   simp (disch:=omega) only[↓aR,sss,if_true,if_false,hlt,←hx]
   by_cases c:9<s+x
   ·have: ¬s+x≤9:=by omega
    simp[c,this]
   ·have c':s+x≤9:=by omega
    have ih:=aC.loop hk hp m j (i+1) (s+x) x (by omega) (by omega) (by omega) (by simp[hx]) (by omega) (by omega) c'
    rw[Int.natCast_succ]at ih
    simp[c,c',ih]
  rw[Pu.drop_cons hlt 0]
  simp (disch:=omega) only[↓aR,sss,if_true,if_false,hlt,ij.is,Pu.gq]
  generalize hx:p.getD i 0=x at*
  unfold Pu.within
  by_cases c1:1≤x
  ·by_cases c2:x≤v
   ·have c3:x≤9:=by omega
    have hj:=hj1 x rfl c1 c2
    by_cases hi0:i=0
    ·have hpos: ¬(0:Int)<i:=by omega
     simp (disch:=omega) only[↓aR,sss,if_true,if_false,c1,c2,c3,hpos,hj]
    ·have hv':=h1 (by omega)
     have e:((i:Int)-1)=((i-1:Nat):Int):=by omega
     have hlt':i-1<p.length:=by omega
     have hge: ¬p.getD (i-1) 0<x:=by rw[←hv'];omega
     have hpos:(0:Int)<i:=by omega
     simp (disch:=omega) only[e,↓aR,sss,if_true,if_false,hlt',c1,c2,c3,hj,hpos,hge]
   ·simp only[c1,c2,↓aR,sss,if_true,if_false]
    by_cases c3:x≤9
    ·have hi0:0<i:=by
      rcases Nat.eq_zero_or_pos i with h|h
      ·have:=h0 h;omega
      ·exact h
     have hv':=h1 hi0
     have e:((i:Int)-1)=((i-1:Nat):Int):=by omega
     have hlt':i-1<p.length:=by omega
     have hge:p.getD (i-1) 0<x:=by rw[←hv'];omega
     have hpos:(0:Int)<i:=by omega
     simp (disch:=omega) only[e,↓aR,sss,if_true,if_false,hlt',c3,hpos,hge]
    ·simp only[c3,↓aR,sss,if_true,if_false]
  ·simp only[c1,↓aR,sss,if_true,if_false]
theorem aC.is{k:Nat}{p:LI}(hk:4194304+1≤k)(hp:p.length≤1048576):aC k p=some (Pu.bc p):=by
 obtain⟨k,rfl⟩: ∃k',k=k'+1:=⟨k-1,by omega⟩
 rw[aC.eq]
 exact aC.loop (k:=k) (by omega) hp p.length k 0 0 9 (by omega) (by omega) (fun _=>rfl) (by omega) (by omega) (by omega) (by omega)
theorem a7.loop{k:Nat}{q p:LI}(hq:q.length≤1048576)(hl:q.length≤p.length)(hk:q.length<k):a7.L1 k k 0 q p=some ((List.range' 0 q.length).all fun i=>decide (q.getD i 0≤p.getD i 0)):=by
 have h:=Pu.mE (fun j i=>a7.L1 k j (i:Int) q p) q.length (fun i=>decide (q.getD i 0≤p.getD i 0)) (some false) (some true)
  (fun j i hi=>by
   have hi2:i<p.length:=by omega
   rw[a7.lJ]
   simp (disch:=omega) only[↓aR,sss,if_true,if_false,hi,hi2,Int.natCast_add,Int.natCast_one]
   by_cases c:q.getD i 0≤p.getD i 0
   ·have c': ¬p.getD i 0<q.getD i 0:=by omega
    simp only[c,c',↓aR,sss,if_true,if_false]
   ·have c':p.getD i 0<q.getD i 0:=by omega
    simp only[c,c',↓aR,sss,if_true,if_false])
  (fun j=>by
   rw[a7.lJ]
   simp only[↓aR,sss,if_true,if_false,Nat.lt_irrefl]) q.length k 0 (by omega) hk
 simp only[Int.natCast_zero]at h
 rw[h]
 cases(List.range' 0 q.length).all fun i=>decide (q.getD i 0≤p.getD i 0)<;>simp
theorem a7.is{k:Nat}{q p:LI}(hk:4194304+2≤k)(hq:q.length≤1048576)(hp:p.length≤1048576):a7 k q p=some (Pu.aX q p):=by
 obtain⟨k,rfl⟩: ∃k',k=k'+1:=⟨k-1,by omega⟩
 rw[a7.eq,aC.is (by omega) hq,b7,a7.my]
 unfold Pu.aX
 cases c1:Pu.bc q with
 |false=>simp only[↓aR,sss,if_true,if_false]
 |true=>
  simp only[↓aR,sss,if_true,if_false]
  rw[aC.is (by omega) hp,b7]
  cases c2:Pu.bc p with
  |false=>simp only[↓aR,sss,if_true,if_false]
  |true=>
   simp only[↓aR,sss,if_true,if_false]
   by_cases c3:p.length<q.length
   ·have c3': ¬q.length≤p.length:=by omega
    simp only[c3,c3',↓aR,sss,if_true,if_false]
   ·have c3':q.length≤p.length:=by omega
    simp only[c3,c3',↓aR,sss,if_true,if_false]
    exact a7.loop hq c3' (by omega)
theorem gw.is{k:Nat}{s:LI×LI}(hk:4194304+3≤k)(hq:s.1.length≤1048576)(hp:s.2.length≤1048576):gw k s=some (Pu.aX s.2 s.1):=by
 obtain⟨k,rfl⟩: ∃k',k=k'+1:=⟨k-1,by omega⟩
 rw[gw.eq,a7.is (by omega) hp hq]
 rfl
theorem bO.is{k:Nat}{w:LI}(hk:4194304+1≤k)(hw:w.length≤1048576):bO k w=some (Pu.ju w):=by
 obtain⟨k,rfl⟩: ∃k',k=k'+1:=⟨k-1,by omega⟩
 rw[bO.eq]
 have h:=Pu.mE (fun j i=>bO.L0 k j (i:Int) w) w.length (fun i=>Pu.within (w.getD i 0) 0 9) (some false) (some (decide (w.length≤9)))
  (fun j i hi=>by
   rw[bO.cN,ij.is (by omega)]
   cases hh:Pu.within (w.getD i 0) 0 9<;>simp (disch:=omega) only[↓aR,sss,if_true,if_false,hi,hh,Int.natCast_add,Int.natCast_one])
  (fun j=>by
   rw[bO.cN]
   simp only[↓aR,sss,if_true,if_false,Nat.lt_irrefl]
   congr 1
   apply decide_eq_decide.2
   omega) w.length k 0 (by omega) (by omega)
 simp only[Int.natCast_zero]at h
 rw[h]
 unfold Pu.ju
 rw[Pu.EN w 0]
 cases(List.range' 0 w.length).all fun i=>Pu.within (w.getD i 0) 0 9<;>simp
theorem bH.loop{k:Nat}{w:LI}(hw:w.length≤1048576)(hb: ∀x∈w,-1000000≤x∧x≤1000000): ∀(m j i:Nat) (s:Int),i+m=w.length→m<j→ -1000000*i≤s→s≤1000000*i→bH.L0 k j s i w=some (s+Pu.aM (w.drop i))
 |m,0,i,s,_,hj,_,_=>by omega
 |0,j+1,i,s,hm,_,_,_=>by
  rw[bH.cN]
  have e:i=w.length:=by omega
  subst e
  simp[Pu.aM]
 |m+1,j+1,i,s,hm,hj,hs1,hs2=>by
  rw[bH.cN]
  have hlt:i<w.length:=by omega
  have hx:=hb _ (List.getElem_mem hlt)
  rw[←Pu.ao hlt 0]at hx
  have ih:=bH.loop (k:=k) hw hb m j (i+1) (s+w.getD i 0) (by omega) (by omega) (by omega) (by omega)
  rw[Int.natCast_succ]at ih
  rw[Pu.drop_cons hlt 0]
  simp (disch:=omega) only[↓aR,sss,if_true,if_false,hlt,ih,Pu.aM,Int.add_assoc]
theorem bH.is{k:Nat}{w:LI}(hk:4194304+1≤k)(hw:w.length≤1048576)(hb: ∀x∈w,-1000000≤x∧x≤1000000):bH k w=some (Pu.aM w):=by
 obtain⟨k,rfl⟩: ∃k',k=k'+1:=⟨k-1,by omega⟩
 rw[bH.eq]
 have h:=bH.loop (k:=k) hw hb w.length k 0 0 (by omega) (by omega) (by omega) (by omega)
 rw[Int.natCast_zero]at h
 rw[h,Int.zero_add,List.drop_zero]
theorem iX.is{k:Nat}{b:Bool}(hk:1≤k):iX k b=some (if b=true then 1 else 0):=by
 obtain⟨k,rfl⟩: ∃k',k=k'+1:=⟨k-1,by omega⟩
 rw[iX.eq]
 cases b<;>rfl
theorem cx.is{k:Nat}{p:LI}{i:Int}(hk:1≤k):cx k p i=some (Pu.atI p i):=by
 obtain⟨k,rfl⟩: ∃k',k=k'+1:=⟨k-1,by omega⟩
 rw[cx.eq,cx.my]
 by_cases h1:i<0
 ·simp only[↓aR,sss,if_true,if_false,h1,Pu.pn h1]
 ·by_cases h2:(p.length:Int)≤i
  ·simp only[↓aR,sss,if_true,if_false,h1,h2,Pu.yE h2]
  ·have h3:0≤i:=by omega
   have h4:i.toNat<p.length:=by omega
   simp only[↓aR,sss,if_true,if_false,h1,h2,h3,h4,Pu.atI]
theorem iP.is{k:Nat}{a b:Int}(hk:1≤k):iP k a b=some (min a b):=by
 obtain⟨k,rfl⟩: ∃k',k=k'+1:=⟨k-1,by omega⟩
 rw[iP.eq]
 by_cases h:a<b
 ·simp only[↓aR,sss,if_true,if_false,h];congr 1;omega
 ·simp only[↓aR,sss,if_true,if_false,h];congr 1;omega
theorem aw.HE{k k1:Nat}{n i Gt x:Int}{p o:LI}{rest:LJ}{Q:LJ→Prop}(hr:rest.length≤1000000000)(hl: ∀y∈rest,y.length≤9): ∀(m j r:Nat) (out:LJ),r+m=rest.length→m<j→out.length+m≤20000000000→
  Pu.Ok (aw.L1 k k1 n i Gt (IntKind.i64.wrap (x+1)) p o (out++(rest.drop r).map (x:: ·))) Q→Pu.Ok (aw.L3 k k1 j n i Gt x r p o out rest) Q
 |m,0,r,out,_,hj,_,_=>by omega
 |0,j+1,r,out,hm,hj,ho,key=>by
  rw[aw.G4]
  simp only[fJ,fR,dm,dD,dF,cO,cM,di,fU,dt,dE,b8,b9,dH,bX,dj,dA,dW,fV,fW,dC,dB,cm,ck,ch,cn,List.nil_append,List.cons_append]
  rw[List.drop_of_length_le (by omega),List.map_nil,List.append_nil]at key
  exact Pu.Ok.no (by omega) key
 |m+1,j+1,r,out,hm,hj,ho,key=>by
  have hlt:r<rest.length:=by omega
  rw[aw.G4]
  have hw:IntKind.i64.wrap ((r:Int)+1)=((r+1:Nat):Int):=w64 (by omega) (by omega)
  have hy:=hl _ (List.getElem_mem hlt)
  rw[←Pu.ao hlt []]at hy
  simp only[fJ,fR,dm,dD,dF,cO,cM,di,fU,dt,dE,b8,b9,dH,bX,dj,dA,dW,fV,fW,dC,dB,cm,ck,ch,cn,List.nil_append,List.cons_append]
  rw[hw,Int.toNat_natCast]
  refine Pu.Ok.g (by omega) (Pu.Ok.g (by omega) (Pu.Ok.g (by omega) (Pu.Ok.g (by omega) (Pu.Ok.g (by omega) (Pu.Ok.g (by show(rest.getD r []).length+1≤_;omega) (Pu.Ok.g (by rw[List.length_append,List.length_singleton];omega) ?_))))))
  refine aw.HE hr hl m j (r+1) _ (by omega) (by omega) (by rw[List.length_append,List.length_singleton];omega) ?_
  rw[List.append_assoc]
  rw[Pu.drop_cons hlt [],List.map_cons]at key
  exact key
theorem aw.is{p o:LI}(hp:p.length≤1048576)(ho:o.length≤9)(hp9: ∀j,0≤p.getD j 0∧p.getD j 0≤9)(ho9: ∀j,0≤o.getD j 0∧o.getD j 0≤9): ∀(q i k:Nat) (n:Int),i+q=o.length→2000000000+q≤k→0≤n→n≤9→
  aw k p o n i=some (Pu.cr p o q i n):=by
 intro q
 induction q with
 |zero=>
  intro i k n hi hk _ _
  obtain⟨k,rfl⟩: ∃k',k=k'+1:=⟨k-1,by omega⟩
  apply Pu.ok_eq
  rw[aw.eq,Pu.cr]
  simp only[fJ,fR,dm,dD,dF,cO,cM,di,fU,dt,dE,b8,b9,dH,bX,dj,dA,dW,fV,fW,dC,dB,cm,ck,ch,cn,List.nil_append,List.cons_append]
  refine Pu.Ok.g (by omega) (Pu.Ok.t (fun h=> ?_) (fun h=> ?_))
  ·rw[if_pos h];exact Pu.Ok.g (by simp) (Pu.Ok.ret rfl)
  ·rw[if_neg h];exact Pu.Ok.ret rfl
 |succ q ih=>
  intro i k n hi hk hn0 hn9
  obtain⟨k,rfl⟩: ∃k',k=k'+1:=⟨k-1,by omega⟩
  apply Pu.ok_eq
  have hm9: ∀j,Pu.dx p o j≤9∧0≤Pu.dx p o j:=fun j=>by
   unfold Pu.dx
   have:=ho9 j
   have:=hp9 (j-1)
   split<;>omega
  have hlen:=fun n=>Pu.oJ (p:=p) (o:=o) (fun j=>by have:=hm9 j;have:=hp9 j;omega) q (i+1) n
  have hpow:(10:Nat)^q≤10^9:=Nat.pow_le_pow_right (by omega) (by omega)
  have hpow9:(10:Nat)^9=1000000000:=by decide
  rw[Pu.cr]
  obtain⟨g,hg⟩: ∃g:Nat→LJ,g=fun c:Nat=>(Pu.cr p o q (i+1) (n-c)).map ((p.getD i 0+(c:Int)):: ·):=⟨_,rfl⟩
  rw[←hg]
  have hgl: ∀c,(g c).length≤10^q:=fun c=>by rw[hg];show(List.map _ _).length≤_;rw[List.length_map];exact hlen _
  obtain⟨N,hN⟩: ∃N,N=(min (Pu.dx p o i-p.getD i 0) n+1).toNat:=⟨_,rfl⟩
  rw[←hN]
  have hpi:=hp9 i
  have hmi:=hm9 i
  have hwi:IntKind.i64.wrap ((i:Int)-1)=(i:Int)-1:=w64 (by omega) (by omega)
  have hwi2:IntKind.i64.wrap ((i:Int)+1)=((i+1:Nat):Int):=w64 (by omega) (by omega)
  have loop: ∀(m j c:Nat),c+m=N→m<j→Pu.Ok (aw.L1 k j n i (Pu.dx p o i) (p.getD i 0+c) p o ((List.range c).flatMap g)) (· =(List.range N).flatMap g):=by
   intro m
   induction m with
   |zero=>
    intro j c hc hj
    obtain⟨j,rfl⟩: ∃j',j=j'+1:=⟨j-1,by omega⟩
    have hcN:c=N:=by omega
    subst hcN
    rw[aw.lJ]
    simp only[fJ,fR,dm,dD,dF,cO,cM,di,fU,dt,dE,b8,b9,dH,bX,dj,dA,dW,fV,fW,dC,dB,cm,ck,ch,cn,List.nil_append,List.cons_append]
    refine Pu.Ok.t (fun h=> ?_) (fun _=>Pu.Ok.ret rfl)
    refine Pu.Ok.dY (cx.is (by omega)) ?_
    rw[Pu.cq]
    have hw:IntKind.i64.wrap (p.getD i 0+c-p.getD i 0)=c:=by rw[w64 (by omega) (by omega)];omega
    rw[hw]
    exact Pu.Ok.no (by omega) (Pu.Ok.ret rfl)
   |succ m ihm=>
    intro j c hc hj
    obtain⟨j,rfl⟩: ∃j',j=j'+1:=⟨j-1,by omega⟩
    have hlt:c<N:=by omega
    have hcl:((List.range c).flatMap g).length≤10*1000000000:=by
     refine Nat.le_trans (Pu.mK g (10^q) _ fun r _=>hgl r) ?_
     rw[List.length_range]
     exact Nat.mul_le_mul (by omega) (by omega)
    rw[aw.lJ]
    simp only[fJ,fR,dm,dD,dF,cO,cM,di,fU,dt,dE,b8,b9,dH,bX,dj,dA,dW,fV,fW,dC,dB,cm,ck,ch,cn,List.nil_append,List.cons_append]
    refine Pu.Ok.t (fun h=> ?_) (fun h=>absurd (show p.getD i 0+(c:Int)≤Pu.dx p o i by omega) h)
    refine Pu.Ok.dY (cx.is (by omega)) ?_
    rw[Pu.cq]
    have hw:IntKind.i64.wrap (p.getD i 0+c-p.getD i 0)=c:=by rw[w64 (by omega) (by omega)];omega
    rw[hw]
    refine Pu.Ok.t (fun _=> ?_) (fun h=>absurd (show(c:Int)≤n by omega) h)
    rw[aw.wA]
    refine Pu.Ok.dY (cx.is (by omega)) ?_
    rw[Pu.cq]
    simp only[fJ,fR,dm,dD,dF,cO,cM,di,fU,dt,dE,b8,b9,dH,bX,dj,dA,dW,fV,fW,dC,dB,cm,ck,ch,cn,List.nil_append,List.cons_append]
    have hw1:IntKind.i64.wrap (n-(p.getD i 0+c))=n-(p.getD i 0+c):=w64 (by omega) (by omega)
    have hw2:IntKind.i64.wrap (n-(p.getD i 0+c)+p.getD i 0)=n-c:=by rw[w64 (by omega) (by omega)];omega
    rw[hw1,hw2,hwi2]
    refine Pu.Ok.dY (ih (i+1) k (n-c) (by omega) (by omega) (by omega) (by omega)) ?_
    have hrl:=hlen (n-(c:Int))
    have hrest: ∀y∈Pu.cr p o q (i+1) (n-(c:Int)),y.length≤9:=fun y hy=>by
     have:=(Pu.so q (i+1) _ y hy).1;omega
    have hw3:IntKind.i64.wrap (p.getD i 0+c+1)=p.getD i 0+((c+1:Nat):Int):=by rw[w64 (by omega) (by omega)];omega
    refine aw.HE (by omega) hrest (Pu.cr p o q (i+1) (n-(c:Int))).length k 0 _ (by omega) (by omega) (by omega) ?_
    rw[hw3,List.drop_zero]
    have e:(List.range c).flatMap g++(Pu.cr p o q (i+1) (n-(c:Int))).map ((p.getD i 0+(c:Int)):: ·)=(List.range (c+1)).flatMap g:=by
     rw[List.range_succ,List.flatMap_append,hg]
     simp
    rw[e]
    exact ihm j (c+1) (by omega) (by omega)
  have hJ:Pu.Ok (aw.J0 k n i (Pu.dx p o i) p o []) (· =(List.range N).flatMap g):=by
   rw[aw.my]
   refine Pu.Ok.dY (cx.is (by omega)) ?_
   rw[Pu.cq]
   have:=loop N k 0 (by omega) (by omega)
   rw[Int.natCast_zero,Int.add_zero]at this
   exact this
  rw[aw.eq]
  simp only[fJ,fR,dm,dD,dF,cO,cM,di,fU,dt,dE,b8,b9,dH,bX,dj,dA,dW,fV,fW,dC,dB,cm,ck,ch,cn,List.nil_append,List.cons_append]
  rw[Int.toNat_natCast,hwi]
  refine Pu.Ok.no (by omega) (Pu.Ok.g (by omega) (Pu.Ok.g (by omega) (Pu.Ok.g (by omega) (Pu.Ok.t (fun h=> ?_) (fun h=> ?_)))))
  ·refine Pu.Ok.dY (cx.is (by omega)) (Pu.Ok.dY (iP.is (by omega)) ?_)
   have e1:Pu.atI p ((i:Int)-1)=p.getD (i-1) 0:=by rw[show(i:Int)-1=((i-1:Nat):Int) by omega,Pu.cq]
   have e2:min (o.getD i 0) (Pu.atI p ((i:Int)-1))=Pu.dx p o i:=by rw[e1];unfold Pu.dx;rw[if_pos (by omega)]
   rw[e2]
   exact hJ
  ·have e2:o.getD i 0=Pu.dx p o i:=by unfold Pu.dx;rw[if_neg (by omega)]
   rw[e2]
   exact hJ
theorem aQ.HJ{k:Nat}{p:LI}(n:Nat)(hn:n≤p.length)(hp:p.length≤1048576):aQ.J2 k n p=some (p.take n):=by
 apply Pu.ok_eq
 rw[aQ.wA]
 simp only[fJ,fR,dm,dD,dF,cO,cM,di,fU,dt,dE,b8,b9,dH,bX,dj,dA,dW,fV,fW,dC,dB,cm,ck,ch,cn,List.nil_append,List.cons_append]
 rw[Int.toNat_natCast,List.drop_zero,Nat.sub_zero]
 exact Pu.Ok.g (by omega) (Pu.Ok.g (by omega) (Pu.Ok.g (by rw[List.length_take];omega) (Pu.Ok.ret rfl)))
theorem aQ.HM{k:Nat}{p:LI}(hp:p.length≤1048576): ∀(n j:Nat),n<j→n≤p.length→aQ.L0 k j n p=some (p.take (Pu.uO p n))
 |n,0,hj,_=>by omega
 |0,j+1,hj,hn=>by
  apply Pu.ok_eq
  rw[aQ.cN]
  simp only[fJ,fR,dm,dD,dF,cO,cM,di,fU,dt,dE,b8,b9,dH,bX,dj,dA,dW,fV,fW,dC,dB,cm,ck,ch,cn,List.nil_append,List.cons_append]
  exact Pu.Ok.no (by omega) (Pu.FQ (aQ.HJ 0 (by omega) hp))
 |n+1,j+1,hj,hn=>by
  apply Pu.ok_eq
  rw[aQ.cN]
  have hw:IntKind.i64.wrap (((n+1:Nat):Int)-1)=(n:Int):=by rw[w64 (by omega) (by omega)];omega
  simp only[fJ,fR,dm,dD,dF,cO,cM,di,fU,dt,dE,b8,b9,dH,bX,dj,dA,dW,fV,fW,dC,dB,cm,ck,ch,cn,List.nil_append,List.cons_append]
  rw[hw,Int.toNat_natCast]
  unfold Pu.uO
  refine Pu.Ok.g (by omega) (Pu.Ok.g (by omega) (Pu.Ok.g (by omega) (Pu.Ok.g (by omega) (Pu.Ok.t (fun h=> ?_) (fun h=> ?_)))))
  ·rw[if_pos h,aQ.wm]
   simp only[fJ,fR,dm,dD,dF,cO,cM,di,fU,dt,dE,b8,b9,dH,bX,dj,dA,dW,fV,fW,dC,dB,cm,ck,ch,cn,List.nil_append,List.cons_append]
   rw[hw]
   exact Pu.FQ (aQ.HM hp n j (by omega) (by omega))
  ·rw[if_neg h]
   exact Pu.FQ (aQ.HJ (n+1) (by omega) hp)
theorem aQ.is{k:Nat}{p:LI}(hk:4194304+1≤k)(hp:p.length≤1048576):aQ k p=some (Pu.iz p):=by
 obtain⟨k,rfl⟩: ∃k',k=k'+1:=⟨k-1,by omega⟩
 rw[aQ.eq]
 exact aQ.HM hp p.length k (by omega) (Nat.le_refl _)
theorem bN.is{m o w:LI}(ho:Pu.bc o=true)(hw: ∀x∈w,0≤x∧x≤9)(hwl:w.length≤9): ∀(ws:LI) (i k:Nat) (p:LI) (kk:Int) (R:LJ),Pu.Gr m o kk p R→p.length≤o.length→(∀j,0≤p.getD j 0∧p.getD j 0≤9)→w.drop i=ws→i+ws.length=w.length→2000000100+2*ws.length≤k→
  bN k p o w i=some (Pu.gu o ws p:Int):=by
 have ho9:=(Pu.aW ho).2.2.1
 intro ws
 induction ws with
 |nil=>
  intro i k p kk R hG hp hp9 hd hi hk
  obtain⟨k,rfl⟩: ∃k',k=k'+1:=⟨k-1,by omega⟩
  apply Pu.ok_eq
  rw[bN.eq,Pu.gu]
  simp only[fJ,fR,dm,dD,dF,cO,cM,di,fU,dt,dE,b8,b9,dH,bX,dj,dA,dW,fV,fW,dC,dB,cm,ck,ch,cn,List.nil_append,List.cons_append]
  rw[List.length_nil]at hi
  refine Pu.Ok.g (by omega) ?_
  refine Pu.Ok.dY (bH.is (by omega) (by omega) fun x hx=>by
   obtain⟨a,ha,rfl⟩:=List.getElem_of_mem hx
   have:=hp9 a
   rw[Pu.ao ha]at this
   omega) ?_
  refine Pu.Ok.dY (bH.is (by omega) (by omega) fun x hx=>by have:=(Pu.aW ho).1 x hx;omega) ?_
  refine Pu.Ok.dY (iX.is (by omega)) (Pu.Ok.ret ?_)
  by_cases h:Pu.aM p=Pu.aM o
  ·rw[if_pos h,if_pos (decide_eq_true h)];rfl
  ·rw[if_neg h,if_neg (by simpa using h)];rfl
 |cons w0 ws ih=>
  intro i k p kk R hG hp hp9 hd hi hk
  obtain⟨k,rfl⟩: ∃k',k=k'+1:=⟨k-1,by omega⟩
  apply Pu.ok_eq
  rw[List.length_cons]at hi hk
  have hiw:i<w.length:=by omega
  have hd2:=Pu.drop_cons hiw (0:Int)
  rw[hd]at hd2
  obtain⟨e1,e2⟩:=List.cons.inj hd2
  have hw0:0≤w0∧w0≤9:=by
   refine hw w0 ?_
   rw[e1,Pu.ao hiw];exact List.getElem_mem _
  have hwsn: ∀x∈w0::ws,0≤x:=fun x hx=>(hw x (by rw[←hd]at hx;exact List.mem_of_mem_drop hx)).1
  have hps:0≤Pu.aM p:=Pu.jf p fun x hx=>by
   obtain⟨a,ha,rfl⟩:=List.getElem_of_mem hx
   have:=hp9 a
   rw[Pu.ao ha]at this
   omega
  have htot:=Pu.count_le ho hG hp hps hwsn
  have hog: ∀j,0≤o.getD j 0∧o.getD j 0≤9:=fun j=>Pu.lY ho j
  have hmost: ∀j,Pu.dx p o j-p.getD j 0≤9:=fun j=>by
   have:=hp9 j
   have:=hog j
   unfold Pu.dx
   split<;>omega
  have hsl:(Pu.cr p o o.length 0 w0).length≤1000000000:=by
   refine Nat.le_trans (Pu.oJ hmost o.length 0 w0) ?_
   have h1:(10:Nat)^o.length≤10^9:=Nat.pow_le_pow_right (by omega) ho9
   have h2:(10:Nat)^9=1000000000:=by decide
   omega
  rw[bN.eq]
  simp only[fJ,fR,dm,dD,dF,cO,cM,di,fU,dt,dE,b8,b9,dH,bX,dj,dA,dW,fV,fW,dC,dB,cm,ck,ch,cn,List.nil_append,List.cons_append]
  rw[Int.toNat_natCast,←e1]
  refine Pu.Ok.no (by omega) (Pu.Ok.g (by omega) (Pu.Ok.g (by omega) (Pu.Ok.g (by omega) ?_)))
  have hst:=aw.is (p:=p) (o:=o) (by omega) ho9 hp9 hog o.length 0 k w0 (by omega) (by omega) hw0.1 hw0.2
  rw[Int.natCast_zero]at hst
  refine Pu.Ok.dY hst ?_
  rw[Pu.gu]at htot⊢
  have hmem: ∀x∈Pu.cr p o o.length 0 w0,x∈Pu.cr p o o.length 0 w0:=fun x hx=>hx
  obtain⟨L,hL⟩: ∃L,L=Pu.cr p o o.length 0 w0:=⟨_,rfl⟩
  rw[←hL]at hsl htot⊢
  have hLm: ∀x∈L,x∈Pu.cr p o o.length 0 w0:=fun x hx=>by rw[←hL];exact hx
  have hwi:IntKind.i64.wrap ((i:Int)+1)=((i+1:Nat):Int):=w64 (by omega) (by omega)
  have loop: ∀(n j r:Nat),r+n=L.length→n<j→Pu.Ok (bN.L0 k j i ((((L.take r).map fun x=>Pu.gu o ws (Pu.iz x)).sum:Nat):Int) r o w L) (· =(((L.map fun x=>Pu.gu o ws (Pu.iz x)).sum:Nat):Int)):=by
   intro n
   induction n with
   |zero=>
    intro j r hr hj
    obtain⟨j,rfl⟩: ∃j',j=j'+1:=⟨j-1,by omega⟩
    rw[bN.cN]
    simp only[fJ,fR,dm,dD,dF,cO,cM,di,fU,dt,dE,b8,b9,dH,bX,dj,dA,dW,fV,fW,dC,dB,cm,ck,ch,cn,List.nil_append,List.cons_append]
    rw[List.take_of_length_le (by omega)]
    exact Pu.Ok.no (by omega) (Pu.Ok.ret rfl)
   |succ n ihn=>
    intro j r hr hj
    obtain⟨j,rfl⟩: ∃j',j=j'+1:=⟨j-1,by omega⟩
    have hlt:r<L.length:=by omega
    have hx:=hLm _ (List.getElem_mem hlt)
    rw[←Pu.ao hlt []]at hx
    obtain⟨x1,x2,x3⟩:=Pu.rK hp hx
    have hx9: ∀j,0≤(L.getD r []).getD j 0∧(L.getD r []).getD j 0≤9:=fun j=>by
     by_cases hj:j<o.length
     ·have h1:=x3 j hj
      have h2:=hp9 j
      have h3:=hog j
      have h4:Pu.dx p o j≤o.getD j 0:=by unfold Pu.dx;split<;>omega
      omega
     ·rw[Pu.aY (by omega)];omega
    have hsum:(((L.take (r+1)).map fun x=>Pu.gu o ws (Pu.iz x)).sum)=((L.take r).map fun x=>Pu.gu o ws (Pu.iz x)).sum+Pu.gu o ws (Pu.iz (L.getD r [])):=by
     rw[Pu.take_succ hlt [],List.map_append,List.sum_append]
     simp
    have hle:(((L.take (r+1)).map fun x=>Pu.gu o ws (Pu.iz x)).sum)≤387420489:=by
     rw[List.map_take]
     exact Nat.le_trans (Pu.yY _ _) htot
    rw[bN.cN]
    simp only[fJ,fR,dm,dD,dF,cO,cM,di,fU,dt,dE,b8,b9,dH,bX,dj,dA,dW,fV,fW,dC,dB,cm,ck,ch,cn,List.nil_append,List.cons_append]
    rw[Int.toNat_natCast]
    refine Pu.Ok.t (fun _=> ?_) (fun h=>absurd (show(r:Int)<(L.length:Nat) by omega) h)
    refine Pu.Ok.g (by omega) (Pu.Ok.g (by omega) (Pu.Ok.g (by omega) (Pu.Ok.g (by omega) ?_)))
    refine Pu.Ok.dY (aQ.is (by omega) (by omega)) ?_
    rw[hwi]
    refine Pu.Ok.dY (ih (i+1) k (Pu.iz (L.getD r [])) (kk+1) _ (hG.next hp hx) (by have:=Pu.wV (L.getD r []);omega) (fun j=>by rw[Pu.kO];exact hx9 j) e2.symm (by omega) (by omega)) ?_
    have hw1:IntKind.i64.wrap (((((L.take r).map fun x=>Pu.gu o ws (Pu.iz x)).sum:Nat):Int)+(Pu.gu o ws (Pu.iz (L.getD r [])):Nat))=((((L.take (r+1)).map fun x=>Pu.gu o ws (Pu.iz x)).sum:Nat):Int):=by
     rw[w64 (by omega) (by omega)];omega
    have hw2:IntKind.i64.wrap ((r:Int)+1)=((r+1:Nat):Int):=w64 (by omega) (by omega)
    rw[hw1,hw2]
    exact ihn j (r+1) (by omega) (by omega)
  exact loop L.length k 0 (by omega) (by omega)
theorem bF.is{k:Nat}{s:LI×LI}{w:LI}(hk:4194304+2000000300≤k)(h1:s.1.length≤1048576)(h2:s.2.length≤1048576)(h3:w.length≤1048576):bF k s w=some (if Pu.aX s.2 s.1=true∧Pu.ju w=true∧Pu.aM w=Pu.aM s.1-Pu.aM s.2 then((Pu.nC s.2 s.1 w).length:Int)else 0):=by
 obtain⟨k,rfl⟩: ∃k',k=k'+1:=⟨k-1,by omega⟩
 apply Pu.ok_eq
 rw[bF.eq]
 refine Pu.Ok.dY (gw.is (s:=s) (by omega) h1 h2) ?_
 simp only[fJ,fR,dm,dD,dF,cO,cM,di,fU,dt,dE,b8,b9,dH,bX,dj,dA,dW,fV,fW,dC,dB,cm,ck,ch,cn,List.nil_append,List.cons_append]
 refine Pu.Ok.tn (fun hb=>by rw[if_neg (fun h=>by rw[h.1]at hb;cases hb)];exact Pu.Ok.ret rfl) (fun hb=> ?_)
 refine Pu.Ok.dY (bO.is (by omega) h3) ?_
 refine Pu.Ok.tn (fun hc=>by rw[if_neg (fun h=>by rw[h.2.1]at hc;cases hc)];exact Pu.Ok.ret rfl) (fun hc=> ?_)
 obtain⟨i1,i2,i3,i4⟩:=Pu.eQ hb
 obtain⟨w1,w2⟩:=Pu.ox hc
 rw[bF.my]
 have h:=bN.is (m:=s.2) i2 w2 w1 w 0 k s.2 1 _ (Pu.gr0 hb) i3 (fun j=>Pu.lY i1 j) rfl (by omega) (by omega)
 rw[Int.natCast_zero]at h
 refine Pu.Ok.dY h (Pu.Ok.ret ?_)
 rw[Pu.zN hb fun x hx=>(w2 x hx).1]
 by_cases hs:Pu.aM w=Pu.aM s.1-Pu.aM s.2
 ·rw[if_pos hs,if_pos ⟨hb,hc,hs⟩]
 ·rw[if_neg hs,if_neg (fun h=>hs h.2.2)];rfl
theorem ct.is{k:Nat}{x lo hi:Int}(hk:1≤k):ct k x lo hi=some (Pu.within x lo hi):=by
 obtain⟨k,rfl⟩: ∃k',k=k'+1:=⟨k-1,by omega⟩
 rw[ct.eq]
 by_cases h:lo≤x<;>simp[Pu.within,h]
theorem az.loop{k:Nat}{p:LI}(hk:4194304≤k)(hp:p.length≤1048576): ∀(m j i:Nat) (s v:Int),i+m=p.length→m<j→(i=0→v=9)→(0<i→v=p.getD (i-1) 0)→v≤9→0≤s→s≤9→
  az.L0 k j s p.length i p=some (Pu.gq (p.drop i) v s)
 |m,0,i,s,v,_,hj,_,_,_,_,_=>by omega
 |0,j+1,i,s,v,hi,_,_,_,_,_,_=>by
  rw[az.cN]
  have e:i=p.length:=by omega
  subst e
  simp[Pu.gq]
 |m+1,j+1,i,s,v,hi,hj,h0,h1,hv,hs,hs9=>by
  rw[az.cN]
  have hlt:i<p.length:=by omega
  have hj1: ∀x:Int,x=p.getD i 0→1≤x→x≤v→az.J1 k j s x p.length i p=some (decide (s+x≤9)&&Pu.gq (p.drop (i+1)) x (s+x)):=by
   intro x hx hx1 hx2
   rw[az.wm]
   simp (disch:=omega) only[↓aR,sss,if_true,if_false]
   by_cases c:9<s+x
   ·have: ¬s+x≤9:=by omega
    simp[c,this]
   ·have c':s+x≤9:=by omega
    have ih:=az.loop hk hp m j (i+1) (s+x) x (by omega) (by omega) (by omega) (by simp[hx]) (by omega) (by omega) c'
    rw[Int.natCast_succ]at ih
    simp[c,c',ih]
  rw[Pu.drop_cons hlt 0]
  simp (disch:=omega) only[↓aR,sss,if_true,if_false,hlt,ct.is,Pu.gq]
  generalize hx:p.getD i 0=x at*
  unfold Pu.within
  by_cases c1:1≤x
  ·by_cases c2:x≤v
   ·have c3:x≤9:=by omega
    have hj:=hj1 x rfl c1 c2
    by_cases hi0:i=0
    ·have hpos: ¬(0:Int)<i:=by omega
     simp (disch:=omega) only[↓aR,sss,if_true,if_false,c1,c2,c3,hpos,hj]
    ·have hv':=h1 (by omega)
     have e:((i:Int)-1)=((i-1:Nat):Int):=by omega
     have hlt':i-1<p.length:=by omega
     have hge: ¬p.getD (i-1) 0<x:=by rw[←hv'];omega
     have hpos:(0:Int)<i:=by omega
     simp (disch:=omega) only[e,↓aR,sss,if_true,if_false,hlt',c1,c2,c3,hj,hpos,hge]
   ·simp only[c1,c2,↓aR,sss,if_true,if_false]
    by_cases c3:x≤9
    ·have hi0:0<i:=by
      rcases Nat.eq_zero_or_pos i with h|h
      ·have:=h0 h;omega
      ·exact h
     have hv':=h1 hi0
     have e:((i:Int)-1)=((i-1:Nat):Int):=by omega
     have hlt':i-1<p.length:=by omega
     have hge:p.getD (i-1) 0<x:=by rw[←hv'];omega
     have hpos:(0:Int)<i:=by omega
     simp (disch:=omega) only[e,↓aR,sss,if_true,if_false,hlt',c3,hpos,hge]
    ·simp only[c3,↓aR,sss,if_true,if_false]
  ·simp only[c1,↓aR,sss,if_true,if_false]
theorem az.is{k:Nat}{p:LI}(hk:4194304+1≤k)(hp:p.length≤1048576):az k p=some (Pu.bc p):=by
 obtain⟨k,rfl⟩: ∃k',k=k'+1:=⟨k-1,by omega⟩
 rw[az.eq]
 exact az.loop (k:=k) (by omega) hp p.length k 0 0 9 (by omega) (by omega) (fun _=>rfl) (by omega) (by omega) (by omega) (by omega)
theorem dX.is{k:Nat}{p:LI}{i:Int}(hk:2≤k)(hp:p.length≤1048576):dX k p i=some (Pu.atI p i):=by
 obtain⟨k,rfl⟩: ∃k',k=k'+1:=⟨k-1,by omega⟩
 rw[dX.eq,ct.is (by omega)]
 unfold Pu.within
 by_cases h1:0≤i
 ·have h0: ¬i<0:=by omega
  by_cases h2:i≤(p.length:Int)-1
  ·have h4:i.toNat<p.length:=by omega
   simp (disch:=omega) only[↓aR,sss,if_true,if_false,h0,h1,h2,h4,Pu.atI]
  ·simp (disch:=omega) only[↓aR,sss,if_true,if_false,h1,h2,Pu.yE (p:=p) (i:=i) (by omega)]
 ·simp (disch:=omega) only[↓aR,sss,if_true,if_false,h1,Pu.pn (p:=p) (i:=i) (by omega)]
theorem ba.loop{k:Nat}{q p:LI}(hq:q.length≤1048576)(hp:p.length≤1048576)(hk:4194304+2≤k):ba.L1 k k q.length 0 p q=some ((List.range' 0 q.length).all fun i=>decide (q.getD i 0≤p.getD i 0)):=by
 have h:=Pu.mE (fun j i=>ba.L1 k j q.length (i:Int) p q) q.length (fun i=>decide (q.getD i 0≤p.getD i 0)) (some false) (some true)
  (fun j i hi=>by
   rw[ba.lJ,dX.is (by omega) hp,Pu.cq]
   simp (disch:=omega) only[↓aR,sss,if_true,if_false,hi,Int.natCast_add,Int.natCast_one]
   by_cases c:q.getD i 0≤p.getD i 0
   ·have c': ¬p.getD i 0<q.getD i 0:=by omega
    simp only[c,c',↓aR,sss,if_true,if_false]
   ·have c':p.getD i 0<q.getD i 0:=by omega
    simp only[c,c',↓aR,sss,if_true,if_false])
  (fun j=>by
   rw[ba.lJ]
   simp only[↓aR,sss,if_true,if_false,Nat.lt_irrefl]) q.length k 0 (by omega) (by omega)
 simp only[Int.natCast_zero]at h
 rw[h]
 cases(List.range' 0 q.length).all fun i=>decide (q.getD i 0≤p.getD i 0)<;>simp
theorem ba.is{k:Nat}{q p:LI}(hk:4194304+3≤k)(hq:q.length≤1048576)(hp:p.length≤1048576):ba k q p=some (Pu.aX q p):=by
 obtain⟨k,rfl⟩: ∃k',k=k'+1:=⟨k-1,by omega⟩
 rw[ba.eq,az.is (by omega) hq,b7,ba.my,Pu.lW]
 cases c1:Pu.bc q with
 |false=>simp only[↓aR,sss,if_true,if_false]
 |true=>
  simp only[↓aR,sss,if_true,if_false]
  rw[az.is (by omega) hp,b7]
  cases c2:Pu.bc p with
  |false=>simp only[↓aR,sss,if_true,if_false]
  |true=>
   simp only[↓aR,sss,if_true,if_false]
   exact ba.loop hq hp (by omega)
theorem dq.is{k:Nat}{s:LI×LI}(hk:4194304+4≤k)(hq:s.1.length≤1048576)(hp:s.2.length≤1048576):dq k s=some (Pu.aX s.2 s.1):=by
 obtain⟨k,rfl⟩: ∃k',k=k'+1:=⟨k-1,by omega⟩
 rw[dq.eq,ba.is (by omega) hp hq]
 rfl
theorem dz.is{k:Nat}{x:Int}(hk:2≤k):dz k x=some (!Pu.within x 0 9,()):=by
 obtain⟨k,rfl⟩: ∃k',k=k'+1:=⟨k-1,by omega⟩
 rw[dz.eq,ct.is (by omega)]
 rfl
theorem al.is{k:Nat}{r:LI}(hk:4194304+1≤k)(hr:r.length≤1048577):al k r=some (Pu.Dy (fun y=> !Pu.within y 0 9) r,()):=by
 obtain⟨k,rfl⟩: ∃k',k=k'+1:=⟨k-1,by omega⟩
 rw[al.eq]
 have h:=Pu.zu r 0 (fun y=> !Pu.within y 0 9) (fun j i=>al.L0 k j r.length i r) (fun i=>some ((i:Int),())) (some (-1,()))
  (fun j i hi=>by
   rw[al.cN,dz.is (by omega)]
   cases c:Pu.within (r.getD i 0) 0 9<;>simp (disch:=omega) only[↓aR,sss,if_true,if_false,hi,c,Int.natCast_add,Int.natCast_one])
  (fun j=>by
   rw[al.cN]
   simp only[↓aR,sss,if_true,if_false,Nat.lt_irrefl]) r.length k 0 (by omega) (by omega) (by omega)
 simp only[Int.natCast_zero]at h
 simp only[cM,cO]
 rw[h]
 unfold Pu.Dy
 split<;>rfl
theorem aJ.is{k:Nat}{r:LI}(hk:4194304+2≤k)(hr:r.length≤1048577):aJ k r=some (r.any fun y=> !Pu.within y 0 9,()):=by
 obtain⟨k,rfl⟩: ∃k',k=k'+1:=⟨k-1,by omega⟩
 rw[aJ.eq,al.is (by omega) hr,b7,fR,Pu.EL]
theorem fA.is{k:Nat}{w:LI}(hk:4194304+3≤k)(hw:w.length≤1048576):fA k w=some (Pu.ju w):=by
 obtain⟨k,rfl⟩: ∃k',k=k'+1:=⟨k-1,by omega⟩
 rw[fA.eq,aJ.is (by omega) (by omega),b7]
 unfold Pu.ju
 have e:(!w.any fun y=> !Pu.within y 0 9)=w.all fun n=>Pu.within n 0 9:=by rw[List.all_eq_not_any_not]
 by_cases c:w.length≤9
 ·have c':(w.length:Int)≤9:=by omega
  simp only[↓aR,sss,if_true,if_false,c,c',e]
 ·have c': ¬(w.length:Int)≤9:=by omega
  simp only[↓aR,sss,if_true,if_false,c,c']
theorem cG.loop{k:Nat}{w:LI}(hw:w.length≤1048576)(hb: ∀x∈w,-1000000≤x∧x≤1000000): ∀(m j i:Nat) (s:Int),i+m=w.length→m<j→ -1000000*i≤s→s≤1000000*i→cG.L0 k j s w.length i w=some (s+Pu.aM (w.drop i))
 |m,0,i,s,_,hj,_,_=>by omega
 |0,j+1,i,s,hm,_,_,_=>by
  rw[cG.cN]
  have e:i=w.length:=by omega
  subst e
  simp[Pu.aM]
 |m+1,j+1,i,s,hm,hj,hs1,hs2=>by
  rw[cG.cN]
  have hlt:i<w.length:=by omega
  have hx:=hb _ (List.getElem_mem hlt)
  rw[←Pu.ao hlt 0]at hx
  have ih:=cG.loop (k:=k) hw hb m j (i+1) (s+w.getD i 0) (by omega) (by omega) (by omega) (by omega)
  rw[Int.natCast_succ]at ih
  rw[Pu.drop_cons hlt 0]
  simp (disch:=omega) only[↓aR,sss,if_true,if_false,hlt,ih,Pu.aM,Int.add_assoc]
theorem cG.is{k:Nat}{w:LI}(hk:4194304+1≤k)(hw:w.length≤1048576)(hb: ∀x∈w,-1000000≤x∧x≤1000000):cG k w=some (Pu.aM w):=by
 obtain⟨k,rfl⟩: ∃k',k=k'+1:=⟨k-1,by omega⟩
 rw[cG.eq]
 have h:=cG.loop (k:=k) hw hb w.length k 0 0 (by omega) (by omega) (by omega) (by omega)
 rw[Int.natCast_zero]at h
 simp only[cM,cO]
 rw[h,Int.zero_add,List.drop_zero]
theorem eZ.is{k:Nat}{s:LI×LI}(hk:4194304+5≤k)(h1:s.1.length≤1048576)(h2:s.2.length≤1048576):eZ k s=some (if Pu.aX s.2 s.1=true then Pu.aM s.1-Pu.aM s.2 else-1):=by
 obtain⟨k,rfl⟩: ∃k',k=k'+1:=⟨k-1,by omega⟩
 apply Pu.ok_eq
 rw[eZ.eq]
 refine Pu.Ok.dY (dq.is (s:=s) (by omega) h1 h2) ?_
 simp only[fJ,fR,dm,dD,dF,cO,cM,di,fU,dt,dE,b8,b9,dH,bX,dj,dA,dW,fV,fW,dC,dB,cm,ck,ch,cn,List.nil_append,List.cons_append]
 refine Pu.Ok.tn (fun hb=>by rw[hb];exact Pu.Ok.ret rfl) (fun hb=> ?_)
 rw[hb]
 obtain⟨i1,i2,i3,i4⟩:=Pu.eQ hb
 have b1:=Pu.aW i1
 have b2:=Pu.aW i2
 have n1:=Pu.jf s.1 fun x hx=>by have:=b2.1 x hx;omega
 have n2:=Pu.jf s.2 fun x hx=>by have:=b1.1 x hx;omega
 refine Pu.Ok.dY (cG.is (by omega) h1 fun x hx=>by have:=b2.1 x hx;omega) ?_
 refine Pu.Ok.dY (cG.is (by omega) h2 fun x hx=>by have:=b1.1 x hx;omega) ?_
 have hw:IntKind.i64.wrap (Pu.aM s.1-Pu.aM s.2)=Pu.aM s.1-Pu.aM s.2:=w64 (by omega) (by omega)
 rw[hw]
 exact Pu.Ok.ret rfl
theorem aZ.is{k:Nat}{a:LI}(hk:1≤k)(ha:a.length≤1099511627776):aZ k a=some a:=by
 obtain⟨k,rfl⟩: ∃k',k=k'+1:=⟨k-1,by omega⟩
 rw[aZ.eq]
 by_cases h:a.length=0
 ·have:a= []:=List.eq_nil_of_length_eq_zero h
  subst this
  simp[Hd,DF]
 ·simp[h,ha]
theorem aU.loop{k:Nat}{t:Pu.Tab}{x3 x4:LI}{x5:LJ}(hk:1≤k)(ht:t.2.length≤1048576)(hr: ∀x∈t.2,x.length≤1048576): ∀(m j i:Nat),i+m=t.2.length→m<j→
  aU.L0 k j t.2.length i t.2 x3 x5 x4 (t.2.take i)=some (x4,t.2)
 |m,0,i,_,hj=>by omega
 |0,j+1,i,hm,_=>by
  rw[aU.cN]
  have e:i=t.2.length:=by omega
  subst e
  simp
 |m+1,j+1,i,hm,hj=>by
  rw[aU.cN]
  have hlt:i<t.2.length:=by omega
  have hx:=hr _ (List.getElem_mem hlt)
  rw[←Pu.ao hlt []]at hx
  have ih:=aU.loop (k:=k) (x3:=x3) (x4:=x4) (x5:=x5) hk ht hr m j (i+1) (by omega) (by omega)
  rw[Int.natCast_succ,Pu.take_succ hlt []]at ih
  have hl:(t.2.take i++ [t.2.getD i []]).length≤1099511627776:=by simp;omega
  simp (disch:=omega) only[↓aR,sss,if_true,if_false,hlt,hl,aZ.is,ih]
theorem aU.is{k:Nat}{t:Pu.Tab}(hk:4194304+1≤k)(h1:t.1.length≤1048576)(ht:t.2.length≤1048576)(hr: ∀x∈t.2,x.length≤1048576):aU k t=some t:=by
 obtain⟨k,rfl⟩: ∃k',k=k'+1:=⟨k-1,by omega⟩
 rw[aU.eq,aZ.is (by omega) (by omega)]
 have h:=aU.loop (k:=k) (t:=t) (x3:= []) (x4:=t.1) (x5:= []) (by omega) ht hr t.2.length k 0 (by omega) (by omega)
 rw[Int.natCast_zero,List.take_zero]at h
 exact h
theorem bP.is{k:Nat}{t:Pu.Tab}{r c:Int}(hk:3≤k)(hi:Pu.bc t.1=true)(ht:t.2.length≤1048576)(hr: ∀x∈t.2,x.length≤1048576)(h1: -1000000000≤c)(h2:c≤1000000000):bP k t r c=some (Pu.entry t r c):=by
 obtain⟨k,rfl⟩: ∃k',k=k'+1:=⟨k-1,by omega⟩
 have hb:=Pu.dO hi r
 have h9:=(Pu.aW hi).2.2.1
 rw[bP.eq,ct.is (by omega)]
 unfold Pu.entry Pu.within
 by_cases c1:r<0
 ·have c1': ¬0≤r:=by omega
  simp (disch:=omega) only[↓aR,sss,if_true,if_false,c1,c1']
 ·have c3:0≤r:=by omega
  by_cases c2:(t.2.length:Int)≤r
  ·have c2': ¬r≤(t.2.length:Int)-1:=by omega
   simp (disch:=omega) only[↓aR,sss,if_true,if_false,c1,c3,c2,c2']
  ·have c2':r≤(t.2.length:Int)-1:=by omega
   have c4:r.toNat<t.2.length:=by omega
   have hx:=hr _ (List.getElem_mem c4)
   rw[←Pu.ao c4 []]at hx
   simp (disch:=omega) only[↓aR,sss,if_true,if_false,c1,c2,c2',c3,c4,dX.is]
theorem ag.loop{m o ws:LI}{w:Int}{k l B:Nat}{kk:Int}{rest:LJ→List Pu.Tab}(hm:Pu.bc m=true)(ho:Pu.bc o=true)(hk:100≤k)(k1:1≤kk)(k2:kk≤99)(hl:l≤9)(hB: ∀R,(rest R).length≤B)
  (ih: ∀(row:Nat) (R:LJ) (out:List Pu.Tab),Pu.nA m o R→row≤o.length→out.length+(o.length-row)^l*B≤1099511627776→
   ag k row l kk m R out o m (w::ws)=some ((),(m,(R,((),((),((),((),(kk,((),((),((),out++Pu.ku m o kk rest l (o.length-row) row R)))))))))))):
  ∀(q j i:Nat) (R:LJ) (out:List Pu.Tab),Pu.nA m o R→i+q=o.length→q<j→out.length+q^(l+1)*B≤1099511627776→
   Pu.Ok (ag.L0 k j ((l+1:Nat):Int) i kk m R o m (w::ws) out) (· =((),(m,(R,((),((),((),((),(kk,((),((),((),out++Pu.ku m o kk rest (l+1) q i R))))))))))))
 |q,0,i,R,out,_,_,hj,_=>by omega
 |0,j+1,i,R,out,hR,hi,_,_=>by
  rw[ag.cN,Pu.oZ,List.append_nil]
  simp only[fJ,fR,dm,dD,dF,cO,cM,di,fU,dt,dE,b8,b9,dH,bX,dj,dA,dW,fV,fW,dC,dB,cm,ck,ch,cn,List.nil_append,List.cons_append]
  exact Pu.Ok.no (by omega) (Pu.Ok.ret rfl)
 |q+1,j+1,i,R,out,hR,hi,hj,hlen=>by
  have hmo:=hR.2 i (by omega)
  have hRl:=hR.1
  have ho9:=(Pu.aW ho).2.2.1
  have hmi:=Pu.dO hm i
  have hoi:=Pu.dO ho i
  rw[Pu.cq]at hmi hoi
  have hs:(q+1)^(l+1)*B=(q+1)^l*B+(q+1)^l*B*q:=by rw[Nat.pow_succ,Nat.mul_assoc,Nat.mul_comm (q+1) B,←Nat.mul_assoc,Nat.mul_succ,Nat.add_comm]
  have hs2:q^(l+1)*B≤(q+1)^l*B*q:=by
   have:q^l≤(q+1)^l:=Nat.pow_le_pow_left (by omega) l
   calc q^(l+1)*B=q^l*(B*q):=by rw[Nat.pow_succ,Nat.mul_assoc,Nat.mul_comm q B]
    _≤(q+1)^l*(B*q):=Nat.mul_le_mul_right _ this
    _=(q+1)^l*B*q:=by rw[Nat.mul_assoc]
  obtain⟨col,hcol⟩: ∃col,col=Pu.ew m R i:=⟨_,rfl⟩
  have hcol':m.getD i 0+((R.getD i []).length:Int)=col:=by rw[hcol];rfl
  have hw1:IntKind.i64.wrap ((i:Int)+1)=((i+1:Nat):Int):=w64 (by omega) (by omega)
  have hwm:IntKind.i64.wrap ((i:Int)-1)=(i:Int)-1:=w64 (by omega) (by omega)
  have hwc:IntKind.i64.wrap (m.getD i 0+((R.getD i []).length:Int))=col:=by rw[hcol'];exact w64 (by omega) (by omega)
  have hwl:IntKind.i64.wrap ((((l+1:Nat):Nat):Int)-1)=(l:Int):=by rw[w64 (by omega) (by omega)];omega
  have next: ∀out':List Pu.Tab,out'.length+q^(l+1)*B≤1099511627776→Pu.Ok (ag.J2 k j ((l+1:Nat):Int) i kk m R o m (w::ws) out') (· =((),(m,(R,((),((),((),((),(kk,((),((),((),out'++Pu.ku m o kk rest (l+1) q (i+1) R)))))))))))):=fun out' ho'=>by
   rw[ag.wA]
   simp only[fJ,fR,dm,dD,dF,cO,cM,di,fU,dt,dE,b8,b9,dH,bX,dj,dA,dW,fV,fW,dC,dB,cm,ck,ch,cn,List.nil_append,List.cons_append]
   rw[hw1]
   exact ag.loop hm ho hk k1 k2 hl hB ih q j (i+1) R out' hR (by omega) (by omega) ho'
  have hJ: ∀b:Bool,(decide (col=o.getD i 0)||b)=Pu.shut m o kk R i→Pu.Ok (ag.J1 k j ((l+1:Nat):Int) i col b kk m R o m (w::ws) out) (· =((),(m,(R,((),((),((),((),(kk,((),((),((),out++Pu.ku m o kk rest (l+1) (q+1) i R)))))))))))):=fun b hb=>by
   rw[ag.wm,Pu.oQ]
   simp only[fJ,fR,dm,dD,dF,cO,cM,di,fU,dt,dE,b8,b9,dH,bX,dj,dA,dW,fV,fW,dC,dB,cm,ck,ch,cn,List.nil_append,List.cons_append]
   rw[Int.toNat_natCast]
   refine Pu.Ok.g (by omega) (Pu.Ok.g (by omega) (Pu.Ok.g (by omega) (Pu.Ok.t (fun h=> ?_) (fun h=> ?_))))
   ·rw[←hb,decide_eq_true h,Bool.true_or,if_pos rfl,List.nil_append]
    exact next out (by omega)
   ·refine Pu.Ok.tb (fun h'=> ?_) (fun h'=> ?_)
    ·subst h'
     rw[←hb,Bool.or_true,if_pos rfl,List.nil_append]
     exact next out (by omega)
    ·subst h'
     have hsh:Pu.shut m o kk R i=false:=by rw[←hb,decide_eq_false h];rfl
     rw[hsh,if_neg (by decide)]
     have hpush:=Pu.Cu hR (by omega) hsh
     have hrow:((R.getD i []).length:Int)≤9:=by omega
     have hrow':((Pu.cL kk R i).getD i []).length=(R.getD i []).length+1:=by rw[Pu.gA,if_pos ⟨rfl,by omega⟩,List.length_append,List.length_singleton]
     have hpl:=Pu.iD kk R i
     rw[ag.HA]
     simp only[fJ,fR,dm,dD,dF,cO,cM,di,fU,dt,dE,b8,b9,dH,bX,dj,dA,dW,fV,fW,dC,dB,cm,ck,ch,cn,List.nil_append,List.cons_append]
     rw[Int.toNat_natCast]
     have hin:(R.getD i []++ [kk]).length≤1099511627776:=by rw[List.length_append,List.length_singleton];omega
     refine Pu.Ok.g (by omega) (Pu.Ok.g (by omega) (Pu.Ok.g (by omega) (Pu.Ok.g (by omega) (Pu.Ok.g hin (Pu.Ok.g (by omega) (Pu.Ok.g (by omega) (Pu.Ok.g (by omega) (Pu.Ok.g trivial ?_))))))))
     rw[hwl]
     have hcall:=ih i (Pu.cL kk R i) out hpush (by omega) (by rw[show o.length-i=q+1 by omega];omega)
     have hlp:=Pu.q7 (m:=m) (o:=o) (k:=kk) hB l (q+1) i (Pu.cL kk R i)
     refine Pu.Ok.dY hcall ?_
     have hwt:IntKind.i64.wrap ((((Pu.cL kk R i).getD i []).length:Int)-1)=((R.getD i []).length:Int):=by rw[hrow',w64 (by omega) (by omega)];omega
     simp only[hwt,Int.toNat_natCast,Nat.sub_zero,List.drop_zero,Pu.DA kk (show i<R.length by omega)]
     refine Pu.Ok.g (by omega) (Pu.Ok.g (by omega) (Pu.Ok.g (by omega) (Pu.Ok.g (by omega) (Pu.Ok.g (by omega) (Pu.Ok.g (by omega) (Pu.Ok.g (by omega) (Pu.Ok.g (by omega) (Pu.Ok.g (by omega) (Pu.Ok.g (by omega) (Pu.Ok.g (by omega) (Pu.Ok.g (by omega) (Pu.Ok.g (by omega) (Pu.Ok.g (by omega) (Pu.Ok.g trivial ?_))))))))))))))
     rw[show o.length-i=q+1 by omega,←List.append_assoc]
     exact next _ (by rw[List.length_append];omega)
  have hrl: ∀x∈R,x.length≤1048576:=fun x hx=>by
   obtain⟨a,ha,rfl⟩:=List.getElem_of_mem hx
   have h1:=hR.2 a (by omega)
   have h2:=Pu.dO hm a
   have h3:=Pu.dO ho a
   rw[Pu.cq]at h2 h3
   unfold Pu.ew at h1
   rw[Pu.ao ha []]at h1
   omega
  have hm9:=(Pu.aW hm).2.2.1
  rw[ag.cN]
  simp only[fJ,fR,dm,dD,dF,cO,cM,di,fU,dt,dE,b8,b9,dH,bX,dj,dA,dW,fV,fW,dC,dB,cm,ck,ch,cn,List.nil_append,List.cons_append]
  rw[Int.toNat_natCast]
  refine Pu.Ok.t (fun _=> ?_) (fun hn=>absurd (show(i:Int)<(o.length:Nat) by omega) hn)
  refine Pu.Ok.dY (dX.is (by omega) (by omega)) ?_
  rw[Pu.cq]
  refine Pu.Ok.g (by omega) (Pu.Ok.g (by omega) (Pu.Ok.g (by omega) (Pu.Ok.g (by omega) ?_)))
  simp only[hwc,hwm]
  refine Pu.Ok.dY (bP.is (t:=(m,R)) (by omega) hm (by show R.length≤_;omega) hrl (by omega) (by omega)) ?_
  refine Pu.Ok.t (fun h0=> ?_) (fun h0=> ?_)
  ·refine Pu.Ok.dY (dX.is (by omega) (by omega)) ?_
   have e1:Pu.atI m ((i:Int)-1)=m.getD (i-1) 0:=by rw[show(i:Int)-1=((i-1:Nat):Int) by omega,Pu.cq]
   rw[e1]
   refine Pu.Ok.t (fun h1=> ?_) (fun h1=> ?_)
   ·refine Pu.Ok.t (fun h2=> ?_) (fun h2=> ?_)
    ·refine hJ true ?_
     unfold Pu.shut
     rw[←hcol,decide_eq_true (show 0<i by omega),decide_eq_true h1,decide_eq_true h2]
     simp
    ·refine hJ _ ?_
     unfold Pu.shut
     rw[←hcol,decide_eq_true (show 0<i by omega),decide_eq_true h1,decide_eq_false h2]
     simp
   ·refine hJ false ?_
    unfold Pu.shut
    rw[←hcol,decide_eq_false h1]
    simp
  ·refine hJ false ?_
   unfold Pu.shut
   rw[←hcol,decide_eq_false (show¬0<i by omega)]
   simp
theorem ag.put{m o ws:LI}{w:Int}{F B:Nat}{kk:Int}(hm:Pu.bc m=true)(ho:Pu.bc o=true)(k1:1≤kk)(k2:kk≤99)(hB: ∀R,(Pu.jt m o ws (kk+1) R).length≤B)(hF:100≤F)(hFo:o.length<F)
  (ihG: ∀(k:Nat) (R:LJ) (out:List Pu.Tab),F≤k→Pu.nA m o R→out.length+B≤1099511627776→aK k (kk+1) m R out o m ws=some ((),(m,(R,out++Pu.jt m o ws (kk+1) R)))):
  ∀(l k row:Nat) (R:LJ) (out:List Pu.Tab),F+1+l≤k→l≤9→Pu.nA m o R→row≤o.length→out.length+(o.length-row)^l*B≤1099511627776→
   ag k row l kk m R out o m (w::ws)=some ((),(m,(R,((),((),((),((),(kk,((),((),((),out++Pu.ku m o kk (Pu.jt m o ws (kk+1)) l (o.length-row) row R))))))))))):=by
 intro l
 induction l with
 |zero=>
  intro k row R out hk _ hR hrow hlen
  obtain⟨k,rfl⟩: ∃k',k=k'+1:=⟨k-1,by omega⟩
  apply Pu.ok_eq
  rw[ag.eq,Pu.kP]
  simp only[fJ,fR,dm,dD,dF,cO,cM,di,fU,dt,dE,b8,b9,dH,bX,dj,dA,dW,fV,fW,dC,dB,cm,ck,ch,cn,List.nil_append,List.cons_append]
  have hw:IntKind.i64.wrap (kk+1)=kk+1:=w64 (by omega) (by omega)
  have e:List.take ((w::ws).length-Int.toNat 1) (List.drop (Int.toNat 1) (w::ws))=ws:=by
   show List.take (ws.length+1-1) ws=ws
   exact List.take_of_length_le (by omega)
  refine Pu.Ok.g (by simp) (Pu.Ok.g (by omega) (Pu.Ok.g (by show 1≤ws.length+1;omega) ?_))
  rw[hw,e]
  refine Pu.Ok.dY (ihG k R out (by omega) hR (by simpa using hlen)) (Pu.Ok.ret rfl)
 |succ l ih=>
  intro k row R out hk hl hR hrow hlen
  obtain⟨k,rfl⟩: ∃k',k=k'+1:=⟨k-1,by omega⟩
  apply Pu.ok_eq
  rw[ag.eq]
  simp only[fJ,fR,dm,dD,dF,cO,cM,di,fU,dt,dE,b8,b9,dH,bX,dj,dA,dW,fV,fW,dC,dB,cm,ck,ch,cn,List.nil_append,List.cons_append]
  refine Pu.Ok.no (by omega) ?_
  refine ag.loop hm ho (by omega) k1 k2 (by omega) hB (fun row R out h1 h2 h3=>ih k row R out (by omega) (by omega) h1 h2 h3) (o.length-row) k row R out hR (by omega) (by omega) hlen
theorem ag.grow{m o:LI}(hm:Pu.bc m=true)(ho:Pu.bc o=true): ∀(ws:LI) (k:Nat) (kk:Int) (R:LJ) (out:List Pu.Tab),4194304+30+14*ws.length≤k→1≤kk→kk+ws.length≤99→(∀w∈ws,0≤w∧w≤9)→Pu.nA m o R→
  out.length+o.length^Pu.eV ws≤1099511627776→aK k kk m R out o m ws=some ((),(m,(R,out++Pu.jt m o ws kk R))):=by
 have ho9:=(Pu.aW ho).2.2.1
 have hm9:=(Pu.aW hm).2.2.1
 have hrl: ∀R,Pu.nA m o R→ ∀x∈R,x.length≤1048576:=fun R hR x hx=>by
  obtain⟨a,ha,rfl⟩:=List.getElem_of_mem hx
  have h1:=hR.2 a (by have:=hR.1;omega)
  have h2:=Pu.dO hm a
  have h3:=Pu.dO ho a
  rw[Pu.cq]at h2 h3
  unfold Pu.ew at h1
  rw[Pu.ao ha []]at h1
  omega
 intro ws
 induction ws with
 |nil=>
  intro k kk R out hk _ _ _ hR hlen
  obtain⟨k,rfl⟩: ∃k',k=k'+2:=⟨k-2,by omega⟩
  apply Pu.ok_eq
  rw[aK.eq]
  simp only[fJ,fR,dm,dD,dF,cO,cM,di,fU,dt,dE,b8,b9,dH,bX,dj,dA,dW,fV,fW,dC,dB,cm,ck,ch,cn,List.nil_append,List.cons_append]
  refine Pu.Ok.g rfl ?_
  refine Pu.Ok.dY (aU.is (t:=(m,R)) (by omega) (by show m.length≤_;omega) (by show R.length≤_;have:=hR.1;omega) (hrl R hR)) ?_
  refine Pu.Ok.g ?_ (Pu.Ok.ret rfl)
  rw[List.length_append]
  simpa[Pu.eV]using hlen
 |cons w ws ihw=>
  intro k kk R out hk hk1 hk2 hw hR hlen
  obtain⟨k,rfl⟩: ∃k',k=k'+2:=⟨k-2,by omega⟩
  obtain⟨w0,w9⟩:=hw w (by simp)
  have e:Pu.eV (w::ws)=w.toNat+Pu.eV ws:=by simp[Pu.eV]
  rw[e,Nat.pow_add]at hlen
  rw[List.length_cons]at hk hk2
  apply Pu.ok_eq
  rw[aK.eq]
  simp only[fJ,fR,dm,dD,dF,cO,cM,di,fU,dt,dE,b8,b9,dH,bX,dj,dA,dW,fV,fW,dC,dB,cm,ck,ch,cn,List.nil_append,List.cons_append]
  refine Pu.Ok.no (by rw[List.length_cons];omega) ?_
  refine Pu.Ok.g (by omega) (Pu.Ok.g (by simp) (Pu.Ok.g (by simp) ?_))
  have hB: ∀R,(Pu.jt m o ws (kk+1) R).length≤o.length^Pu.eV ws:=fun R=>Pu.mP m o ws (kk+1) R
  have h:=ag.put (w:=w) (ws:=ws) (F:=4194304+30+14*ws.length) hm ho hk1 (by omega) hB (by omega) (by omega)
   (fun k R out h1 h2 h3=>ihw k (kk+1) R out h1 (by omega) (by omega) (fun x hx=>hw x (by simp[hx])) h2 h3) w.toNat (k+1) 0 R out (by omega) (by omega) hR (by omega) (by simpa using hlen)
  have e2:(w::ws).getD (Int.toNat 0) 0=((w.toNat:Nat):Int):=by show w=_;omega
  rw[e2]
  rw[Int.natCast_zero]at h
  refine Pu.Ok.dY h (Pu.Ok.ret ?_)
  rfl
theorem bq.loop{k:Nat}{t:Pu.Tab}{x3 x4:LI}(hk:4194304+4≤k)(hi:Pu.bc t.1=true)(h2:t.2.length≤1048576)(hr: ∀x∈t.2,x.length≤1048576): ∀(m j i:Nat) (acc:LI),i+m=t.2.length→m<j→acc.length=i→
  bq.L1 k j t.2.length i t.2 t.1 x3 x4 acc t.1=some (if Pu.aX t.1 (acc++Pu.fu t.1 i (t.2.drop i))=true then((acc++Pu.fu t.1 i (t.2.drop i),t.1),true)else(([],[]),false))
 |m,0,i,acc,_,hj,_=>by omega
 |0,j+1,i,acc,hm,_,hacc=>by
  rw[bq.lJ]
  have e:i=t.2.length:=by omega
  have h9:=(Pu.aW hi).2.2.1
  have hlt: ¬i<t.2.length:=by omega
  rw[dq.is (by omega) (by simp only;omega) (by simp only;omega),e]
  simp only[↓aR,sss,if_true,if_false,Nat.lt_irrefl,List.drop_length,Pu.fu,List.append_nil]
  cases Pu.aX t.1 acc<;>simp
 |m+1,j+1,i,acc,hm,hj,hacc=>by
  rw[bq.lJ]
  have hlt:i<t.2.length:=by omega
  have hb:=Pu.dO hi i
  have h9:=(Pu.aW hi).2.2.1
  have hrow:=hr t.2[i] (List.getElem_mem hlt)
  rw[←Pu.ao hlt []]at hrow
  rw[dX.is (by omega) (by omega)]
  have ih:=bq.loop (x3:=x3) (x4:=x4) hk hi h2 hr m j (i+1) (acc++ [Pu.atI t.1 i+(t.2.getD i []).length]) (by omega) (by omega) (by simp[hacc])
  rw[Int.natCast_succ]at ih
  rw[Pu.drop_cons hlt []]
  have hl:(acc++ [Pu.atI t.1 i+((t.2.getD i []).length:Int)]).length≤1099511627776:=by simp;omega
  simp (disch:=omega) only[↓aR,sss,if_true,if_false,hlt,hl,ih,Pu.fu]
  simp only[List.append_assoc,List.singleton_append,Pu.cq]
  rfl
theorem bq.is{k:Nat}{t:Pu.Tab}(hk:4194304+5≤k)(h1:t.1.length≤1048576)(h2:t.2.length≤1048576)(hr: ∀x∈t.2,x.length≤1048576):bq k t=some (Pu.shapeOf t):=by
 obtain⟨k,rfl⟩: ∃k',k=k'+1:=⟨k-1,by omega⟩
 rw[bq.eq,az.is (by omega) h1,bq.my,aZ.is (by omega) (by omega)]
 simp only[↓aR,sss,if_true,if_false]
 unfold Pu.shapeOf
 cases c1:Pu.bc t.1 with
 |false=>
  have:Pu.fe t=false:=by unfold Pu.fe;rw[c1];rfl
  simp only[this,↓aR,sss,if_true,if_false]
 |true=>
  by_cases c2:t.2.length<t.1.length
  ·have:Pu.fe t=false:=by
    have: ¬t.1.length≤t.2.length:=by omega
    unfold Pu.fe;simp[this]
   simp only[this,c2,↓aR,sss,if_true,if_false]
  ·have c2':t.1.length≤t.2.length:=by omega
   have hloop:=bq.loop (k:=k) (t:=t) (x3:= []) (x4:= []) (by omega) c1 h2 hr t.2.length k 0 [] (by omega) (by omega) rfl
   rw[Int.natCast_zero]at hloop
   simp only[c2,↓aR,sss,if_true,if_false]
   rw[hloop]
   have:Pu.fe t=Pu.aX t.1 (Pu.outer t):=by unfold Pu.fe;simp[c1,c2']
   rw[this]
   rfl
theorem au.inner{k k1:Nat}{t:Pu.Tab}{r:Nat}(hk:4194304≤k)(hi:Pu.bc t.1=true)(ht:t.2.length≤1048576)(hr: ∀x∈t.2,x.length≤1048576)(hlt:r<t.2.length)(n:Int):
  au.L1 k k1 k r r n r r (t.2.getD r []).length 0 t.2 t.1=if((List.range' 0 (t.2.getD r []).length).all fun q=>Pu.gF t r q)=true then au.L0 k k1 n ((r:Int)+1) t.2 t.1 else some false:=by
 have hx:=hr _ (List.getElem_mem hlt)
 rw[←Pu.ao hlt []]at hx
 have hb:=Pu.dO hi r
 have h9:=(Pu.aW hi).2.2.1
 have h:=Pu.mE (fun j q=>au.L1 k k1 j r r n r r (t.2.getD r []).length (q:Int) t.2 t.1) (t.2.getD r []).length (fun q=>Pu.gF t r q) (some false) (au.L0 k k1 n ((r:Int)+1) t.2 t.1)
  (fun j q hq=>by
   have e3:=bP.is (k:=k) (t:=t) (r:=(r:Int)-1) (c:=t.1.getD r 0+q) (by omega) hi ht hr (by rw[Pu.cq]at hb;omega) (by rw[Pu.cq]at hb;omega)
   have ea:=dX.is (k:=k) (p:=t.1) (i:=r) (by omega) (by omega)
   rw[Pu.cq]at ea
   rw[Pu.cq]at hb
   rw[au.lJ]
   simp (maxSteps:=10000000) (disch:=omega) only[↓aR,sss,if_true,if_false,hlt,hq,ct.is,ea,e3,au.wA,Int.natCast_add,Int.natCast_one]
   unfold Pu.gF
   generalize hx0:(t.2.getD r []).getD q 0=x at*
   cases Pu.within x 1 9 with
   |false=>simp
   |true=>
    have up:(if(0:Int)<r then(if x≤Pu.entry t ((r:Int)-1) (t.1.getD r 0+q)then some false else au.L1 k k1 j r r n r r (t.2.getD r []).length ((q:Int)+1) t.2 t.1)else au.L1 k k1 j r r n r r (t.2.getD r []).length ((q:Int)+1) t.2 t.1)=
      if(decide (r=0)||decide (Pu.entry t ((r:Int)-1) (t.1.getD r 0+q)<x))=true then au.L1 k k1 j r r n r r (t.2.getD r []).length ((q:Int)+1) t.2 t.1 else some false:=by
     by_cases e:r=0
     ·subst e;simp
     ·have e':(0:Int)<r:=by omega
      by_cases c:x≤Pu.entry t ((r:Int)-1) (t.1.getD r 0+q)
      ·have c': ¬Pu.entry t ((r:Int)-1) (t.1.getD r 0+q)<x:=by omega
       simp only[e',c,c',e,if_true,if_false,decide_false,Bool.or_false,Bool.false_eq_true]
      ·have c':Pu.entry t ((r:Int)-1) (t.1.getD r 0+q)<x:=by omega
       simp only[e',c,c',e,if_true,if_false,decide_true,decide_false,Bool.false_or]
    by_cases e:q=0
    ·have e': ¬(0:Int)<q:=by omega
     simp only[e',e,↓aR,sss,if_true,if_false,Bool.true_or]
     rw[e]at up
     exact up
    ·have e':(0:Int)<q:=by omega
     have eq:(q:Int)-1=((q-1:Nat):Int):=by omega
     have hq':q-1<(t.2.getD r []).length:=by omega
     simp (disch:=omega) only[e',e,↓aR,sss,if_true,if_false,eq,hq',Bool.false_or]
     by_cases c:x<(t.2.getD r []).getD (q-1) 0
     ·have c': ¬(t.2.getD r []).getD (q-1) 0≤x:=by omega
      simp only[c,c',↓aR,sss,if_true,if_false]
     ·have c':(t.2.getD r []).getD (q-1) 0≤x:=by omega
      simp only[c,c',↓aR,sss,if_true,if_false]
      exact up)
  (fun j=>by
   rw[au.lJ]
   simp (maxSteps:=10000000) (disch:=omega) only[↓aR,sss,if_true,if_false,Nat.lt_irrefl]) (t.2.getD r []).length k 0 (by omega) (by omega)
 simp only[Int.natCast_zero]at h
 exact h
theorem au.is{k:Nat}{t:Pu.Tab}(hk:4194304+6≤k)(h1:t.1.length≤1048576)(ht:t.2.length≤1048576)(hr: ∀x∈t.2,x.length≤1048576):au k t=some (Pu.fj t):=by
 obtain⟨k,rfl⟩: ∃k',k=k'+1:=⟨k-1,by omega⟩
 rw[au.eq,bq.is (by omega) h1 ht hr,b7]
 unfold Pu.fj Pu.shapeOf
 cases hs:Pu.fe t with
 |false=>simp[hs]
 |true=>
  have hi:Pu.bc t.1=true:=by
   simp only[Pu.fe,Bool.and_eq_true]at hs;exact hs.1
  have h:=Pu.mE (fun j r=>au.L0 k j t.2.length r t.2 t.1) t.2.length (fun r=>(List.range' 0 (t.2.getD r []).length).all fun q=>Pu.gF t r q) (some false) (some true)
   (fun j r hlt=>by
    rw[au.cN]
    simp (disch:=omega) only[↓aR,sss,if_true,if_false,hlt,au.inner (k1:=j) (show 4194304≤k by omega) hi ht hr hlt,Int.natCast_add,Int.natCast_one])
   (fun j=>by
    rw[au.cN]
    simp (disch:=omega) only[↓aR,sss,if_true,if_false,Nat.lt_irrefl]) t.2.length k 0 (by omega) (by omega)
  simp only[Int.natCast_zero]at h
  simp only[if_true,↓aR,sss,if_true,if_false]
  rw[h]
  cases(List.range' 0 t.2.length).all fun r=>(List.range' 0 (t.2.getD r []).length).all fun q=>Pu.gF t r q<;>simp
theorem strings_Repeat.is{k:Nat}{n:Int}(hk:1≤k)(h0:0≤n)(h1:n≤1000):strings_Repeat k (Pu.tx [46]) n=some (Pu.tx (List.replicate n.toNat 46)):=by
 obtain⟨k,rfl⟩: ∃k',k=k'+1:=⟨k-1,by omega⟩
 rw[strings_Repeat.eq]
 exact Pu.EX h0 h1
theorem strconv_Itoa.is{k:Nat}{n:Int}(hk:1≤k)(h0:0≤n)(h1:n<100):strconv_Itoa k n=some (Pu.tx (Pu.dcm n)):=by
 obtain⟨k,rfl⟩: ∃k',k=k'+1:=⟨k-1,by omega⟩
 rw[strconv_Itoa.eq]
 exact Pu.Di h0 h1
theorem fb.is{k:Nat}{n:Int}(hk:2≤k)(h0:0≤n)(h1:n<100):fb k n=some (Pu.tx (Pu.dcm n)):=by
 obtain⟨k,rfl⟩: ∃k',k=k'+1:=⟨k-1,by omega⟩
 rw[fb.eq,strconv_Itoa.is (by omega) h0 h1,b7]
theorem strings_Join.is{k:Nat}{ws:List (List UInt8)}{sep:List UInt8}(hk:1≤k)(h1:ws.length≤1000)(h2: ∀w∈ws,w.length≤10000)(hs:sep.length≤10):strings_Join k (ws.map Pu.tx) (Pu.tx sep)=some (Pu.tx (Lib.join ws sep)):=by
 obtain⟨k,rfl⟩: ∃k',k=k'+1:=⟨k-1,by omega⟩
 rw[strings_Join.eq]
 exact Pu.DB h1 h2 hs
theorem ik.is{k:Nat}{ws:List (List UInt8)}{sep:List UInt8}(hk:2≤k)(h1:ws.length≤1000)(h2: ∀w∈ws,w.length≤10000)(hs:sep.length≤10):ik k (ws.map Pu.tx) (Pu.tx sep)=some (Pu.tx (Lib.join ws sep)):=by
 obtain⟨k,rfl⟩: ∃k',k=k'+1:=⟨k-1,by omega⟩
 rw[ik.eq,strings_Join.is (by omega) h1 h2 hs,b7]
theorem bV.loop{k:Nat}{sep:List UInt8}{l:LI}(hk:10≤k)(hs:sep.length≤10)(hn:l.length≤1000)(hl: ∀x∈l,0≤x∧x<100): ∀(m j i:Nat) (acc:List ByteArray),i+m=l.length→m<j→acc=(l.take i).map (fun n=>Pu.tx (Pu.dcm n))→Pu.Ok (bV.L0 k j (Pu.tx sep) (l.length:Int) i acc l) (· =Pu.tx (Lib.join (l.map Pu.dcm) sep))
 |m,0,i,acc,_,hj,_=>by omega
 |0,j+1,i,acc,hi,_,ha=>by
  rw[bV.cN]
  simp only[fJ,fR,dm,dD,dF,cO,cM,di,fU,dt,dE,b8,b9,dH,bX,dj,dA,dW,fV,fW,dC,dB,cm,ck,ch,cn,List.nil_append,List.cons_append]
  refine Pu.Ok.no (by omega) ?_
  have e:acc=(l.map Pu.dcm).map Pu.tx:=by
   rw[ha,List.take_of_length_le (by omega),List.map_map];rfl
  rw[e]
  refine Pu.Ok.dY (ik.is (by omega) (by rw[List.length_map];omega) (fun w hw=> ?_) hs) (Pu.Ok.ret rfl)
  obtain⟨x,hx,rfl⟩:=List.mem_map.1 hw
  have:=Pu.Cz (hl x hx).2
  omega
 |m+1,j+1,i,acc,hi,hj,ha=>by
  rw[bV.cN]
  have hlen:acc.length=i:=by rw[ha,List.length_map,List.length_take];omega
  simp only[fJ,fR,dm,dD,dF,cO,cM,di,fU,dt,dE,b8,b9,dH,bX,dj,dA,dW,fV,fW,dC,dB,cm,ck,ch,cn,List.nil_append,List.cons_append]
  (try simp only[Int.toNat_natCast]);(try simp (disch:=omega) only[w64])
  (repeat (refine Pu.Ok.g (by first|omega|assumption|(simp only[List.length_append,List.length_cons,List.length_nil,List.length_set,List.length_take,List.length_drop,List.length_replicate]at*;omega)) ?_))
  have hm:l.getD i 0∈l:=by rw[Pu.ao (show i<l.length by omega) _];exact List.getElem_mem _
  refine Pu.Ok.dY (fb.is (by omega) (hl _ hm).1 (hl _ hm).2) ?_
  (repeat (refine Pu.Ok.g (by first|omega|assumption|(simp only[List.length_append,List.length_cons,List.length_nil,List.length_set,List.length_take,List.length_drop,List.length_replicate]at*;omega)) ?_))
  (try simp only[Int.toNat_natCast]);(try simp (disch:=omega) only[w64])
  refine bV.loop hk hs hn hl m j (i+1) _ (by omega) (by omega) ?_
  rw[ha,List.take_add_one,List.map_append,List.getElem?_eq_getElem (show i<l.length by omega),Pu.ao (show i<l.length by omega) _]
  rfl
theorem bV.is{k:Nat}{sep:List UInt8}{l:LI}(hk:2000≤k)(hs:sep.length≤10)(hn:l.length≤1000)(hl: ∀x∈l,0≤x∧x<100):bV k l (Pu.tx sep)=some (Pu.tx (Lib.join (l.map Pu.dcm) sep)):=by
 obtain⟨k,rfl⟩: ∃k',k=k'+1:=⟨k-1,by omega⟩
 apply Pu.ok_eq
 rw[bV.eq]
 exact bV.loop (k:=k) (by omega) hs hn hl l.length k 0 [] (by omega) (by omega) rfl
theorem aO.loop{k:Nat}{t:Pu.Tab}(hk:3000≤k)(ht:Pu.fj t=true): ∀(m j i:Nat) (acc:List ByteArray),i+m=t.2.length→m<j→acc=((List.range i).map (Pu.pN t)).map Pu.tx→Pu.Ok (aO.L0 k j (t.2.length:Int) i acc t.2 t.1) (· =Pu.tx (Lib.join ((List.range t.2.length).map (Pu.pN t)) [47]))
 |m,0,i,acc,_,hj,_=>by omega
 |0,j+1,i,acc,hi,_,ha=>by
  rw[aO.cN]
  simp only[fJ,fR,dm,dD,dF,cO,cM,di,fU,dt,dE,b8,b9,dH,bX,dj,dA,dW,fV,fW,dC,dB,cm,ck,ch,cn,List.nil_append,List.cons_append]
  refine Pu.Ok.no (by omega) ?_
  have e:i=t.2.length:=by omega
  subst e
  have h9:=(Pu.qB ht).1
  rw[ha]
  refine Pu.Ok.dY (ik.is (sep:= [47]) (by omega) (by rw[List.length_map,List.length_range];omega) (fun w hw=> ?_) (by decide)) (Pu.Ok.ret rfl)
  obtain⟨x,hx,rfl⟩:=List.mem_map.1 hw
  have:=Pu.wO ht x
  omega
 |m+1,j+1,i,acc,hi,hj,ha=>by
  rw[aO.cN]
  have hlen:acc.length=i:=by rw[ha,List.length_map,List.length_map,List.length_range]
  have h9:=(Pu.qB ht).1
  obtain⟨p1,p2,p3,p4⟩:=Pu.jP ht
  simp only[fJ,fR,dm,dD,dF,cO,cM,di,fU,dt,dE,b8,b9,dH,bX,dj,dA,dW,fV,fW,dC,dB,cm,ck,ch,cn,List.nil_append,List.cons_append]
  (try simp only[Int.toNat_natCast]);(try simp (disch:=omega) only[w64])
  (repeat (refine Pu.Ok.g (by first|omega|assumption|(simp only[List.length_append,List.length_cons,List.length_nil,List.length_set,List.length_take,List.length_drop,List.length_replicate]at*;omega)) ?_))
  have hb:=Pu.dO p1 i
  refine Pu.Ok.dY (dX.is (by omega) (by omega)) ?_
  have e46:(⟨#[46]⟩:ByteArray)=Pu.tx [46]:=rfl
  have e0:(⟨#[]⟩:ByteArray)=Pu.tx []:=rfl
  rw[e46,e0]
  refine Pu.Ok.dY (strings_Repeat.is (by omega) hb.1 (by omega)) ?_
  (repeat (refine Pu.Ok.g (by first|omega|assumption|(simp only[List.length_append,List.length_cons,List.length_nil,List.length_set,List.length_take,List.length_drop,List.length_replicate]at*;omega)) ?_))
  have hr:=(Pu.qB ht).at i
  refine Pu.Ok.dY (bV.is (by omega) (by decide) (by omega) (fun x hx=>by have:=Pu.mU ht hx;omega)) ?_
  rw[Pu.zQ,Pu.Hv,Pu.Cw,Pu.Cw]
  have hrl:=Pu.wO ht i
  have hrl':(List.replicate (Pu.atI t.1 i).toNat (46:UInt8)).length+(Pu.gU (t.2.getD i [])).length≤100:=by
   rw[←List.length_append];exact hrl
  refine Pu.Ok.g (by omega) ?_
  (repeat (refine Pu.Ok.g (by first|omega|assumption|(simp only[List.length_append,List.length_cons,List.length_nil,List.length_set,List.length_take,List.length_drop,List.length_replicate]at*;omega)) ?_))
  (try simp only[Int.toNat_natCast]);(try simp (disch:=omega) only[w64])
  refine aO.loop hk ht m j (i+1) _ (by omega) (by omega) ?_
  rw[ha,List.range_succ,List.map_append,List.map_append]
  rfl
theorem aO.is{k:Nat}{t:Pu.Tab}(hk:4194304+20≤k)(h1:t.1.length≤1048576)(h2:t.2.length≤1048576)(hr: ∀x∈t.2,x.length≤1048576):aO k t=some (Pu.tx (Pu.bj t)):=by
 obtain⟨k,rfl⟩: ∃k',k=k'+1:=⟨k-1,by omega⟩
 apply Pu.ok_eq
 rw[aO.eq]
 refine Pu.Ok.dY (au.is (by omega) h1 h2 hr) ?_
 unfold Pu.bj
 simp only[fJ,fR,dm,dD,dF,cO,cM,di,fU,dt,dE,b8,b9,dH,bX,dj,dA,dW,fV,fW,dC,dB,cm,ck,ch,cn,List.nil_append,List.cons_append]
 refine Pu.Ok.tn (fun hb=> ?_) (fun hb=> ?_)
 ·rw[hb];exact Pu.Ok.ret rfl
 ·rw[hb]
  refine Pu.Ok.t (fun h=> ?_) (fun h=> ?_)
  ·have:t.2= []:=List.eq_nil_of_length_eq_zero (by simpa using h)
   rw[this]
   exact Pu.Ok.ret rfl
  ·have h0:t.2≠ []:=fun e=>h (by rw[e];rfl)
   rw[if_pos rfl,if_neg h0]
   exact aO.loop (k:=k) (by omega) hb t.2.length k 0 [] (Nat.zero_add _) (by show t.2.length<k;omega) rfl
theorem strings_Compare.is{k:Nat}{a b:ByteArray}(hk:1≤k):strings_Compare k a b=some (Lib.compareBytes a.data.toList b.data.toList):=by
 obtain⟨k,rfl⟩: ∃k',k=k'+1:=⟨k-1,by omega⟩
 rw[strings_Compare.eq]
 rfl
theorem eD.is{k:Nat}{a b:Pu.Tab}(hk:4194304+21≤k)(ha:Pu.xd a)(hb:Pu.xd b):eD k a b=some (Lib.compareBytes (Pu.bj a) (Pu.bj b)):=by
 obtain⟨k,rfl⟩: ∃k',k=k'+1:=⟨k-1,by omega⟩
 rw[eD.eq]
 show D.bnd (aO k a) _=_
 rw[aO.is (by omega) ha.1 ha.2.1 ha.2.2,b7]
 show D.bnd (aO k b) _=_
 rw[aO.is (by omega) hb.1 hb.2.1 hb.2.2,b7,strings_Compare.is (by omega),b7]
 rfl
theorem ef.grow{m o:LI}(hi:Pu.aX m o=true){ws:LI}{k:Nat}(hk:4194304+200≤k)(h9:ws.length≤9)(hw: ∀w∈ws,0≤w∧w≤9)(hs:Pu.aM ws=Pu.aM o-Pu.aM m):
  aK k 1 m (List.replicate o.length []) [] o m ws=some ((),(m,(List.replicate o.length [],Pu.nC m o ws))):=by
 obtain⟨i1,i2,i3,i4⟩:=Pu.eQ hi
 have ho9:=(Pu.aW i2).2.2.1
 have hR:=(Pu.Ev hi 1).ok
 have hlen:=Pu.xB hi hw hs
 cases ws with
 |nil=>
  obtain⟨k,rfl⟩: ∃k',k=k'+2:=⟨k-2,by omega⟩
  apply Pu.ok_eq
  rw[aK.eq]
  simp only[fJ,fR,dm,dD,dF,cO,cM,di,fU,dt,dE,b8,b9,dH,bX,dj,dA,dW,fV,fW,dC,dB,cm,ck,ch,cn,List.nil_append,List.cons_append]
  refine Pu.Ok.g rfl ?_
  refine Pu.Ok.dY (aU.is (t:=(m,List.replicate o.length [])) (by omega) (by show m.length≤_;omega) (by show(List.replicate o.length []).length≤_;rw[List.length_replicate];omega) (fun x hx=>by rw[(List.mem_replicate.1 hx).2];simp)) ?_
  exact Pu.Ok.g (by simp) (Pu.Ok.ret rfl)
 |cons w ws=>
  obtain⟨k,rfl⟩: ∃k',k=k'+2:=⟨k-2,by omega⟩
  obtain⟨w0,w9⟩:=hw w (by simp)
  rw[List.length_cons]at h9
  apply Pu.ok_eq
  rw[aK.eq]
  simp only[fJ,fR,dm,dD,dF,cO,cM,di,fU,dt,dE,b8,b9,dH,bX,dj,dA,dW,fV,fW,dC,dB,cm,ck,ch,cn,List.nil_append,List.cons_append]
  refine Pu.Ok.no (by rw[List.length_cons];omega) ?_
  refine Pu.Ok.g (by omega) (Pu.Ok.g (by simp) (Pu.Ok.g (by simp) ?_))
  have e:Pu.eV (w::ws)=w.toNat+Pu.eV ws:=by simp[Pu.eV]
  have hlim:=Pu.xz hi hw hs
  rw[e,Nat.pow_add]at hlim
  have h:=ag.put (w:=w) (ws:=ws) (F:=4194304+30+14*ws.length) (kk:=1) i1 i2 (by omega) (by omega) (fun R=>Pu.mP m o ws (1+1) R) (by omega) (by omega)
   (fun k R out h1 h2 h3=>ag.grow i1 i2 ws k (1+1) R out h1 (by omega) (by omega) (fun x hx=>hw x (by simp[hx])) h2 h3) w.toNat (k+1) 0 (List.replicate o.length []) [] (by omega) (by omega) hR (by omega) (by simpa using hlim)
  have e2:(w::ws).getD (Int.toNat 0) 0=((w.toNat:Nat):Int):=by show w=_;omega
  rw[e2]
  rw[Int.natCast_zero]at h
  exact Pu.Ok.dY h (Pu.Ok.ret rfl)
theorem ef.is{m o:LI}(hi:Pu.aX m o=true){ws:LI}{k:Nat}(hk:4194304+202≤k)(h9:ws.length≤9)(hw: ∀w∈ws,0≤w∧w≤9):ef k (o,m) ws=some (if Pu.aM ws=Pu.aM o-Pu.aM m then Pu.pM (Pu.nC m o ws)else []):=by
 obtain⟨k,rfl⟩: ∃k',k=k'+2:=⟨k-2,by omega⟩
 obtain⟨i1,i2,i3,i4⟩:=Pu.eQ hi
 have ho9:=(Pu.aW i2).2.2.1
 apply Pu.ok_eq
 rw[ef.eq]
 refine Pu.Ok.dY (cG.is (by omega) (by omega) fun x hx=>by have:=hw x hx;omega) ?_
 refine Pu.Ok.dY (eZ.is (s:=(o,m)) (by omega) (by show o.length≤_;omega) (by show m.length≤_;omega)) ?_
 rw[if_pos (show Pu.aX (o,m).2 (o,m).1=true from hi)]
 simp only[fJ,fR,dm,dD,dF,cO,cM,di,fU,dt,dE,b8,b9,dH,bX,dj,dA,dW,fV,fW,dC,dB,cm,ck,ch,cn,List.nil_append,List.cons_append]
 refine Pu.Ok.tnd (fun hne=>by rw[if_neg hne];exact Pu.Ok.ret rfl) (fun hs=> ?_)
 rw[if_pos hs]
 refine Pu.Ok.dY (aZ.is (by omega) (by show m.length≤_;omega)) ?_
 refine Pu.Ok.g (by omega) (Pu.Ok.g (by omega) ?_)
 rw[Int.toNat_natCast]
 refine Pu.Ok.g (by show o.length≤_;omega) ?_
 refine Pu.Ok.dY (ef.grow hi (by omega) h9 hw hs) ?_
 have hn:(Pu.eV ws:Int)=Pu.aM o-Pu.aM m:=by rw[Pu.oX (fun x hx=>(hw x hx).1)];exact hs
 refine Pu.Ok.dY (Pu.Hb (fun a ha b hb=> ?_) (Pu.Ed hi h9 hn) (by have:=Pu.xB hi hw hs;show(Pu.nC m o ws).length<_;omega)) (Pu.Ok.ret rfl)
 exact eD.is (a:=a) (b:=b) (by omega) (Pu.AM hi h9 hn ha) (Pu.AM hi h9 hn hb)
theorem bn.is{k:Nat}{s:LI×LI}{w:LI}(hk:4194304+210≤k)(h1:s.1.length≤1048576)(h2:s.2.length≤1048576)(h3:w.length≤1048576):bn k s w=some (if Pu.aX s.2 s.1=true∧Pu.ju w=true∧Pu.aM w=Pu.aM s.1-Pu.aM s.2 then Pu.pM (Pu.nC s.2 s.1 w)else []):=by
 obtain⟨k,rfl⟩: ∃k',k=k'+1:=⟨k-1,by omega⟩
 apply Pu.ok_eq
 rw[bn.eq]
 refine Pu.Ok.dY (dq.is (s:=s) (by omega) h1 h2) ?_
 simp only[fJ,fR,dm,dD,dF,cO,cM,di,fU,dt,dE,b8,b9,dH,bX,dj,dA,dW,fV,fW,dC,dB,cm,ck,ch,cn,List.nil_append,List.cons_append]
 refine Pu.Ok.tn (fun hb=>by rw[if_neg (fun h=>by rw[h.1]at hb;cases hb)];exact Pu.Ok.ret rfl) (fun hb=> ?_)
 refine Pu.Ok.dY (fA.is (by omega) h3) ?_
 refine Pu.Ok.tn (fun hc=>by rw[if_neg (fun h=>by rw[h.2.1]at hc;cases hc)];exact Pu.Ok.ret rfl) (fun hc=> ?_)
 obtain⟨w1,w2⟩:=Pu.ox hc
 rw[bn.my]
 refine Pu.Ok.dY (ef.is (m:=s.2) (o:=s.1) hb (by omega) w1 w2) (Pu.Ok.ret ?_)
 by_cases hs:Pu.aM w=Pu.aM s.1-Pu.aM s.2
 ·rw[if_pos hs,if_pos ⟨hb,hc,hs⟩]
 ·rw[if_neg hs,if_neg (fun h=>hs h.2.2)]
theorem dv.is{k:Nat}{s:LI×LI}{w:LI}(hk:4194304+211≤k)(h1:s.1.length≤1048576)(h2:s.2.length≤1048576)(h3:w.length≤1048576):dv k s w=some (if Pu.aX s.2 s.1=true∧Pu.ju w=true∧Pu.aM w=Pu.aM s.1-Pu.aM s.2 then((Pu.nC s.2 s.1 w).length:Int)else 0):=by
 obtain⟨k,rfl⟩: ∃k',k=k'+1:=⟨k-1,by omega⟩
 rw[dv.eq,bn.is (s:=s) (by omega) h1 h2 h3,b7]
 split
 ·show some (((Pu.pM _).length:Nat):Int)=_
  rw[Pu.Dx]
 ·rfl
theorem bw.loop{k:Nat}{a b:LI}(hl:a.length=b.length)(ha:a.length≤1048576): ∀(m j i:Nat),i+m=a.length→m<j→bw.L0 k j i a b=some (decide (a.drop i=b.drop i))
 |m,0,i,_,hj=>by omega
 |0,j+1,i,hi,_=>by
  rw[bw.cN]
  have e:i=a.length:=by omega
  subst e
  simp[hl]
 |m+1,j+1,i,hi,hj=>by
  rw[bw.cN]
  have h1:i<a.length:=by omega
  have h2:i<b.length:=by omega
  have ih:=bw.loop (k:=k) hl ha m j (i+1) (by omega) (by omega)
  rw[Int.natCast_succ]at ih
  rw[Pu.drop_cons h1 0,Pu.drop_cons h2 0]
  by_cases e:a.getD i 0=b.getD i 0<;>simp (disch:=omega) only[aR,fJ,fR,dm,cO,cM,di,fU,bX,dj,fV,fW,w64,Int.toNat_natCast,decide_eq_true_eq,Int.ofNat_lt,h1,h2,if_true,Int.natCast_nonneg,decide_true,ih,e,List.cons.injEq,true_and,false_and,decide_false,Bool.not_true,Bool.not_false,if_false,Bool.false_eq_true]
theorem bw.is{k:Nat}{a b:LI}(hk:4194304+1≤k)(ha:a.length≤1048576):bw k a b=some (decide (a=b)):=by
 obtain⟨k,rfl⟩: ∃k',k=k'+1:=⟨k-1,by omega⟩
 rw[bw.eq]
 by_cases hl:a.length=b.length
 ·have h:=bw.loop (k:=k) hl ha a.length k 0 (by omega) (by omega)
  rw[Int.natCast_zero]at h
  simp only[List.drop_zero]at h
  have hl':(a.length:Int)=b.length:=by omega
  simp only[aR,fV,fW,cM,cO,hl',decide_true,Bool.not_true,Bool.false_eq_true,if_false,h]
 ·have hne:a≠b:=fun e=>hl (by rw[e])
  have hl': ¬(a.length:Int)=b.length:=by omega
  simp[hl',hne]
theorem gn.refl{k:Nat}{a:LI×LI}(hk:4194304+2≤k)(h1:a.1.length≤1048576)(h2:a.2.length≤1048576):gn k a a=some true:=by
 obtain⟨k,rfl⟩: ∃k',k=k'+1:=⟨k-1,by omega⟩
 rw[gn.eq,bw.is (by omega) h1,b7,bw.is (by omega) h2]
 simp
theorem bS.is{s:LI×LI}{w:LI}(h1:s.1.length≤maxLen)(h2:s.2.length≤maxLen)(h3:w.length≤maxLen): ∃k,bS k s w=some true:=by
 obtain⟨K,hK⟩: ∃K,K=4194304+2000000400:=⟨_,rfl⟩
 refine⟨K+1,?_⟩
 apply Pu.ok_eq
 rw[bS.eq]
 simp only[fJ,fR,dm,dD,dF,cO,cM,di,fU,dt,dE,b8,b9,dH,bX,dj,dA,dW,fV,fW,dC,dB,cm,ck,ch,cn,List.nil_append,List.cons_append]
 refine Pu.Ok.t (fun _=>Pu.Ok.ret rfl) (fun hw=> ?_)
 have q3:w.length≤1048576:=by omega
 obtain⟨r,hr0,hr1⟩:=gm.is (k:=K) (a:=s) (b:=1048576) (by omega) h1 h2 (by omega) (by omega)
 refine Pu.Ok.dY hr0 ?_
 refine Pu.Ok.t (fun _=>Pu.Ok.ret rfl) (fun h=> ?_)
 obtain⟨s0,s1,s2⟩:=hr1 (by omega)
 have q1:s.1.length≤1048576:=by omega
 have q2:s.2.length≤1048576:=by omega
 have hto:=eM.is (k:=K) (a:=s) (by omega) q1 q2
 have htw:=bt.is (k:=K) (a:=w) (by omega) q3
 refine Pu.Ok.dY hto (Pu.Ok.dY htw ?_)
 refine Pu.Ok.dY (bF.is (s:=s) (by omega) q1 q2 q3) ?_
 refine Pu.Ok.dY hto (Pu.Ok.dY htw ?_)
 refine Pu.Ok.dY (dv.is (s:=s) (by omega) q1 q2 q3) ?_
 refine Pu.Ok.tnd (fun hn=>absurd rfl hn) (fun _=> ?_)
 refine Pu.Ok.dY hto (Pu.Ok.dY (gn.refl (a:=s) (by omega) q1 q2) ?_)
 refine Pu.Ok.tn (fun h=>by cases h) (fun _=> ?_)
 refine Pu.Ok.dY htw (Pu.Ok.dY (bw.is (by omega) q3) ?_)
 refine Pu.Ok.tnd (fun hn=>absurd rfl hn) (fun _=>Pu.Ok.ret rfl)
end Go.Am.Seat
