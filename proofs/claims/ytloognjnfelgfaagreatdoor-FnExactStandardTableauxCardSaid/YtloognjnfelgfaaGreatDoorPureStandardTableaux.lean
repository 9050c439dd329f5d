/- What the functions make of data, as plain words; each holds for all data within the bounds that it names. -/
import Derived.Test.YtloognjnfelgfaaGreatDoorEqsStandardTableaux
import Derived.Test.YtloognjnfelgfaaGreatDoorPu
set_option linter.unusedSimpArgs false
set_option linter.unusedVariables false
set_option linter.unnecessarySimpa false
set_option linter.unusedSectionVars false
namespace Go.Am.Seat
open Go Go.Am Go.Am.Pu
attribute [local instance] D.real
set_option linter.unusedSimpArgs false
set_option linter.unusedVariables false
set_option maxRecDepth 4000
theorem fD.is{k:Nat}{a:LI}{b:Int}(hk:4194304+1≤k)(ha:a.length≤maxLen)(h1:0≤b)(h2:b≤1048576):fD k a b=some (if b-a.length<0 then-1 else b-a.length):=by
 obtain⟨k,rfl⟩: ∃k',k=k'+1:=⟨k-1,by omega⟩
 have ha:a.length≤9223372036854775807:=ha
 rw[fD.eq]
 simp (disch:=omega) only[aM,dI,bc,cx,bK,bJ,decide_eq_true_eq,w64]
 split<;>rfl
theorem gR.is{k:Nat}{a:LI×LI}{b:Int}(hk:4194304+3≤k)(ha:a.1.length≤maxLen)(ha2:a.2.length≤maxLen)(h1:0≤b)(h2:b≤1048576):
  ∃r,gR k a b=some r∧(0≤r→r≤b∧(a.1.length:Int)≤b∧(a.2.length:Int)≤b):=by
 obtain⟨k,rfl⟩: ∃k',k=k'+1:=⟨k-1,by omega⟩
 rw[gR.eq,fD.is (by omega) ha h1 h2]
 by_cases hc:b-a.1.length<0
 ·exact⟨-1,by simp[hc],fun h=>by omega⟩
 ·by_cases hd:b-a.1.length-a.2.length<0
  ·refine⟨-1,?_,fun h=>by omega⟩
   simp only[ch,hc,if_false]
   rw[fD.is (by omega) ha2 (by omega) (by omega)]
   simp[hc,hd]
  ·refine⟨b-a.1.length-a.2.length,?_,fun h=>by omega⟩
   simp only[ch,hc,if_false]
   rw[fD.is (by omega) ha2 (by omega) (by omega)]
   simp[hc,hd]
theorem cm.loop{k:Nat}{a:LI}(ha:a.length≤1048576): ∀(m j i:Nat),i+m=a.length→m<j→cm.L0 k j i a (a.take i++List.replicate (a.length-i) 0)=some a
 |m,0,i,_,hj=>by omega
 |0,j+1,i,hi,_=>by
  rw[cm.bP]
  have e:i=a.length:=by omega
  subst e
  simp
 |m+1,j+1,i,hi,hj=>by
  rw[cm.bP]
  have hlt:i<a.length:=by omega
  have ih:=cm.loop (k:=k) ha m j (i+1) (by omega) (by omega)
  rw[Int.natCast_succ]at ih
  have hl:i<(a.take i++List.replicate (a.length-i) (0:Int)).length:=by simp;omega
  have hf:=Pu.E0 hlt (0:Int) 0
  simp (disch:=omega) only[aM,dI,dP,cd,bJ,bK,bY,du,cp,bc,bZ,w64,Int.toNat_natCast,decide_eq_true_eq,Int.ofNat_lt,hlt,hl,if_true,Int.natCast_nonneg,decide_true,hf,ih]
theorem cm.is{k:Nat}{a:LI}(hk:4194304+1≤k)(ha:a.length≤1048576):cm k a=some a:=by
 obtain⟨k,rfl⟩: ∃k',k=k'+1:=⟨k-1,by omega⟩
 rw[cm.eq]
 have h:=cm.loop (k:=k) ha a.length k 0 (by omega) (by omega)
 rw[Int.natCast_zero]at h
 simp only[List.take_zero,List.nil_append,Nat.sub_zero]at h
 have hl:a.length≤1099511627776:=by omega
 simp[h,hl]
theorem eX.is{k:Nat}{a:LI×LI}(hk:4194304+2≤k)(h1:a.1.length≤1048576)(h2:a.2.length≤1048576):eX k a=some a:=by
 obtain⟨k,rfl⟩: ∃k',k=k'+1:=⟨k-1,by omega⟩
 rw[eX.eq,cm.is (by omega) h1,ch,cm.is (by omega) h2]
 rfl
theorem iQ.is{k:Nat}{x lo hi:Int}(hk:1≤k):iQ k x lo hi=some (Pu.within x lo hi):=by
 obtain⟨k,rfl⟩: ∃k',k=k'+1:=⟨k-1,by omega⟩
 rw[iQ.eq]
 by_cases h:lo≤x<;>simp[Pu.within,h]
theorem aC.loop{k:Nat}{p:LI}(hk:4194304≤k)(hp:p.length≤1048576): ∀(m j i:Nat) (s v:Int),i+m=p.length→m<j→(i=0→v=9)→(0<i→v=p.getD (i-1) 0)→v≤9→0≤s→s≤9→
  aC.L0 k j s i p=some (Pu.gT (p.drop i) v s)
 |m,0,i,s,v,_,hj,_,_,_,_,_=>by omega
 |0,j+1,i,s,v,hi,_,_,_,_,_,_=>by
  rw[aC.bP]
  have e:i=p.length:=by omega
  subst e
  simp[Pu.gT]
 |m+1,j+1,i,s,v,hi,hj,h0,h1,hv,hs,hs9=>by
  rw[aC.bP]
  have hlt:i<p.length:=by omega
  have hj1: ∀x:Int,x=p.getD i 0→1≤x→x≤v→aC.J1 k j s i p=some (decide (s+x≤9)&&Pu.gT (p.drop (i+1)) x (s+x)):=by
   intro x hx hx1 hx2
   rw[aC.j2]
   simp (disch:=omega) only[↓aM,sss,if_true,if_false,hlt,←hx]
   by_cases c:9<s+x
   ·have: ¬s+x≤9:=by omega
    simp[c,this]
   ·have c':s+x≤9:=by omega
    have ih:=aC.loop hk hp m j (i+1) (s+x) x (by omega) (by omega) (by omega) (by simp[hx]) (by omega) (by omega) c'
    rw[Int.natCast_succ]at ih
    simp[c,c',ih]
  rw[Pu.drop_cons hlt 0]
  simp (disch:=omega) only[↓aM,sss,if_true,if_false,hlt,iQ.is,Pu.gT]
  generalize hx:p.getD i 0=x at*
  unfold Pu.within
  by_cases c1:1≤x
  ·by_cases c2:x≤v
   ·have c3:x≤9:=by omega
    have hj:=hj1 x rfl c1 c2
    by_cases hi0:i=0
    ·have hpos: ¬(0:Int)<i:=by omega
     simp (disch:=omega) only[↓aM,sss,if_true,if_false,c1,c2,c3,hpos,hj]
    ·have hv':=h1 (by omega)
     have e:((i:Int)-1)=((i-1:Nat):Int):=by omega
     have hlt':i-1<p.length:=by omega
     have hge: ¬p.getD (i-1) 0<x:=by rw[←hv'];omega
     have hpos:(0:Int)<i:=by omega
     simp (disch:=omega) only[e,↓aM,sss,if_true,if_false,hlt',c1,c2,c3,hj,hpos,hge]
   ·simp only[c1,c2,↓aM,sss,if_true,if_false]
    by_cases c3:x≤9
    ·have hi0:0<i:=by
      rcases Nat.eq_zero_or_pos i with h|h
      ·have:=h0 h;omega
      ·exact h
     have hv':=h1 hi0
     have e:((i:Int)-1)=((i-1:Nat):Int):=by omega
     have hlt':i-1<p.length:=by omega
     have hge:p.getD (i-1) 0<x:=by rw[←hv'];omega
     have hpos:(0:Int)<i:=by omega
     simp (disch:=omega) only[e,↓aM,sss,if_true,if_false,hlt',c3,hpos,hge]
    ·simp only[c3,↓aM,sss,if_true,if_false]
  ·simp only[c1,↓aM,sss,if_true,if_false]
theorem aC.is{k:Nat}{p:LI}(hk:4194304+1≤k)(hp:p.length≤1048576):aC k p=some (Pu.aX p):=by
 obtain⟨k,rfl⟩: ∃k',k=k'+1:=⟨k-1,by omega⟩
 rw[aC.eq]
 exact aC.loop (k:=k) (by omega) hp p.length k 0 0 9 (by omega) (by omega) (fun _=>rfl) (by omega) (by omega) (by omega) (by omega)
theorem ba.loop{k:Nat}{q p:LI}(hq:q.length≤1048576)(hl:q.length≤p.length)(hk:q.length<k):ba.L1 k k 0 q p=some ((List.range' 0 q.length).all fun i=>decide (q.getD i 0≤p.getD i 0)):=by
 have h:=Pu.l9 (fun j i=>ba.L1 k j (i:Int) q p) q.length (fun i=>decide (q.getD i 0≤p.getD i 0)) (some false) (some true)
  (fun j i hi=>by
   have hi2:i<p.length:=by omega
   rw[ba.fX]
   simp (disch:=omega) only[↓aM,sss,if_true,if_false,hi,hi2,Int.natCast_add,Int.natCast_one]
   by_cases c:q.getD i 0≤p.getD i 0
   ·have c': ¬p.getD i 0<q.getD i 0:=by omega
    simp only[c,c',↓aM,sss,if_true,if_false]
   ·have c':p.getD i 0<q.getD i 0:=by omega
    simp only[c,c',↓aM,sss,if_true,if_false])
  (fun j=>by
   rw[ba.fX]
   simp only[↓aM,sss,if_true,if_false,Nat.lt_irrefl]) q.length k 0 (by omega) hk
 simp only[Int.natCast_zero]at h
 rw[h]
 cases(List.range' 0 q.length).all fun i=>decide (q.getD i 0≤p.getD i 0)<;>simp
theorem ba.is{k:Nat}{q p:LI}(hk:4194304+2≤k)(hq:q.length≤1048576)(hp:p.length≤1048576):ba k q p=some (Pu.aJ q p):=by
 obtain⟨k,rfl⟩: ∃k',k=k'+1:=⟨k-1,by omega⟩
 rw[ba.eq,aC.is (by omega) hq,ch,ba.lf]
 unfold Pu.aJ
 cases c1:Pu.aX q with
 |false=>simp only[↓aM,sss,if_true,if_false]
 |true=>
  simp only[↓aM,sss,if_true,if_false]
  rw[aC.is (by omega) hp,ch]
  cases c2:Pu.aX p with
  |false=>simp only[↓aM,sss,if_true,if_false]
  |true=>
   simp only[↓aM,sss,if_true,if_false]
   by_cases c3:p.length<q.length
   ·have c3': ¬q.length≤p.length:=by omega
    simp only[c3,c3',↓aM,sss,if_true,if_false]
   ·have c3':q.length≤p.length:=by omega
    simp only[c3,c3',↓aM,sss,if_true,if_false]
    exact ba.loop hq c3' (by omega)
theorem fz.is{k:Nat}{s:LI×LI}(hk:4194304+3≤k)(hq:s.1.length≤1048576)(hp:s.2.length≤1048576):fz k s=some (Pu.aJ s.2 s.1):=by
 obtain⟨k,rfl⟩: ∃k',k=k'+1:=⟨k-1,by omega⟩
 rw[fz.eq,ba.is (by omega) hp hq]
 rfl
theorem bC.loop{k:Nat}{w:LI}(hw:w.length≤1048576)(hb: ∀x∈w,-1000000≤x∧x≤1000000): ∀(m j i:Nat) (s:Int),i+m=w.length→m<j→ -1000000*i≤s→s≤1000000*i→bC.L0 k j s i w=some (s+Pu.aT (w.drop i))
 |m,0,i,s,_,hj,_,_=>by omega
 |0,j+1,i,s,hm,_,_,_=>by
  rw[bC.bP]
  have e:i=w.length:=by omega
  subst e
  simp[Pu.aT]
 |m+1,j+1,i,s,hm,hj,hs1,hs2=>by
  rw[bC.bP]
  have hlt:i<w.length:=by omega
  have hx:=hb _ (List.getElem_mem hlt)
  rw[←Pu.an hlt 0]at hx
  have ih:=bC.loop (k:=k) hw hb m j (i+1) (s+w.getD i 0) (by omega) (by omega) (by omega) (by omega)
  rw[Int.natCast_succ]at ih
  rw[Pu.drop_cons hlt 0]
  simp (disch:=omega) only[↓aM,sss,if_true,if_false,hlt,ih,Pu.aT,Int.add_assoc]
theorem bC.is{k:Nat}{w:LI}(hk:4194304+1≤k)(hw:w.length≤1048576)(hb: ∀x∈w,-1000000≤x∧x≤1000000):bC k w=some (Pu.aT w):=by
 obtain⟨k,rfl⟩: ∃k',k=k'+1:=⟨k-1,by omega⟩
 rw[bC.eq]
 have h:=bC.loop (k:=k) hw hb w.length k 0 0 (by omega) (by omega) (by omega) (by omega)
 rw[Int.natCast_zero]at h
 rw[h,Int.zero_add,List.drop_zero]
theorem b6.tail{k:Nat}{o p:LI}{r:Int}(hk:4194304+1≤k)(hp:p.length≤1048576)(hb: ∀x∈p,x≤1000000000∧ -1000000000≤x)(h0:0≤r)(h1:r<p.length):
  b6.J1 k r p=some (if Pu.aX (p.set r.toNat (p.getD r.toNat 0+1))=true then(p.set r.toNat (p.getD r.toNat 0+1),true)else([],false)):=by
 rw[b6.j2]
 have hn:r.toNat<p.length:=by omega
 have hx:=hb _ (List.getElem_mem hn)
 rw[←Pu.an hn 0]at hx
 have ew:IntKind.i64.wrap (p.getD r.toNat 0+1)=p.getD r.toNat 0+1:=w64 (by omega) (by omega)
 have hi:=aC.is (k:=k) (p:=p.set r.toNat (p.getD r.toNat 0+1)) hk (by rw[List.length_set];exact hp)
 by_cases hq:Pu.aX (p.set r.toNat (p.getD r.toNat 0+1))=true
 ·simp only[↓aM,sss,if_true,if_false,h0,hn,ew,hi,hq]
 ·simp only[Bool.not_eq_true]at hq
  simp only[↓aM,sss,if_true,if_false,h0,hn,ew,hi,hq]
theorem b6.is{k:Nat}{p:LI}{r:Int}(hk:4194304+3≤k)(hp:p.length≤1000000):b6 k p r=some (Pu.cW p r):=by
 obtain⟨k,rfl⟩: ∃k',k=k'+1:=⟨k-1,by omega⟩
 rw[b6.eq,aC.is (by omega) (by omega),ch]
 unfold Pu.cW
 by_cases h1:Pu.aX p=true
 ·have hb: ∀x∈p,x≤1000000000∧ -1000000000≤x:=fun x hx=>by
   have:=(Pu.aH h1).1 x hx
   omega
  by_cases h2:r<0
  ·have h3: ¬0≤r:=by omega
   simp[h1,h2,h3]
  ·by_cases h3:(p.length:Int)<r
   ·have h4: ¬r≤p.length:=by omega
    simp[h1,h2,h3,h4]
   ·have h2':0≤r:=by omega
    have h3':r≤p.length:=by omega
    have hl:([]++p).length≤1099511627776:=by simp;omega
    rw[b6.lf]
    by_cases e:r=p.length
    ·have hr:r<(p++ [0]).length:=by rw[List.length_append];simp;omega
     have ht:=b6.tail (o:=p) (k:=k) (p:=p++ [0]) (r:=r) (by omega) (by rw[List.length_append];simp;omega) (fun x hx=>by
      rcases List.mem_append.1 hx with h|h
      ·exact hb x h
      ·simp at h;omega) h2' hr
     have hlim:(p++ [(0:Int)]).length≤1099511627776:=by rw[List.length_append];simp;omega
     have hlim':p.length≤1099511627776:=by omega
     have e':(r=(p.length:Int))=True:=eq_true e
     simp only[↓aM,sss,if_true,if_false,h1,h2,h3,e',hlim,hlim',List.nil_append]
     rw[ht];simp only[h2',h3',and_self,if_true]
    ·have ht:=b6.tail (o:=p) (k:=k) (p:=p) (r:=r) (by omega) (by omega) hb h2' (by omega)
     have hlim':p.length≤1099511627776:=by omega
     simp only[↓aM,sss,if_true,if_false,h1,h2,h3,e,hlim',List.nil_append]
     rw[ht];simp only[h2',h3',and_self,if_true]
 ·simp only[Bool.not_eq_true]at h1
  simp[h1]
theorem aK.ok{o:LI}(ho:Pu.aX o=true): ∀(d k:Nat) (c:LJ),4194304+10+d≤k→Pu.Ch c→Pu.aJ (Pu.bD c) o=true→(c.length:Int)≤Pu.aT (Pu.bD c)+1→Pu.aT o=Pu.aT (Pu.bD c)+d→
  Pu.Ok (aK k o c) fun L=>1≤L.length∧L.length≤Pu.fct d∧ ∀x∈L,Pu.Ch x:=by
 intro d
 induction d with
 |zero=>
  intro k c hk hc hi hl hs
  obtain⟨k,rfl⟩: ∃k',k=k'+1:=⟨k-1,by omega⟩
  obtain⟨c1,c2,c3⟩:=hc
  obtain⟨hp,_⟩:=Pu.eU hi
  rw[aK.eq]
  have hz:IntKind.i64.wrap ((c.length:Int)-1)=((c.length-1:Nat):Int):=by rw[w64 (by omega) (by omega)];omega
  simp only[dI,dP,cd,cK,cL,bJ,bK,bY,du,cp,cJ,bL,bM,cI,bc,bZ,cx,cP,dN,dU,cM,cH,bT,bU,bS,bW,List.nil_append,List.cons_append]
  simp only[hz,Int.toNat_natCast]
  (repeat (refine Pu.Ok.g (by first|omega|assumption|(simp only[List.length_append,List.length_cons,List.length_nil,List.length_set,List.length_take,List.length_drop,List.length_replicate]at*;omega)) ?_))
  refine Pu.Ok.eN (bC.is (w:=Pu.bD c) (by omega) (by have:=(Pu.cz hp).1;omega) fun x hx=>by have:=(Pu.cz hp).2 x hx;omega) ?_
  refine Pu.Ok.eN (bC.is (w:=o) (by omega) (by have:=(Pu.cz ho).1;omega) fun x hx=>by have:=(Pu.cz ho).2 x hx;omega) ?_
  refine Pu.Ok.t (fun _=>Pu.Ok.ret ⟨by simp,by simp[Pu.fct],fun x hx=>by simp only[List.mem_singleton]at hx;subst hx;exact⟨c1,c2,c3⟩⟩) (fun hn=>absurd (by rw[hs];simp) hn)
 |succ d ih=>
  intro k c hk hc hi hl hs
  obtain⟨k,rfl⟩: ∃k',k=k'+1:=⟨k-1,by omega⟩
  have hc':=hc
  obtain⟨c1,c2,c3⟩:=hc
  obtain⟨hp,_⟩:=Pu.eU hi
  have hso:=(Pu.aH ho).2.1
  rw[aK.eq]
  have hz:IntKind.i64.wrap ((c.length:Int)-1)=((c.length-1:Nat):Int):=by rw[w64 (by omega) (by omega)];omega
  simp only[dI,dP,cd,cK,cL,bJ,bK,bY,du,cp,cJ,bL,bM,cI,bc,bZ,cx,cP,dN,dU,cM,cH,bT,bU,bS,bW,List.nil_append,List.cons_append]
  simp only[hz,Int.toNat_natCast]
  (repeat (refine Pu.Ok.g (by first|omega|assumption|(simp only[List.length_append,List.length_cons,List.length_nil,List.length_set,List.length_take,List.length_drop,List.length_replicate]at*;omega)) ?_))
  have hlp:=(Pu.cz hp).1
  refine Pu.Ok.eN (bC.is (w:=Pu.bD c) (by omega) (by omega) fun x hx=>by have:=(Pu.cz hp).2 x hx;omega) ?_
  refine Pu.Ok.eN (bC.is (w:=o) (by omega) (by have:=(Pu.cz ho).1;omega) fun x hx=>by have:=(Pu.cz ho).2 x hx;omega) ?_
  refine Pu.Ok.t (fun e=>by omega) (fun _=> ?_)
  obtain⟨ra,oa,a1,a2,a3⟩:=Pu.Hy hi (by omega)
  have hT:=Pu.FU (d:=d) (by have:=Pu.mC hp 0;have:=(Pu.aH hp).2.2.2;omega)
  have hsucc:Pu.fct (d+1)=(d+1)*Pu.fct d:=rfl
  rw[hsucc]
  generalize Pu.fct d=T at*
  have hle:=Pu.kt hi
  obtain⟨F,hF⟩: ∃F:Nat→Int,F=fun r=>Pu.aT (o.take r)-Pu.aT ((Pu.bD c).take r):=⟨_,rfl⟩
  have hF1: ∀r,F (r+1)=F r+(o.getD r 0-(Pu.bD c).getD r 0):=fun r=>by
   subst hF
   simp only[Pu.xy]
   omega
  have hF0:F 0=0:=by subst hF;simp[Pu.aT]
  have hFe:F ((Pu.bD c).length+1)≤d+1:=by
   subst hF
   have h1:=(Pu.tD o (fun x hx=>by have:=(Pu.aH ho).1 x hx;omega) ((Pu.bD c).length+1)).2
   have h2:(Pu.bD c).take ((Pu.bD c).length+1)=Pu.bD c:=List.take_of_length_le (by omega)
   simp only[h2]
   omega
  have hFp: ∀r,0≤F r:=fun r=>by
   induction r with
   |zero=>omega
   |succ r ih=>have:=hF1 r;have:=hle r;omega
  have loop: ∀(m j r:Nat) (out:List LJ),r+m=(Pu.bD c).length+1→m<j→(out.length:Int)≤F r*T→(∀x∈out,Pu.Ch x)→(r≤ra∨1≤out.length)→
    Pu.Ok (aK.L0 k j (c.length-1) r o c out) fun L=>1≤L.length∧L.length≤(d+1)*T∧ ∀x∈L,Pu.Ch x:=by
   intro m
   induction m with
   |zero=>
    intro j r out hr hj hout hg hne
    obtain⟨j,rfl⟩: ∃j',j=j'+1:=⟨j-1,by omega⟩
    rw[aK.bP]
    simp only[dI,dP,cd,cK,cL,bJ,bK,bY,du,cp,cJ,bL,bM,cI,bc,bZ,cx,cP,dN,dU,cM,cH,bT,bU,bS,bW,List.nil_append,List.cons_append]
    (repeat (refine Pu.Ok.g (by first|omega|assumption|(simp only[List.length_append,List.length_cons,List.length_nil,List.length_set,List.length_take,List.length_drop,List.length_replicate]at*;omega)) ?_))
    refine Pu.Ok.no (show¬(r:Int)≤((Pu.bD c).length:Nat) by omega) (Pu.Ok.ret ⟨by omega,?_,hg⟩)
    have e:r=(Pu.bD c).length+1:=by omega
    subst e
    have:F ((Pu.bD c).length+1)*T≤(d+1:Int)*T:=Int.mul_le_mul_of_nonneg_right hFe (by omega)
    have e2:(((d+1)*T:Nat):Int)=(d+1:Int)*T:=by simp
    omega
   |succ m ihm=>
    intro j r out hr hj hout hg hne
    obtain⟨j,rfl⟩: ∃j',j=j'+1:=⟨j-1,by omega⟩
    have hw:IntKind.i64.wrap ((r:Int)+1)=((r+1:Nat):Int):=w64 (by omega) (by omega)
    have hmono:F r*T≤F (r+1)*T:=Int.mul_le_mul_of_nonneg_right (by have:=hF1 r;have:=hle r;omega) (by omega)
    have next: ∀out',(out'.length:Int)≤F (r+1)*T→(∀x∈out',Pu.Ch x)→(r+1≤ra∨1≤out'.length)→Pu.Ok (aK.J1 k j (c.length-1) r o c out') fun L=>1≤L.length∧L.length≤(d+1)*T∧ ∀x∈L,Pu.Ch x:=by
     intro out' h1 h2 h3
     rw[aK.j2]
     simp only[dI,dP,cd,cK,cL,bJ,bK,bY,du,cp,cJ,bL,bM,cI,bc,bZ,cx,cP,dN,dU,cM,cH,bT,bU,bS,bW,List.nil_append,List.cons_append]
     rw[hw]
     exact ihm j (r+1) out' (by omega) (by omega) h1 h2 h3
    rw[aK.bP]
    simp only[dI,dP,cd,cK,cL,bJ,bK,bY,du,cp,cJ,bL,bM,cI,bc,bZ,cx,cP,dN,dU,cM,cH,bT,bU,bS,bW,List.nil_append,List.cons_append]
    (repeat (refine Pu.Ok.g (by first|omega|assumption|(simp only[List.length_append,List.length_cons,List.length_nil,List.length_set,List.length_take,List.length_drop,List.length_replicate]at*;omega)) ?_))
    refine Pu.Ok.t (fun _=> ?_) (fun hn=>absurd (show(r:Int)≤((Pu.bD c).length:Nat) by omega) hn)
    (repeat (refine Pu.Ok.g (by first|omega|assumption|(simp only[List.length_append,List.length_cons,List.length_nil,List.length_set,List.length_take,List.length_drop,List.length_replicate]at*;omega)) ?_))
    refine Pu.Ok.eN (b6.is (p:=Pu.bD c) (r:=r) (by omega) (by omega)) ?_
    cases hab:Pu.cW (Pu.bD c) r with
    |mk q b=>
    cases b with
    |false=>
     refine Pu.Ok.tb (fun h=>by cases h) (fun _=>next out (by omega) hg ?_)
     rcases hne with h|h
     ·left
      refine Nat.lt_of_le_of_ne h fun e=> ?_
      subst e
      rw[a2]at hab;cases hab
     ·exact .inr h
    |true=>
     refine Pu.Ok.tb (fun _=> ?_) (fun h=>by cases h)
     obtain⟨b1,b2,b3,b4,b5⟩:=Pu.iR hab
     have hq:=Pu.cz b5
     refine Pu.Ok.eN (ba.is (q:=q) (p:=o) (by omega) (by have:=hq.1;omega) (by have:=(Pu.cz ho).1;omega)) ?_
     cases hin:Pu.aJ q o with
     |false=>
      refine Pu.Ok.tb (fun h=>by cases h) (fun _=>next out (by omega) hg ?_)
      rcases hne with h|h
      ·left
       refine Nat.lt_of_le_of_ne h fun e=> ?_
       subst e
       rw[a2]at hab
       injection hab with e1 _
       subst e1
       rw[a3]at hin;cases hin
      ·exact .inr h
     |true=>
      refine Pu.Ok.tb (fun _=> ?_) (fun h=>by cases h)
      have hsq:=Pu.sum_add hp hab
      have hql:=(Pu.aH b5).2.1
      simp only[List.nil_append]
      (repeat (refine Pu.Ok.g (by first|omega|assumption|(simp only[List.length_append,List.length_cons,List.length_nil,List.length_set,List.length_take,List.length_drop,List.length_replicate]at*;omega)) ?_))
      have hlast:=Pu.j6 c q
      refine Pu.Ok.bnd (ih k (c++ [q]) (by omega) ⟨by rw[List.length_append];omega,by rw[List.length_append,List.length_singleton];omega,fun x hx=> ?_⟩ (by rw[hlast];exact hin)
       (by rw[hlast,List.length_append,List.length_singleton];omega) (by rw[hlast];omega)) fun L hL=> ?_
      ·rcases List.mem_append.1 hx with h|h
       ·exact c3 x h
       ·simp only[List.mem_singleton]at h;subst h;exact hq
      obtain⟨l1,l2,l3⟩:=hL
      have hstep:F r*T+T≤F (r+1)*T:=by
       have h1:F r+1≤F (r+1):=by
        have h1:=hF1 r
        have h2:=Pu.kt hin r
        rw[b4,if_pos rfl]at h2
        omega
       have:=Int.mul_le_mul_of_nonneg_right h1 (show(0:Int)≤T by omega)
       rw[Int.add_mul,Int.one_mul]at this
       exact this
      have hbig:F r*T≤9*362880:=by
       have h1:F r≤9:=by
        subst hF
        have h1:=(Pu.tD o (fun x hx=>by have:=(Pu.aH ho).1 x hx;omega) r).2
        have h2:=(Pu.tD (Pu.bD c) (fun x hx=>by have:=(Pu.aH hp).1 x hx;omega) r).1
        show Pu.aT (o.take r)-Pu.aT ((Pu.bD c).take r)≤9
        omega
       exact Int.mul_le_mul h1 (by omega) (by omega) (by omega)
      have hlim:(out++L).length≤1099511627776:=by rw[List.length_append];omega
      refine Pu.Ok.g hlim (next (out++L) (by rw[List.length_append];omega) (fun x hx=> ?_) (.inr (by rw[List.length_append];omega)))
      rcases List.mem_append.1 hx with h|h
      ·exact hg x h
      ·exact l3 x h
  have h:=loop ((Pu.bD c).length+1) k 0 [] (by omega) (by omega) (by rw[hF0];simp) (fun x hx=>by cases hx) (.inl (by omega))
  exact h
theorem aK.isE {o : List Int} (ho : Pu.aX o = true) : ∀ (d k : Nat) (c : List (List Int)), 4194304 + 10 + d ≤ k → Pu.Ch c → Pu.aJ (Pu.bD c) o = true → (c.length : Int) ≤ Pu.aT (Pu.bD c) + 1 → Pu.aT o = Pu.aT (Pu.bD c) + d →
    aK k o c = some (Pu.fU o d c) := by
  intro d
  induction d with
  | zero =>
    intro k c hk hc hi hl hs
    obtain ⟨k, rfl⟩ : ∃ k', k = k' + 1 := ⟨k - 1, by omega⟩
    apply Pu.ok_eq
    obtain ⟨c1, c2, c3⟩ := hc
    obtain ⟨hp, _⟩ := Pu.eU hi
    rw [aK.eq]
    have hz : IntKind.i64.wrap ((c.length : Int) - 1) = ((c.length - 1 : Nat) : Int) := by rw [Pu.w64 (by omega) (by omega)]; omega
    simp only [dI, dP, cd, cK, cL, bJ, bK, bY, du, cp, cJ, bL, bM, cI, bc, bZ, cx, cP, dN, dU, cM, cH, bT, bU, bS, bW, List.nil_append, List.cons_append]
    simp only [hz, Int.toNat_natCast]
    (repeat (refine Pu.Ok.g (by first | omega | assumption | (simp only [List.length_append, List.length_cons, List.length_nil, List.length_set, List.length_take, List.length_drop, List.length_replicate] at *; omega)) ?_))
    refine Pu.Ok.eN (bC.is (w := Pu.bD c) (by omega) (by have := (Pu.cz hp).1; omega) fun x hx => by have := (Pu.cz hp).2 x hx; omega) ?_
    refine Pu.Ok.eN (bC.is (w := o) (by omega) (by have := (Pu.cz ho).1; omega) fun x hx => by have := (Pu.cz ho).2 x hx; omega) ?_
    exact Pu.Ok.t (fun _ => Pu.Ok.ret rfl) (fun hn => absurd (by rw [hs]; simp) hn)
  | succ d ih =>
    intro k c hk hc hi hl hs
    obtain ⟨k, rfl⟩ : ∃ k', k = k' + 1 := ⟨k - 1, by omega⟩
    apply Pu.ok_eq
    have hc' := hc
    obtain ⟨c1, c2, c3⟩ := hc
    obtain ⟨hp, _⟩ := Pu.eU hi
    have hso := (Pu.aH ho).2.1
    have hp0 := Pu.iw (Pu.bD c) fun x hx => by have := (Pu.aH hp).1 x hx; omega
    rw [aK.eq]
    have hz : IntKind.i64.wrap ((c.length : Int) - 1) = ((c.length - 1 : Nat) : Int) := by rw [Pu.w64 (by omega) (by omega)]; omega
    simp only [dI, dP, cd, cK, cL, bJ, bK, bY, du, cp, cJ, bL, bM, cI, bc, bZ, cx, cP, dN, dU, cM, cH, bT, bU, bS, bW, List.nil_append, List.cons_append]
    simp only [hz, Int.toNat_natCast]
    (repeat (refine Pu.Ok.g (by first | omega | assumption | (simp only [List.length_append, List.length_cons, List.length_nil, List.length_set, List.length_take, List.length_drop, List.length_replicate] at *; omega)) ?_))
    have hlp := (Pu.cz hp).1
    refine Pu.Ok.eN (bC.is (w := Pu.bD c) (by omega) (by omega) fun x hx => by have := (Pu.cz hp).2 x hx; omega) ?_
    refine Pu.Ok.eN (bC.is (w := o) (by omega) (by have := (Pu.cz ho).1; omega) fun x hx => by have := (Pu.cz ho).2 x hx; omega) ?_
    refine Pu.Ok.t (fun e => by omega) (fun _ => ?_)
    rw [Pu.fU]
    obtain ⟨g, hg⟩ : ∃ g : Nat → List (List (List Int)), g = fun r : Nat => if (Pu.cW (Pu.bD c) (r : Nat)).2 = true ∧ Pu.aJ (Pu.cW (Pu.bD c) (r : Nat)).1 o = true then Pu.fU o d (c ++ [(Pu.cW (Pu.bD c) (r : Nat)).1]) else [] := ⟨_, rfl⟩
    have hgl : ∀ r, (g r).length ≤ 10 ^ d := fun r => by
      rw [hg]
      show List.length (if _ then _ else _) ≤ _
      split
      · next h =>
        refine Pu.tU o d _ ?_
        rw [Pu.j6]
        exact (Pu.eU h.2).1
      · simp
    have hpow : (10 : Nat) ^ d ≤ 10 ^ 9 := Nat.pow_le_pow_right (by omega) (by omega)
    have hlim : ∀ n, n ≤ 10 → ((List.range n).flatMap g).length ≤ 10000000000 := fun n hn => by
      refine Nat.le_trans (Pu.nw g (10 ^ d) _ fun r _ => hgl r) ?_
      rw [List.length_range]
      exact Nat.le_trans (Nat.mul_le_mul hn hpow) (by decide)
    rw [← hg]
    have loop : ∀ (m j r : Nat), r + m = (Pu.bD c).length + 1 → m < j →
        Pu.Ok (aK.L0 k j (c.length - 1) r o c ((List.range r).flatMap g)) (· = (List.range ((Pu.bD c).length + 1)).flatMap g) := by
      intro m
      induction m with
      | zero =>
        intro j r hr hj
        obtain ⟨j, rfl⟩ : ∃ j', j = j' + 1 := ⟨j - 1, by omega⟩
        rw [aK.bP]
        simp only [dI, dP, cd, cK, cL, bJ, bK, bY, du, cp, cJ, bL, bM, cI, bc, bZ, cx, cP, dN, dU, cM, cH, bT, bU, bS, bW, List.nil_append, List.cons_append]
        (repeat (refine Pu.Ok.g (by first | omega | assumption | (simp only [List.length_append, List.length_cons, List.length_nil, List.length_set, List.length_take, List.length_drop, List.length_replicate] at *; omega)) ?_))
        refine Pu.Ok.no (show ¬ (r : Int) ≤ ((Pu.bD c).length : Nat) by omega) (Pu.Ok.ret ?_)
        rw [show r = (Pu.bD c).length + 1 by omega]
      | succ m ihm =>
        intro j r hr hj
        obtain ⟨j, rfl⟩ : ∃ j', j = j' + 1 := ⟨j - 1, by omega⟩
        have hw : IntKind.i64.wrap ((r : Int) + 1) = ((r + 1 : Nat) : Int) := Pu.w64 (by omega) (by omega)
        have next : ∀ out', out' = (List.range r).flatMap g ++ g r → Pu.Ok (aK.J1 k j (c.length - 1) r o c out') (· = (List.range ((Pu.bD c).length + 1)).flatMap g) := by
          intro out' h1
          rw [aK.j2]
          simp only [dI, dP, cd, cK, cL, bJ, bK, bY, du, cp, cJ, bL, bM, cI, bc, bZ, cx, cP, dN, dU, cM, cH, bT, bU, bS, bW, List.nil_append, List.cons_append]
          rw [hw]
          have e : out' = (List.range (r + 1)).flatMap g := by rw [h1, List.range_succ, List.flatMap_append]; simp
          rw [e]
          exact ihm j (r + 1) (by omega) (by omega)
        have hgr : g r = if (Pu.cW (Pu.bD c) (r : Nat)).2 = true ∧ Pu.aJ (Pu.cW (Pu.bD c) (r : Nat)).1 o = true then Pu.fU o d (c ++ [(Pu.cW (Pu.bD c) (r : Nat)).1]) else [] := by rw [hg]
        rw [aK.bP]
        simp only [dI, dP, cd, cK, cL, bJ, bK, bY, du, cp, cJ, bL, bM, cI, bc, bZ, cx, cP, dN, dU, cM, cH, bT, bU, bS, bW, List.nil_append, List.cons_append]
        (repeat (refine Pu.Ok.g (by first | omega | assumption | (simp only [List.length_append, List.length_cons, List.length_nil, List.length_set, List.length_take, List.length_drop, List.length_replicate] at *; omega)) ?_))
        refine Pu.Ok.t (fun _ => ?_) (fun hn => absurd (show (r : Int) ≤ ((Pu.bD c).length : Nat) by omega) hn)
        (repeat (refine Pu.Ok.g (by first | omega | assumption | (simp only [List.length_append, List.length_cons, List.length_nil, List.length_set, List.length_take, List.length_drop, List.length_replicate] at *; omega)) ?_))
        refine Pu.Ok.eN (b6.is (p := Pu.bD c) (r := r) (by omega) (by omega)) ?_
        cases hab : Pu.cW (Pu.bD c) r with
        | mk q b =>
        rw [hab] at hgr
        cases b with
        | false =>
          refine Pu.Ok.tb (fun h => by cases h) (fun _ => next _ ?_)
          rw [hgr, if_neg (fun h => by cases h.1), List.append_nil]
        | true =>
          refine Pu.Ok.tb (fun _ => ?_) (fun h => by cases h)
          obtain ⟨b1, b2, b3, b4, b5⟩ := Pu.iR hab
          have hq := Pu.cz b5
          refine Pu.Ok.eN (ba.is (q := q) (p := o) (by omega) (by have := hq.1; omega) (by have := (Pu.cz ho).1; omega)) ?_
          cases hin : Pu.aJ q o with
          | false =>
            refine Pu.Ok.tb (fun h => by cases h) (fun _ => next _ ?_)
            rw [hgr, if_neg (fun h => by rw [hin] at h; cases h.2), List.append_nil]
          | true =>
            refine Pu.Ok.tb (fun _ => ?_) (fun h => by cases h)
            have hsq := Pu.sum_add hp hab
            have hql := (Pu.aH b5).2.1
            simp only [List.nil_append]
            (repeat (refine Pu.Ok.g (by first | omega | assumption | (simp only [List.length_append, List.length_cons, List.length_nil, List.length_set, List.length_take, List.length_drop, List.length_replicate] at *; omega)) ?_))
            have hlast := Pu.j6 c q
            refine Pu.Ok.eN (ih k (c ++ [q]) (by omega) ⟨by rw [List.length_append]; omega, by rw [List.length_append, List.length_singleton]; omega, fun x hx => ?_⟩ (by rw [hlast]; exact hin)
              (by rw [hlast, List.length_append, List.length_singleton]; omega) (by rw [hlast]; omega)) ?_
            · rcases List.mem_append.1 hx with h | h
              · exact c3 x h
              · simp only [List.mem_singleton] at h; subst h; exact hq
            rw [if_pos ⟨rfl, hin⟩] at hgr
            dsimp only at hgr
            have l1 := hlim r (by omega)
            have l2 := hgl r
            rw [hgr] at l2
            refine Pu.Ok.g (by rw [List.length_append]; have : (10 : Nat) ^ 9 = 1000000000 := by decide
                               omega) (next _ (by rw [hgr]))
    exact loop ((Pu.bD c).length + 1) k 0 (by omega) (by omega)
theorem cR.is{k:Nat}{p:LI}{i:Int}(hk:1≤k):cR k p i=some (Pu.atI p i):=by
 obtain⟨k,rfl⟩: ∃k',k=k'+1:=⟨k-1,by omega⟩
 rw[cR.eq,cR.lf]
 by_cases h1:i<0
 ·simp only[↓aM,sss,if_true,if_false,h1,Pu.mD h1]
 ·by_cases h2:(p.length:Int)≤i
  ·simp only[↓aM,sss,if_true,if_false,h1,h2,Pu.xj h2]
  ·have h3:0≤i:=by omega
   have h4:i.toNat<p.length:=by omega
   simp only[↓aM,sss,if_true,if_false,h1,h2,h3,h4,Pu.atI]
theorem aF.Bt{k k1:Nat}{a r:Nat}{c:LJ}{x6 x7:LI}{y:LJ}{rows:LJ}{Q:LI×LJ→Prop}(hk:4194304+1≤k)(hc1:1≤c.length)(hc:c.length≤10)(hr9:r≤9)(hrows:rows.length≤9)
  (key:Pu.Ok (aF.L0 k k1 a (((r+1:Nat):Int)) c x6 y x7 (rows++ [Pu.zq c r])) Q):
  ∀(m j q:Nat),q+m=c.length→1≤q→m<j→Pu.Ok (aF.L1 k k1 j a r q c (Pu.tQ c r q) x6 y x7 rows) Q
 |m,0,q,_,_,hj=>by omega
 |0,j+1,q,hq,h1,hj=>by
  rw[aF.fX]
  simp only[dI,dP,cd,cK,cL,bJ,bK,bY,du,cp,cJ,bL,bM,cI,bc,bZ,cx,cP,dN,dU,cM,cH,bT,bU,bS,bW,List.nil_append,List.cons_append]
  have hw:IntKind.i64.wrap ((r:Int)+1)=((r+1:Nat):Int):=w64 (by omega) (by omega)
  refine Pu.Ok.no (by omega) ?_
  refine Pu.Ok.g (by rw[List.length_append];simp;omega) ?_
  rw[hw,show q=c.length by omega,Pu.EM]
  exact key
 |m+1,j+1,q,hq,h1,hj=>by
  have hqc:q<c.length:=by omega
  rw[aF.fX]
  have hw:IntKind.i64.wrap ((q:Int)-1)=((q-1:Nat):Int):=by rw[w64 (by omega) (by omega)];omega
  have hw2:IntKind.i64.wrap ((q:Int)+1)=((q+1:Nat):Int):=w64 (by omega) (by omega)
  have hl:=Pu.EY c r q
  simp only[dI,dP,cd,cK,cL,bJ,bK,bY,du,cp,cJ,bL,bM,cI,bc,bZ,cx,cP,dN,dU,cM,cH,bT,bU,bS,bW,List.nil_append,List.cons_append]
  simp only[hw,Int.toNat_natCast]
  refine Pu.Ok.t (fun _=> ?_) (fun hn=>absurd (show(q:Int)<(c.length:Nat) by omega) hn)
  (repeat (refine Pu.Ok.g (by first|omega|assumption|(simp only[List.length_append,List.length_cons,List.length_nil,List.length_set,List.length_take,List.length_drop,List.length_replicate]at*;omega)) ?_))
  refine Pu.Ok.eN (cR.is (by omega)) ?_
  (repeat (refine Pu.Ok.g (by first|omega|assumption|(simp only[List.length_append,List.length_cons,List.length_nil,List.length_set,List.length_take,List.length_drop,List.length_replicate]at*;omega)) ?_))
  refine Pu.Ok.eN (cR.is (by omega)) ?_
  rw[Pu.dn,Pu.dn]
  have hs:=Pu.Cy c r h1
  have next: ∀row':LI,row'=Pu.tQ c r (q+1)→Pu.Ok (aF.J2 k k1 j a r q c row' x6 y x7 rows) Q:=fun row' hr'=>by
   rw[aF.rO]
   simp only[dI,dP,cd,cK,cL,bJ,bK,bY,du,cp,cJ,bL,bM,cI,bc,bZ,cx,cP,dN,dU,cM,cH,bT,bU,bS,bW,List.nil_append,List.cons_append]
   rw[hw2,hr']
   exact aF.Bt hk hc1 hc hr9 hrows key m j (q+1) (by omega) (by omega) (by omega)
  refine Pu.Ok.t (fun h=> ?_) (fun h=>next _ ?_)
  ·refine Pu.Ok.g (by rw[List.length_append];simp;omega) (next _ ?_)
   rw[hs,if_pos h]
  ·rw[hs,if_neg h,List.append_nil]
theorem aF.isE{k:Nat}{c:LJ}(hk:4194304+3≤k)(hc:Pu.Ch c):aF k c=some (Pu.ou c):=by
 obtain⟨k,rfl⟩: ∃k',k=k'+1:=⟨k-1,by omega⟩
 apply Pu.ok_eq
 obtain⟨c1,c2,c3⟩:=hc
 have h0:(c.getD 0 []).length≤9:=by rw[Pu.an c1 []];exact(c3 _ (List.getElem_mem c1)).1
 have hlast:(c.getD (c.length-1) []).length≤9:=by rw[Pu.an (show c.length-1<c.length by omega) []];exact(c3 _ (List.getElem_mem _)).1
 rw[aF.eq]
 have hz:IntKind.i64.wrap ((c.length:Int)-1)=((c.length-1:Nat):Int):=by rw[w64 (by omega) (by omega)];omega
 have z0:(0:Int).toNat=0:=rfl
 simp only[dI,dP,cd,cK,cL,bJ,bK,bY,du,cp,cJ,bL,bM,cI,bc,bZ,cx,cP,dN,dU,cM,cH,bT,bU,bS,bW,List.nil_append,List.cons_append]
 simp only[hz,Int.toNat_natCast,z0,List.nil_append]
 (repeat (refine Pu.Ok.g (by first|omega|assumption|(simp only[List.length_append,List.length_cons,List.length_nil,List.length_set,List.length_take,List.length_drop,List.length_replicate]at*;omega)) ?_))
 have loop: ∀(m j r:Nat),r+m=(c.getD (c.length-1) []).length→m<j→
   Pu.Ok (aF.L0 k j (c.length-1) r c [] [] (c.getD 0 []) ((List.range r).map (Pu.zq c))) (· =Pu.ou c):=by
  intro m
  induction m with
  |zero=>
   intro j r hr hj
   obtain⟨j,rfl⟩: ∃j',j=j'+1:=⟨j-1,by omega⟩
   rw[aF.bP]
   simp only[dI,dP,cd,cK,cL,bJ,bK,bY,du,cp,cJ,bL,bM,cI,bc,bZ,cx,cP,dN,dU,cM,cH,bT,bU,bS,bW,List.nil_append,List.cons_append]
   (repeat (refine Pu.Ok.g (by first|omega|assumption|(simp only[List.length_append,List.length_cons,List.length_nil,List.length_set,List.length_take,List.length_drop,List.length_replicate]at*;omega)) ?_))
   refine Pu.Ok.no (by omega) (Pu.Ok.ret ?_)
   rw[show r=(c.getD (c.length-1) []).length by omega]
   rfl
  |succ m ih=>
   intro j r hr hj
   obtain⟨j,rfl⟩: ∃j',j=j'+1:=⟨j-1,by omega⟩
   rw[aF.bP]
   simp only[dI,dP,cd,cK,cL,bJ,bK,bY,du,cp,cJ,bL,bM,cI,bc,bZ,cx,cP,dN,dU,cM,cH,bT,bU,bS,bW,List.nil_append,List.cons_append]
   (repeat (refine Pu.Ok.g (by first|omega|assumption|(simp only[List.length_append,List.length_cons,List.length_nil,List.length_set,List.length_take,List.length_drop,List.length_replicate]at*;omega)) ?_))
   refine aF.Bt (by omega) c1 c2 (by omega) (by rw[List.length_map,List.length_range];omega) ?_ (c.length-1) k 1 (by omega) (by omega) (by omega)
   have:=ih j (r+1) (by omega) (by omega)
   rw[List.range_succ,List.map_append]at this
   exact this
 exact loop (c.getD (c.length-1) []).length k 0 (by omega) (by omega)
theorem bG.loop{k:Nat}{t:Pu.Tab}{x3 x4:LI}(hk:4194304+3≤k)(hi:Pu.aX t.1=true)(h2:t.2.length≤9)(hr: ∀x∈t.2,x.length≤1048576): ∀(m j i:Nat) (acc:LI),i+m=t.2.length→m<j→acc.length=i→
  bG.L1 k j i t.1 t.2 x3 x4 acc t.1=some (if Pu.aJ t.1 (acc++Pu.eV t.1 i (t.2.drop i))=true then((acc++Pu.eV t.1 i (t.2.drop i),t.1),true)else(([],[]),false))
 |m,0,i,acc,_,hj,_=>by omega
 |0,j+1,i,acc,hm,_,hacc=>by
  rw[bG.fX]
  have e:i=t.2.length:=by omega
  have h9:=(Pu.aH hi).2.2.1
  have hlt: ¬i<t.2.length:=by omega
  rw[fz.is (by omega) (by simp only;omega) (by simp only;omega),e]
  simp only[↓aM,sss,if_true,if_false,Nat.lt_irrefl,List.drop_length,Pu.eV,List.append_nil]
  cases Pu.aJ t.1 acc<;>simp
 |m+1,j+1,i,acc,hm,hj,hacc=>by
  rw[bG.fX]
  have hlt:i<t.2.length:=by omega
  have hb:=Pu.dm hi i
  have hrow:=hr t.2[i] (List.getElem_mem hlt)
  rw[←Pu.an hlt []]at hrow
  rw[cR.is (by omega)]
  have ih:=bG.loop (x3:=x3) (x4:=x4) hk hi h2 hr m j (i+1) (acc++ [Pu.atI t.1 i+(t.2.getD i []).length]) (by omega) (by omega) (by simp[hacc])
  rw[Int.natCast_succ]at ih
  rw[Pu.drop_cons hlt []]
  have hl:(acc++ [Pu.atI t.1 i+((t.2.getD i []).length:Int)]).length≤1099511627776:=by simp;omega
  simp (disch:=omega) only[↓aM,sss,if_true,if_false,hlt,hl,ih,Pu.eV]
  simp only[List.append_assoc,List.singleton_append,Pu.dn]
  rfl
theorem bG.is{k:Nat}{t:Pu.Tab}(hk:4194304+4≤k)(h1:t.1.length≤1048576)(h2:t.2.length≤1048576)(hr: ∀x∈t.2,x.length≤1048576):bG k t=some (Pu.shapeOf t):=by
 obtain⟨k,rfl⟩: ∃k',k=k'+1:=⟨k-1,by omega⟩
 rw[bG.eq,aC.is (by omega) h1,bG.lf]
 have hl:t.1.length≤1099511627776:=by omega
 simp only[↓aM,sss,if_true,if_false,List.nil_append,hl]
 unfold Pu.shapeOf
 cases c1:Pu.aX t.1 with
 |false=>
  have:Pu.cX t=false:=by unfold Pu.cX;rw[c1];rfl
  simp only[this,↓aM,sss,if_true,if_false]
 |true=>
  by_cases c2:t.2.length<t.1.length
  ·have:Pu.cX t=false:=by
    have: ¬t.1.length≤t.2.length:=by omega
    unfold Pu.cX;simp[this]
   simp only[this,c2,↓aM,sss,if_true,if_false]
  ·by_cases c3:9<t.2.length
   ·have:Pu.cX t=false:=by
     cases h:Pu.cX t with
     |false=>rfl
     |true=>have:=Pu.By h;omega
    have c3':(9:Int)<t.2.length:=by omega
    simp only[this,c2,c3',↓aM,sss,if_true,if_false]
   ·have c3': ¬(9:Int)<t.2.length:=by omega
    have c2':t.1.length≤t.2.length:=by omega
    have hloop:=bG.loop (k:=k) (t:=t) (x3:= []) (x4:= []) (by omega) c1 (by omega) hr t.2.length k 0 [] (by omega) (by omega) rfl
    rw[Int.natCast_zero]at hloop
    simp only[c2,c3',↓aM,sss,if_true,if_false]
    rw[hloop]
    have:Pu.cX t=Pu.aJ t.1 (Pu.outer t):=by unfold Pu.cX;simp[c1,c2']
    rw[this]
    rfl
theorem bX.is{k:Nat}{t:Pu.Tab}{r c:Int}(hk:2≤k)(hi:Pu.aX t.1=true)(h1: -1000000000≤c)(h2:c≤1000000000):bX k t r c=some (Pu.entry t r c):=by
 obtain⟨k,rfl⟩: ∃k',k=k'+1:=⟨k-1,by omega⟩
 have hb:=Pu.dm hi r
 rw[bX.eq,bX.lf,cR.is (by omega)]
 unfold Pu.entry
 by_cases c1:r<0
 ·simp only[↓aM,sss,if_true,if_false,c1]
 ·by_cases c2:(t.2.length:Int)≤r
  ·simp only[↓aM,sss,if_true,if_false,c1,c2]
  ·have c3:0≤r:=by omega
   have c4:r.toNat<t.2.length:=by omega
   simp (disch:=omega) only[↓aM,sss,if_true,if_false,c1,c2,c3,c4]
   by_cases d1:c-Pu.atI t.1 r<0
   ·simp only[↓aM,sss,if_true,if_false,d1,Pu.mD d1]
   ·by_cases d2:((t.2.getD r.toNat []).length:Int)≤c-Pu.atI t.1 r
    ·simp only[↓aM,sss,if_true,if_false,d1,d2,Pu.xj d2]
    ·have d3:0≤c-Pu.atI t.1 r:=by omega
     have d4:(c-Pu.atI t.1 r).toNat<(t.2.getD r.toNat []).length:=by omega
     rw[bX.j2]
     generalize c-Pu.atI t.1 r=z at*
     simp only[↓aM,sss,if_true,if_false,c3,c4,d1,d2,d3,d4,Pu.atI]
theorem az.IZ{k k1 k2:Nat}{t:Pu.Tab}{r:Nat}{c x v:Int}{o n:LI}(hk:3≤k)(hi:Pu.aX t.1=true)(h1:0≤c)(h2:c≤10000000)(hr:r≤1048576):
  az.J2 k k1 k2 r c x v t.1 t.2 o n=if(Pu.within x 1 9&&(decide (v≤x)&&decide (Pu.entry t ((r:Int)-1) c<x)))=true then az.L1 k k1 k2 r (c+1) t.1 t.2 o n else some false:=by
 have he:=bX.is (k:=k) (t:=t) (r:=(r:Int)-1) (c:=c) (by omega) hi (by omega) (by omega)
 rw[az.rO,iQ.is (by omega),az.An]
 simp (disch:=omega) only[↓aM,sss,if_true,if_false,he]
 cases Pu.within x 1 9 with
 |false=>simp
 |true=>
  by_cases c1:v≤x
  ·have c1': ¬x<v:=by omega
   by_cases c2:Pu.entry t ((r:Int)-1) c<x
   ·have c2': ¬x≤Pu.entry t ((r:Int)-1) c:=by omega
    simp[c1,c1',c2,c2']
   ·have c2':x≤Pu.entry t ((r:Int)-1) c:=by omega
    simp[c1,c1',c2,c2']
  ·have c1':x<v:=by omega
   simp[c1,c1']
theorem az.inner{k k1:Nat}{t:Pu.Tab}{r:Nat}{n:LI}(hk:4194304≤k)(hi:Pu.aX t.1=true)(ht:t.2.length≤1048576)(hr: ∀x∈t.2,x.length≤1048576)(hlt:r<t.2.length):
  az.L1 k k1 k r (t.1.getD r 0) t.1 t.2 (Pu.outer t) n=if((List.range' 0 (t.2.getD r []).length).all fun q=>Pu.fp t r q)=true then az.L0 k k1 ((r:Int)+1) t.1 t.2 (Pu.outer t) n else some false:=by
 have hx:=hr _ (List.getElem_mem hlt)
 rw[←Pu.an hlt []]at hx
 have hb:=Pu.dm hi r
 rw[Pu.dn]at hb
 have hol:r<(Pu.outer t).length:=by unfold Pu.outer;rw[Pu.iy];exact hlt
 have ho:(Pu.outer t).getD r 0=t.1.getD r 0+((t.2.getD r []).length:Int):=by
  have:=Pu.fg t.1 t.2 0 r hlt
  rw[Nat.zero_add]at this
  exact this
 have h:=Pu.l9 (fun j q=>az.L1 k k1 j r (t.1.getD r 0+(q:Int)) t.1 t.2 (Pu.outer t) n) (t.2.getD r []).length (fun q=>Pu.fp t r q) (some false) (az.L0 k k1 ((r:Int)+1) t.1 t.2 (Pu.outer t) n)
  (fun j q hq=>by
   rw[az.fX]
   have hc:t.1.getD r 0+(q:Int)<(Pu.outer t).getD r 0:=by rw[ho];omega
   have e1:=bX.is (k:=k) (t:=t) (r:=r) (c:=t.1.getD r 0+q) (by omega) hi (by omega) (by omega)
   have e2:=bX.is (k:=k) (t:=t) (r:=r) (c:=t.1.getD r 0+q-1) (by omega) hi (by omega) (by omega)
   rw[Pu.Ba hlt]at e1
   rw[Pu.BM hlt]at e2
   have ej:=fun v=>az.IZ (k:=k) (k1:=k1) (k2:=j) (t:=t) (r:=r) (c:=t.1.getD r 0+q) (x:=(t.2.getD r []).getD q 0) (v:=v) (o:=Pu.outer t) (n:=n) (by omega) hi (by omega) (by omega) (by omega)
   have en:t.1.getD r 0+(q:Int)+1=t.1.getD r 0+((q+1:Nat):Int):=by omega
   rw[en]at ej
   have key: ∀v:Int,v=(if q=0 then 0 else(t.2.getD r []).getD (q-1) 0)→(Pu.within ((t.2.getD r []).getD q 0) 1 9&&(decide (v≤(t.2.getD r []).getD q 0)&&decide (Pu.entry t ((r:Int)-1) (t.1.getD r 0+q)<(t.2.getD r []).getD q 0)))=Pu.fp t r q:=by
    intro v hv
    unfold Pu.fp
    cases hw:Pu.within ((t.2.getD r []).getD q 0) 1 9 with
    |false=>rfl
    |true=>
     have hw1:1≤(t.2.getD r []).getD q 0:=by
      simp only[Pu.within,Bool.and_eq_true,decide_eq_true_eq]at hw;exact hw.1
     simp only[Bool.true_and]
     congr 1
     ·by_cases e:q=0
      ·have:v≤(t.2.getD r []).getD q 0:=by rw[hv,if_pos e];omega
       simp[e,this]
       simpa[e]using this
      ·rw[hv,if_neg e];simp[e]
     ·by_cases e:r=0
      ·subst e
       rw[Pu.E6 (by omega),decide_eq_true (show(0:Int)<(t.2.getD 0 []).getD q 0 by omega)]
       simp only[decide_true,Bool.true_or]
      ·simp[e]
   by_cases hc0:0<t.1.getD r 0+(q:Int)
   ·simp (disch:=omega) only[↓aM,sss,if_true,if_false,hol,hc,e1,hc0,e2,ej]
    rw[key _ rfl]
   ·simp (disch:=omega) only[↓aM,sss,if_true,if_false,hol,hc,e1,hc0,ej]
    rw[key 0 (by
           have:q=0:=by omega
           rw[if_pos this])])
  (fun j=>by
   rw[az.fX]
   have hc: ¬t.1.getD r 0+((t.2.getD r []).length:Int)<(Pu.outer t).getD r 0:=by rw[ho];omega
   simp (disch:=omega) only[↓aM,sss,if_true,if_false,hol,hc]) (t.2.getD r []).length k 0 (by omega) (by omega)
 simp only[Int.natCast_zero,Int.add_zero]at h
 exact h
theorem az.is{k:Nat}{t:Pu.Tab}(hk:4194304+5≤k)(h1:t.1.length≤1048576)(ht:t.2.length≤1048576)(hr: ∀x∈t.2,x.length≤1048576):az k t=some (Pu.eI t):=by
 obtain⟨k,rfl⟩: ∃k',k=k'+1:=⟨k-1,by omega⟩
 rw[az.eq,bG.is (by omega) h1 ht hr,ch]
 unfold Pu.eI Pu.shapeOf
 cases hs:Pu.cX t with
 |false=>simp[hs]
 |true=>
  have hi:Pu.aX t.1=true:=by
   simp only[Pu.cX,Bool.and_eq_true]at hs;exact hs.1
  have hol:(Pu.outer t).length=t.2.length:=by unfold Pu.outer;rw[Pu.iy]
  have h:=Pu.l9 (fun j r=>az.L0 k j r t.1 t.2 (Pu.outer t) t.1) t.2.length (fun r=>(List.range' 0 (t.2.getD r []).length).all fun q=>Pu.fp t r q) (some false) (some true)
   (fun j r hlt=>by
    rw[az.bP,cR.is (by omega),Pu.dn]
    simp (disch:=omega) only[↓aM,sss,if_true,if_false,hol,hlt,az.inner (k1:=j) (n:=t.1) (show 4194304≤k by omega) hi ht hr hlt,Int.natCast_add,Int.natCast_one])
   (fun j=>by
    rw[az.bP]
    simp (disch:=omega) only[↓aM,sss,if_true,if_false,hol,Nat.lt_irrefl]) t.2.length k 0 (by omega) (by omega)
  simp only[Int.natCast_zero]at h
  simp only[if_true,↓aM,sss,if_true,if_false]
  rw[h]
  cases(List.range' 0 t.2.length).all fun r=>(List.range' 0 (t.2.getD r []).length).all fun q=>Pu.fp t r q<;>simp
theorem cw.Br{k:Nat}{sep:List UInt8}{ws:List (List UInt8)}(hs:sep.length≤10)(hw: ∀w∈ws,w.length≤10000)(hn:ws.length≤1000): ∀(m j i:Nat),i+m=ws.length→m<j→Pu.Ok (cw.L0 k j (Pu.tx sep) i (ws.map Pu.tx) ((Pu.oU ws sep i).map fun b=>(b.toNat:Int))) (· =Pu.tx (Lib.join ws sep))
 |m,0,i,_,hj=>by omega
 |0,j+1,i,hi,_=>by
  rw[cw.bP]
  simp only[dI,dP,cd,cK,cL,bJ,bK,bY,du,cp,cJ,bL,bM,cI,bc,bZ,cx,cP,dN,dU,cM,cH,bT,bU,bS,bW,List.nil_append,List.cons_append]
  refine Pu.Ok.no (by rw[List.length_map];omega) ?_
  refine Pu.Ok.ret ?_
  unfold Pu.oU
  rw[List.take_of_length_le (by omega)]
  exact Pu.HJ _
 |m+1,j+1,i,hi,hj=>by
  rw[cw.bP]
  have hlen:(Pu.oU ws sep i).length≤1000*10010:=by
   have h1:=Pu.Au (ws.take i) sep 10000 (fun w h=>hw w (List.mem_of_mem_take h))
   have h2:(ws.take i).length*(10000+sep.length)≤1000*10010:=Nat.mul_le_mul (by rw[List.length_take];omega) (by omega)
   exact Nat.le_trans h1 h2
  have key: ∀acc:List UInt8,acc=Pu.oU ws sep i++(if i=0 then []else sep)→Pu.Ok (cw.J1 k j (Pu.tx sep) i (ws.map Pu.tx) (acc.map fun b=>(b.toNat:Int))) (· =Pu.tx (Lib.join ws sep)):=by
   intro acc ha
   rw[cw.j2]
   have hi':i<ws.length:=by omega
   have e1:(ws.map Pu.tx).getD i (⟨#[]⟩:ByteArray)=Pu.tx (ws.getD i []):=by
    rw[Pu.an (by rw[List.length_map];exact hi') _,Pu.an hi' _,List.getElem_map]
   have hx:(ws.getD i []).length≤10000:=by
    rw[Pu.an hi' _];exact hw _ (List.getElem_mem hi')
   have hal:acc.length≤1000*10010+10:=by
    rw[ha,List.length_append]
    split
    ·simp;omega
    ·omega
   simp only[FT]
   simp only[dI,dP,cd,cK,cL,bJ,bK,bY,du,cp,cJ,bL,bM,cI,bc,bZ,cx,cP,dN,dU,cM,cH,bT,bU,bS,bW,List.nil_append,List.cons_append]
   (try simp only[Int.toNat_natCast]);(try simp (disch:=omega) only[w64])
   have e2:(Pu.tx (ws.getD i [])).data.toList=ws.getD i []:=rfl
   simp only[e1,e2,List.length_map (f:=Pu.tx)]
   refine Pu.Ok.g (by omega) (Pu.Ok.g hi' (Pu.Ok.g hi' (Pu.Ok.g (by rw[List.length_append,List.length_map,List.length_map];omega) ?_)))
   rw[←List.map_append,ha,←Pu.A8 hi']
   exact cw.Br hs hw hn m j (i+1) (by omega) (by omega)
  simp only[dI,dP,cd,cK,cL,bJ,bK,bY,du,cp,cJ,bL,bM,cI,bc,bZ,cx,cP,dN,dU,cM,cH,bT,bU,bS,bW,List.nil_append,List.cons_append]
  refine Pu.Ok.g (by rw[List.length_map];omega) ?_
  simp only[FT]
  refine Pu.Ok.t (fun h0=> ?_) (fun h0=> ?_)
  ·have e2:(Pu.tx sep).data.toList=sep:=rfl
   simp only[e2]
   refine Pu.Ok.g (by rw[List.length_append,List.length_map,List.length_map];omega) ?_
   rw[←List.map_append]
   exact key _ (by rw[if_neg (by omega)])
  ·exact key _ (by rw[if_pos (by omega),List.append_nil])
theorem cw.isE{k:Nat}{sep:List UInt8}{ws:List (List UInt8)}(hk:2000≤k)(hs:sep.length≤10)(hw: ∀w∈ws,w.length≤10000)(hn:ws.length≤1000):cw k (ws.map Pu.tx) (Pu.tx sep)=some (Pu.tx (Lib.join ws sep)):=by
 obtain⟨k,rfl⟩: ∃k',k=k'+1:=⟨k-1,by omega⟩
 apply Pu.ok_eq
 rw[cw.eq]
 have h:=cw.Br (k:=k) hs hw hn ws.length k 0 (by omega) (by omega)
 unfold Pu.oU at h
 rw[List.take_zero,Lib.join_nil,List.map_nil]at h
 exact h
theorem bh.Br{k:Nat}: ∀(m j:Nat) (n:Int) (s:List UInt8),0≤n→n<10^m→m≤2→m<j→s.length+m≤1000→Pu.Ok (bh.L0 k j n false (Pu.tx s)) (· =Pu.tx ((if n=0 then []else Pu.dcm n)++s))
 |m,0,n,s,_,_,_,hj,_=>by omega
 |m,j+1,n,s,h0,hn,hm,hj,hs=>by
  rw[bh.bP]
  simp only[dI,dP,cd,cK,cL,bJ,bK,bY,du,cp,cJ,bL,bM,cI,bc,bZ,cx,cP,dN,dU,cM,cH,bT,bU,bS,bW,List.nil_append,List.cons_append]
  refine Pu.Ok.tnd (fun hz=> ?_) (fun hz=> ?_)
  ·obtain⟨m,rfl⟩: ∃m',m=m'+1:=by
    cases m with
    |zero=>simp at hn;omega
    |succ m=>exact⟨m,rfl⟩
   have h10:n<100:=by
    have:(10:Int)^(m+1)≤10^2:=by rcases(by omega:m=0∨m=1)with rfl|rfl<;>decide
    omega
   refine Pu.Ok.gn (by decide) ?_
   simp only[H5,H8]
   have e1:n.tmod 10=n % 10:=Int.tmod_eq_emod_of_nonneg h0
   have e2:n.tdiv 10=n/10:=Int.tdiv_eq_ediv_of_nonneg h0
   refine Pu.Ok.no (by rw[e1];omega) ?_
   rw[bh.j2]
   simp only[H5,H8,F2,e1,e2]
   simp only[dI,dP,cd,cK,cL,bJ,bK,bY,du,cp,cJ,bL,bM,cI,bc,bZ,cx,cP,dN,dU,cM,cH,bT,bU,bS,bW,List.nil_append,List.cons_append]
   rw[w64 (n:=48+n % 10) (by omega) (by omega),w64 (n:=n/10) (by omega) (by omega)]
   have ed:(⟨(([IntKind.u8.wrap (48+n % 10)]:LI).map fun n=>UInt8.ofNat n.toNat).toArray⟩:ByteArray)=Pu.tx [UInt8.ofNat (48+n.toNat % 10)]:=by
    have h1:IntKind.u8.wrap (48+n % 10)=48+n % 10:=by
     simp[IntKind.wrap,IntKind.bits,IntKind.signed];omega
    have h2:(48+n % 10).toNat=48+n.toNat % 10:=by omega
    simp only[List.map_cons,List.map_nil,h1,h2]
    rfl
   rw[ed,Pu.yI,Pu.mJ,Pu.mJ]
   refine Pu.Ok.g (by simp only[List.length_cons,List.length_nil];omega) ?_
   refine Pu.Ok.gn (by decide) ?_
   refine(bh.Br m j (n/10) _ (by omega) (by rw[Int.pow_succ]at hn;omega) (by omega) (by omega) (by simp only[List.length_append,List.length_cons,List.length_nil];omega)).mono ?_
   rintro _ rfl
   rw[if_neg hz]
   congr 1
   by_cases hc:n<10
   ·rw[if_pos (by omega),Pu.nE hc]
    have:n.toNat % 10=n.toNat:=by omega
    rw[this];rfl
   ·rw[if_neg (by omega),Pu.nE (n:=n/10) (by omega),Pu.C2 (by omega) h10]
    have:(n/10).toNat=n.toNat/10:=by omega
    rw[this];rfl
  ·rw[if_pos hz]
   exact Pu.Ok.tb (fun h=>by cases h) (fun _=>Pu.Ok.ret rfl)
theorem bh.isE{k:Nat}{n:Int}(hk:1000≤k)(h0:0≤n)(h1:n<100):bh k n=some (Pu.tx (Pu.dcm n)):=by
 obtain⟨k,rfl⟩: ∃k',k=k'+1:=⟨k-1,by omega⟩
 apply Pu.ok_eq
 rw[bh.eq]
 simp only[dI,dP,cd,cK,cL,bJ,bK,bY,du,cp,cJ,bL,bM,cI,bc,bZ,cx,cP,dN,dU,cM,cH,bT,bU,bS,bW,List.nil_append,List.cons_append]
 refine Pu.Ok.t (fun h=> ?_) (fun h=> ?_)
 ·subst h
  rw[Pu.nE (by decide)]
  exact Pu.Ok.ret rfl
 ·rw[decide_eq_false (by omega: ¬n<0)]
  refine(bh.Br (k:=k) 2 k n [] h0 (by omega) (by omega) (by omega) (by decide)).mono ?_
  rintro _ rfl
  rw[if_neg h,List.append_nil]
theorem AU{t:Pu.Tab}(h:Pu.eI t=true){i q:Nat}(hi:i<t.2.length)(hq:q<(t.2.getD i []).length):1≤(t.2.getD i []).getD q 0∧(t.2.getD i []).getD q 0≤9:=by
 simp only[Pu.eI,Bool.and_eq_true]at h
 have h1:=Pu.cG.1 h.2 i hi
 have h2:=Pu.cG.1 h1 q hq
 simp only[Pu.fp,Pu.within,Bool.and_eq_true,decide_eq_true_eq]at h2
 exact h2.1
theorem ar.IE{k k1:Nat}{i:Nat}{ws:List ByteArray}{t:Pu.Tab}{v:ByteArray}(hk:1000≤k)(ht:Pu.eI t=true)(hi:i<t.2.length)(hw:ws.length≤9)(d:List UInt8)(hd:d.length≤10)
  (key:Pu.Ok (ar.L0 k k1 ((i:Int)+1) (ws++ [Pu.tx (d++Pu.fA (t.2.getD i []))]) t.1 t.2) (· =v)):
  ∀(m j q:Nat),q+m=(t.2.getD i []).length→m<j→Pu.Ok (ar.L2 k k1 j i (Pu.tx (d++Pu.fA ((t.2.getD i []).take q))) q ws t.1 t.2) (· =v)
 |m,0,q,_,hj=>by omega
 |0,j+1,q,hq,hj=>by
  rw[ar.uw]
  have h9:=(Pu.iG ht).1
  have hr:=(Pu.iG ht).at i
  simp only[dI,dP,cd,cK,cL,bJ,bK,bY,du,cp,cJ,bL,bM,cI,bc,bZ,cx,cP,dN,dU,cM,cH,bT,bU,bS,bW,List.nil_append,List.cons_append]
  (try simp only[Int.toNat_natCast]);(try simp (disch:=omega) only[w64])
  (repeat (refine Pu.Ok.g (by first|omega|assumption|(simp only[List.length_append,List.length_cons,List.length_nil,List.length_set,List.length_take,List.length_drop,List.length_replicate]at*;omega)) ?_))
  refine Pu.Ok.no (by omega) ?_
  (repeat (refine Pu.Ok.g (by first|omega|assumption|(simp only[List.length_append,List.length_cons,List.length_nil,List.length_set,List.length_take,List.length_drop,List.length_replicate]at*;omega)) ?_))
  (try simp only[Int.toNat_natCast]);(try simp (disch:=omega) only[w64])
  rw[List.take_of_length_le (by omega)]
  exact key
 |m+1,j+1,q,hq,hj=>by
  rw[ar.uw]
  have h9:=(Pu.iG ht).1
  have hr:=(Pu.iG ht).at i
  have hq':q<(t.2.getD i []).length:=by omega
  have he:=AU ht hi hq'
  simp only[dI,dP,cd,cK,cL,bJ,bK,bY,du,cp,cJ,bL,bM,cI,bc,bZ,cx,cP,dN,dU,cM,cH,bT,bU,bS,bW,List.nil_append,List.cons_append]
  (try simp only[Int.toNat_natCast]);(try simp (disch:=omega) only[w64])
  (repeat (refine Pu.Ok.g (by first|omega|assumption|(simp only[List.length_append,List.length_cons,List.length_nil,List.length_set,List.length_take,List.length_drop,List.length_replicate]at*;omega)) ?_))
  refine Pu.Ok.eN (bh.isE (by omega) (by omega) (by omega)) ?_
  have h1:=Pu.u4 (w:=(t.2.getD i []).take q) (fun x hx=>by have:=(Pu.lH ht (List.mem_of_mem_take hx)).2;omega)
  have h2:=Pu.zf (n:=(t.2.getD i []).getD q 0) (by omega)
  rw[List.length_take]at h1
  rw[Pu.yI,Pu.mJ,Pu.mJ]
  refine Pu.Ok.g (by rw[List.length_append];omega) ?_
  (try simp only[Int.toNat_natCast]);(try simp (disch:=omega) only[w64])
  have e:d++Pu.fA ((t.2.getD i []).take q)++Pu.dcm ((t.2.getD i []).getD q 0)=d++Pu.fA ((t.2.getD i []).take (q+1)):=by
   unfold Pu.fA
   rw[List.take_add_one,List.flatMap_append,List.getElem?_eq_getElem hq',Pu.an hq' _]
   simp
  rw[e]
  exact ar.IE hk ht hi hw d hd key m j (q+1) (by omega) (by omega)
theorem ar.Bt{k k1:Nat}{i:Nat}{ws:List ByteArray}{t:Pu.Tab}{v:ByteArray}(hk:1000≤k)(ht:Pu.eI t=true)(hi:i<t.2.length)(hw:ws.length≤9)
  (key:Pu.Ok (ar.L0 k k1 ((i:Int)+1) (ws++ [Pu.tx (Pu.lZ t i)]) t.1 t.2) (· =v)):
  ∀(m j q:Nat),(q+m:Int)=Pu.atI t.1 i→m<j→Pu.Ok (ar.L1 k k1 j i (Pu.tx (List.replicate q 46)) q ws t.1 t.2) (· =v)
 |m,0,q,_,hj=>by omega
 |0,j+1,q,hq,hj=>by
  rw[ar.fX]
  simp only[dI,dP,cd,cK,cL,bJ,bK,bY,du,cp,cJ,bL,bM,cI,bc,bZ,cx,cP,dN,dU,cM,cH,bT,bU,bS,bW,List.nil_append,List.cons_append]
  refine Pu.Ok.eN (cR.is (by omega)) ?_
  have hb:=Pu.dm (Pu.ib ht).1 i
  have hr:=(Pu.iG ht).at i
  refine Pu.Ok.no (by omega) ?_
  have h:=ar.IE (k:=k) (k1:=k1) hk ht hi hw (List.replicate q 46) (by rw[List.length_replicate];omega) (by
   have e:List.replicate q (46:UInt8)++Pu.fA (t.2.getD i [])=Pu.lZ t i:=by
    unfold Pu.lZ
    have:q=(Pu.atI t.1 i).toNat:=by omega
    rw[this]
   rw[e];exact key) (t.2.getD i []).length k 0 (by omega) (by omega)
  rw[List.take_zero]at h
  have e0:Pu.fA []= []:=rfl
  rw[e0,List.append_nil]at h
  exact h
 |m+1,j+1,q,hq,hj=>by
  rw[ar.fX]
  simp only[dI,dP,cd,cK,cL,bJ,bK,bY,du,cp,cJ,bL,bM,cI,bc,bZ,cx,cP,dN,dU,cM,cH,bT,bU,bS,bW,List.nil_append,List.cons_append]
  refine Pu.Ok.eN (cR.is (by omega)) ?_
  have hb:=Pu.dm (Pu.ib ht).1 i
  refine Pu.Ok.g (by omega) ?_
  have e46:(⟨#[46]⟩:ByteArray)=Pu.tx [46]:=rfl
  rw[e46,Pu.yI,Pu.mJ,Pu.mJ,List.length_replicate]
  refine Pu.Ok.g (by show q+1≤_;omega) ?_
  (try simp only[Int.toNat_natCast]);(try simp (disch:=omega) only[w64])
  have e:List.replicate q (46:UInt8)++ [46]=List.replicate (q+1) 46:=by rw[List.replicate_succ']
  rw[e]
  exact ar.Bt hk ht hi hw key m j (q+1) (by omega) (by omega)
theorem ar.IS{k:Nat}{t:Pu.Tab}(hk:3000≤k)(ht:Pu.eI t=true): ∀(m j i:Nat),i+m=t.2.length→m<j→Pu.Ok (ar.L0 k j i (((List.range i).map (Pu.lZ t)).map Pu.tx) t.1 t.2) (· =Pu.tx (Lib.join ((List.range t.2.length).map (Pu.lZ t)) [47]))
 |m,0,i,_,hj=>by omega
 |0,j+1,i,hi,_=>by
  rw[ar.bP]
  simp only[dI,dP,cd,cK,cL,bJ,bK,bY,du,cp,cJ,bL,bM,cI,bc,bZ,cx,cP,dN,dU,cM,cH,bT,bU,bS,bW,List.nil_append,List.cons_append]
  refine Pu.Ok.no (by omega) ?_
  have e:i=t.2.length:=by omega
  subst e
  have h9:=(Pu.iG ht).1
  refine Pu.Ok.eN (cw.isE (sep:= [47]) (by omega) (by decide) (fun w hw=> ?_) (by rw[List.length_map,List.length_range];omega)) (Pu.Ok.ret rfl)
  obtain⟨x,hx,rfl⟩:=List.mem_map.1 hw
  have:=Pu.sB ht x
  omega
 |m+1,j+1,i,hi,hj=>by
  rw[ar.bP]
  have h9:=(Pu.iG ht).1
  have hb:=Pu.dm (Pu.ib ht).1 i
  simp only[dI,dP,cd,cK,cL,bJ,bK,bY,du,cp,cJ,bL,bM,cI,bc,bZ,cx,cP,dN,dU,cM,cH,bT,bU,bS,bW,List.nil_append,List.cons_append]
  refine Pu.Ok.g (by omega) ?_
  refine ar.Bt (k:=k) (by omega) ht (by omega) (by rw[List.length_map,List.length_map,List.length_range];omega) ?_ (Pu.atI t.1 i).toNat k 0 (by omega) (by omega)
  have h:=ar.IS hk ht m j (i+1) (by omega) (by omega)
  rw[List.range_succ,List.map_append,List.map_append]at h
  exact h
theorem ar.isE{k:Nat}{t:Pu.Tab}(hk:4194304+20≤k)(h1:t.1.length≤1048576)(h2:t.2.length≤1048576)(hr: ∀x∈t.2,x.length≤1048576):ar k t=some (Pu.tx (Pu.aZ t)):=by
 obtain⟨k,rfl⟩: ∃k',k=k'+1:=⟨k-1,by omega⟩
 apply Pu.ok_eq
 rw[ar.eq]
 refine Pu.Ok.eN (az.is (by omega) h1 h2 hr) ?_
 unfold Pu.aZ
 simp only[dI,dP,cd,cK,cL,bJ,bK,bY,du,cp,cJ,bL,bM,cI,bc,bZ,cx,cP,dN,dU,cM,cH,bT,bU,bS,bW,List.nil_append,List.cons_append]
 refine Pu.Ok.tn (fun hb=> ?_) (fun hb=> ?_)
 ·rw[hb];exact Pu.Ok.ret rfl
 ·rw[hb]
  refine Pu.Ok.t (fun h=> ?_) (fun h=> ?_)
  ·have:t.2= []:=List.eq_nil_of_length_eq_zero (by simpa using h)
   rw[this]
   exact Pu.Ok.ret rfl
  ·have h0:t.2≠ []:=fun e=>h (by rw[e];rfl)
   rw[if_pos rfl,if_neg h0]
   exact ar.IS (k:=k) (by omega) hb t.2.length k 0 (Nat.zero_add _) (by show t.2.length<k;omega)
theorem ak.IA{k k1:Nat}{r n3:Int}{x2:Int}{x4:Bool}{x5:Int}{x6 x7:Nat}{out:List Pu.Tab}{all:List LJ}{t:Pu.Tab}{Q:List Pu.Tab→Prop}(hl:out.length≤400000)(hr:0≤r)(hr':r≤400000)
  (key:Pu.Ok (ak.L0 k k1 (r+1) (Pu.tu out t) all) Q):
  Pu.Ok (ak.J3 k k1 ((Pu.putAt out t out.length:Nat):Int) r x2 n3 x4 x5 x6 x7 out all t.1 t.2) Q:=by
 have ha:=Pu.vN out t out.length
 rw[ak.An]
 have hw:IntKind.i64.wrap (r+1)=r+1:=w64 (by omega) (by omega)
 unfold Pu.tu at key
 generalize Pu.putAt out t out.length=a at*
 simp only[dI,dP,cd,cK,cL,bJ,bK,bY,du,cp,cJ,bL,bM,cI,bc,bZ,cx,cP,dN,dU,cM,cH,bT,bU,bS,bW,List.nil_append,List.cons_append]
 simp only[Int.toNat_natCast,hw]
 have l1:(List.take (out.length-a) (List.drop a out)).length≤1099511627776:=by rw[List.length_take];omega
 have l2:a≤(List.take a out).length:=by rw[List.length_take];omega
 have l3:(List.take a (List.take a out)).length≤a:=by rw[List.length_take];omega
 have l4:(List.take (out.length-a) (List.drop a out)).length≤out.length:=by rw[List.length_take,List.length_drop];omega
 refine Pu.Ok.g (by omega) (Pu.Ok.g (by omega) (Pu.Ok.g l1 (Pu.Ok.g (by omega) (Pu.Ok.g l2 (Pu.Ok.g ?_ (Pu.Ok.g ?_ ?_))))))
 ·rw[List.length_append];simp only[List.length_cons,List.length_nil];omega
 ·rw[List.length_append,List.length_append];simp only[List.length_cons,List.length_nil];omega
 have e1:List.take a (List.take a out)=List.take a out:=List.take_of_length_le (by rw[List.length_take];omega)
 have e2:List.take (out.length-a) (List.drop a out)=List.drop a out:=List.take_of_length_le (by rw[List.length_drop];omega)
 rw[e1,e2,List.append_assoc]
 exact key
theorem ak.Bt{k k1:Nat}{r n3:Int}{x2:Int}{x4:Bool}{x5:Int}{x6 x7:Nat}{out:List Pu.Tab}{all:List LJ}{t:Pu.Tab}{Q:List Pu.Tab→Prop}(hk:4194304+30≤k)(hl:out.length≤400000)(hr:0≤r)(hr':r≤400000)(hout: ∀x∈out,Pu.j3 x)(ht:Pu.j3 t)
  (key:Pu.Ok (ak.L0 k k1 (r+1) (Pu.tu out t) all) Q):
  ∀(a j:Nat),a<j→a≤out.length→Pu.putAt out t a=Pu.putAt out t out.length→Pu.Ok (ak.L1 k k1 j a r x2 n3 x4 x5 x6 x7 out all t.1 t.2) Q
 |a,0,hj,_,_=>by omega
 |0,j+1,hj,ha,he=>by
  rw[ak.fX]
  simp only[dI,dP,cd,cK,cL,bJ,bK,bY,du,cp,cJ,bL,bM,cI,bc,bZ,cx,cP,dN,dU,cM,cH,bT,bU,bS,bW,List.nil_append,List.cons_append]
  have h:=ak.IA (k:=k) (k1:=k1) (r:=r) (n3:=n3) (x2:=x2) (x4:=x4) (x5:=x5) (x6:=x6) (x7:=x7) hl hr hr' key
  rw[←he]at h
  exact Pu.Ok.no (by omega) h
 |a+1,j+1,hj,ha,he=>by
  rw[ak.fX]
  have hw:IntKind.i64.wrap (((a+1:Nat):Int)-1)=(a:Int):=by rw[w64 (by omega) (by omega)];omega
  simp only[dI,dP,cd,cK,cL,bJ,bK,bY,du,cp,cJ,bL,bM,cI,bc,bZ,cx,cP,dN,dU,cM,cH,bT,bU,bS,bW,List.nil_append,List.cons_append]
  simp only[hw,Int.toNat_natCast]
  (repeat (refine Pu.Ok.g (by first|omega|assumption|(simp only[List.length_append,List.length_cons,List.length_nil,List.length_set,List.length_take,List.length_drop,List.length_replicate]at*;omega)) ?_))
  have hx:Pu.j3 (out.getD a ([],[])):=by rw[Pu.an (show a<out.length by omega)];exact hout _ (List.getElem_mem _)
  refine Pu.Ok.eN (ar.isE (t:=out.getD a ([],[])) (by omega) hx.1 hx.2.1 hx.2.2) ?_
  refine Pu.Ok.eN (ar.isE (t:=t) (by omega) ht.1 ht.2.1 ht.2.2) ?_
  have hgt:(!(D.or2 (D.ltS (Pu.tx (Pu.aZ (out.getD a ([],[])))) (Pu.tx (Pu.aZ t))) (D.eqS (Pu.tx (Pu.aZ (out.getD a ([],[])))) (Pu.tx (Pu.aZ t)))))=Pu.bl (Pu.aZ t) (Pu.aZ (out.getD a ([],[]))):=by
   rw[←Pu.ID,IB,IG,IK,Pu.Ib,Lib.toList_data,Lib.toList_data]
   rfl
  rw[hgt]
  rw[Pu.Ck]at he
  refine Pu.Ok.tb (fun h=> ?_) (fun h=> ?_)
  ·rw[ak.rO]
   simp only[dI,dP,cd,cK,cL,bJ,bK,bY,du,cp,cJ,bL,bM,cI,bc,bZ,cx,cP,dN,dU,cM,cH,bT,bU,bS,bW,List.nil_append,List.cons_append]
   rw[hw]
   rw[if_pos h]at he
   exact ak.Bt hk hl hr hr' hout ht key a j (by omega) (by omega) he
  ·rw[if_neg (by rw[h];decide)]at he
   have h3:=ak.IA (k:=k) (k1:=k1) (r:=r) (n3:=n3) (x2:=x2) (x4:=x4) (x5:=x5) (x6:=x6) (x7:=x7) hl hr hr' key
   have e:Pu.putAt out t out.length=a+1:=he.symm
   rw[e]at h3
   exact h3
theorem ak.isE{k:Nat}{s:LI×LI}(hk:4194304+60≤k)(h1:s.1.length≤1048576)(h2:s.2.length≤1048576):ak k s=some (if Pu.aJ s.2 s.1=true then Pu.hU (Pu.kN s.2 s.1 (List.replicate (Pu.aT s.1-Pu.aT s.2).toNat 1))else []):=by
 obtain⟨k,rfl⟩: ∃k',k=k'+2:=⟨k-2,by omega⟩
 apply Pu.ok_eq
 rw[ak.eq]
 refine Pu.Ok.eN (fz.is (s:=s) (by omega) h1 h2) ?_
 simp only[dI,dP,cd,cK,cL,bJ,bK,bY,du,cp,cJ,bL,bM,cI,bc,bZ,cx,cP,dN,dU,cM,cH,bT,bU,bS,bW,List.nil_append,List.cons_append]
 refine Pu.Ok.tn (fun hb=>by rw[hb];exact Pu.Ok.ret rfl) (fun hs=> ?_)
 rw[hs,if_pos rfl]
 obtain⟨hp,ho⟩:=Pu.eU hs
 refine Pu.Ok.g (by omega) ?_
 have hdif:=Pu.jF hs
 have hsp:=(Pu.aH hp).2.2.2
 obtain⟨d,hd'⟩: ∃d:Nat,(Pu.aT s.1-Pu.aT s.2).toNat=d:=⟨_,rfl⟩
 have hd:Pu.aT s.1=Pu.aT s.2+d:=by omega
 have hch:Pu.Ch [s.2]:=⟨by simp,by simp,fun x hx=>by simp only[List.mem_singleton]at hx;subst hx;exact Pu.cz hp⟩
 have heq:=aK.isE ho d (k+1) [s.2] (by omega) hch hs (by show(1:Int)≤Pu.aT s.2+1;omega) hd
 obtain⟨L,hL,l1,l2,l3⟩:=aK.ok ho d (k+1) [s.2] (by omega) hch hs (by show(1:Int)≤Pu.aT s.2+1;omega) hd
 obtain rfl:L=Pu.fU s.1 d [s.2]:=Option.some.inj (hL.symm.trans heq)
 have hd9:d≤9:=by omega
 have hf:=Pu.FU hd9
 rw[hd',Pu.ru hs hd]
 have hok: ∀t∈(Pu.fU s.1 d [s.2]).map Pu.ou,Pu.j3 t:=fun t ht=>by
  rw[←Pu.ru hs hd]at ht
  exact Pu.wT hs (by rw[List.length_replicate];omega) (by rw[Pu.lI (fun x hx=>by rw[(List.mem_replicate.1 hx).2];omega),Pu.pI];omega) ht
 refine Pu.Ok.eN heq ?_
 clear hL heq
 generalize Pu.fU s.1 d [s.2]=L at*
 have loop: ∀(m j r:Nat),r+m=L.length→m<j→Pu.Ok (ak.L0 k j r (Pu.hU ((L.take r).map Pu.ou)) L) (· =Pu.hU (L.map Pu.ou)):=by
  intro m
  induction m with
  |zero=>
   intro j r hr hj
   obtain⟨j,rfl⟩: ∃j',j=j'+1:=⟨j-1,by omega⟩
   rw[ak.bP]
   simp only[dI,dP,cd,cK,cL,bJ,bK,bY,du,cp,cJ,bL,bM,cI,bc,bZ,cx,cP,dN,dU,cM,cH,bT,bU,bS,bW,List.nil_append,List.cons_append]
   refine Pu.Ok.no (by omega) (Pu.Ok.ret ?_)
   rw[List.take_of_length_le (by omega)]
  |succ m ih=>
   intro j r hr hj
   obtain⟨j,rfl⟩: ∃j',j=j'+1:=⟨j-1,by omega⟩
   rw[ak.bP]
   simp only[dI,dP,cd,cK,cL,bJ,bK,bY,du,cp,cJ,bL,bM,cI,bc,bZ,cx,cP,dN,dU,cM,cH,bT,bU,bS,bW,List.nil_append,List.cons_append]
   simp only[Int.toNat_natCast]
   refine Pu.Ok.g (by omega) (Pu.Ok.g (by omega) (Pu.Ok.g (by omega) (Pu.Ok.g (by omega) (Pu.Ok.g (by omega) ?_))))
   have hlen:(Pu.hU ((L.take r).map Pu.ou)).length=r:=by rw[Pu.xQ,List.length_map,List.length_take];omega
   have hget:L.getD r []=L[r]'(by omega):=Pu.an (show r<L.length by omega) _
   have hc:Pu.Ch (L.getD r []):=by rw[hget];exact l3 _ (List.getElem_mem _)
   refine Pu.Ok.eN (aF.isE (by omega) hc) ?_
   have hst:Pu.tu (Pu.hU ((L.take r).map Pu.ou)) (Pu.ou (L.getD r []))=Pu.hU ((L.take (r+1)).map Pu.ou):=by
    rw[←Pu.Ew,Pu.take_succ (show r<L.length by omega) [],List.map_append]
    rfl
   rw[hlen]
   have h:=ak.Bt (k:=k) (k1:=j) (r:=(r:Int)) (n3:=(L.length:Int)) (x2:=(r:Int)) (x4:=decide ((r:Int)<(L.length:Nat))) (x5:=(r:Int)) (x6:=r) (x7:=r) (out:=Pu.hU ((L.take r).map Pu.ou)) (all:=L) (t:=Pu.ou (L.getD r [])) (Q:=(· =Pu.hU (L.map Pu.ou)))
    (by omega) (by omega) (by omega) (by omega) (fun x hx=>by
     have:=(Pu.jt _).mem_iff.1 hx
     obtain⟨y,hy,rfl⟩:=List.mem_map.1 this
     exact hok _ (List.mem_map.2 ⟨y,List.mem_of_mem_take hy,rfl⟩)) (hok _ (List.mem_map.2 ⟨_,by rw[hget];exact List.getElem_mem _,rfl⟩))
    (by rw[hst];have:=ih j (r+1) (by omega) (by omega);rw[Int.natCast_add]at this;exact this) r k (by omega) (by omega) (by rw[hlen])
   exact h
 have h:=loop L.length (k+1) 0 (by omega) (by omega)
 exact h
theorem dS.is{k:Nat}{x lo hi:Int}(hk:1≤k):dS k x lo hi=some (Pu.within x lo hi):=by
 obtain⟨k,rfl⟩: ∃k',k=k'+1:=⟨k-1,by omega⟩
 rw[dS.eq]
 by_cases h:lo≤x<;>simp[Pu.within,h]
theorem aE.loop{k:Nat}{p:LI}(hk:4194304≤k)(hp:p.length≤1048576): ∀(m j i:Nat) (s v:Int),i+m=p.length→m<j→(i=0→v=9)→(0<i→v=p.getD (i-1) 0)→v≤9→0≤s→s≤9→
  aE.L0 k j s p.length i p=some (Pu.gT (p.drop i) v s)
 |m,0,i,s,v,_,hj,_,_,_,_,_=>by omega
 |0,j+1,i,s,v,hi,_,_,_,_,_,_=>by
  rw[aE.bP]
  have e:i=p.length:=by omega
  subst e
  simp[Pu.gT]
 |m+1,j+1,i,s,v,hi,hj,h0,h1,hv,hs,hs9=>by
  rw[aE.bP]
  have hlt:i<p.length:=by omega
  have hj1: ∀x:Int,x=p.getD i 0→1≤x→x≤v→aE.J1 k j s x p.length i p=some (decide (s+x≤9)&&Pu.gT (p.drop (i+1)) x (s+x)):=by
   intro x hx hx1 hx2
   rw[aE.j2]
   simp (disch:=omega) only[↓aM,sss,if_true,if_false]
   by_cases c:9<s+x
   ·have: ¬s+x≤9:=by omega
    simp[c,this]
   ·have c':s+x≤9:=by omega
    have ih:=aE.loop hk hp m j (i+1) (s+x) x (by omega) (by omega) (by omega) (by simp[hx]) (by omega) (by omega) c'
    rw[Int.natCast_succ]at ih
    simp[c,c',ih]
  rw[Pu.drop_cons hlt 0]
  simp (disch:=omega) only[↓aM,sss,if_true,if_false,hlt,dS.is,Pu.gT]
  generalize hx:p.getD i 0=x at*
  unfold Pu.within
  by_cases c1:1≤x
  ·by_cases c2:x≤v
   ·have c3:x≤9:=by omega
    have hj:=hj1 x rfl c1 c2
    by_cases hi0:i=0
    ·have hpos: ¬(0:Int)<i:=by omega
     simp (disch:=omega) only[↓aM,sss,if_true,if_false,c1,c2,c3,hpos,hj]
    ·have hv':=h1 (by omega)
     have e:((i:Int)-1)=((i-1:Nat):Int):=by omega
     have hlt':i-1<p.length:=by omega
     have hge: ¬p.getD (i-1) 0<x:=by rw[←hv'];omega
     have hpos:(0:Int)<i:=by omega
     simp (disch:=omega) only[e,↓aM,sss,if_true,if_false,hlt',c1,c2,c3,hj,hpos,hge]
   ·simp only[c1,c2,↓aM,sss,if_true,if_false]
    by_cases c3:x≤9
    ·have hi0:0<i:=by
      rcases Nat.eq_zero_or_pos i with h|h
      ·have:=h0 h;omega
      ·exact h
     have hv':=h1 hi0
     have e:((i:Int)-1)=((i-1:Nat):Int):=by omega
     have hlt':i-1<p.length:=by omega
     have hge:p.getD (i-1) 0<x:=by rw[←hv'];omega
     have hpos:(0:Int)<i:=by omega
     simp (disch:=omega) only[e,↓aM,sss,if_true,if_false,hlt',c3,hpos,hge]
    ·simp only[c3,↓aM,sss,if_true,if_false]
  ·simp only[c1,↓aM,sss,if_true,if_false]
theorem aE.is{k:Nat}{p:LI}(hk:4194304+1≤k)(hp:p.length≤1048576):aE k p=some (Pu.aX p):=by
 obtain⟨k,rfl⟩: ∃k',k=k'+1:=⟨k-1,by omega⟩
 rw[aE.eq]
 exact aE.loop (k:=k) (by omega) hp p.length k 0 0 9 (by omega) (by omega) (fun _=>rfl) (by omega) (by omega) (by omega) (by omega)
theorem eZ.is{k:Nat}{p:LI}{i:Int}(hk:2≤k)(hp:p.length≤1048576):eZ k p i=some (Pu.atI p i):=by
 obtain⟨k,rfl⟩: ∃k',k=k'+1:=⟨k-1,by omega⟩
 rw[eZ.eq,dS.is (by omega)]
 unfold Pu.within
 by_cases h1:0≤i
 ·have h0: ¬i<0:=by omega
  by_cases h2:i≤(p.length:Int)-1
  ·have h4:i.toNat<p.length:=by omega
   simp (disch:=omega) only[↓aM,sss,if_true,if_false,h0,h1,h2,h4,Pu.atI]
  ·simp (disch:=omega) only[↓aM,sss,if_true,if_false,h1,h2,Pu.xj (p:=p) (i:=i) (by omega)]
 ·simp (disch:=omega) only[↓aM,sss,if_true,if_false,h1,Pu.mD (p:=p) (i:=i) (by omega)]
theorem bt.loop{k:Nat}{q p:LI}(hq:q.length≤1048576)(hp:p.length≤1048576)(hk:4194304+2≤k):bt.L1 k k q.length 0 p q=some ((List.range' 0 q.length).all fun i=>decide (q.getD i 0≤p.getD i 0)):=by
 have h:=Pu.l9 (fun j i=>bt.L1 k j q.length (i:Int) p q) q.length (fun i=>decide (q.getD i 0≤p.getD i 0)) (some false) (some true)
  (fun j i hi=>by
   rw[bt.fX,eZ.is (by omega) hp,Pu.dn]
   simp (disch:=omega) only[↓aM,sss,if_true,if_false,hi,Int.natCast_add,Int.natCast_one]
   by_cases c:q.getD i 0≤p.getD i 0
   ·have c': ¬p.getD i 0<q.getD i 0:=by omega
    simp only[c,c',↓aM,sss,if_true,if_false]
   ·have c':p.getD i 0<q.getD i 0:=by omega
    simp only[c,c',↓aM,sss,if_true,if_false])
  (fun j=>by
   rw[bt.fX]
   simp only[↓aM,sss,if_true,if_false,Nat.lt_irrefl]) q.length k 0 (by omega) (by omega)
 simp only[Int.natCast_zero]at h
 rw[h]
 cases(List.range' 0 q.length).all fun i=>decide (q.getD i 0≤p.getD i 0)<;>simp
theorem bt.is{k:Nat}{q p:LI}(hk:4194304+3≤k)(hq:q.length≤1048576)(hp:p.length≤1048576):bt k q p=some (Pu.aJ q p):=by
 obtain⟨k,rfl⟩: ∃k',k=k'+1:=⟨k-1,by omega⟩
 rw[bt.eq,aE.is (by omega) hq,ch,bt.lf,Pu.mu]
 cases c1:Pu.aX q with
 |false=>simp only[↓aM,sss,if_true,if_false]
 |true=>
  simp only[↓aM,sss,if_true,if_false]
  rw[aE.is (by omega) hp,ch]
  cases c2:Pu.aX p with
  |false=>simp only[↓aM,sss,if_true,if_false]
  |true=>
   simp only[↓aM,sss,if_true,if_false]
   exact bt.loop hq hp (by omega)
theorem ep.is{k:Nat}{s:LI×LI}(hk:4194304+4≤k)(hq:s.1.length≤1048576)(hp:s.2.length≤1048576):ep k s=some (Pu.aJ s.2 s.1):=by
 obtain⟨k,rfl⟩: ∃k',k=k'+1:=⟨k-1,by omega⟩
 rw[ep.eq,bt.is (by omega) hp hq]
 rfl
theorem dD.loop{k:Nat}{w:LI}(hw:w.length≤1048576)(hb: ∀x∈w,-1000000≤x∧x≤1000000): ∀(m j i:Nat) (s:Int),i+m=w.length→m<j→ -1000000*i≤s→s≤1000000*i→dD.L0 k j s w.length i w=some (s+Pu.aT (w.drop i))
 |m,0,i,s,_,hj,_,_=>by omega
 |0,j+1,i,s,hm,_,_,_=>by
  rw[dD.bP]
  have e:i=w.length:=by omega
  subst e
  simp[Pu.aT]
 |m+1,j+1,i,s,hm,hj,hs1,hs2=>by
  rw[dD.bP]
  have hlt:i<w.length:=by omega
  have hx:=hb _ (List.getElem_mem hlt)
  rw[←Pu.an hlt 0]at hx
  have ih:=dD.loop (k:=k) hw hb m j (i+1) (s+w.getD i 0) (by omega) (by omega) (by omega) (by omega)
  rw[Int.natCast_succ]at ih
  rw[Pu.drop_cons hlt 0]
  simp (disch:=omega) only[↓aM,sss,if_true,if_false,hlt,ih,Pu.aT,Int.add_assoc]
theorem dD.is{k:Nat}{w:LI}(hk:4194304+1≤k)(hw:w.length≤1048576)(hb: ∀x∈w,-1000000≤x∧x≤1000000):dD k w=some (Pu.aT w):=by
 obtain⟨k,rfl⟩: ∃k',k=k'+1:=⟨k-1,by omega⟩
 rw[dD.eq]
 have h:=dD.loop (k:=k) hw hb w.length k 0 0 (by omega) (by omega) (by omega) (by omega)
 rw[Int.natCast_zero]at h
 simp only[bK,bJ]
 rw[h,Int.zero_add,List.drop_zero]
theorem eA.is{k:Nat}{s:LI×LI}(hk:4194304+5≤k)(h1:s.1.length≤1048576)(h2:s.2.length≤1048576):eA k s=some (if Pu.aJ s.2 s.1=true then Pu.aT s.1-Pu.aT s.2 else-1):=by
 obtain⟨k,rfl⟩: ∃k',k=k'+1:=⟨k-1,by omega⟩
 apply Pu.ok_eq
 rw[eA.eq]
 refine Pu.Ok.eN (ep.is (s:=s) (by omega) h1 h2) ?_
 simp only[dI,dP,cd,cK,cL,bJ,bK,bY,du,cp,cJ,bL,bM,cI,bc,bZ,cx,cP,dN,dU,cM,cH,bT,bU,bS,bW,List.nil_append,List.cons_append]
 refine Pu.Ok.tn (fun hb=>by rw[hb];exact Pu.Ok.ret rfl) (fun hb=> ?_)
 rw[hb]
 obtain⟨i1,i2,i3,i4⟩:=Pu.fE hb
 have b1:=Pu.aH i1
 have b2:=Pu.aH i2
 have n1:=Pu.iw s.1 fun x hx=>by have:=b2.1 x hx;omega
 have n2:=Pu.iw s.2 fun x hx=>by have:=b1.1 x hx;omega
 refine Pu.Ok.eN (dD.is (by omega) h1 fun x hx=>by have:=b2.1 x hx;omega) ?_
 refine Pu.Ok.eN (dD.is (by omega) h2 fun x hx=>by have:=b1.1 x hx;omega) ?_
 have hw:IntKind.i64.wrap (Pu.aT s.1-Pu.aT s.2)=Pu.aT s.1-Pu.aT s.2:=w64 (by omega) (by omega)
 rw[hw]
 exact Pu.Ok.ret rfl
theorem fq.is{k n:Nat}(hk:1≤k)(hn:n≤1048576):fq k 1 n=some (0,(n:Int)):=by
 obtain⟨k,rfl⟩: ∃k',k=k'+1:=⟨k-1,by omega⟩
 rw[fq.eq]
 have e1:D.shrI .u64 1 32=0:=Pu.Fc (n:=1) (by omega)
 have e2:D.andI .u64 1 4294967295=1:=Pu.FV (n:=1) (by omega)
 have e3:=Pu.Fc (n:=n) (by omega)
 have e4:=Pu.FV (n:=n) (by omega)
 have e5:D.shrI .u64 0 32=0:=Pu.Fc (n:=0) (by omega)
 have e6:D.andI .u64 0 4294967295=0:=Pu.FV (n:=0) (by omega)
 have w0:IntKind.u64.wrap 0=0:=Pu.Fv (by omega) (by omega)
 have wn:IntKind.u64.wrap (n:Int)=n:=Pu.Fv (by omega) (by omega)
 simp only[e1,e2,e3,e4,cP,bc,bZ,Int.zero_mul,Int.one_mul,Int.mul_zero,Int.add_zero,w0,wn,e5,e6]
 rfl
theorem fF.is{k n:Nat}(hk:2≤k)(hn:n≤1048576):fF k 1 n=some (0,(n:Int)):=by
 obtain⟨k,rfl⟩: ∃k',k=k'+1:=⟨k-1,by omega⟩
 rw[fF.eq,fq.is (by omega) hn,ch]
theorem au.loop{k n:Nat}{v:Int}(hn:n≤1048576): ∀(j d m:Nat),m+d=n→1≤m→d<j→au.L2 k j m (List.replicate m v++List.replicate d (0:Int))=some (List.replicate n v)
 |0,d,m,_,_,h=>by omega
 |j+1,d,m,hm,h1,hj=>by
  rw[au.uw]
  have hlen:(List.replicate m v++List.replicate d (0:Int)).length=n:=by simp;omega
  by_cases hd:d=0
  ·subst hd
   have e:m=n:=by omega
   subst e
   refine Eq.trans (Pu.uZ _ _ _ _) ?_
   rw[if_neg (by show¬(m:Int)<((List.replicate m v++List.replicate 0 (0:Int)).length:Nat);rw[hlen];omega)]
   simp
  ·have e2:D.take (D.subN (D.len (List.replicate m v++List.replicate d (0:Int))) (D.nat m)) (D.take (D.subN (D.nat m) 0) (D.drop 0 (List.replicate m v++List.replicate d (0:Int))))=List.replicate (min (n-m) m) v:=by
    show((List.replicate m v++List.replicate d (0:Int)).take m).take ((List.replicate m v++List.replicate d (0:Int)).length-m)=_
    rw[hlen,List.take_append_of_le_length (by simp),List.take_replicate,List.take_replicate]
    congr 1;omega
   rw[e2]
   have hnew:D.app (D.take (D.addN (D.nat m) 0) (List.replicate m v++List.replicate d (0:Int))) (D.app (List.replicate (min (n-m) m) v) (D.drop (D.addN (D.nat m) (D.len (List.replicate (min (n-m) m) v))) (List.replicate m v++List.replicate d (0:Int))))=
     List.replicate (m+min (n-m) m) v++List.replicate (d-min (n-m) m) (0:Int):=by
    show(List.replicate m v++List.replicate d (0:Int)).take m++(List.replicate (min (n-m) m) v++(List.replicate m v++List.replicate d (0:Int)).drop (m+(List.replicate (min (n-m) m) v).length))=_
    rw[List.take_append_of_le_length (by simp),List.take_replicate,Nat.min_self,List.length_replicate,List.drop_append,List.drop_replicate,List.drop_replicate,List.length_replicate,←List.append_assoc,List.replicate_append_replicate]
    rw[show m-(m+min (n-m) m)=0 by omega,show m+min (n-m) m-m=min (n-m) m by omega]
    rfl
   have hz:IntKind.i64.wrap ((m:Int)+(min (n-m) m:Nat))=((m+min (n-m) m:Nat):Int):=by
    rw[w64 (by omega) (by omega)];omega
   have ih:=au.loop (k:=k) (v:=v) hn j (d-min (n-m) m) (m+min (n-m) m) (by omega) (by omega) (by omega)
   rw[hnew]
   simp only[bZ,bc,bK,bJ,bY,hlen,List.length_replicate,Int.toNat_natCast]
   rw[hz,ih]
   refine tG ((by omega)) (tG ((by omega)) (tG ((by omega)) (tG ((by omega)) (tG ((by omega)) rfl))))
theorem au.is{k n:Nat}{v:Int}(hk:4194304+4≤k)(hn:n≤1048576):au k [v] n=some (List.replicate n v):=by
 obtain⟨k,rfl⟩: ∃k',k=k'+1:=⟨k-1,by omega⟩
 rw[au.eq]
 refine Eq.trans (Pu.uZ _ _ _ _) ?_
 rw[if_neg (by omega),au.lf]
 have w1:IntKind.u64.wrap 1=1:=Pu.Fv (by omega) (by omega)
 have wn:IntKind.u64.wrap (n:Int)=n:=Pu.Fv (by omega) (by omega)
 have wi:IntKind.i64.wrap (n:Int)=n:=w64 (by omega) (by omega)
 show D.bnd (fF k (IntKind.u64.wrap 1) (IntKind.u64.wrap n)) _=_
 rw[w1,wn,fF.is (by omega) hn,ch]
 refine Eq.trans (Pu.uZ _ _ _ _) ?_
 rw[if_neg (by simp)]
 refine Eq.trans (Pu.uZ _ _ _ _) ?_
 rw[if_neg (by show¬(9223372036854775807:Int)<n;omega),au.j2]
 simp only[bc,wi]
 refine tG ((by omega)) (tG ((by omega)) (tG ((show(n:Int).toNat≤1099511627776 by omega)) ?_))
 show au.L2 k k (((([v]:LI).take (List.replicate (n:Int).toNat (0:Int)).length).length:Nat):Int) ((List.replicate (n:Int).toNat (0:Int)).take 0++(([v]:LI).take (List.replicate (n:Int).toNat (0:Int)).length++(List.replicate (n:Int).toNat (0:Int)).drop (([v]:LI).take (List.replicate (n:Int).toNat (0:Int)).length).length))=_
 rw[List.length_replicate,Int.toNat_natCast]
 obtain⟨k,rfl⟩: ∃k',k=k'+1:=⟨k-1,by omega⟩
 by_cases h0:n=0
 ·subst h0
  rw[au.uw]
  rfl
 ·obtain⟨n,rfl⟩: ∃n',n=n'+1:=⟨n-1,by omega⟩
  have h:=au.loop (k:=k+1) (v:=v) hn (k+1) n 1 (by omega) (by omega) (by omega)
  simpa[List.replicate_succ]using h
theorem j5.is{k n:Nat}(hk:4194304+5≤k)(hn:n≤1048576):j5 k n=some (List.replicate n 1):=by
 obtain⟨k,rfl⟩: ∃k',k=k'+1:=⟨k-1,by omega⟩
 rw[j5.eq,au.is (by omega) hn]
 rfl
theorem bq.is{k:Nat}{a:LI}(hk:1≤k)(ha:a.length≤1099511627776):bq k a=some a:=by
 obtain⟨k,rfl⟩: ∃k',k=k'+1:=⟨k-1,by omega⟩
 rw[bq.eq]
 by_cases h:a.length=0
 ·have:a= []:=List.eq_nil_of_length_eq_zero h
  subst this
  simp[It,Ef]
 ·simp[h,ha]
theorem bn.loop{k:Nat}{t:Pu.Tab}{x3 x4:LI}{x5:LJ}(hk:1≤k)(ht:t.2.length≤1048576)(hr: ∀x∈t.2,x.length≤1048576): ∀(m j i:Nat),i+m=t.2.length→m<j→
  bn.L0 k j t.2.length i t.2 x3 x5 x4 (t.2.take i)=some (x4,t.2)
 |m,0,i,_,hj=>by omega
 |0,j+1,i,hm,_=>by
  rw[bn.bP]
  have e:i=t.2.length:=by omega
  subst e
  simp
 |m+1,j+1,i,hm,hj=>by
  rw[bn.bP]
  have hlt:i<t.2.length:=by omega
  have hx:=hr _ (List.getElem_mem hlt)
  rw[←Pu.an hlt []]at hx
  have ih:=bn.loop (k:=k) (x3:=x3) (x4:=x4) (x5:=x5) hk ht hr m j (i+1) (by omega) (by omega)
  rw[Int.natCast_succ,Pu.take_succ hlt []]at ih
  have hl:(t.2.take i++ [t.2.getD i []]).length≤1099511627776:=by simp;omega
  simp (disch:=omega) only[↓aM,sss,if_true,if_false,hlt,hl,bq.is,ih]
theorem bn.is{k:Nat}{t:Pu.Tab}(hk:4194304+1≤k)(h1:t.1.length≤1048576)(ht:t.2.length≤1048576)(hr: ∀x∈t.2,x.length≤1048576):bn k t=some t:=by
 obtain⟨k,rfl⟩: ∃k',k=k'+1:=⟨k-1,by omega⟩
 rw[bn.eq,bq.is (by omega) (by omega)]
 have h:=bn.loop (k:=k) (t:=t) (x3:= []) (x4:=t.1) (x5:= []) (by omega) ht hr t.2.length k 0 (by omega) (by omega)
 rw[Int.natCast_zero,List.take_zero]at h
 exact h
theorem cE.is{k:Nat}{t:Pu.Tab}{r c:Int}(hk:3≤k)(hi:Pu.aX t.1=true)(ht:t.2.length≤1048576)(hr: ∀x∈t.2,x.length≤1048576)(h1: -1000000000≤c)(h2:c≤1000000000):cE k t r c=some (Pu.entry t r c):=by
 obtain⟨k,rfl⟩: ∃k',k=k'+1:=⟨k-1,by omega⟩
 have hb:=Pu.dm hi r
 have h9:=(Pu.aH hi).2.2.1
 rw[cE.eq,dS.is (by omega)]
 unfold Pu.entry Pu.within
 by_cases c1:r<0
 ·have c1': ¬0≤r:=by omega
  simp (disch:=omega) only[↓aM,sss,if_true,if_false,c1,c1']
 ·have c3:0≤r:=by omega
  by_cases c2:(t.2.length:Int)≤r
  ·have c2': ¬r≤(t.2.length:Int)-1:=by omega
   simp (disch:=omega) only[↓aM,sss,if_true,if_false,c1,c3,c2,c2']
  ·have c2':r≤(t.2.length:Int)-1:=by omega
   have c4:r.toNat<t.2.length:=by omega
   have hx:=hr _ (List.getElem_mem c4)
   rw[←Pu.an c4 []]at hx
   simp (disch:=omega) only[↓aM,sss,if_true,if_false,c1,c2,c2',c3,c4,eZ.is]
theorem ag.loop{m o ws:LI}{w:Int}{k l B:Nat}{kk:Int}{rest:LJ→List Pu.Tab}(hm:Pu.aX m=true)(ho:Pu.aX o=true)(hk:100≤k)(k1:1≤kk)(k2:kk≤99)(hl:l≤9)(hB: ∀R,(rest R).length≤B)
  (ih: ∀(row:Nat) (R:LJ) (out:List Pu.Tab),Pu.nW m o R→row≤o.length→out.length+(o.length-row)^l*B≤1099511627776→
   ag k row l kk m R out o m (w::ws)=some ((),(m,(R,((),((),((),((),(kk,((),((),((),out++Pu.nh m o kk rest l (o.length-row) row R)))))))))))):
  ∀(q j i:Nat) (R:LJ) (out:List Pu.Tab),Pu.nW m o R→i+q=o.length→q<j→out.length+q^(l+1)*B≤1099511627776→
   Pu.Ok (ag.L0 k j ((l+1:Nat):Int) i kk m R o m (w::ws) out) (· =((),(m,(R,((),((),((),((),(kk,((),((),((),out++Pu.nh m o kk rest (l+1) q i R))))))))))))
 |q,0,i,R,out,_,_,hj,_=>by omega
 |0,j+1,i,R,out,hR,hi,_,_=>by
  rw[ag.bP,Pu.pO,List.append_nil]
  simp only[dI,dP,cd,cK,cL,bJ,bK,bY,du,cp,cJ,bL,bM,cI,bc,bZ,cx,cP,dN,dU,cM,cH,bT,bU,bS,bW,List.nil_append,List.cons_append]
  exact Pu.Ok.no (by omega) (Pu.Ok.ret rfl)
 |q+1,j+1,i,R,out,hR,hi,hj,hlen=>by
  have hmo:=hR.2 i (by omega)
  have hRl:=hR.1
  have ho9:=(Pu.aH ho).2.2.1
  have hmi:=Pu.dm hm i
  have hoi:=Pu.dm ho i
  rw[Pu.dn]at hmi hoi
  have hs:(q+1)^(l+1)*B=(q+1)^l*B+(q+1)^l*B*q:=by rw[Nat.pow_succ,Nat.mul_assoc,Nat.mul_comm (q+1) B,←Nat.mul_assoc,Nat.mul_succ,Nat.add_comm]
  have hs2:q^(l+1)*B≤(q+1)^l*B*q:=by
   have:q^l≤(q+1)^l:=Nat.pow_le_pow_left (by omega) l
   calc q^(l+1)*B=q^l*(B*q):=by rw[Nat.pow_succ,Nat.mul_assoc,Nat.mul_comm q B]
    _≤(q+1)^l*(B*q):=Nat.mul_le_mul_right _ this
    _=(q+1)^l*B*q:=by rw[Nat.mul_assoc]
  obtain⟨col,hcol⟩: ∃col,col=Pu.fR m R i:=⟨_,rfl⟩
  have hcol':m.getD i 0+((R.getD i []).length:Int)=col:=by rw[hcol];rfl
  have hw1:IntKind.i64.wrap ((i:Int)+1)=((i+1:Nat):Int):=w64 (by omega) (by omega)
  have hwm:IntKind.i64.wrap ((i:Int)-1)=(i:Int)-1:=w64 (by omega) (by omega)
  have hwc:IntKind.i64.wrap (m.getD i 0+((R.getD i []).length:Int))=col:=by rw[hcol'];exact w64 (by omega) (by omega)
  have hwl:IntKind.i64.wrap ((((l+1:Nat):Nat):Int)-1)=(l:Int):=by rw[w64 (by omega) (by omega)];omega
  have next: ∀out':List Pu.Tab,out'.length+q^(l+1)*B≤1099511627776→Pu.Ok (ag.J2 k j ((l+1:Nat):Int) i kk m R o m (w::ws) out') (· =((),(m,(R,((),((),((),((),(kk,((),((),((),out'++Pu.nh m o kk rest (l+1) q (i+1) R)))))))))))):=fun out' ho'=>by
   rw[ag.rO]
   simp only[dI,dP,cd,cK,cL,bJ,bK,bY,du,cp,cJ,bL,bM,cI,bc,bZ,cx,cP,dN,dU,cM,cH,bT,bU,bS,bW,List.nil_append,List.cons_append]
   rw[hw1]
   exact ag.loop hm ho hk k1 k2 hl hB ih q j (i+1) R out' hR (by omega) (by omega) ho'
  have hJ: ∀b:Bool,(decide (col=o.getD i 0)||b)=Pu.shut m o kk R i→Pu.Ok (ag.J1 k j ((l+1:Nat):Int) i col b kk m R o m (w::ws) out) (· =((),(m,(R,((),((),((),((),(kk,((),((),((),out++Pu.nh m o kk rest (l+1) (q+1) i R)))))))))))):=fun b hb=>by
   rw[ag.j2,Pu.pM]
   simp only[dI,dP,cd,cK,cL,bJ,bK,bY,du,cp,cJ,bL,bM,cI,bc,bZ,cx,cP,dN,dU,cM,cH,bT,bU,bS,bW,List.nil_append,List.cons_append]
   rw[Int.toNat_natCast]
   refine Pu.Ok.g (by omega) (Pu.Ok.g (by omega) (Pu.Ok.g (by omega) (Pu.Ok.t (fun h=> ?_) (fun h=> ?_))))
   ·rw[←hb,decide_eq_true h,Bool.true_or,if_pos rfl,List.nil_append]
    exact next out (by omega)
   ·refine Pu.Ok.tb (fun h'=> ?_) (fun h'=> ?_)
    ·subst h'
     rw[←hb,Bool.or_true,if_pos rfl,List.nil_append]
     exact next out (by omega)
    ·subst h'
     have hsh:Pu.shut m o kk R i=false:=by rw[←hb,decide_eq_false h];rfl
     rw[hsh,if_neg (by decide)]
     have hpush:=Pu.Di hR (by omega) hsh
     have hrow:((R.getD i []).length:Int)≤9:=by omega
     have hrow':((Pu.dH kk R i).getD i []).length=(R.getD i []).length+1:=by rw[Pu.jO,if_pos ⟨rfl,by omega⟩,List.length_append,List.length_singleton]
     have hpl:=Pu.jS kk R i
     rw[ag.An]
     simp only[dI,dP,cd,cK,cL,bJ,bK,bY,du,cp,cJ,bL,bM,cI,bc,bZ,cx,cP,dN,dU,cM,cH,bT,bU,bS,bW,List.nil_append,List.cons_append]
     rw[Int.toNat_natCast]
     have hin:(R.getD i []++ [kk]).length≤1099511627776:=by rw[List.length_append,List.length_singleton];omega
     refine Pu.Ok.g (by omega) (Pu.Ok.g (by omega) (Pu.Ok.g (by omega) (Pu.Ok.g (by omega) (Pu.Ok.g hin (Pu.Ok.g (by omega) (Pu.Ok.g (by omega) (Pu.Ok.g (by omega) (Pu.Ok.g trivial ?_))))))))
     rw[hwl]
     have hcall:=ih i (Pu.dH kk R i) out hpush (by omega) (by rw[show o.length-i=q+1 by omega];omega)
     have hlp:=Pu.sn (m:=m) (o:=o) (k:=kk) hB l (q+1) i (Pu.dH kk R i)
     refine Pu.Ok.eN hcall ?_
     have hwt:IntKind.i64.wrap ((((Pu.dH kk R i).getD i []).length:Int)-1)=((R.getD i []).length:Int):=by rw[hrow',w64 (by omega) (by omega)];omega
     simp only[hwt,Int.toNat_natCast,Nat.sub_zero,List.drop_zero,Pu.ER kk (show i<R.length by omega)]
     refine Pu.Ok.g (by omega) (Pu.Ok.g (by omega) (Pu.Ok.g (by omega) (Pu.Ok.g (by omega) (Pu.Ok.g (by omega) (Pu.Ok.g (by omega) (Pu.Ok.g (by omega) (Pu.Ok.g (by omega) (Pu.Ok.g (by omega) (Pu.Ok.g (by omega) (Pu.Ok.g (by omega) (Pu.Ok.g (by omega) (Pu.Ok.g (by omega) (Pu.Ok.g (by omega) (Pu.Ok.g trivial ?_))))))))))))))
     rw[show o.length-i=q+1 by omega,←List.append_assoc]
     exact next _ (by rw[List.length_append];omega)
  have hrl: ∀x∈R,x.length≤1048576:=fun x hx=>by
   obtain⟨a,ha,rfl⟩:=List.getElem_of_mem hx
   have h1:=hR.2 a (by omega)
   have h2:=Pu.dm hm a
   have h3:=Pu.dm ho a
   rw[Pu.dn]at h2 h3
   unfold Pu.fR at h1
   rw[Pu.an ha []]at h1
   omega
  have hm9:=(Pu.aH hm).2.2.1
  rw[ag.bP]
  simp only[dI,dP,cd,cK,cL,bJ,bK,bY,du,cp,cJ,bL,bM,cI,bc,bZ,cx,cP,dN,dU,cM,cH,bT,bU,bS,bW,List.nil_append,List.cons_append]
  rw[Int.toNat_natCast]
  refine Pu.Ok.t (fun _=> ?_) (fun hn=>absurd (show(i:Int)<(o.length:Nat) by omega) hn)
  refine Pu.Ok.eN (eZ.is (by omega) (by omega)) ?_
  rw[Pu.dn]
  refine Pu.Ok.g (by omega) (Pu.Ok.g (by omega) (Pu.Ok.g (by omega) (Pu.Ok.g (by omega) ?_)))
  simp only[hwc,hwm]
  refine Pu.Ok.eN (cE.is (t:=(m,R)) (by omega) hm (by show R.length≤_;omega) hrl (by omega) (by omega)) ?_
  refine Pu.Ok.t (fun h0=> ?_) (fun h0=> ?_)
  ·refine Pu.Ok.eN (eZ.is (by omega) (by omega)) ?_
   have e1:Pu.atI m ((i:Int)-1)=m.getD (i-1) 0:=by rw[show(i:Int)-1=((i-1:Nat):Int) by omega,Pu.dn]
   rw[e1]
   refine Pu.Ok.t (fun h1=> ?_) (fun h1=> ?_)
   ·refine Pu.Ok.t (fun h2=> ?_) (fun h2=> ?_)
    ·refine hJ true ?_
     unfold Pu.shut
     rw[←hcol,decide_eq_true (show 0<i by omega),decide_eq_true h1,decide_eq_true h2]
     simp
    ·refine hJ _ ?_
     unfold Pu.shut
     rw[←hcol,decide_eq_true (show 0<i by omega),decide_eq_true h1,decide_eq_false h2]
     simp
   ·refine hJ false ?_
    unfold Pu.shut
    rw[←hcol,decide_eq_false h1]
    simp
  ·refine hJ false ?_
   unfold Pu.shut
   rw[←hcol,decide_eq_false (show¬0<i by omega)]
   simp
theorem ag.put{m o ws:LI}{w:Int}{F B:Nat}{kk:Int}(hm:Pu.aX m=true)(ho:Pu.aX o=true)(k1:1≤kk)(k2:kk≤99)(hB: ∀R,(Pu.lq m o ws (kk+1) R).length≤B)(hF:100≤F)(hFo:o.length<F)
  (ihG: ∀(k:Nat) (R:LJ) (out:List Pu.Tab),F≤k→Pu.nW m o R→out.length+B≤1099511627776→aS k (kk+1) m R out o m ws=some ((),(m,(R,out++Pu.lq m o ws (kk+1) R)))):
  ∀(l k row:Nat) (R:LJ) (out:List Pu.Tab),F+1+l≤k→l≤9→Pu.nW m o R→row≤o.length→out.length+(o.length-row)^l*B≤1099511627776→
   ag k row l kk m R out o m (w::ws)=some ((),(m,(R,((),((),((),((),(kk,((),((),((),out++Pu.nh m o kk (Pu.lq m o ws (kk+1)) l (o.length-row) row R))))))))))):=by
 intro l
 induction l with
 |zero=>
  intro k row R out hk _ hR hrow hlen
  obtain⟨k,rfl⟩: ∃k',k=k'+1:=⟨k-1,by omega⟩
  apply Pu.ok_eq
  rw[ag.eq,Pu.pV]
  simp only[dI,dP,cd,cK,cL,bJ,bK,bY,du,cp,cJ,bL,bM,cI,bc,bZ,cx,cP,dN,dU,cM,cH,bT,bU,bS,bW,List.nil_append,List.cons_append]
  have hw:IntKind.i64.wrap (kk+1)=kk+1:=w64 (by omega) (by omega)
  have e:List.take ((w::ws).length-Int.toNat 1) (List.drop (Int.toNat 1) (w::ws))=ws:=by
   show List.take (ws.length+1-1) ws=ws
   exact List.take_of_length_le (by omega)
  refine Pu.Ok.g (by simp) (Pu.Ok.g (by omega) (Pu.Ok.g (by show 1≤ws.length+1;omega) ?_))
  rw[hw,e]
  refine Pu.Ok.eN (ihG k R out (by omega) hR (by simpa using hlen)) (Pu.Ok.ret rfl)
 |succ l ih=>
  intro k row R out hk hl hR hrow hlen
  obtain⟨k,rfl⟩: ∃k',k=k'+1:=⟨k-1,by omega⟩
  apply Pu.ok_eq
  rw[ag.eq]
  simp only[dI,dP,cd,cK,cL,bJ,bK,bY,du,cp,cJ,bL,bM,cI,bc,bZ,cx,cP,dN,dU,cM,cH,bT,bU,bS,bW,List.nil_append,List.cons_append]
  refine Pu.Ok.no (by omega) ?_
  refine ag.loop hm ho (by omega) k1 k2 (by omega) hB (fun row R out h1 h2 h3=>ih k row R out (by omega) (by omega) h1 h2 h3) (o.length-row) k row R out hR (by omega) (by omega) hlen
theorem ag.grow{m o:LI}(hm:Pu.aX m=true)(ho:Pu.aX o=true): ∀(ws:LI) (k:Nat) (kk:Int) (R:LJ) (out:List Pu.Tab),4194304+30+14*ws.length≤k→1≤kk→kk+ws.length≤99→(∀w∈ws,0≤w∧w≤9)→Pu.nW m o R→
  out.length+o.length^Pu.fG ws≤1099511627776→aS k kk m R out o m ws=some ((),(m,(R,out++Pu.lq m o ws kk R))):=by
 have ho9:=(Pu.aH ho).2.2.1
 have hm9:=(Pu.aH hm).2.2.1
 have hrl: ∀R,Pu.nW m o R→ ∀x∈R,x.length≤1048576:=fun R hR x hx=>by
  obtain⟨a,ha,rfl⟩:=List.getElem_of_mem hx
  have h1:=hR.2 a (by have:=hR.1;omega)
  have h2:=Pu.dm hm a
  have h3:=Pu.dm ho a
  rw[Pu.dn]at h2 h3
  unfold Pu.fR at h1
  rw[Pu.an ha []]at h1
  omega
 intro ws
 induction ws with
 |nil=>
  intro k kk R out hk _ _ _ hR hlen
  obtain⟨k,rfl⟩: ∃k',k=k'+2:=⟨k-2,by omega⟩
  apply Pu.ok_eq
  rw[aS.eq]
  simp only[dI,dP,cd,cK,cL,bJ,bK,bY,du,cp,cJ,bL,bM,cI,bc,bZ,cx,cP,dN,dU,cM,cH,bT,bU,bS,bW,List.nil_append,List.cons_append]
  refine Pu.Ok.g rfl ?_
  refine Pu.Ok.eN (bn.is (t:=(m,R)) (by omega) (by show m.length≤_;omega) (by show R.length≤_;have:=hR.1;omega) (hrl R hR)) ?_
  refine Pu.Ok.g ?_ (Pu.Ok.ret rfl)
  rw[List.length_append]
  simpa[Pu.fG]using hlen
 |cons w ws ihw=>
  intro k kk R out hk hk1 hk2 hw hR hlen
  obtain⟨k,rfl⟩: ∃k',k=k'+2:=⟨k-2,by omega⟩
  obtain⟨w0,w9⟩:=hw w (by simp)
  have e:Pu.fG (w::ws)=w.toNat+Pu.fG ws:=by simp[Pu.fG]
  rw[e,Nat.pow_add]at hlen
  rw[List.length_cons]at hk hk2
  apply Pu.ok_eq
  rw[aS.eq]
  simp only[dI,dP,cd,cK,cL,bJ,bK,bY,du,cp,cJ,bL,bM,cI,bc,bZ,cx,cP,dN,dU,cM,cH,bT,bU,bS,bW,List.nil_append,List.cons_append]
  refine Pu.Ok.no (by rw[List.length_cons];omega) ?_
  refine Pu.Ok.g (by omega) (Pu.Ok.g (by simp) (Pu.Ok.g (by simp) ?_))
  have hB: ∀R,(Pu.lq m o ws (kk+1) R).length≤o.length^Pu.fG ws:=fun R=>Pu.nx m o ws (kk+1) R
  have h:=ag.put (w:=w) (ws:=ws) (F:=4194304+30+14*ws.length) hm ho hk1 (by omega) hB (by omega) (by omega)
   (fun k R out h1 h2 h3=>ihw k (kk+1) R out h1 (by omega) (by omega) (fun x hx=>hw x (by simp[hx])) h2 h3) w.toNat (k+1) 0 R out (by omega) (by omega) hR (by omega) (by simpa using hlen)
  have e2:(w::ws).getD (Int.toNat 0) 0=((w.toNat:Nat):Int):=by show w=_;omega
  rw[e2]
  rw[Int.natCast_zero]at h
  refine Pu.Ok.eN h (Pu.Ok.ret ?_)
  rfl
theorem bH.loop{k:Nat}{t:Pu.Tab}{x3 x4:LI}(hk:4194304+4≤k)(hi:Pu.aX t.1=true)(h2:t.2.length≤1048576)(hr: ∀x∈t.2,x.length≤1048576): ∀(m j i:Nat) (acc:LI),i+m=t.2.length→m<j→acc.length=i→
  bH.L1 k j t.2.length i t.2 t.1 x3 x4 acc t.1=some (if Pu.aJ t.1 (acc++Pu.eV t.1 i (t.2.drop i))=true then((acc++Pu.eV t.1 i (t.2.drop i),t.1),true)else(([],[]),false))
 |m,0,i,acc,_,hj,_=>by omega
 |0,j+1,i,acc,hm,_,hacc=>by
  rw[bH.fX]
  have e:i=t.2.length:=by omega
  have h9:=(Pu.aH hi).2.2.1
  have hlt: ¬i<t.2.length:=by omega
  rw[ep.is (by omega) (by simp only;omega) (by simp only;omega),e]
  simp only[↓aM,sss,if_true,if_false,Nat.lt_irrefl,List.drop_length,Pu.eV,List.append_nil]
  cases Pu.aJ t.1 acc<;>simp
 |m+1,j+1,i,acc,hm,hj,hacc=>by
  rw[bH.fX]
  have hlt:i<t.2.length:=by omega
  have hb:=Pu.dm hi i
  have h9:=(Pu.aH hi).2.2.1
  have hrow:=hr t.2[i] (List.getElem_mem hlt)
  rw[←Pu.an hlt []]at hrow
  rw[eZ.is (by omega) (by omega)]
  have ih:=bH.loop (x3:=x3) (x4:=x4) hk hi h2 hr m j (i+1) (acc++ [Pu.atI t.1 i+(t.2.getD i []).length]) (by omega) (by omega) (by simp[hacc])
  rw[Int.natCast_succ]at ih
  rw[Pu.drop_cons hlt []]
  have hl:(acc++ [Pu.atI t.1 i+((t.2.getD i []).length:Int)]).length≤1099511627776:=by simp;omega
  simp (disch:=omega) only[↓aM,sss,if_true,if_false,hlt,hl,ih,Pu.eV]
  simp only[List.append_assoc,List.singleton_append,Pu.dn]
  rfl
theorem bH.is{k:Nat}{t:Pu.Tab}(hk:4194304+5≤k)(h1:t.1.length≤1048576)(h2:t.2.length≤1048576)(hr: ∀x∈t.2,x.length≤1048576):bH k t=some (Pu.shapeOf t):=by
 obtain⟨k,rfl⟩: ∃k',k=k'+1:=⟨k-1,by omega⟩
 rw[bH.eq,aE.is (by omega) h1,bH.lf,bq.is (by omega) (by omega)]
 simp only[↓aM,sss,if_true,if_false]
 unfold Pu.shapeOf
 cases c1:Pu.aX t.1 with
 |false=>
  have:Pu.cX t=false:=by unfold Pu.cX;rw[c1];rfl
  simp only[this,↓aM,sss,if_true,if_false]
 |true=>
  by_cases c2:t.2.length<t.1.length
  ·have:Pu.cX t=false:=by
    have: ¬t.1.length≤t.2.length:=by omega
    unfold Pu.cX;simp[this]
   simp only[this,c2,↓aM,sss,if_true,if_false]
  ·have c2':t.1.length≤t.2.length:=by omega
   have hloop:=bH.loop (k:=k) (t:=t) (x3:= []) (x4:= []) (by omega) c1 h2 hr t.2.length k 0 [] (by omega) (by omega) rfl
   rw[Int.natCast_zero]at hloop
   simp only[c2,↓aM,sss,if_true,if_false]
   rw[hloop]
   have:Pu.cX t=Pu.aJ t.1 (Pu.outer t):=by unfold Pu.cX;simp[c1,c2']
   rw[this]
   rfl
theorem aB.inner{k k1:Nat}{t:Pu.Tab}{r:Nat}(hk:4194304≤k)(hi:Pu.aX t.1=true)(ht:t.2.length≤1048576)(hr: ∀x∈t.2,x.length≤1048576)(hlt:r<t.2.length)(n:Int):
  aB.L1 k k1 k r r n r r (t.2.getD r []).length 0 t.2 t.1=if((List.range' 0 (t.2.getD r []).length).all fun q=>Pu.fp t r q)=true then aB.L0 k k1 n ((r:Int)+1) t.2 t.1 else some false:=by
 have hx:=hr _ (List.getElem_mem hlt)
 rw[←Pu.an hlt []]at hx
 have hb:=Pu.dm hi r
 have h9:=(Pu.aH hi).2.2.1
 have h:=Pu.l9 (fun j q=>aB.L1 k k1 j r r n r r (t.2.getD r []).length (q:Int) t.2 t.1) (t.2.getD r []).length (fun q=>Pu.fp t r q) (some false) (aB.L0 k k1 n ((r:Int)+1) t.2 t.1)
  (fun j q hq=>by
   have e3:=cE.is (k:=k) (t:=t) (r:=(r:Int)-1) (c:=t.1.getD r 0+q) (by omega) hi ht hr (by rw[Pu.dn]at hb;omega) (by rw[Pu.dn]at hb;omega)
   have ea:=eZ.is (k:=k) (p:=t.1) (i:=r) (by omega) (by omega)
   rw[Pu.dn]at ea
   rw[Pu.dn]at hb
   rw[aB.fX]
   simp (maxSteps:=10000000) (disch:=omega) only[↓aM,sss,if_true,if_false,hlt,hq,dS.is,ea,e3,aB.rO,Int.natCast_add,Int.natCast_one]
   unfold Pu.fp
   generalize hx0:(t.2.getD r []).getD q 0=x at*
   cases Pu.within x 1 9 with
   |false=>simp
   |true=>
    have up:(if(0:Int)<r then(if x≤Pu.entry t ((r:Int)-1) (t.1.getD r 0+q)then some false else aB.L1 k k1 j r r n r r (t.2.getD r []).length ((q:Int)+1) t.2 t.1)else aB.L1 k k1 j r r n r r (t.2.getD r []).length ((q:Int)+1) t.2 t.1)=
      if(decide (r=0)||decide (Pu.entry t ((r:Int)-1) (t.1.getD r 0+q)<x))=true then aB.L1 k k1 j r r n r r (t.2.getD r []).length ((q:Int)+1) t.2 t.1 else some false:=by
     by_cases e:r=0
     ·subst e;simp
     ·have e':(0:Int)<r:=by omega
      by_cases c:x≤Pu.entry t ((r:Int)-1) (t.1.getD r 0+q)
      ·have c': ¬Pu.entry t ((r:Int)-1) (t.1.getD r 0+q)<x:=by omega
       simp only[e',c,c',e,if_true,if_false,decide_false,Bool.or_false,Bool.false_eq_true]
      ·have c':Pu.entry t ((r:Int)-1) (t.1.getD r 0+q)<x:=by omega
       simp only[e',c,c',e,if_true,if_false,decide_true,decide_false,Bool.false_or]
    by_cases e:q=0
    ·have e': ¬(0:Int)<q:=by omega
     simp only[e',e,↓aM,sss,if_true,if_false,Bool.true_or]
     rw[e]at up
     exact up
    ·have e':(0:Int)<q:=by omega
     have eq:(q:Int)-1=((q-1:Nat):Int):=by omega
     have hq':q-1<(t.2.getD r []).length:=by omega
     simp (disch:=omega) only[e',e,↓aM,sss,if_true,if_false,eq,hq',Bool.false_or]
     by_cases c:x<(t.2.getD r []).getD (q-1) 0
     ·have c': ¬(t.2.getD r []).getD (q-1) 0≤x:=by omega
      simp only[c,c',↓aM,sss,if_true,if_false]
     ·have c':(t.2.getD r []).getD (q-1) 0≤x:=by omega
      simp only[c,c',↓aM,sss,if_true,if_false]
      exact up)
  (fun j=>by
   rw[aB.fX]
   simp (maxSteps:=10000000) (disch:=omega) only[↓aM,sss,if_true,if_false,Nat.lt_irrefl]) (t.2.getD r []).length k 0 (by omega) (by omega)
 simp only[Int.natCast_zero]at h
 exact h
theorem aB.is{k:Nat}{t:Pu.Tab}(hk:4194304+6≤k)(h1:t.1.length≤1048576)(ht:t.2.length≤1048576)(hr: ∀x∈t.2,x.length≤1048576):aB k t=some (Pu.eI t):=by
 obtain⟨k,rfl⟩: ∃k',k=k'+1:=⟨k-1,by omega⟩
 rw[aB.eq,bH.is (by omega) h1 ht hr,ch]
 unfold Pu.eI Pu.shapeOf
 cases hs:Pu.cX t with
 |false=>simp[hs]
 |true=>
  have hi:Pu.aX t.1=true:=by
   simp only[Pu.cX,Bool.and_eq_true]at hs;exact hs.1
  have h:=Pu.l9 (fun j r=>aB.L0 k j t.2.length r t.2 t.1) t.2.length (fun r=>(List.range' 0 (t.2.getD r []).length).all fun q=>Pu.fp t r q) (some false) (some true)
   (fun j r hlt=>by
    rw[aB.bP]
    simp (disch:=omega) only[↓aM,sss,if_true,if_false,hlt,aB.inner (k1:=j) (show 4194304≤k by omega) hi ht hr hlt,Int.natCast_add,Int.natCast_one])
   (fun j=>by
    rw[aB.bP]
    simp (disch:=omega) only[↓aM,sss,if_true,if_false,Nat.lt_irrefl]) t.2.length k 0 (by omega) (by omega)
  simp only[Int.natCast_zero]at h
  simp only[if_true,↓aM,sss,if_true,if_false]
  rw[h]
  cases(List.range' 0 t.2.length).all fun r=>(List.range' 0 (t.2.getD r []).length).all fun q=>Pu.fp t r q<;>simp
theorem strings_Repeat.is{k:Nat}{n:Int}(hk:1≤k)(h0:0≤n)(h1:n≤1000):strings_Repeat k (Pu.tx [46]) n=some (Pu.tx (List.replicate n.toNat 46)):=by
 obtain⟨k,rfl⟩: ∃k',k=k'+1:=⟨k-1,by omega⟩
 rw[strings_Repeat.eq]
 exact Pu.Gg h0 h1
theorem strconv_Itoa.is{k:Nat}{n:Int}(hk:1≤k)(h0:0≤n)(h1:n<100):strconv_Itoa k n=some (Pu.tx (Pu.dcm n)):=by
 obtain⟨k,rfl⟩: ∃k',k=k'+1:=⟨k-1,by omega⟩
 rw[strconv_Itoa.eq]
 exact Pu.E4 h0 h1
theorem fK.is{k:Nat}{n:Int}(hk:2≤k)(h0:0≤n)(h1:n<100):fK k n=some (Pu.tx (Pu.dcm n)):=by
 obtain⟨k,rfl⟩: ∃k',k=k'+1:=⟨k-1,by omega⟩
 rw[fK.eq,strconv_Itoa.is (by omega) h0 h1,ch]
theorem strings_Join.is{k:Nat}{ws:List (List UInt8)}{sep:List UInt8}(hk:1≤k)(h1:ws.length≤1000)(h2: ∀w∈ws,w.length≤10000)(hs:sep.length≤10):strings_Join k (ws.map Pu.tx) (Pu.tx sep)=some (Pu.tx (Lib.join ws sep)):=by
 obtain⟨k,rfl⟩: ∃k',k=k'+1:=⟨k-1,by omega⟩
 rw[strings_Join.eq]
 exact Pu.Ee h1 h2 hs
theorem iW.is{k:Nat}{ws:List (List UInt8)}{sep:List UInt8}(hk:2≤k)(h1:ws.length≤1000)(h2: ∀w∈ws,w.length≤10000)(hs:sep.length≤10):iW k (ws.map Pu.tx) (Pu.tx sep)=some (Pu.tx (Lib.join ws sep)):=by
 obtain⟨k,rfl⟩: ∃k',k=k'+1:=⟨k-1,by omega⟩
 rw[iW.eq,strings_Join.is (by omega) h1 h2 hs,ch]
theorem cN.loop{k:Nat}{sep:List UInt8}{l:LI}(hk:10≤k)(hs:sep.length≤10)(hn:l.length≤1000)(hl: ∀x∈l,0≤x∧x<100): ∀(m j i:Nat) (acc:List ByteArray),i+m=l.length→m<j→acc=(l.take i).map (fun n=>Pu.tx (Pu.dcm n))→Pu.Ok (cN.L0 k j (Pu.tx sep) (l.length:Int) i acc l) (· =Pu.tx (Lib.join (l.map Pu.dcm) sep))
 |m,0,i,acc,_,hj,_=>by omega
 |0,j+1,i,acc,hi,_,ha=>by
  rw[cN.bP]
  simp only[dI,dP,cd,cK,cL,bJ,bK,bY,du,cp,cJ,bL,bM,cI,bc,bZ,cx,cP,dN,dU,cM,cH,bT,bU,bS,bW,List.nil_append,List.cons_append]
  refine Pu.Ok.no (by omega) ?_
  have e:acc=(l.map Pu.dcm).map Pu.tx:=by
   rw[ha,List.take_of_length_le (by omega),List.map_map];rfl
  rw[e]
  refine Pu.Ok.eN (iW.is (by omega) (by rw[List.length_map];omega) (fun w hw=> ?_) hs) (Pu.Ok.ret rfl)
  obtain⟨x,hx,rfl⟩:=List.mem_map.1 hw
  have:=Pu.zf (hl x hx).2
  omega
 |m+1,j+1,i,acc,hi,hj,ha=>by
  rw[cN.bP]
  have hlen:acc.length=i:=by rw[ha,List.length_map,List.length_take];omega
  simp only[dI,dP,cd,cK,cL,bJ,bK,bY,du,cp,cJ,bL,bM,cI,bc,bZ,cx,cP,dN,dU,cM,cH,bT,bU,bS,bW,List.nil_append,List.cons_append]
  (try simp only[Int.toNat_natCast]);(try simp (disch:=omega) only[w64])
  (repeat (refine Pu.Ok.g (by first|omega|assumption|(simp only[List.length_append,List.length_cons,List.length_nil,List.length_set,List.length_take,List.length_drop,List.length_replicate]at*;omega)) ?_))
  have hm:l.getD i 0∈l:=by rw[Pu.an (show i<l.length by omega) _];exact List.getElem_mem _
  refine Pu.Ok.eN (fK.is (by omega) (hl _ hm).1 (hl _ hm).2) ?_
  (repeat (refine Pu.Ok.g (by first|omega|assumption|(simp only[List.length_append,List.length_cons,List.length_nil,List.length_set,List.length_take,List.length_drop,List.length_replicate]at*;omega)) ?_))
  (try simp only[Int.toNat_natCast]);(try simp (disch:=omega) only[w64])
  refine cN.loop hk hs hn hl m j (i+1) _ (by omega) (by omega) ?_
  rw[ha,List.take_add_one,List.map_append,List.getElem?_eq_getElem (show i<l.length by omega),Pu.an (show i<l.length by omega) _]
  rfl
theorem cN.is{k:Nat}{sep:List UInt8}{l:LI}(hk:2000≤k)(hs:sep.length≤10)(hn:l.length≤1000)(hl: ∀x∈l,0≤x∧x<100):cN k l (Pu.tx sep)=some (Pu.tx (Lib.join (l.map Pu.dcm) sep)):=by
 obtain⟨k,rfl⟩: ∃k',k=k'+1:=⟨k-1,by omega⟩
 apply Pu.ok_eq
 rw[cN.eq]
 exact cN.loop (k:=k) (by omega) hs hn hl l.length k 0 [] (by omega) (by omega) rfl
theorem aY.loop{k:Nat}{t:Pu.Tab}(hk:3000≤k)(ht:Pu.eI t=true): ∀(m j i:Nat) (acc:List ByteArray),i+m=t.2.length→m<j→acc=((List.range i).map (Pu.lZ t)).map Pu.tx→Pu.Ok (aY.L0 k j (t.2.length:Int) i acc t.2 t.1) (· =Pu.tx (Lib.join ((List.range t.2.length).map (Pu.lZ t)) [47]))
 |m,0,i,acc,_,hj,_=>by omega
 |0,j+1,i,acc,hi,_,ha=>by
  rw[aY.bP]
  simp only[dI,dP,cd,cK,cL,bJ,bK,bY,du,cp,cJ,bL,bM,cI,bc,bZ,cx,cP,dN,dU,cM,cH,bT,bU,bS,bW,List.nil_append,List.cons_append]
  refine Pu.Ok.no (by omega) ?_
  have e:i=t.2.length:=by omega
  subst e
  have h9:=(Pu.iG ht).1
  rw[ha]
  refine Pu.Ok.eN (iW.is (sep:= [47]) (by omega) (by rw[List.length_map,List.length_range];omega) (fun w hw=> ?_) (by decide)) (Pu.Ok.ret rfl)
  obtain⟨x,hx,rfl⟩:=List.mem_map.1 hw
  have:=Pu.sB ht x
  omega
 |m+1,j+1,i,acc,hi,hj,ha=>by
  rw[aY.bP]
  have hlen:acc.length=i:=by rw[ha,List.length_map,List.length_map,List.length_range]
  have h9:=(Pu.iG ht).1
  obtain⟨p1,p2,p3,p4⟩:=Pu.ib ht
  simp only[dI,dP,cd,cK,cL,bJ,bK,bY,du,cp,cJ,bL,bM,cI,bc,bZ,cx,cP,dN,dU,cM,cH,bT,bU,bS,bW,List.nil_append,List.cons_append]
  (try simp only[Int.toNat_natCast]);(try simp (disch:=omega) only[w64])
  (repeat (refine Pu.Ok.g (by first|omega|assumption|(simp only[List.length_append,List.length_cons,List.length_nil,List.length_set,List.length_take,List.length_drop,List.length_replicate]at*;omega)) ?_))
  have hb:=Pu.dm p1 i
  refine Pu.Ok.eN (eZ.is (by omega) (by omega)) ?_
  have e46:(⟨#[46]⟩:ByteArray)=Pu.tx [46]:=rfl
  have e0:(⟨#[]⟩:ByteArray)=Pu.tx []:=rfl
  rw[e46,e0]
  refine Pu.Ok.eN (strings_Repeat.is (by omega) hb.1 (by omega)) ?_
  (repeat (refine Pu.Ok.g (by first|omega|assumption|(simp only[List.length_append,List.length_cons,List.length_nil,List.length_set,List.length_take,List.length_drop,List.length_replicate]at*;omega)) ?_))
  have hr:=(Pu.iG ht).at i
  refine Pu.Ok.eN (cN.is (by omega) (by decide) (by omega) (fun x hx=>by have:=Pu.lH ht hx;omega)) ?_
  rw[Pu.zY,Pu.yI,Pu.mJ,Pu.mJ]
  have hrl:=Pu.sB ht i
  have hrl':(List.replicate (Pu.atI t.1 i).toNat (46:UInt8)).length+(Pu.fA (t.2.getD i [])).length≤100:=by
   rw[←List.length_append];exact hrl
  refine Pu.Ok.g (by omega) ?_
  (repeat (refine Pu.Ok.g (by first|omega|assumption|(simp only[List.length_append,List.length_cons,List.length_nil,List.length_set,List.length_take,List.length_drop,List.length_replicate]at*;omega)) ?_))
  (try simp only[Int.toNat_natCast]);(try simp (disch:=omega) only[w64])
  refine aY.loop hk ht m j (i+1) _ (by omega) (by omega) ?_
  rw[ha,List.range_succ,List.map_append,List.map_append]
  rfl
theorem aY.is{k:Nat}{t:Pu.Tab}(hk:4194304+20≤k)(h1:t.1.length≤1048576)(h2:t.2.length≤1048576)(hr: ∀x∈t.2,x.length≤1048576):aY k t=some (Pu.tx (Pu.aZ t)):=by
 obtain⟨k,rfl⟩: ∃k',k=k'+1:=⟨k-1,by omega⟩
 apply Pu.ok_eq
 rw[aY.eq]
 refine Pu.Ok.eN (aB.is (by omega) h1 h2 hr) ?_
 unfold Pu.aZ
 simp only[dI,dP,cd,cK,cL,bJ,bK,bY,du,cp,cJ,bL,bM,cI,bc,bZ,cx,cP,dN,dU,cM,cH,bT,bU,bS,bW,List.nil_append,List.cons_append]
 refine Pu.Ok.tn (fun hb=> ?_) (fun hb=> ?_)
 ·rw[hb];exact Pu.Ok.ret rfl
 ·rw[hb]
  refine Pu.Ok.t (fun h=> ?_) (fun h=> ?_)
  ·have:t.2= []:=List.eq_nil_of_length_eq_zero (by simpa using h)
   rw[this]
   exact Pu.Ok.ret rfl
  ·have h0:t.2≠ []:=fun e=>h (by rw[e];rfl)
   rw[if_pos rfl,if_neg h0]
   exact aY.loop (k:=k) (by omega) hb t.2.length k 0 [] (Nat.zero_add _) (by show t.2.length<k;omega) rfl
theorem strings_Compare.is{k:Nat}{a b:ByteArray}(hk:1≤k):strings_Compare k a b=some (Lib.compareBytes a.data.toList b.data.toList):=by
 obtain⟨k,rfl⟩: ∃k',k=k'+1:=⟨k-1,by omega⟩
 rw[strings_Compare.eq]
 rfl
theorem fx.is{k:Nat}{a b:Pu.Tab}(hk:4194304+21≤k)(ha:Pu.j3 a)(hb:Pu.j3 b):fx k a b=some (Lib.compareBytes (Pu.aZ a) (Pu.aZ b)):=by
 obtain⟨k,rfl⟩: ∃k',k=k'+1:=⟨k-1,by omega⟩
 rw[fx.eq]
 show D.bnd (aY k a) _=_
 rw[aY.is (by omega) ha.1 ha.2.1 ha.2.2,ch]
 show D.bnd (aY k b) _=_
 rw[aY.is (by omega) hb.1 hb.2.1 hb.2.2,ch,strings_Compare.is (by omega),ch]
 rfl
theorem eY.grow{m o:LI}(hi:Pu.aJ m o=true){ws:LI}{k:Nat}(hk:4194304+200≤k)(h9:ws.length≤9)(hw: ∀w∈ws,0≤w∧w≤9)(hs:Pu.aT ws=Pu.aT o-Pu.aT m):
  aS k 1 m (List.replicate o.length []) [] o m ws=some ((),(m,(List.replicate o.length [],Pu.kN m o ws))):=by
 obtain⟨i1,i2,i3,i4⟩:=Pu.fE hi
 have ho9:=(Pu.aH i2).2.2.1
 have hR:=(Pu.Fq hi 1).ok
 have hlen:=Pu.yG hi hw hs
 cases ws with
 |nil=>
  obtain⟨k,rfl⟩: ∃k',k=k'+2:=⟨k-2,by omega⟩
  apply Pu.ok_eq
  rw[aS.eq]
  simp only[dI,dP,cd,cK,cL,bJ,bK,bY,du,cp,cJ,bL,bM,cI,bc,bZ,cx,cP,dN,dU,cM,cH,bT,bU,bS,bW,List.nil_append,List.cons_append]
  refine Pu.Ok.g rfl ?_
  refine Pu.Ok.eN (bn.is (t:=(m,List.replicate o.length [])) (by omega) (by show m.length≤_;omega) (by show(List.replicate o.length []).length≤_;rw[List.length_replicate];omega) (fun x hx=>by rw[(List.mem_replicate.1 hx).2];simp)) ?_
  exact Pu.Ok.g (by simp) (Pu.Ok.ret rfl)
 |cons w ws=>
  obtain⟨k,rfl⟩: ∃k',k=k'+2:=⟨k-2,by omega⟩
  obtain⟨w0,w9⟩:=hw w (by simp)
  rw[List.length_cons]at h9
  apply Pu.ok_eq
  rw[aS.eq]
  simp only[dI,dP,cd,cK,cL,bJ,bK,bY,du,cp,cJ,bL,bM,cI,bc,bZ,cx,cP,dN,dU,cM,cH,bT,bU,bS,bW,List.nil_append,List.cons_append]
  refine Pu.Ok.no (by rw[List.length_cons];omega) ?_
  refine Pu.Ok.g (by omega) (Pu.Ok.g (by simp) (Pu.Ok.g (by simp) ?_))
  have e:Pu.fG (w::ws)=w.toNat+Pu.fG ws:=by simp[Pu.fG]
  have hlim:=Pu.xG hi hw hs
  rw[e,Nat.pow_add]at hlim
  have h:=ag.put (w:=w) (ws:=ws) (F:=4194304+30+14*ws.length) (kk:=1) i1 i2 (by omega) (by omega) (fun R=>Pu.nx m o ws (1+1) R) (by omega) (by omega)
   (fun k R out h1 h2 h3=>ag.grow i1 i2 ws k (1+1) R out h1 (by omega) (by omega) (fun x hx=>hw x (by simp[hx])) h2 h3) w.toNat (k+1) 0 (List.replicate o.length []) [] (by omega) (by omega) hR (by omega) (by simpa using hlim)
  have e2:(w::ws).getD (Int.toNat 0) 0=((w.toNat:Nat):Int):=by show w=_;omega
  rw[e2]
  rw[Int.natCast_zero]at h
  exact Pu.Ok.eN h (Pu.Ok.ret rfl)
theorem eY.is{m o:LI}(hi:Pu.aJ m o=true){ws:LI}{k:Nat}(hk:4194304+202≤k)(h9:ws.length≤9)(hw: ∀w∈ws,0≤w∧w≤9):eY k (o,m) ws=some (if Pu.aT ws=Pu.aT o-Pu.aT m then Pu.hU (Pu.kN m o ws)else []):=by
 obtain⟨k,rfl⟩: ∃k',k=k'+2:=⟨k-2,by omega⟩
 obtain⟨i1,i2,i3,i4⟩:=Pu.fE hi
 have ho9:=(Pu.aH i2).2.2.1
 apply Pu.ok_eq
 rw[eY.eq]
 refine Pu.Ok.eN (dD.is (by omega) (by omega) fun x hx=>by have:=hw x hx;omega) ?_
 refine Pu.Ok.eN (eA.is (s:=(o,m)) (by omega) (by show o.length≤_;omega) (by show m.length≤_;omega)) ?_
 rw[if_pos (show Pu.aJ (o,m).2 (o,m).1=true from hi)]
 simp only[dI,dP,cd,cK,cL,bJ,bK,bY,du,cp,cJ,bL,bM,cI,bc,bZ,cx,cP,dN,dU,cM,cH,bT,bU,bS,bW,List.nil_append,List.cons_append]
 refine Pu.Ok.tnd (fun hne=>by rw[if_neg hne];exact Pu.Ok.ret rfl) (fun hs=> ?_)
 rw[if_pos hs]
 refine Pu.Ok.eN (bq.is (by omega) (by show m.length≤_;omega)) ?_
 refine Pu.Ok.g (by omega) (Pu.Ok.g (by omega) ?_)
 rw[Int.toNat_natCast]
 refine Pu.Ok.g (by show o.length≤_;omega) ?_
 refine Pu.Ok.eN (eY.grow hi (by omega) h9 hw hs) ?_
 have hn:(Pu.fG ws:Int)=Pu.aT o-Pu.aT m:=by rw[Pu.lI (fun x hx=>(hw x hx).1)];exact hs
 refine Pu.Ok.eN (Pu.Il (fun a ha b hb=> ?_) (Pu.D7 hi h9 hn) (by have:=Pu.yG hi hw hs;show(Pu.kN m o ws).length<_;omega)) (Pu.Ok.ret rfl)
 exact fx.is (a:=a) (b:=b) (by omega) (Pu.wT hi h9 hn ha) (Pu.wT hi h9 hn hb)
theorem cO.is{k:Nat}{s:LI×LI}(hk:4194304+203≤k)(h1:s.1.length≤1048576)(h2:s.2.length≤1048576):cO k s=some (if Pu.aJ s.2 s.1=true then Pu.hU (Pu.kN s.2 s.1 (List.replicate (Pu.aT s.1-Pu.aT s.2).toNat 1))else []):=by
 obtain⟨k,rfl⟩: ∃k',k=k'+1:=⟨k-1,by omega⟩
 apply Pu.ok_eq
 rw[cO.eq]
 refine Pu.Ok.eN (ep.is (s:=s) (by omega) h1 h2) ?_
 simp only[dI,dP,cd,cK,cL,bJ,bK,bY,du,cp,cJ,bL,bM,cI,bc,bZ,cx,cP,dN,dU,cM,cH,bT,bU,bS,bW,List.nil_append,List.cons_append]
 refine Pu.Ok.tn (fun hb=>by rw[hb];exact Pu.Ok.ret rfl) (fun hb=> ?_)
 rw[hb]
 have hd:=Pu.jF hb
 refine Pu.Ok.eN (eA.is (s:=s) (by omega) h1 h2) ?_
 rw[if_pos hb,if_pos rfl]
 have e:Pu.aT s.1-Pu.aT s.2=(((Pu.aT s.1-Pu.aT s.2).toNat:Nat):Int):=by omega
 generalize hn:(Pu.aT s.1-Pu.aT s.2).toNat=n at*
 rw[e]
 refine Pu.Ok.eN (j5.is (by omega) (by omega)) ?_
 refine Pu.Ok.eN (eY.is hb (by omega) (by rw[List.length_replicate];omega) (fun x hx=>by rw[(List.mem_replicate.1 hx).2];omega)) ?_
 rw[if_pos (by rw[Pu.pI,e])]
 exact Pu.Ok.ret rfl
theorem bR.loop{k:Nat}{a b:LI}(hl:a.length=b.length)(ha:a.length≤1048576): ∀(m j i:Nat),i+m=a.length→m<j→bR.L0 k j i a b=some (decide (a.drop i=b.drop i))
 |m,0,i,_,hj=>by omega
 |0,j+1,i,hi,_=>by
  rw[bR.bP]
  have e:i=a.length:=by omega
  subst e
  simp[hl]
 |m+1,j+1,i,hi,hj=>by
  rw[bR.bP]
  have h1:i<a.length:=by omega
  have h2:i<b.length:=by omega
  have ih:=bR.loop (k:=k) hl ha m j (i+1) (by omega) (by omega)
  rw[Int.natCast_succ]at ih
  rw[Pu.drop_cons h1 0,Pu.drop_cons h2 0]
  by_cases e:a.getD i 0=b.getD i 0<;>simp (disch:=omega) only[aM,dI,dP,cd,bJ,bK,bY,du,bc,bZ,dN,dU,w64,Int.toNat_natCast,decide_eq_true_eq,Int.ofNat_lt,h1,h2,if_true,Int.natCast_nonneg,decide_true,ih,e,List.cons.injEq,true_and,false_and,decide_false,Bool.not_true,Bool.not_false,if_false,Bool.false_eq_true]
theorem bR.is{k:Nat}{a b:LI}(hk:4194304+1≤k)(ha:a.length≤1048576):bR k a b=some (decide (a=b)):=by
 obtain⟨k,rfl⟩: ∃k',k=k'+1:=⟨k-1,by omega⟩
 rw[bR.eq]
 by_cases hl:a.length=b.length
 ·have h:=bR.loop (k:=k) hl ha a.length k 0 (by omega) (by omega)
  rw[Int.natCast_zero]at h
  simp only[List.drop_zero]at h
  have hl':(a.length:Int)=b.length:=by omega
  simp only[aM,dN,dU,bK,bJ,hl',decide_true,Bool.not_true,Bool.false_eq_true,if_false,h]
 ·have hne:a≠b:=fun e=>hl (by rw[e])
  have hl': ¬(a.length:Int)=b.length:=by omega
  simp[hl',hne]
theorem ck.loop{k:Nat}{a b:LJ}(hk:4194304+1≤k)(hl:a.length=b.length)(ha:a.length≤1048576)(hr: ∀x∈a,x.length≤1048576): ∀(m j i:Nat),i+m=a.length→m<j→ck.L0 k j i a b=some (decide (a.drop i=b.drop i))
 |m,0,i,_,hj=>by omega
 |0,j+1,i,hi,_=>by
  rw[ck.bP]
  have e:i=a.length:=by omega
  subst e
  simp[hl]
 |m+1,j+1,i,hi,hj=>by
  rw[ck.bP]
  have h1:i<a.length:=by omega
  have h2:i<b.length:=by omega
  have ih:=ck.loop (k:=k) hk hl ha hr m j (i+1) (by omega) (by omega)
  rw[Int.natCast_succ]at ih
  rw[Pu.drop_cons h1 [],Pu.drop_cons h2 []]
  have hq:=bR.is (k:=k) (a:=a.getD i []) (b:=b.getD i []) (by omega) (by rw[Pu.an h1];exact hr _ (List.getElem_mem h1))
  simp (disch:=omega) only[aM,dI,dP,cd,bJ,bK,bY,du,bc,bZ,dN,hq,ch,w64,Int.toNat_natCast,decide_eq_true_eq,Int.ofNat_lt,h1,h2,if_true,Int.natCast_nonneg,decide_true,ih]
  by_cases e:a.getD i []=b.getD i []<;>simp only[e,List.cons.injEq,true_and,false_and,decide_false,decide_true,Bool.not_true,Bool.not_false,if_false,if_true,Bool.false_eq_true]
theorem ck.is{k:Nat}{a b:LJ}(hk:4194304+2≤k)(ha:a.length≤1048576)(hr: ∀x∈a,x.length≤1048576):ck k a b=some (decide (a=b)):=by
 obtain⟨k,rfl⟩: ∃k',k=k'+1:=⟨k-1,by omega⟩
 rw[ck.eq]
 by_cases hl:a.length=b.length
 ·have h:=ck.loop (k:=k) (by omega) hl ha hr a.length k 0 (by omega) (by omega)
  rw[Int.natCast_zero]at h
  simp only[List.drop_zero]at h
  have hl':(a.length:Int)=b.length:=by omega
  simp only[aM,dN,dU,bK,bJ,hl',decide_true,Bool.not_true,Bool.false_eq_true,if_false,h]
 ·have hne:a≠b:=fun e=>hl (by rw[e])
  have hl': ¬(a.length:Int)=b.length:=by omega
  simp[hl',hne]
theorem fQ.is{k:Nat}{a b:LI×LJ}(hk:4194304+3≤k)(h1:a.1.length≤1048576)(ha:a.2.length≤1048576)(hr: ∀x∈a.2,x.length≤1048576):fQ k a b=some (decide (a=b)):=by
 obtain⟨k,rfl⟩: ∃k',k=k'+1:=⟨k-1,by omega⟩
 obtain⟨a1,a2⟩:=a
 obtain⟨b1,b2⟩:=b
 rw[fQ.eq,bR.is (by omega) h1,ch,ck.is (by omega) ha hr]
 by_cases e1:a1=b1<;>by_cases e2:a2=b2<;>simp[e1,e2]
theorem bp.loop{k:Nat}{l:List Pu.Tab}(hk:4194304+3≤k)(hl:l.length≤2000000000)(ho: ∀x∈l,Pu.j3 x): ∀(m j i:Nat),i+m=l.length→m<j→bp.L0 k j i l l=some true
 |m,0,i,_,hj=>by omega
 |0,j+1,i,hi,_=>by
  rw[bp.bP]
  have hn: ¬(i:Int)<l.length:=by omega
  exact tX hn rfl
 |m+1,j+1,i,hi,hj=>by
  rw[bp.bP]
  have hn:(i:Int)<l.length:=by omega
  have hlt:i<l.length:=by omega
  have ih:=bp.loop hk hl ho m j (i+1) (by omega) (by omega)
  rw[Int.natCast_succ]at ih
  have hx:=ho _ (List.getElem_mem hlt)
  rw[←Pu.an hlt ([],[])]at hx
  have he:=fQ.is (k:=k) (a:=l.getD i ([],[])) (b:=l.getD i ([],[])) hk hx.1 hx.2.1 hx.2.2
  rw[decide_eq_true rfl]at he
  have hw:IntKind.i64.wrap ((i:Int)+1)=(i:Int)+1:=w64 (by omega) (by omega)
  simp only[bY,bJ,bK,du,bZ,bc,Int.toNat_natCast,hw]
  refine tG hn (tG (Int.natCast_nonneg i) ?_)
  refine tG hlt (tG hlt (tG (Int.natCast_nonneg i) (tG hlt (tG hlt (tG hlt (tG hlt (tG hlt (tG hlt ?_))))))))
  exact bE he (tN ih)
theorem bp.refl{k:Nat}{l:List Pu.Tab}(hk:4194304+4+l.length≤k)(hl:l.length≤2000000000)(ho: ∀x∈l,Pu.j3 x):bp k l l=some true:=by
 obtain⟨k,rfl⟩: ∃k',k=k'+1:=⟨k-1,by omega⟩
 have h:=bp.loop (k:=k) (by omega) hl ho l.length k 0 (by omega) (by omega)
 rw[Int.natCast_zero]at h
 rw[bp.eq]
 exact tE rfl h
theorem gX.refl{k:Nat}{a:LI×LI}(hk:4194304+2≤k)(h1:a.1.length≤1048576)(h2:a.2.length≤1048576):gX k a a=some true:=by
 obtain⟨k,rfl⟩: ∃k',k=k'+1:=⟨k-1,by omega⟩
 rw[gX.eq,bR.is (by omega) h1,ch,bR.is (by omega) h2]
 simp
theorem bg.loop{k:Nat}: ∀(m j i:Nat) (q:Int) (a:LI),i+m=a.length→m<j→a.length≤1048576→0≤q→q+m≤4000000000000→bg.L0 k j q i a=some (q+m,a.take i++Pu.mark (a.drop i) q)
 |m,0,i,q,a,_,hj,_,_,_=>by omega
 |0,j+1,i,q,a,hi,_,_,_,_=>by
  rw[bg.bP]
  have e:i=a.length:=by omega
  subst e
  simp[Pu.mark]
 |m+1,j+1,i,q,a,hi,hj,ha,hq,hq2=>by
  rw[bg.bP]
  have h1:i<a.length:=by omega
  have ih:=bg.loop (k:=k) m j (i+1) (q+1) (a.set i q) (by simp;omega) (by omega) (by simpa using ha) (by omega) (by omega)
  rw[Int.natCast_succ]at ih
  have e1:(a.set i q).take (i+1)=a.take i++ [q]:=by
   rw[Pu.take_succ (by simpa using h1) 0,List.take_set_of_le (Nat.le_refl _)]
   simp[h1]
  have e2:(a.set i q).drop (i+1)=a.drop (i+1):=by rw[List.drop_set_of_lt (by omega)]
  rw[e1,e2]at ih
  rw[Pu.drop_cons h1 0]
  simp (disch:=omega) only[aM,dI,dP,cd,bJ,bK,bY,cp,bc,bZ,w64,Int.toNat_natCast,decide_eq_true_eq,Int.ofNat_lt,h1,if_true,Int.natCast_nonneg,decide_true,ih,Pu.mark]
  simp
  omega
theorem bg.is{k:Nat}{a:LI}{q:Int}(hk:4194304+1≤k)(ha:a.length≤1048576)(hq:0≤q)(hq2:q+a.length≤4000000000000):bg k q a=some (q+a.length,Pu.mark a q):=by
 obtain⟨k,rfl⟩: ∃k',k=k'+1:=⟨k-1,by omega⟩
 rw[bg.eq]
 have h:=bg.loop (k:=k) a.length k 0 q a (by omega) (by omega) ha hq hq2
 rw[Int.natCast_zero]at h
 simpa using h
theorem dR.is{k:Nat}{a b:LI}(hk:4194304+3≤k)(h1:a.length≤1048576)(h2:b.length≤1048576):dR k 1 a b=some (1+(a.length:Int)+b.length,(Pu.mark a 1,Pu.mark b (1+a.length))):=by
 obtain⟨k,rfl⟩: ∃k',k=k'+1:=⟨k-1,by omega⟩
 apply Pu.ok_eq
 rw[dR.eq]
 exact Pu.Ok.eN (bg.is (by omega) h1 (by omega) (by omega)) (Pu.Ok.eN (bg.is (by omega) h2 (by omega) (by omega)) (Pu.Ok.ret rfl))
theorem ai.cells{k k1 k2 e r x4:Nat}{x5 x6 x7:Int}{x8:Nat}{x9:Int}{x10:Bool}{x11:Nat}{x12:Int}{x13 x14 x15 x16:Nat}{x17 x18 x19 x20 x21:Int}{x22:Bool}{x23:Int}{x24 x25 x26:Nat}{x27 x28 x29:Int}{x30 x31 x32:Nat}{x33:Int}{a:LI}(hx6:0≤x6∧x6≤2000000): ∀(m j i:Nat) (q:Int) (b:LJ) (l:List Pu.Tab),e<l.length→l.getD e ([],[])=(a,b)→r<b.length→i+m=(b.getD r []).length→m<j→(b.getD r []).length≤1048576→0≤q→q+m≤4000000000000→
  ai.L3 k k1 k2 j e r q i x4 x5 x6 x7 x8 x9 x10 x11 x12 x13 x14 x15 x16 x17 x18 x19 x20 x21 x22 x23 x24 x25 x26 x27 x28 x29 x30 x31 x32 x33 l=ai.L2 k k1 k2 x4 (q+m) (x6+1) x18 x19 x20 x21 x22 x23 x24 x25 x26 x27 x28 x29 x30 x31 x32 x33 (l.set e (a,b.set r ((b.getD r []).take i++Pu.mark ((b.getD r []).drop i) q)))
 |m,0,i,q,b,l,_,_,_,_,hj,_,_,_=>by omega
 |0,j+1,i,q,b,l,he,hg,hr,hi,_,_,_,_=>by
  rw[ai.H3]
  have e1:i=(b.getD r []).length:=by omega
  have e2:b.set r ((b.getD r []).take i++Pu.mark ((b.getD r []).drop i) q)=b:=by
   rw[e1,List.take_length,List.drop_length]
   simp only[Pu.mark,List.append_nil]
   rw[Pu.an hr,List.set_getElem_self]
  have e3:l.set e (a,b)=l:=by rw[←hg,Pu.an he,List.set_getElem_self]
  have hn: ¬(i:Int)<(b.getD r []).length:=by omega
  have hw:IntKind.i64.wrap (x6+1)=x6+1:=w64 (by omega) (by omega)
  rw[e2,e3]
  simp only[bJ,bK,du,bZ,bc,hg,hw]
  refine tG he (tG hr (tX hn ?_))
  rw[show q+((0:Nat):Int)=q by omega]
 |m+1,j+1,i,q,b,l,he,hg,hr,hi,hj,hb,hq,hq2=>by
  rw[ai.H3]
  have h1:i<(b.getD r []).length:=by omega
  have hn:(i:Int)<(b.getD r []).length:=by omega
  have eb:(b.set r ((b.getD r []).set i q)).getD r []=(b.getD r []).set i q:=by
   rw[Pu.an (by rw[List.length_set];exact hr),List.getElem_set_self]
  have el:(l.set e (a,b.set r ((b.getD r []).set i q))).getD e ([],[])=(a,b.set r ((b.getD r []).set i q)):=by
   rw[Pu.an (by rw[List.length_set];exact he),List.getElem_set_self]
  have ih:=ai.cells (k:=k) (k1:=k1) (k2:=k2) (e:=e) (r:=r) (x4:=x4) (x5:=x5) (x6:=x6) (x7:=x7) (x8:=x8) (x9:=x9) (x10:=x10) (x11:=x11) (x12:=x12) (x13:=x13) (x14:=x14) (x15:=x15) (x16:=x16) (x17:=x17) (x18:=x18) (x19:=x19) (x20:=x20) (x21:=x21) (x22:=x22) (x23:=x23) (x24:=x24) (x25:=x25) (x26:=x26) (x27:=x27) (x28:=x28) (x29:=x29) (x30:=x30) (x31:=x31) (x32:=x32) (x33:=x33) hx6 m j (i+1) (q+1) (b.set r ((b.getD r []).set i q)) (l.set e (a,b.set r ((b.getD r []).set i q))) (by rw[List.length_set];exact he) el (by rw[List.length_set];exact hr) (by rw[eb,List.length_set];omega) (by omega) (by rw[eb,List.length_set];exact hb) (by omega) (by omega)
  rw[eb,List.set_set,List.set_set,Int.natCast_succ]at ih
  have hl1:i<((b.getD r []).set i q).length:=by rw[List.length_set];exact h1
  have e1:((b.getD r []).set i q).take (i+1)=(b.getD r []).take i++ [q]:=by
   rw[Pu.take_succ hl1 0,List.take_set_of_le (Nat.le_refl _),Pu.an hl1,List.getElem_set_self]
  have e2:((b.getD r []).set i q).drop (i+1)=(b.getD r []).drop (i+1):=by rw[List.drop_set_of_lt (by omega)]
  rw[e1,e2]at ih
  rw[Pu.drop_cons h1 0,Pu.mark]
  have hwq:IntKind.i64.wrap (q+1)=q+1:=w64 (by omega) (by omega)
  have hwi:IntKind.i64.wrap ((i:Int)+1)=(i:Int)+1:=w64 (by omega) (by omega)
  simp only[bJ,bK,bY,du,cp,bZ,bc,hg,hwq,hwi,Int.toNat_natCast]
  refine tG he (tG hr (tG hn (tG he (tG hr (tG (Int.natCast_nonneg i) (tG h1 (tG he (tG hr (tG h1 ?_)))))))))
  rw[ih,List.append_assoc,List.singleton_append,show q+1+(m:Int)=q+((m+1:Nat):Int) by omega]
theorem ai.rows{k k1 e:Nat}{x3 x4 x5 x6:Int}{x7:Bool}{x8:Int}{x9 x10 x11:Nat}{x12 x13 x14:Int}{x15 x16 x17:Nat}{x18:Int}{a:LI}(hk:4194304≤k)(hx4:0≤x4∧x4≤4000000000): ∀(m j i:Nat) (q:Int) (b:LJ) (l:List Pu.Tab),e<l.length→l.getD e ([],[])=(a,b)→i+m=b.length→m<j→b.length≤1048576→(∀x∈b,x.length≤1048576)→0≤q→q+Pu.gu (b.drop i)≤4000000000000→
  ai.L2 k k1 j e q i x3 x4 x5 x6 x7 x8 x9 x10 x11 x12 x13 x14 x15 x16 x17 x18 l=ai.L0 k k1 (q+Pu.gu (b.drop i)) (x4+1) (l.set e (a,b.take i++Pu.kP (b.drop i) q))
 |m,0,i,q,b,l,_,_,_,hj,_,_,_,_=>by omega
 |0,j+1,i,q,b,l,he,hg,hi,_,_,_,_,_=>by
  rw[ai.uw]
  have e1:i=b.length:=by omega
  have hn: ¬(i:Int)<b.length:=by omega
  have hw:IntKind.i64.wrap (x4+1)=x4+1:=w64 (by omega) (by omega)
  have e3:l.set e (a,b)=l:=by rw[←hg,Pu.an he,List.set_getElem_self]
  simp only[bJ,bK,du,bZ,bc,hg,hw]
  refine tG he (tX hn ?_)
  rw[e1,List.take_length,List.drop_length]
  simp only[Pu.kP,Pu.gu,List.append_nil]
  rw[e3,show q+((0:Nat):Int)=q by omega]
 |m+1,j+1,i,q,b,l,he,hg,hi,hj,hb,hr,hq,hq2=>by
  rw[ai.uw]
  have h1:i<b.length:=by omega
  have hn:(i:Int)<b.length:=by omega
  have hri:(b.getD i []).length≤1048576:=by rw[Pu.an h1];exact hr _ (List.getElem_mem h1)
  rw[Pu.drop_cons h1 []]at hq2⊢
  simp only[Pu.gu,Pu.kP]at hq2⊢
  have hc:=fun y5 y7 y8 y9 y10 y11 y12 y13 y14 y15 y16 y17=>ai.cells (k:=k) (k1:=k1) (k2:=j) (e:=e) (r:=i) (x4:=e) (x5:=y5) (x6:=(i:Int)) (x7:=y7) (x8:=y8) (x9:=y9) (x10:=y10) (x11:=y11) (x12:=y12) (x13:=y13) (x14:=y14) (x15:=y15) (x16:=y16) (x17:=y17) (x18:=x3) (x19:=x4) (x20:=x5) (x21:=x6) (x22:=x7) (x23:=x8) (x24:=x9) (x25:=x10) (x26:=x11) (x27:=x12) (x28:=x13) (x29:=x14) (x30:=x15) (x31:=x16) (x32:=x17) (x33:=x18) (a:=a) (by omega) (b.getD i []).length k 0 q b l he hg h1 (by omega) (by omega) hri hq (by omega)
  rw[Int.natCast_zero,List.take_zero,List.drop_zero,List.nil_append]at hc
  have el:(l.set e (a,b.set i (Pu.mark (b.getD i []) q))).getD e ([],[])=(a,b.set i (Pu.mark (b.getD i []) q)):=by
   rw[Pu.an (by rw[List.length_set];exact he),List.getElem_set_self]
  have ed:(b.set i (Pu.mark (b.getD i []) q)).drop (i+1)=b.drop (i+1):=by rw[List.drop_set_of_lt (by omega)]
  have et:(b.set i (Pu.mark (b.getD i []) q)).take (i+1)=b.take i++ [Pu.mark (b.getD i []) q]:=Pu.mR h1 _
  have ih:=ai.rows (k1:=k1) (x3:=x3) (x4:=x4) (x5:=x5) (x6:=x6) (x7:=x7) (x8:=x8) (x9:=x9) (x10:=x10) (x11:=x11) (x12:=x12) (x13:=x13) (x14:=x14) (x15:=x15) (x16:=x16) (x17:=x17) (x18:=x18) hk hx4 m j (i+1) (q+(b.getD i []).length) (b.set i (Pu.mark (b.getD i []) q)) (l.set e (a,b.set i (Pu.mark (b.getD i []) q))) (by rw[List.length_set];exact he) el (by rw[List.length_set];omega) (by omega) (by rw[List.length_set];exact hb) (fun x hx=>by
   rcases List.mem_or_eq_of_mem_set hx with h|h
   ·exact hr x h
   ·rw[h,Pu.nC];exact hri) (by omega) (by rw[ed];omega)
  rw[ed,et,List.set_set,Int.natCast_succ]at ih
  simp only[bJ,bK,bY,du,hg,Int.toNat_natCast]
  refine tG he (tG hn (tG he (tG (Int.natCast_nonneg i) (tG h1 (tG he (tG h1 ?_))))))
  rw[hc,ih,List.append_assoc,List.singleton_append]
  congr 1
  omega
theorem ai.inner{k k1 e:Nat}{x3 x5 x6:Int}{x7:Bool}{x8:Int}{x9 x10 x11:Nat}{x12:Int}{b:LJ}(hk:4194304≤k)(he9:e≤2000000000): ∀(m j i:Nat) (q:Int) (a:LI) (l:List Pu.Tab),e<l.length→l.getD e ([],[])=(a,b)→i+m=a.length→m<j→a.length≤1048576→b.length≤1048576→(∀x∈b,x.length≤1048576)→0≤q→q+m+Pu.gu b≤4000000000000→
  ai.L1 k k1 j e q i x3 e x5 x6 x7 x8 x9 x10 x11 x12 l=ai.L0 k k1 (q+m+Pu.gu b) ((e:Int)+1) (l.set e (a.take i++Pu.mark (a.drop i) q,Pu.kP b (q+m)))
 |m,0,i,q,a,l,_,_,_,hj,_,_,_,_,_=>by omega
 |0,j+1,i,q,a,l,he,hg,hi,_,_,hb,hr,hq,hq2=>by
  rw[ai.fX]
  have e1:i=a.length:=by omega
  have hn: ¬(i:Int)<a.length:=by omega
  have hR:=fun y3 y12 y13 y14 y15 y16 y17 y18=>ai.rows (k:=k) (k1:=k1) (e:=e) (x3:=y3) (x4:=(e:Int)) (x5:=x5) (x6:=x6) (x7:=x7) (x8:=x8) (x9:=x9) (x10:=x10) (x11:=x11) (x12:=y12) (x13:=y13) (x14:=y14) (x15:=y15) (x16:=y16) (x17:=y17) (x18:=y18) (a:=a) hk (by omega) b.length (k+1) 0 q b l he hg (by omega) (by omega) hb hr hq (by rw[List.drop_zero];omega)
  simp only[Int.natCast_zero,List.drop_zero,List.take_zero,List.nil_append]at hR
  simp only[bJ,bK,bY,du,hg,Int.toNat_natCast]
  refine tG he (tX hn (tG (Int.natCast_nonneg e) (tG he (tG he ?_))))
  rw[hR,e1,List.take_length,List.drop_length]
  simp only[Pu.mark,List.append_nil,Int.natCast_zero,Int.add_zero]
 |m+1,j+1,i,q,a,l,he,hg,hi,hj,ha,hb,hr,hq,hq2=>by
  rw[ai.fX]
  have h1:i<a.length:=by omega
  have hn:(i:Int)<a.length:=by omega
  have el:(l.set e (a.set i q,b)).getD e ([],[])=(a.set i q,b):=by
   rw[Pu.an (by rw[List.length_set];exact he),List.getElem_set_self]
  have ih:=ai.inner (k1:=k1) (x3:=x3) (x5:=x5) (x6:=x6) (x7:=x7) (x8:=x8) (x9:=x9) (x10:=x10) (x11:=x11) (x12:=x12) hk he9 m j (i+1) (q+1) (a.set i q) (l.set e (a.set i q,b)) (by rw[List.length_set];exact he) el (by rw[List.length_set];omega) (by omega) (by rw[List.length_set];exact ha) hb hr (by omega) (by omega)
  have hl1:i<(a.set i q).length:=by rw[List.length_set];exact h1
  have e1:(a.set i q).take (i+1)=a.take i++ [q]:=Pu.mR h1 _
  have e2:(a.set i q).drop (i+1)=a.drop (i+1):=by rw[List.drop_set_of_lt (by omega)]
  rw[e1,e2,List.set_set,Int.natCast_succ]at ih
  rw[Pu.drop_cons h1 0,Pu.mark]
  have hwq:IntKind.i64.wrap (q+1)=q+1:=w64 (by omega) (by omega)
  have hwi:IntKind.i64.wrap ((i:Int)+1)=(i:Int)+1:=w64 (by omega) (by omega)
  simp only[bJ,bK,bY,du,cp,bZ,bc,hg,hwq,hwi,Int.toNat_natCast]
  refine tG he (tG hn (tG he (tG (Int.natCast_nonneg i) (tG h1 (tG he (tG h1 ?_))))))
  rw[ih,List.append_assoc,List.singleton_append,show q+1+(m:Int)=q+((m+1:Nat):Int) by omega]
theorem ai.loop{k:Nat}(hk:4194304≤k): ∀(r:List Pu.Tab) (j i:Nat) (q:Int) (l:List Pu.Tab),l.drop i=r→i+r.length=l.length→r.length<j→l.length≤2000000000→(∀x∈r,Pu.j3 x)→0≤q→q+Pu.j4 r≤4000000000000→
  ai.L0 k j q i l=some (q+Pu.j4 r,l.take i++Pu.lY r q)
 |r,0,i,q,l,_,_,hj,_,_,_,_=>by omega
 | [],j+1,i,q,l,hd,hi,_,_,_,_,_=>by
  rw[ai.bP]
  have hi':i=l.length:=by simpa using hi
  have hn: ¬(i:Int)<l.length:=by omega
  refine tX hn ?_
  rw[hi',List.take_length]
  simp[Pu.j4,Pu.lY]
 |t::r,j+1,i,q,l,hd,hi,hj,hl,ho,hq,hq2=>by
  rw[ai.bP]
  have hi':i+(r.length+1)=l.length:=by simpa using hi
  have hj':r.length<j:=by simp at hj;omega
  have hn:(i:Int)<l.length:=by omega
  have hlt:i<l.length:=by omega
  have hdc:=Pu.drop_cons hlt ([],[])
  rw[hd,List.cons.injEq]at hdc
  obtain⟨e1,e2⟩:=hdc
  rw[Pu.qP]at hq2⊢
  have ht:=ho t (List.mem_cons_self ..)
  have hI:=fun y3 y5 y6 y7 y8 y9 y10 y11 y12=>ai.inner (k:=k) (k1:=j) (e:=i) (x3:=y3) (x5:=y5) (x6:=y6) (x7:=y7) (x8:=y8) (x9:=y9) (x10:=y10) (x11:=y11) (x12:=y12) (b:=t.2) hk (by omega) t.1.length (k+1) 0 q t.1 l hlt e1.symm (by omega) (by have:=ht.1;omega) ht.1 ht.2.1 ht.2.2 hq (by omega)
  simp only[Int.natCast_zero,List.drop_zero,List.take_zero,List.nil_append]at hI
  have ih:=ai.loop hk r j (i+1) (q+t.1.length+Pu.gu t.2) (l.set i (Pu.mark t.1 q,Pu.kP t.2 (q+t.1.length))) (by rw[List.drop_set_of_lt (by omega)];exact e2.symm) (by rw[List.length_set];omega) hj' (by rw[List.length_set];exact hl) (fun x hx=>ho x (List.mem_cons_of_mem _ hx)) (by omega) (by omega)
  rw[Pu.mR hlt,Int.natCast_succ]at ih
  simp only[bJ,bK,bY,Int.toNat_natCast]
  refine tG hn (tG (Int.natCast_nonneg i) (tG hlt (tG hlt ?_)))
  rw[hI,ih,List.append_assoc,List.singleton_append,Pu.lY,show q+(t.1.length:Int)+Pu.gu t.2+Pu.j4 r=q+((t.1.length+Pu.gu t.2+Pu.j4 r:Nat):Int) by omega]
theorem ai.is{k:Nat}{l:List Pu.Tab}{q:Int}(hk:4194304+4+l.length≤k)(hl:l.length≤2000000000)(ho: ∀x∈l,Pu.j3 x)(hq:0≤q)(hq2:q+Pu.j4 l≤4000000000000):ai k q l=some (q+Pu.j4 l,Pu.lY l q):=by
 obtain⟨k,rfl⟩: ∃k',k=k'+3:=⟨k-3,by omega⟩
 rw[ai.eq]
 have h:=ai.loop (k:=k) (by omega) l (k+2) 0 q l rfl (by omega) (by omega) hl ho hq hq2
 rw[Int.natCast_zero,List.take_zero,List.nil_append]at h
 exact h
theorem bN.loop{k:Nat}{a:LI}(ha:a.length≤1048576): ∀(m j i:Nat) (q:Int),i+m=a.length→m<j→0≤q→q+m≤4000000000000→bN.L0 k j q i a=some (Pu.held (a.drop i) q)
 |m,0,i,q,_,hj,_,_=>by omega
 |0,j+1,i,q,hi,_,_,_=>by
  rw[bN.bP]
  have e:i=a.length:=by omega
  subst e
  simp[Pu.held]
 |m+1,j+1,i,q,hi,hj,hq,hq2=>by
  rw[bN.bP]
  have h1:i<a.length:=by omega
  have ih:=bN.loop (k:=k) ha m j (i+1) (q+1) (by omega) (by omega) (by omega) (by omega)
  rw[Int.natCast_succ]at ih
  rw[Pu.drop_cons h1 0]
  simp (disch:=omega) only[aM,dI,dP,cd,bJ,bK,bY,du,bc,bZ,dN,dU,w64,Int.toNat_natCast,decide_eq_true_eq,Int.ofNat_lt,h1,if_true,Int.natCast_nonneg,decide_true,Pu.held,ih]
  by_cases e:a.getD i 0=q<;>simp only[e,decide_true,decide_false,Bool.not_false,Bool.not_true,if_true,if_false,Bool.false_eq_true]
theorem bN.is{k:Nat}{a:LI}{q:Int}(hk:4194304+1≤k)(ha:a.length≤1048576)(hq:0≤q)(hq2:q+a.length≤4000000000000):bN k a q=some (Pu.held a q):=by
 obtain⟨k,rfl⟩: ∃k',k=k'+1:=⟨k-1,by omega⟩
 rw[bN.eq]
 have h:=bN.loop (k:=k) ha a.length k 0 q (by omega) (by omega) hq hq2
 rw[Int.natCast_zero]at h
 exact h
theorem bQ.loop{k:Nat}{a:LJ}(hk:4194304+1≤k)(ha:a.length≤1048576)(hr: ∀x∈a,x.length≤1048576): ∀(m j i:Nat) (q:Int),i+m=a.length→m<j→0≤q→q+Pu.gu (a.drop i)≤4000000000000→bQ.L0 k j q i a=some (Pu.ue (a.drop i) q)
 |m,0,i,q,_,hj,_,_=>by omega
 |0,j+1,i,q,hi,_,_,_=>by
  rw[bQ.bP]
  have e:i=a.length:=by omega
  subst e
  simp[Pu.ue]
 |m+1,j+1,i,q,hi,hj,hq,hq2=>by
  rw[bQ.bP]
  have h1:i<a.length:=by omega
  rw[Pu.drop_cons h1 []]at hq2⊢
  simp only[Pu.gu]at hq2
  have hx:=hr a[i] (List.getElem_mem h1)
  rw[←Pu.an h1 []]at hx
  have hh:=bN.is (k:=k) (a:=a.getD i []) (q:=q) (by omega) hx hq (by omega)
  simp (disch:=omega) only[aM,dI,dP,cd,bJ,bK,bY,du,bc,bZ,dN,dU,w64,Int.toNat_natCast,decide_eq_true_eq,Int.ofNat_lt,h1,if_true,Int.natCast_nonneg,decide_true,Pu.ue,hh,ch]
  by_cases e:Pu.held (a.getD i []) q<0
  ·simp only[e,if_true]
  ·have hle:=Pu.DF (a.getD i []) q hq
   have ih:=bQ.loop (k:=k) hk ha hr m j (i+1) (Pu.held (a.getD i []) q) (by omega) (by omega) (by omega) (by omega)
   rw[Int.natCast_succ]at ih
   simp only[e,if_false,ih]
theorem bQ.is{k:Nat}{a:LJ}{q:Int}(hk:4194304+2≤k)(ha:a.length≤1048576)(hr: ∀x∈a,x.length≤1048576)(hq:0≤q)(hq2:q+Pu.gu a≤4000000000000):bQ k a q=some (Pu.ue a q):=by
 obtain⟨k,rfl⟩: ∃k',k=k'+1:=⟨k-1,by omega⟩
 rw[bQ.eq]
 have h:=bQ.loop (k:=k) (by omega) ha hr a.length k 0 q (by omega) (by omega) hq hq2
 rw[Int.natCast_zero]at h
 exact h
theorem a8.loop{k:Nat}(hk:4194304+3≤k){l:List Pu.Tab}(hl:l.length≤2000000000): ∀(r:List Pu.Tab) (j i:Nat) (q:Int) (M:List Pu.Tab),(∀x∈r,Pu.j3 x)→M.length=l.length→M.drop i=Pu.lY r q→i+r.length=l.length→r.length<j→0≤q→q+Pu.j4 r≤4000000000000→a8.L0 k j q i M=some (q+Pu.j4 r)
 |r,0,i,q,M,_,_,_,_,hj,_,_=>by omega
 | [],j+1,i,q,M,_,hM,_,hi,_,_,_=>by
  rw[a8.bP]
  have hn: ¬(i:Int)<M.length:=by simp at hi;omega
  refine tX hn ?_
  simp[Pu.j4]
 |t::r,j+1,i,q,M,ho,hM,hd,hi,hj,hq,hq2=>by
  rw[a8.bP]
  have hi':i+(r.length+1)=l.length:=by simpa using hi
  have hn:(i:Int)<M.length:=by omega
  have hlt:i<M.length:=by omega
  have hdc:=Pu.drop_cons hlt ([],[])
  rw[hd]at hdc
  simp only[Pu.lY,List.cons.injEq]at hdc
  obtain⟨e1,e2⟩:=hdc
  rw[Pu.qP]at hq2⊢
  have ht:=ho t (List.mem_cons_self ..)
  have h1:=bN.is (k:=k) (a:=Pu.mark t.1 q) (q:=q) (by omega) (by rw[Pu.nC];exact ht.1) hq (by rw[Pu.nC];omega)
  rw[Pu.tg]at h1
  have h2:=bQ.is (k:=k) (a:=Pu.kP t.2 (q+t.1.length)) (q:=q+t.1.length) (by omega) (by rw[Pu.yl];exact ht.2.1) (Pu.Ey ht.2.2) (by omega) (by rw[Pu.vy];omega)
  rw[Pu.vV _ _ (by omega)]at h2
  have ih:=a8.loop hk hl r j (i+1) (q+t.1.length+Pu.gu t.2) M (fun x hx=>ho x (List.mem_cons_of_mem _ hx)) hM e2.symm (by omega) (by simp at hj;omega) (by omega) (by omega)
  rw[Int.natCast_succ]at ih
  have hw:IntKind.i64.wrap ((i:Int)+1)=(i:Int)+1:=w64 (by omega) (by omega)
  have n1: ¬q+(t.1.length:Int)<0:=by omega
  have n2: ¬q+(t.1.length:Int)+Pu.gu t.2<0:=by omega
  simp only[bY,bJ,bK,du,bZ,bc,Int.toNat_natCast,hw,←e1]
  refine tG hn (tG (Int.natCast_nonneg i) (tG hlt (tG hlt (tG hlt (bE h1 (tX n1 ?_))))))
  refine tG (Int.natCast_nonneg i) (tG hlt (tG hlt (tG hlt (bE h2 (tX n2 ?_)))))
  rw[ih]
  congr 1
  omega
theorem a8.is{k:Nat}{l:List Pu.Tab}{q:Int}(hk:4194304+4+l.length≤k)(hl:l.length≤2000000000)(ho: ∀x∈l,Pu.j3 x)(hq:0≤q)(hq2:q+Pu.j4 l≤4000000000000):a8 k (Pu.lY l q) q=some (q+Pu.j4 l):=by
 obtain⟨k,rfl⟩: ∃k',k=k'+1:=⟨k-1,by omega⟩
 have h:=a8.loop (k:=k) (by omega) hl l k 0 q (Pu.lY l q) ho (Pu.w8 l q) rfl (by omega) (by omega) hq hq2
 rw[Int.natCast_zero]at h
 rw[a8.eq]
 exact h
theorem aQ.is{s:LI×LI}(h1:s.1.length≤maxLen)(h2:s.2.length≤maxLen): ∃k,aQ k s=some true:=by
 obtain⟨k,hk⟩: ∃k,k=4194304+400+400000000:=⟨_,rfl⟩
 refine⟨k+1,?_⟩
 rw[aQ.eq]
 obtain⟨r,hr0,hr1⟩:=gR.is (k:=k) (a:=s) (b:=1048576) (by omega) h1 h2 (by omega) (by omega)
 refine bE hr0 ?_
 by_cases c:r<0
 ·have e:D.lt r 0=true:=decide_eq_true c
  rw[e];rfl
 obtain⟨s0,s1,s2⟩:=hr1 (by omega)
 have q1:s.1.length≤1048576:=by omega
 have q2:s.2.length≤1048576:=by omega
 have hto:=eX.is (k:=k) (a:=s) (by omega) q1 q2
 have hsp:=ak.isE (k:=k) (s:=s) (by omega) q1 q2
 have him:=cO.is (k:=k) (s:=s) (by omega) q1 q2
 have he:=gX.refl (k:=k) (a:=s) (by omega) q1 q2
 have hmk:=dR.is (k:=k) (a:=s.1) (b:=s.2) (by omega) q1 q2
 have n1: ¬((1:Int)+s.1.length+s.2.length<0):=by omega
 have hall:(if Pu.aJ s.2 s.1=true then Pu.hU (Pu.kN s.2 s.1 (List.replicate (Pu.aT s.1-Pu.aT s.2).toNat 1))else []).length≤387420489∧ ∀t∈(if Pu.aJ s.2 s.1=true then Pu.hU (Pu.kN s.2 s.1 (List.replicate (Pu.aT s.1-Pu.aT s.2).toNat 1))else []),t.1.length≤9∧Pu.eu 9 9 t.2:=by
  split
  ·next hb=>
   have hd:=Pu.jF hb
   exact Pu.zu hb (by rw[List.length_replicate];omega) (fun w hw=>by rw[(List.mem_replicate.1 hw).2];omega) (by rw[Pu.pI];omega)
  ·exact⟨by simp,fun t ht=>by cases ht⟩
 generalize(if Pu.aJ s.2 s.1=true then Pu.hU (Pu.kN s.2 s.1 (List.replicate (Pu.aT s.1-Pu.aT s.2).toNat 1))else [])=l at*
 obtain⟨hlen,hsm⟩:=hall
 have hok: ∀x∈l,Pu.j3 x:=fun x hx=>Pu.Gz (hsm x hx)
 have hsz:=Pu.tK l hsm
 have heq:=bp.refl (k:=k) (l:=l) (by omega) (by omega) hok
 have hmS:=ai.is (k:=k) (l:=l) (q:=1) (by omega) (by omega) hok (by omega) (by omega)
 have hhS:=a8.is (k:=k) (l:=l) (q:=1) (by omega) (by omega) hok (by omega) (by omega)
 have n2: ¬((1:Int)+Pu.j4 l<0):=by omega
 have hJ0:aQ.J0 k l l s.1 s.2=some true:=by
  rw[aQ.lf]
  exact bE hmS (bE hhS (tX n2 (tE rfl (bE hto (bE him (bE heq (tN (bE hhS (tX n2 (tE rfl rfl))))))))))
 exact tX c (bE hto (bE hsp (bE hto (bE him (bE heq (tN (bE hto (bE he (tN (bE hmk (tX n1 (bE heq (tN hJ0)))))))))))))
end Go.Am.Seat
