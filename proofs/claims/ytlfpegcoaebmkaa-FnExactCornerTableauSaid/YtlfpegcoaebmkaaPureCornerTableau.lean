/- What the functions make of data, as plain words; each holds for all data within the bounds that it names. -/
import Derived.Test.YtlfpegcoaebmkaaEqsCornerTableau
import Derived.Test.YtlfpegcoaebmkaaPu
set_option linter.unusedSimpArgs false
set_option linter.unusedVariables false
set_option linter.unnecessarySimpa false
set_option linter.unusedSectionVars false
namespace Go.Am.Seat
open Go Go.Am Go.Am.Pu
attribute [local instance] D.real
set_option linter.unusedSimpArgs false
set_option linter.unusedVariables false
set_option maxRecDepth 4000
theorem dK.is{k:Nat}{a:List Int}{b:Int}(hk:4194304+1≤k)(ha:a.length≤maxLen)(h1:0≤b)(h2:b≤1048576):dK k a b=some (if b-a.length<0 then-1 else b-a.length):=by
 obtain⟨k,rfl⟩: ∃k',k=k'+1:=⟨k-1,by omega⟩
 have ha:a.length≤9223372036854775807:=ha
 rw[dK.eq]
 simp (disch:=omega) only[aG,nO,dU,xk,fH,e9,decide_eq_true_eq,Pu.w64]
 split<;>rfl
theorem bD.loop{k:Nat}{a:List (List Int)}(hk:4194304+1≤k)(ha:a.length≤1048576)(hr: ∀x∈a,x.length≤maxLen): ∀(m j i:Nat) (b:Int),i+m=a.length→m<j→0≤b→b≤1048576→
  ∃r,bD.L0 k j b i a=some r∧(0≤r→r≤b∧ ∀(q:Nat) x,i≤q→a[q]?=some x→(x.length:Int)≤b)
 |m,0,i,b,_,hj,_,_=>by omega
 |0,j+1,i,b,hi,_,_,_=>by
  rw[bD.cj]
  have e:i=a.length:=by omega
  subst e
  exact⟨b,by simp,fun _=>⟨Int.le_refl _,fun q x h1 h2=>by have:=(List.getElem?_eq_some_iff.1 h2).1;omega⟩⟩
 |m+1,j+1,i,b,hi,hj,hb,hb2=>by
  rw[bD.cj]
  have hlt:i<a.length:=by omega
  have hx:=hr a[i] (List.getElem_mem hlt)
  have hx':a[i].length≤9223372036854775807:=hx
  have h1:=dK.is (k:=k) (a:=a[i]) (b:=b) (by omega) hx hb hb2
  by_cases hc:b-a[i].length<0
  ·rw[if_pos hc]at h1
   exact⟨-1,by simp[hlt,h1],fun h=>by omega⟩
  ·rw[if_neg hc]at h1
   obtain⟨r,h2,h3⟩:=bD.loop hk ha hr m j (i+1) (b-a[i].length) (by omega) (by omega) (by omega) (by omega)
   rw[Int.natCast_succ]at h2
   refine⟨r,by simp (disch:=omega) [hlt,h1,hc,Pu.w64,h2],fun h0=> ?_⟩
   obtain⟨h4,h5⟩:=h3 h0
   refine⟨by omega,fun q x h6 h7=> ?_⟩
   by_cases e:q=i
   ·subst e
    rw[List.getElem?_eq_getElem hlt]at h7
    injection h7 with h7
    subst h7
    omega
   ·have:=h5 q x (by omega) h7
    omega
theorem bD.is{k:Nat}{a:List (List Int)}{b:Int}(hk:4194304+2≤k)(ha:a.length≤maxLen)(hr: ∀x∈a,x.length≤maxLen)(h1:0≤b)(h2:b≤1048576):
  ∃r,bD k a b=some r∧(0≤r→r≤b∧(a.length:Int)≤b∧ ∀x∈a,(x.length:Int)≤b):=by
 obtain⟨k,rfl⟩: ∃k',k=k'+1:=⟨k-1,by omega⟩
 have ha:a.length≤9223372036854775807:=ha
 rw[bD.eq]
 by_cases hc:b-a.length<0
 ·exact⟨-1,by simp (disch:=omega) [Pu.w64,hc],fun h=>by omega⟩
 ·obtain⟨r,h3,h4⟩:=bD.loop (k:=k) (a:=a) (by omega) (by omega) hr a.length k 0 (b-a.length) (by omega) (by omega) (by omega) (by omega)
  rw[Int.natCast_zero]at h3
  refine⟨r,by simp (disch:=omega) [Pu.w64,hc,h3],fun h0=> ?_⟩
  obtain⟨h5,h6⟩:=h4 h0
  refine⟨by omega,by omega,fun x hx=> ?_⟩
  obtain⟨q,hq⟩:=List.mem_iff_getElem?.1 hx
  have:=h6 q x (by omega) hq
  omega
theorem cz.is{k:Nat}{a:List Int×List (List Int)}{b:Int}(hk:4194304+3≤k)(ha:a.1.length≤maxLen)(ha2:a.2.length≤maxLen)(hr: ∀x∈a.2,x.length≤maxLen)(h1:0≤b)(h2:b≤1048576):
  ∃r,cz k a b=some r∧(0≤r→r≤b∧(a.1.length:Int)≤b∧(a.2.length:Int)≤b∧ ∀x∈a.2,(x.length:Int)≤b):=by
 obtain⟨k,rfl⟩: ∃k',k=k'+1:=⟨k-1,by omega⟩
 rw[cz.eq,dK.is (by omega) ha h1 h2]
 by_cases hc:b-a.1.length<0
 ·exact⟨-1,by simp[hc],fun h=>by omega⟩
 ·obtain⟨r,h3,h4⟩:=bD.is (k:=k) (a:=a.2) (b:=b-a.1.length) (by omega) ha2 hr (by omega) (by omega)
  by_cases hr0:r<0
  ·exact⟨-1,by simp[hc,h3,hr0],fun h=>by omega⟩
  ·refine⟨r,by simp[hc,h3,hr0],fun h0=> ?_⟩
   obtain⟨h5,h6,h7⟩:=h4 h0
   refine⟨by omega,by omega,by omega,fun x hx=> ?_⟩
   have:=h7 x hx
   omega
theorem bF.loop{k:Nat}{a:List Int}(ha:a.length≤1048576): ∀(m j i:Nat),i+m=a.length→m<j→bF.L0 k j i a (a.take i++List.replicate (a.length-i) 0)=some a
 |m,0,i,_,hj=>by omega
 |0,j+1,i,hi,_=>by
  rw[bF.cj]
  have e:i=a.length:=by omega
  subst e
  simp
 |m+1,j+1,i,hi,hj=>by
  rw[bF.cj]
  have hlt:i<a.length:=by omega
  have ih:=bF.loop (k:=k) ha m j (i+1) (by omega) (by omega)
  rw[Int.natCast_succ]at ih
  have hl:i<(a.take i++List.replicate (a.length-i) (0:Int)).length:=by simp;omega
  have hf:=Pu.sQ hlt (0:Int) 0
  simp (disch:=omega) only[aG,nO,qB,lp,e9,fH,g7,lU,rq,dU,g6,Pu.w64,Int.toNat_natCast,decide_eq_true_eq,Int.ofNat_lt,hlt,hl,if_true,Int.natCast_nonneg,decide_true,hf,ih]
theorem bF.is{k:Nat}{a:List Int}(hk:4194304+1≤k)(ha:a.length≤1048576):bF k a=some a:=by
 obtain⟨k,rfl⟩: ∃k',k=k'+1:=⟨k-1,by omega⟩
 rw[bF.eq]
 have h:=bF.loop (k:=k) ha a.length k 0 (by omega) (by omega)
 rw[Int.natCast_zero]at h
 simp only[List.take_zero,List.nil_append,Nat.sub_zero]at h
 have hl:a.length≤1099511627776:=by omega
 simp[h,hl]
theorem bB.loop{k:Nat}{a:List (List Int)}(hk:4194304+1≤k)(ha:a.length≤1048576)(hr: ∀x∈a,x.length≤1048576): ∀(m j i:Nat),i+m=a.length→m<j→bB.L0 k j i a (a.take i++List.replicate (a.length-i) [])=some a
 |m,0,i,_,hj=>by omega
 |0,j+1,i,hi,_=>by
  rw[bB.cj]
  have e:i=a.length:=by omega
  subst e
  simp
 |m+1,j+1,i,hi,hj=>by
  rw[bB.cj]
  have hlt:i<a.length:=by omega
  have ih:=bB.loop (k:=k) hk ha hr m j (i+1) (by omega) (by omega)
  rw[Int.natCast_succ]at ih
  have hl:i<(a.take i++List.replicate (a.length-i) ([]:List Int)).length:=by simp;omega
  have hf:=Pu.sQ hlt ([]:List Int) []
  have h1:=bF.is (k:=k) (a:=a.getD i []) (by omega) (by rw[Pu.aE hlt];exact hr _ (List.getElem_mem hlt))
  simp (disch:=omega) only[aG,nO,qB,lp,e9,fH,g7,lU,rq,dU,g6,Pu.w64,Int.toNat_natCast,decide_eq_true_eq,Int.ofNat_lt,hlt,hl,if_true,Int.natCast_nonneg,decide_true,h1,bO,hf,ih]
theorem bB.is{k:Nat}{a:List (List Int)}(hk:4194304+2≤k)(ha:a.length≤1048576)(hr: ∀x∈a,x.length≤1048576):bB k a=some a:=by
 obtain⟨k,rfl⟩: ∃k',k=k'+1:=⟨k-1,by omega⟩
 rw[bB.eq]
 have h:=bB.loop (k:=k) (by omega) ha hr a.length k 0 (by omega) (by omega)
 rw[Int.natCast_zero]at h
 simp only[List.take_zero,List.nil_append,Nat.sub_zero]at h
 have hl:a.length≤1099511627776:=by omega
 simp[h,hl]
theorem bw.is{k:Nat}{a:List Int×List (List Int)}(hk:4194304+3≤k)(h1:a.1.length≤1048576)(ha:a.2.length≤1048576)(hr: ∀x∈a.2,x.length≤1048576):bw k a=some a:=by
 obtain⟨k,rfl⟩: ∃k',k=k'+1:=⟨k-1,by omega⟩
 rw[bw.eq,bF.is (by omega) h1,bO,bB.is (by omega) ha hr]
 rfl
theorem fA.is{k:Nat}{x lo hi:Int}(hk:1≤k):fA k x lo hi=some (Pu.within x lo hi):=by
 obtain⟨k,rfl⟩: ∃k',k=k'+1:=⟨k-1,by omega⟩
 rw[fA.eq]
 by_cases h:lo≤x<;>simp[Pu.within,h]
theorem aC.loop{k:Nat}{p:List Int}(hk:4194304≤k)(hp:p.length≤1048576): ∀(m j i:Nat) (s v:Int),i+m=p.length→m<j→(i=0→v=9)→(0<i→v=p.getD (i-1) 0)→v≤9→0≤s→s≤9→
  aC.L0 k j s i p=some (Pu.eM (p.drop i) v s)
 |m,0,i,s,v,_,hj,_,_,_,_,_=>by omega
 |0,j+1,i,s,v,hi,_,_,_,_,_,_=>by
  rw[aC.cj]
  have e:i=p.length:=by omega
  subst e
  simp[Pu.eM]
 |m+1,j+1,i,s,v,hi,hj,h0,h1,hv,hs,hs9=>by
  rw[aC.cj]
  have hlt:i<p.length:=by omega
  have hj1: ∀x:Int,x=p.getD i 0→1≤x→x≤v→aC.J1 k j s i p=some (decide (s+x≤9)&&Pu.eM (p.drop (i+1)) x (s+x)):=by
   intro x hx hx1 hx2
   rw[aC.kq]
   simp (disch:=omega) only[↓aG,sss,if_true,if_false,hlt,←hx]
   by_cases c:9<s+x
   ·have: ¬s+x≤9:=by omega
    simp[c,this]
   ·have c':s+x≤9:=by omega
    have ih:=aC.loop hk hp m j (i+1) (s+x) x (by omega) (by omega) (by omega) (by simp[hx]) (by omega) (by omega) c'
    rw[Int.natCast_succ]at ih
    simp[c,c',ih]
  rw[Pu.drop_cons hlt 0]
  simp (disch:=omega) only[↓aG,sss,if_true,if_false,hlt,fA.is,Pu.eM]
  generalize hx:p.getD i 0=x at*
  unfold Pu.within
  by_cases c1:1≤x
  ·by_cases c2:x≤v
   ·have c3:x≤9:=by omega
    have hj:=hj1 x rfl c1 c2
    by_cases hi0:i=0
    ·have hpos: ¬(0:Int)<i:=by omega
     simp (disch:=omega) only[↓aG,sss,if_true,if_false,c1,c2,c3,hpos,hj]
    ·have hv':=h1 (by omega)
     have e:((i:Int)-1)=((i-1:Nat):Int):=by omega
     have hlt':i-1<p.length:=by omega
     have hge: ¬p.getD (i-1) 0<x:=by rw[←hv'];omega
     have hpos:(0:Int)<i:=by omega
     simp (disch:=omega) only[e,↓aG,sss,if_true,if_false,hlt',c1,c2,c3,hj,hpos,hge]
   ·simp only[c1,c2,↓aG,sss,if_true,if_false]
    by_cases c3:x≤9
    ·have hi0:0<i:=by
      rcases Nat.eq_zero_or_pos i with h|h
      ·have:=h0 h;omega
      ·exact h
     have hv':=h1 hi0
     have e:((i:Int)-1)=((i-1:Nat):Int):=by omega
     have hlt':i-1<p.length:=by omega
     have hge:p.getD (i-1) 0<x:=by rw[←hv'];omega
     have hpos:(0:Int)<i:=by omega
     simp (disch:=omega) only[e,↓aG,sss,if_true,if_false,hlt',c3,hpos,hge]
    ·simp only[c3,↓aG,sss,if_true,if_false]
  ·simp only[c1,↓aG,sss,if_true,if_false]
theorem aC.is{k:Nat}{p:List Int}(hk:4194304+1≤k)(hp:p.length≤1048576):aC k p=some (Pu.bI p):=by
 obtain⟨k,rfl⟩: ∃k',k=k'+1:=⟨k-1,by omega⟩
 rw[aC.eq]
 exact aC.loop (k:=k) (by omega) hp p.length k 0 0 9 (by omega) (by omega) (fun _=>rfl) (by omega) (by omega) (by omega) (by omega)
theorem cE.is{k:Nat}{p:List Int}{i:Int}(hk:1≤k):cE k p i=some (Pu.atI p i):=by
 obtain⟨k,rfl⟩: ∃k',k=k'+1:=⟨k-1,by omega⟩
 rw[cE.eq,cE.fP]
 by_cases h1:i<0
 ·simp only[↓aG,sss,if_true,if_false,h1,Pu.pX h1]
 ·by_cases h2:(p.length:Int)≤i
  ·simp only[↓aG,sss,if_true,if_false,h1,h2,Pu.wh h2]
  ·have h3:0≤i:=by omega
   have h4:i.toNat<p.length:=by omega
   simp only[↓aG,sss,if_true,if_false,h1,h2,h3,h4,Pu.atI]
theorem aW.loop{k:Nat}{q p:List Int}(hq:q.length≤1048576)(hl:q.length≤p.length)(hk:q.length<k):aW.L1 k k 0 q p=some ((List.range' 0 q.length).all fun i=>decide (q.getD i 0≤p.getD i 0)):=by
 have h:=Pu.ju (fun j i=>aW.L1 k j (i:Int) q p) q.length (fun i=>decide (q.getD i 0≤p.getD i 0)) (some false) (some true)
  (fun j i hi=>by
   have hi2:i<p.length:=by omega
   rw[aW.fm]
   simp (disch:=omega) only[↓aG,sss,if_true,if_false,hi,hi2,Int.natCast_add,Int.natCast_one]
   by_cases c:q.getD i 0≤p.getD i 0
   ·have c': ¬p.getD i 0<q.getD i 0:=by omega
    simp only[c,c',↓aG,sss,if_true,if_false]
   ·have c':p.getD i 0<q.getD i 0:=by omega
    simp only[c,c',↓aG,sss,if_true,if_false])
  (fun j=>by
   rw[aW.fm]
   simp only[↓aG,sss,if_true,if_false,Nat.lt_irrefl]) q.length k 0 (by omega) hk
 simp only[Int.natCast_zero]at h
 rw[h]
 cases(List.range' 0 q.length).all fun i=>decide (q.getD i 0≤p.getD i 0)<;>simp
theorem aW.is{k:Nat}{q p:List Int}(hk:4194304+2≤k)(hq:q.length≤1048576)(hp:p.length≤1048576):aW k q p=some (Pu.cy q p):=by
 obtain⟨k,rfl⟩: ∃k',k=k'+1:=⟨k-1,by omega⟩
 rw[aW.eq,aC.is (by omega) hq,bO,aW.fP]
 unfold Pu.cy
 cases c1:Pu.bI q with
 |false=>simp only[↓aG,sss,if_true,if_false]
 |true=>
  simp only[↓aG,sss,if_true,if_false]
  rw[aC.is (by omega) hp,bO]
  cases c2:Pu.bI p with
  |false=>simp only[↓aG,sss,if_true,if_false]
  |true=>
   simp only[↓aG,sss,if_true,if_false]
   by_cases c3:p.length<q.length
   ·have c3': ¬q.length≤p.length:=by omega
    simp only[c3,c3',↓aG,sss,if_true,if_false]
   ·have c3':q.length≤p.length:=by omega
    simp only[c3,c3',↓aG,sss,if_true,if_false]
    exact aW.loop hq c3' (by omega)
theorem eG.is{k:Nat}{s:List Int×List Int}(hk:4194304+3≤k)(hq:s.1.length≤1048576)(hp:s.2.length≤1048576):eG k s=some (Pu.cy s.2 s.1):=by
 obtain⟨k,rfl⟩: ∃k',k=k'+1:=⟨k-1,by omega⟩
 rw[eG.eq,aW.is (by omega) hp hq]
 rfl
theorem ba.loop{k:Nat}{t:Pu.Tab}{x3 x4:List Int}(hk:4194304+3≤k)(hi:Pu.bI t.1=true)(h2:t.2.length≤9)(hr: ∀x∈t.2,x.length≤1048576): ∀(m j i:Nat) (acc:List Int),i+m=t.2.length→m<j→acc.length=i→
  ba.L1 k j i t.1 t.2 x3 x4 acc t.1=some (if Pu.cy t.1 (acc++Pu.dN t.1 i (t.2.drop i))=true then((acc++Pu.dN t.1 i (t.2.drop i),t.1),true)else(([],[]),false))
 |m,0,i,acc,_,hj,_=>by omega
 |0,j+1,i,acc,hm,_,hacc=>by
  rw[ba.fm]
  have e:i=t.2.length:=by omega
  have h9:=(Pu.b9 hi).2.2.1
  have hlt: ¬i<t.2.length:=by omega
  rw[eG.is (by omega) (by simp only;omega) (by simp only;omega),e]
  simp only[↓aG,sss,if_true,if_false,Nat.lt_irrefl,List.drop_length,Pu.dN,List.append_nil]
  cases Pu.cy t.1 acc<;>simp
 |m+1,j+1,i,acc,hm,hj,hacc=>by
  rw[ba.fm]
  have hlt:i<t.2.length:=by omega
  have hb:=Pu.fS hi i
  have hrow:=hr t.2[i] (List.getElem_mem hlt)
  rw[←Pu.aE hlt []]at hrow
  rw[cE.is (by omega)]
  have ih:=ba.loop (x3:=x3) (x4:=x4) hk hi h2 hr m j (i+1) (acc++ [Pu.atI t.1 i+(t.2.getD i []).length]) (by omega) (by omega) (by simp[hacc])
  rw[Int.natCast_succ]at ih
  rw[Pu.drop_cons hlt []]
  have hl:(acc++ [Pu.atI t.1 i+((t.2.getD i []).length:Int)]).length≤1099511627776:=by simp;omega
  simp (disch:=omega) only[↓aG,sss,if_true,if_false,hlt,hl,ih,Pu.dN]
  simp only[List.append_assoc,List.singleton_append,Pu.dH]
  rfl
theorem ba.is{k:Nat}{t:Pu.Tab}(hk:4194304+4≤k)(h1:t.1.length≤1048576)(h2:t.2.length≤1048576)(hr: ∀x∈t.2,x.length≤1048576):ba k t=some (Pu.shapeOf t):=by
 obtain⟨k,rfl⟩: ∃k',k=k'+1:=⟨k-1,by omega⟩
 rw[ba.eq,aC.is (by omega) h1,ba.fP]
 have hl:t.1.length≤1099511627776:=by omega
 simp only[↓aG,sss,if_true,if_false,List.nil_append,hl]
 unfold Pu.shapeOf
 cases c1:Pu.bI t.1 with
 |false=>
  have:Pu.cb t=false:=by unfold Pu.cb;rw[c1];rfl
  simp only[this,↓aG,sss,if_true,if_false]
 |true=>
  by_cases c2:t.2.length<t.1.length
  ·have:Pu.cb t=false:=by
    have: ¬t.1.length≤t.2.length:=by omega
    unfold Pu.cb;simp[this]
   simp only[this,c2,↓aG,sss,if_true,if_false]
  ·by_cases c3:9<t.2.length
   ·have:Pu.cb t=false:=by
     cases h:Pu.cb t with
     |false=>rfl
     |true=>have:=Pu.vz h;omega
    have c3':(9:Int)<t.2.length:=by omega
    simp only[this,c2,c3',↓aG,sss,if_true,if_false]
   ·have c3': ¬(9:Int)<t.2.length:=by omega
    have c2':t.1.length≤t.2.length:=by omega
    have hloop:=ba.loop (k:=k) (t:=t) (x3:= []) (x4:= []) (by omega) c1 (by omega) hr t.2.length k 0 [] (by omega) (by omega) rfl
    rw[Int.natCast_zero]at hloop
    simp only[c2,c3',↓aG,sss,if_true,if_false]
    rw[hloop]
    have:Pu.cb t=Pu.cy t.1 (Pu.outer t):=by unfold Pu.cb;simp[c1,c2']
    rw[this]
    rfl
theorem bo.is{k:Nat}{t:Pu.Tab}{r c:Int}(hk:2≤k)(hi:Pu.bI t.1=true)(h1: -1000000000≤c)(h2:c≤1000000000):bo k t r c=some (Pu.entry t r c):=by
 obtain⟨k,rfl⟩: ∃k',k=k'+1:=⟨k-1,by omega⟩
 have hb:=Pu.fS hi r
 rw[bo.eq,bo.fP,cE.is (by omega)]
 unfold Pu.entry
 by_cases c1:r<0
 ·simp only[↓aG,sss,if_true,if_false,c1]
 ·by_cases c2:(t.2.length:Int)≤r
  ·simp only[↓aG,sss,if_true,if_false,c1,c2]
  ·have c3:0≤r:=by omega
   have c4:r.toNat<t.2.length:=by omega
   simp (disch:=omega) only[↓aG,sss,if_true,if_false,c1,c2,c3,c4]
   by_cases d1:c-Pu.atI t.1 r<0
   ·simp only[↓aG,sss,if_true,if_false,d1,Pu.pX d1]
   ·by_cases d2:((t.2.getD r.toNat []).length:Int)≤c-Pu.atI t.1 r
    ·simp only[↓aG,sss,if_true,if_false,d1,d2,Pu.wh d2]
    ·have d3:0≤c-Pu.atI t.1 r:=by omega
     have d4:(c-Pu.atI t.1 r).toNat<(t.2.getD r.toNat []).length:=by omega
     rw[bo.kq]
     generalize c-Pu.atI t.1 r=z at*
     simp only[↓aG,sss,if_true,if_false,c3,c4,d1,d2,d3,d4,Pu.atI]
theorem ar.A8{k k1 k2:Nat}{t:Pu.Tab}{r:Nat}{c x v:Int}{o n:List Int}(hk:3≤k)(hi:Pu.bI t.1=true)(h1:0≤c)(h2:c≤10000000)(hr:r≤1048576):
  ar.J2 k k1 k2 r c x v t.1 t.2 o n=if(Pu.within x 1 9&&(decide (v≤x)&&decide (Pu.entry t ((r:Int)-1) c<x)))=true then ar.L1 k k1 k2 r (c+1) t.1 t.2 o n else some false:=by
 have he:=bo.is (k:=k) (t:=t) (r:=(r:Int)-1) (c:=c) (by omega) hi (by omega) (by omega)
 rw[ar.qo,fA.is (by omega),ar.yZ]
 simp (disch:=omega) only[↓aG,sss,if_true,if_false,he]
 cases Pu.within x 1 9 with
 |false=>simp
 |true=>
  by_cases c1:v≤x
  ·have c1': ¬x<v:=by omega
   by_cases c2:Pu.entry t ((r:Int)-1) c<x
   ·have c2': ¬x≤Pu.entry t ((r:Int)-1) c:=by omega
    simp[c1,c1',c2,c2']
   ·have c2':x≤Pu.entry t ((r:Int)-1) c:=by omega
    simp[c1,c1',c2,c2']
  ·have c1':x<v:=by omega
   simp[c1,c1']
theorem ar.inner{k k1:Nat}{t:Pu.Tab}{r:Nat}{n:List Int}(hk:4194304≤k)(hi:Pu.bI t.1=true)(ht:t.2.length≤1048576)(hr: ∀x∈t.2,x.length≤1048576)(hlt:r<t.2.length):
  ar.L1 k k1 k r (t.1.getD r 0) t.1 t.2 (Pu.outer t) n=if((List.range' 0 (t.2.getD r []).length).all fun q=>Pu.eT t r q)=true then ar.L0 k k1 ((r:Int)+1) t.1 t.2 (Pu.outer t) n else some false:=by
 have hx:=hr _ (List.getElem_mem hlt)
 rw[←Pu.aE hlt []]at hx
 have hb:=Pu.fS hi r
 rw[Pu.dH]at hb
 have hol:r<(Pu.outer t).length:=by unfold Pu.outer;rw[Pu.iQ];exact hlt
 have ho:(Pu.outer t).getD r 0=t.1.getD r 0+((t.2.getD r []).length:Int):=by
  have:=Pu.gA t.1 t.2 0 r hlt
  rw[Nat.zero_add]at this
  exact this
 have h:=Pu.ju (fun j q=>ar.L1 k k1 j r (t.1.getD r 0+(q:Int)) t.1 t.2 (Pu.outer t) n) (t.2.getD r []).length (fun q=>Pu.eT t r q) (some false) (ar.L0 k k1 ((r:Int)+1) t.1 t.2 (Pu.outer t) n)
  (fun j q hq=>by
   rw[ar.fm]
   have hc:t.1.getD r 0+(q:Int)<(Pu.outer t).getD r 0:=by rw[ho];omega
   have e1:=bo.is (k:=k) (t:=t) (r:=r) (c:=t.1.getD r 0+q) (by omega) hi (by omega) (by omega)
   have e2:=bo.is (k:=k) (t:=t) (r:=r) (c:=t.1.getD r 0+q-1) (by omega) hi (by omega) (by omega)
   rw[Pu.uq hlt]at e1
   rw[Pu.wg hlt]at e2
   have ej:=fun v=>ar.A8 (k:=k) (k1:=k1) (k2:=j) (t:=t) (r:=r) (c:=t.1.getD r 0+q) (x:=(t.2.getD r []).getD q 0) (v:=v) (o:=Pu.outer t) (n:=n) (by omega) hi (by omega) (by omega) (by omega)
   have en:t.1.getD r 0+(q:Int)+1=t.1.getD r 0+((q+1:Nat):Int):=by omega
   rw[en]at ej
   have key: ∀v:Int,v=(if q=0 then 0 else(t.2.getD r []).getD (q-1) 0)→(Pu.within ((t.2.getD r []).getD q 0) 1 9&&(decide (v≤(t.2.getD r []).getD q 0)&&decide (Pu.entry t ((r:Int)-1) (t.1.getD r 0+q)<(t.2.getD r []).getD q 0)))=Pu.eT t r q:=by
    intro v hv
    unfold Pu.eT
    cases hw:Pu.within ((t.2.getD r []).getD q 0) 1 9 with
    |false=>rfl
    |true=>
     have hw1:1≤(t.2.getD r []).getD q 0:=by
      simp only[Pu.within,Bool.and_eq_true,decide_eq_true_eq]at hw;exact hw.1
     simp only[Bool.true_and]
     congr 1
     ·by_cases e:q=0
      ·have:v≤(t.2.getD r []).getD q 0:=by rw[hv,if_pos e];omega
       simp[e,this]
       simpa[e]using this
      ·rw[hv,if_neg e];simp[e]
     ·by_cases e:r=0
      ·subst e
       rw[Pu.yH (by omega),decide_eq_true (show(0:Int)<(t.2.getD 0 []).getD q 0 by omega)]
       simp only[decide_true,Bool.true_or]
      ·simp[e]
   by_cases hc0:0<t.1.getD r 0+(q:Int)
   ·simp (disch:=omega) only[↓aG,sss,if_true,if_false,hol,hc,e1,hc0,e2,ej]
    rw[key _ rfl]
   ·simp (disch:=omega) only[↓aG,sss,if_true,if_false,hol,hc,e1,hc0,ej]
    rw[key 0 (by
           have:q=0:=by omega
           rw[if_pos this])])
  (fun j=>by
   rw[ar.fm]
   have hc: ¬t.1.getD r 0+((t.2.getD r []).length:Int)<(Pu.outer t).getD r 0:=by rw[ho];omega
   simp (disch:=omega) only[↓aG,sss,if_true,if_false,hol,hc]) (t.2.getD r []).length k 0 (by omega) (by omega)
 simp only[Int.natCast_zero,Int.add_zero]at h
 exact h
theorem ar.is{k:Nat}{t:Pu.Tab}(hk:4194304+5≤k)(h1:t.1.length≤1048576)(ht:t.2.length≤1048576)(hr: ∀x∈t.2,x.length≤1048576):ar k t=some (Pu.g8 t):=by
 obtain⟨k,rfl⟩: ∃k',k=k'+1:=⟨k-1,by omega⟩
 rw[ar.eq,ba.is (by omega) h1 ht hr,bO]
 unfold Pu.g8 Pu.shapeOf
 cases hs:Pu.cb t with
 |false=>simp[hs]
 |true=>
  have hi:Pu.bI t.1=true:=by
   simp only[Pu.cb,Bool.and_eq_true]at hs;exact hs.1
  have hol:(Pu.outer t).length=t.2.length:=by unfold Pu.outer;rw[Pu.iQ]
  have h:=Pu.ju (fun j r=>ar.L0 k j r t.1 t.2 (Pu.outer t) t.1) t.2.length (fun r=>(List.range' 0 (t.2.getD r []).length).all fun q=>Pu.eT t r q) (some false) (some true)
   (fun j r hlt=>by
    rw[ar.cj,cE.is (by omega),Pu.dH]
    simp (disch:=omega) only[↓aG,sss,if_true,if_false,hol,hlt,ar.inner (k1:=j) (n:=t.1) (show 4194304≤k by omega) hi ht hr hlt,Int.natCast_add,Int.natCast_one])
   (fun j=>by
    rw[ar.cj]
    simp (disch:=omega) only[↓aG,sss,if_true,if_false,hol,Nat.lt_irrefl]) t.2.length k 0 (by omega) (by omega)
  simp only[Int.natCast_zero]at h
  simp only[if_true,↓aG,sss,if_true,if_false]
  rw[h]
  cases(List.range' 0 t.2.length).all fun r=>(List.range' 0 (t.2.getD r []).length).all fun q=>Pu.eT t r q<;>simp
theorem dk.is{k:Nat}{t:Pu.Tab}(hk:4194304+6≤k)(h1:t.1.length≤1048576)(ht:t.2.length≤1048576)(hr: ∀x∈t.2,x.length≤1048576):dk k t=some (Pu.aX t):=by
 obtain⟨k,rfl⟩: ∃k',k=k'+1:=⟨k-1,by omega⟩
 rw[dk.eq,ar.is (by omega) h1 ht hr,bO]
 unfold Pu.aX
 cases Pu.g8 t<;>simp
theorem ai.last{k:Nat}{a b:Pu.Tab}{x:List Int}(hk:4194304+40≤k)(pa:Pu.aX a=true)(pb:Pu.aX b=true)(x0 x1:List Int)(x2:List (List Int)): ∀(m j i:Nat),i+m=a.2.length→m<j→
  ai.L4 k j i x0 a.2 x1 x2 (Pu.fZ a b).1 (b.2++a.2.take i)=some (Pu.eR a b)
 |m,0,i,_,hj=>by omega
 |0,j+1,i,hm,_=>by
  have hT:=Pu.mY pa pb
  have e:i=a.2.length:=by omega
  subst e
  rw[ai.Au,List.take_length]
  refine Eq.trans (Pu.dW _ _ _ _) ?_
  rw[if_neg (by show¬(a.2.length:Int)<(a.2.length:Nat);omega)]
  refine Pu.bE (ar.is (t:=Pu.fZ a b) (by omega) hT.1 hT.2.1 hT.2.2) ?_
  cases pt:Pu.g8 (Pu.fZ a b)with
  |false=>exact Pu.tM (by simp[Pu.eR,pt])
  |true=>exact Pu.tN (by simp[Pu.eR,pa,pb,pt];rfl)
 |m+1,j+1,i,hm,hj=>by
  obtain⟨_,a2,a3⟩:=Pu.cX pa
  obtain⟨_,b2,b3⟩:=Pu.cX pb
  have hi:i<a.2.length:=by omega
  have h9:(a.2.getD i []).length≤9:=a3 _ (by rw[Pu.aE hi []];exact List.getElem_mem _)
  have ih:=ai.last (x:=x) hk pa pb x0 x1 x2 m j (i+1) (by omega) (by omega)
  rw[Pu.take_succ hi [],←List.append_assoc]at ih
  rw[ai.Au]
  have hz:IntKind.i64.wrap ((i:Int)+1)=((i+1:Nat):Int):=Pu.w64 (by omega) (by omega)
  simp only[g7,Int.toNat_natCast,e9,lU,qE,fH,g6,dU,hz,List.nil_append]
  refine Pu.tG (by omega) (Pu.tG (by omega) (Pu.tG hi (Pu.tG hi (Pu.tG hi (Pu.tG (by omega) (Pu.tG ?_ ih))))))
  simp;omega
theorem ai.below{k n:Nat}{a b:Pu.Tab}(hk:4194304+40≤k)(pa:Pu.aX a=true)(pb:Pu.aX b=true)(hn:n=if a.2.length=0 then 0 else(a.2.getD 0 []).length)(x2 x4 x6:List Int)(x7:List (List Int)): ∀(m j i:Nat),i+m=b.2.length→m<j→
  ai.L2 k j n i x2 a.2 x4 b.2 x6 x7 (if a.2.length=0 then []else List.replicate i ((a.2.getD 0 []).length:Int)) (b.2.take i)=some (Pu.eR a b)
 |m,0,i,_,hj=>by omega
 |0,j+1,i,hm,_=>by
  have e:i=b.2.length:=by omega
  subst e
  obtain⟨_,a2,a3⟩:=Pu.cX pa
  rw[ai.uz,List.take_length]
  refine Eq.trans (Pu.dW _ _ _ _) ?_
  rw[if_neg (by show¬(b.2.length:Int)<(b.2.length:Nat);omega)]
  have h:=ai.last (x:= []) hk pa pb x2 x6 x7 a.2.length k 0 (by omega) (by omega)
  rw[List.take_zero,List.append_nil]at h
  exact h
 |m+1,j+1,i,hm,hj=>by
  obtain⟨_,a2,a3⟩:=Pu.cX pa
  obtain⟨_,b2,b3⟩:=Pu.cX pb
  have hi:i<b.2.length:=by omega
  have h9:(b.2.getD i []).length≤9:=b3 _ (by rw[Pu.aE hi []];exact List.getElem_mem _)
  have ih:=ai.below hk pa pb hn x2 x4 x6 x7 m j (i+1) (by omega) (by omega)
  rw[Pu.take_succ hi []]at ih
  have hz:IntKind.i64.wrap ((i:Int)+1)=((i+1:Nat):Int):=Pu.w64 (by omega) (by omega)
  rw[ai.uz]
  have step: ∀q,q=(if a.2.length=0 then []else List.replicate (i+1) ((a.2.getD 0 []).length:Int))→ai.J3 k j n i x2 a.2 x4 b.2 x6 x7 q (b.2.take i)=some (Pu.eR a b):=fun q hq=>by
   rw[←hq]at ih
   rw[ai.yZ]
   simp only[g7,Int.toNat_natCast,e9,lU,qE,fH,g6,dU,hz,List.nil_append]
   refine Pu.tG (by omega) (Pu.tG hi (Pu.tG hi (Pu.tG hi (Pu.tG (by omega) (Pu.tG ?_ ih)))))
   simp;omega
  refine Eq.trans (Pu.dW _ _ _ _) ?_
  rw[if_pos (by show(i:Int)<(b.2.length:Nat);omega)]
  refine Eq.trans (Pu.dW _ _ _ _) ?_
  by_cases h0:a.2.length=0
  ·rw[if_pos h0]at hn
   subst hn
   rw[if_neg (by omega)]
   exact step _ (by rw[if_pos h0,if_pos h0])
  ·rw[if_neg h0]at hn
   have:=Pu.n7 pa (r:=0) (by omega)
   rw[if_pos (by omega)]
   refine Pu.tG ?_ (step _ ?_)
   ·rw[if_neg h0]
    show(List.replicate i ((a.2.getD 0 []).length:Int)++ [(n:Int)]).length≤_
    simp;omega
   ·rw[if_neg h0,if_neg h0,hn]
    exact(List.replicate_succ' ..).symm
theorem ai.is{k:Nat}{a b:Pu.Tab}(hk:4194304+60≤k)(ha:Pu.lu a)(hb:Pu.lu b):ai k a b=some (Pu.eR a b):=by
 obtain⟨k,rfl⟩: ∃k',k=k'+1:=⟨k-1,by omega⟩
 rw[ai.eq]
 refine Pu.bE (dk.is (t:=a) (by omega) ha.1 ha.2.1 ha.2.2) ?_
 cases pa:Pu.aX a with
 |false=>exact Pu.tM (by simp[Pu.eR,pa])
 |true=>
  refine Pu.tN (Pu.bE (dk.is (t:=b) (by omega) hb.1 hb.2.1 hb.2.2) ?_)
  cases pb:Pu.aX b with
  |false=>exact Pu.tM (by simp[Pu.eR,pb])
  |true=>
   refine Pu.tN ?_
   obtain⟨_,a2,a3⟩:=Pu.cX pa
   obtain⟨_,b2,b3⟩:=Pu.cX pb
   rw[ai.fP]
   refine Eq.trans (Pu.dW _ _ _ _) ?_
   have fin: ∀n,n=(if a.2.length=0 then 0 else(a.2.getD 0 []).length)→ai.J1 k (n:Int) a.1 a.2 b.1 b.2 [] []=some (Pu.eR a b):=fun n hn=>by
    rw[ai.kq]
    have h:=ai.below (k:=k) (by omega) pa pb hn a.1 b.1 [] [] b.2.length k 0 (by omega) (by omega)
    rw[List.take_zero]at h
    have e:(if a.2.length=0 then([]:List Int)else List.replicate 0 ((a.2.getD 0 []).length:Int))= []:=by split<;>rfl
    rw[e]at h
    exact h
   by_cases h0:a.2.length=0
   ·rw[if_neg (by show¬(0:Int)<(a.2.length:Nat);omega)]
    exact fin 0 (by rw[if_pos h0])
   ·have hl:0<a.2.length:=by omega
    rw[if_pos (by show(0:Int)<(a.2.length:Nat);omega)]
    refine Pu.tG (by decide) (Pu.tG hl (Pu.tG hl (Pu.tG hl ?_)))
    exact fin (a.2.getD 0 []).length (by rw[if_neg h0])
theorem cr.is{k:Nat}{x lo hi:Int}(hk:1≤k):cr k x lo hi=some (Pu.within x lo hi):=by
 obtain⟨k,rfl⟩: ∃k',k=k'+1:=⟨k-1,by omega⟩
 rw[cr.eq]
 by_cases h:lo≤x<;>simp[Pu.within,h]
theorem aD.loop{k:Nat}{p:List Int}(hk:4194304≤k)(hp:p.length≤1048576): ∀(m j i:Nat) (s v:Int),i+m=p.length→m<j→(i=0→v=9)→(0<i→v=p.getD (i-1) 0)→v≤9→0≤s→s≤9→
  aD.L0 k j s p.length i p=some (Pu.eM (p.drop i) v s)
 |m,0,i,s,v,_,hj,_,_,_,_,_=>by omega
 |0,j+1,i,s,v,hi,_,_,_,_,_,_=>by
  rw[aD.cj]
  have e:i=p.length:=by omega
  subst e
  simp[Pu.eM]
 |m+1,j+1,i,s,v,hi,hj,h0,h1,hv,hs,hs9=>by
  rw[aD.cj]
  have hlt:i<p.length:=by omega
  have hj1: ∀x:Int,x=p.getD i 0→1≤x→x≤v→aD.J1 k j s x p.length i p=some (decide (s+x≤9)&&Pu.eM (p.drop (i+1)) x (s+x)):=by
   intro x hx hx1 hx2
   rw[aD.kq]
   simp (disch:=omega) only[↓aG,sss,if_true,if_false]
   by_cases c:9<s+x
   ·have: ¬s+x≤9:=by omega
    simp[c,this]
   ·have c':s+x≤9:=by omega
    have ih:=aD.loop hk hp m j (i+1) (s+x) x (by omega) (by omega) (by omega) (by simp[hx]) (by omega) (by omega) c'
    rw[Int.natCast_succ]at ih
    simp[c,c',ih]
  rw[Pu.drop_cons hlt 0]
  simp (disch:=omega) only[↓aG,sss,if_true,if_false,hlt,cr.is,Pu.eM]
  generalize hx:p.getD i 0=x at*
  unfold Pu.within
  by_cases c1:1≤x
  ·by_cases c2:x≤v
   ·have c3:x≤9:=by omega
    have hj:=hj1 x rfl c1 c2
    by_cases hi0:i=0
    ·have hpos: ¬(0:Int)<i:=by omega
     simp (disch:=omega) only[↓aG,sss,if_true,if_false,c1,c2,c3,hpos,hj]
    ·have hv':=h1 (by omega)
     have e:((i:Int)-1)=((i-1:Nat):Int):=by omega
     have hlt':i-1<p.length:=by omega
     have hge: ¬p.getD (i-1) 0<x:=by rw[←hv'];omega
     have hpos:(0:Int)<i:=by omega
     simp (disch:=omega) only[e,↓aG,sss,if_true,if_false,hlt',c1,c2,c3,hj,hpos,hge]
   ·simp only[c1,c2,↓aG,sss,if_true,if_false]
    by_cases c3:x≤9
    ·have hi0:0<i:=by
      rcases Nat.eq_zero_or_pos i with h|h
      ·have:=h0 h;omega
      ·exact h
     have hv':=h1 hi0
     have e:((i:Int)-1)=((i-1:Nat):Int):=by omega
     have hlt':i-1<p.length:=by omega
     have hge:p.getD (i-1) 0<x:=by rw[←hv'];omega
     have hpos:(0:Int)<i:=by omega
     simp (disch:=omega) only[e,↓aG,sss,if_true,if_false,hlt',c3,hpos,hge]
    ·simp only[c3,↓aG,sss,if_true,if_false]
  ·simp only[c1,↓aG,sss,if_true,if_false]
theorem aD.is{k:Nat}{p:List Int}(hk:4194304+1≤k)(hp:p.length≤1048576):aD k p=some (Pu.bI p):=by
 obtain⟨k,rfl⟩: ∃k',k=k'+1:=⟨k-1,by omega⟩
 rw[aD.eq]
 exact aD.loop (k:=k) (by omega) hp p.length k 0 0 9 (by omega) (by omega) (fun _=>rfl) (by omega) (by omega) (by omega) (by omega)
theorem bk.is{k:Nat}{a:List Int}(hk:1≤k)(ha:a.length≤1099511627776):bk k a=some a:=by
 obtain⟨k,rfl⟩: ∃k',k=k'+1:=⟨k-1,by omega⟩
 rw[bk.eq]
 by_cases h:a.length=0
 ·have:a= []:=List.eq_nil_of_length_eq_zero h
  subst this
  simp[AK,yw]
 ·simp[h,ha]
theorem eF.is{k:Nat}{p:List Int}{i:Int}(hk:2≤k)(hp:p.length≤1048576):eF k p i=some (Pu.atI p i):=by
 obtain⟨k,rfl⟩: ∃k',k=k'+1:=⟨k-1,by omega⟩
 rw[eF.eq,cr.is (by omega)]
 unfold Pu.within
 by_cases h1:0≤i
 ·have h0: ¬i<0:=by omega
  by_cases h2:i≤(p.length:Int)-1
  ·have h4:i.toNat<p.length:=by omega
   simp (disch:=omega) only[↓aG,sss,if_true,if_false,h0,h1,h2,h4,Pu.atI]
  ·simp (disch:=omega) only[↓aG,sss,if_true,if_false,h1,h2,Pu.wh (p:=p) (i:=i) (by omega)]
 ·simp (disch:=omega) only[↓aG,sss,if_true,if_false,h1,Pu.pX (p:=p) (i:=i) (by omega)]
theorem aU.loop{k:Nat}{q p:List Int}(hq:q.length≤1048576)(hp:p.length≤1048576)(hk:4194304+2≤k):aU.L1 k k q.length 0 p q=some ((List.range' 0 q.length).all fun i=>decide (q.getD i 0≤p.getD i 0)):=by
 have h:=Pu.ju (fun j i=>aU.L1 k j q.length (i:Int) p q) q.length (fun i=>decide (q.getD i 0≤p.getD i 0)) (some false) (some true)
  (fun j i hi=>by
   rw[aU.fm,eF.is (by omega) hp,Pu.dH]
   simp (disch:=omega) only[↓aG,sss,if_true,if_false,hi,Int.natCast_add,Int.natCast_one]
   by_cases c:q.getD i 0≤p.getD i 0
   ·have c': ¬p.getD i 0<q.getD i 0:=by omega
    simp only[c,c',↓aG,sss,if_true,if_false]
   ·have c':p.getD i 0<q.getD i 0:=by omega
    simp only[c,c',↓aG,sss,if_true,if_false])
  (fun j=>by
   rw[aU.fm]
   simp only[↓aG,sss,if_true,if_false,Nat.lt_irrefl]) q.length k 0 (by omega) (by omega)
 simp only[Int.natCast_zero]at h
 rw[h]
 cases(List.range' 0 q.length).all fun i=>decide (q.getD i 0≤p.getD i 0)<;>simp
theorem aU.is{k:Nat}{q p:List Int}(hk:4194304+3≤k)(hq:q.length≤1048576)(hp:p.length≤1048576):aU k q p=some (Pu.cy q p):=by
 obtain⟨k,rfl⟩: ∃k',k=k'+1:=⟨k-1,by omega⟩
 rw[aU.eq,aD.is (by omega) hq,bO,aU.fP,Pu.vm]
 cases c1:Pu.bI q with
 |false=>simp only[↓aG,sss,if_true,if_false]
 |true=>
  simp only[↓aG,sss,if_true,if_false]
  rw[aD.is (by omega) hp,bO]
  cases c2:Pu.bI p with
  |false=>simp only[↓aG,sss,if_true,if_false]
  |true=>
   simp only[↓aG,sss,if_true,if_false]
   exact aU.loop hq hp (by omega)
theorem eI.is{k:Nat}{s:List Int×List Int}(hk:4194304+4≤k)(hq:s.1.length≤1048576)(hp:s.2.length≤1048576):eI k s=some (Pu.cy s.2 s.1):=by
 obtain⟨k,rfl⟩: ∃k',k=k'+1:=⟨k-1,by omega⟩
 rw[eI.eq,aU.is (by omega) hp hq]
 rfl
theorem a8.loop{k:Nat}{t:Pu.Tab}{x3 x4:List Int}(hk:4194304+4≤k)(hi:Pu.bI t.1=true)(h2:t.2.length≤1048576)(hr: ∀x∈t.2,x.length≤1048576): ∀(m j i:Nat) (acc:List Int),i+m=t.2.length→m<j→acc.length=i→
  a8.L1 k j t.2.length i t.2 t.1 x3 x4 acc t.1=some (if Pu.cy t.1 (acc++Pu.dN t.1 i (t.2.drop i))=true then((acc++Pu.dN t.1 i (t.2.drop i),t.1),true)else(([],[]),false))
 |m,0,i,acc,_,hj,_=>by omega
 |0,j+1,i,acc,hm,_,hacc=>by
  rw[a8.fm]
  have e:i=t.2.length:=by omega
  have h9:=(Pu.b9 hi).2.2.1
  have hlt: ¬i<t.2.length:=by omega
  rw[eI.is (by omega) (by simp only;omega) (by simp only;omega),e]
  simp only[↓aG,sss,if_true,if_false,Nat.lt_irrefl,List.drop_length,Pu.dN,List.append_nil]
  cases Pu.cy t.1 acc<;>simp
 |m+1,j+1,i,acc,hm,hj,hacc=>by
  rw[a8.fm]
  have hlt:i<t.2.length:=by omega
  have hb:=Pu.fS hi i
  have h9:=(Pu.b9 hi).2.2.1
  have hrow:=hr t.2[i] (List.getElem_mem hlt)
  rw[←Pu.aE hlt []]at hrow
  rw[eF.is (by omega) (by omega)]
  have ih:=a8.loop (x3:=x3) (x4:=x4) hk hi h2 hr m j (i+1) (acc++ [Pu.atI t.1 i+(t.2.getD i []).length]) (by omega) (by omega) (by simp[hacc])
  rw[Int.natCast_succ]at ih
  rw[Pu.drop_cons hlt []]
  have hl:(acc++ [Pu.atI t.1 i+((t.2.getD i []).length:Int)]).length≤1099511627776:=by simp;omega
  simp (disch:=omega) only[↓aG,sss,if_true,if_false,hlt,hl,ih,Pu.dN]
  simp only[List.append_assoc,List.singleton_append,Pu.dH]
  rfl
theorem a8.is{k:Nat}{t:Pu.Tab}(hk:4194304+5≤k)(h1:t.1.length≤1048576)(h2:t.2.length≤1048576)(hr: ∀x∈t.2,x.length≤1048576):a8 k t=some (Pu.shapeOf t):=by
 obtain⟨k,rfl⟩: ∃k',k=k'+1:=⟨k-1,by omega⟩
 rw[a8.eq,aD.is (by omega) h1,a8.fP,bk.is (by omega) (by omega)]
 simp only[↓aG,sss,if_true,if_false]
 unfold Pu.shapeOf
 cases c1:Pu.bI t.1 with
 |false=>
  have:Pu.cb t=false:=by unfold Pu.cb;rw[c1];rfl
  simp only[this,↓aG,sss,if_true,if_false]
 |true=>
  by_cases c2:t.2.length<t.1.length
  ·have:Pu.cb t=false:=by
    have: ¬t.1.length≤t.2.length:=by omega
    unfold Pu.cb;simp[this]
   simp only[this,c2,↓aG,sss,if_true,if_false]
  ·have c2':t.1.length≤t.2.length:=by omega
   have hloop:=a8.loop (k:=k) (t:=t) (x3:= []) (x4:= []) (by omega) c1 h2 hr t.2.length k 0 [] (by omega) (by omega) rfl
   rw[Int.natCast_zero]at hloop
   simp only[c2,↓aG,sss,if_true,if_false]
   rw[hloop]
   have:Pu.cb t=Pu.cy t.1 (Pu.outer t):=by unfold Pu.cb;simp[c1,c2']
   rw[this]
   rfl
theorem b6.is{k:Nat}{t:Pu.Tab}{r c:Int}(hk:3≤k)(hi:Pu.bI t.1=true)(ht:t.2.length≤1048576)(hr: ∀x∈t.2,x.length≤1048576)(h1: -1000000000≤c)(h2:c≤1000000000):b6 k t r c=some (Pu.entry t r c):=by
 obtain⟨k,rfl⟩: ∃k',k=k'+1:=⟨k-1,by omega⟩
 have hb:=Pu.fS hi r
 have h9:=(Pu.b9 hi).2.2.1
 rw[b6.eq,cr.is (by omega)]
 unfold Pu.entry Pu.within
 by_cases c1:r<0
 ·have c1': ¬0≤r:=by omega
  simp (disch:=omega) only[↓aG,sss,if_true,if_false,c1,c1']
 ·have c3:0≤r:=by omega
  by_cases c2:(t.2.length:Int)≤r
  ·have c2': ¬r≤(t.2.length:Int)-1:=by omega
   simp (disch:=omega) only[↓aG,sss,if_true,if_false,c1,c3,c2,c2']
  ·have c2':r≤(t.2.length:Int)-1:=by omega
   have c4:r.toNat<t.2.length:=by omega
   have hx:=hr _ (List.getElem_mem c4)
   rw[←Pu.aE c4 []]at hx
   simp (disch:=omega) only[↓aG,sss,if_true,if_false,c1,c2,c2',c3,c4,eF.is]
theorem aw.inner{k k1:Nat}{t:Pu.Tab}{r:Nat}(hk:4194304≤k)(hi:Pu.bI t.1=true)(ht:t.2.length≤1048576)(hr: ∀x∈t.2,x.length≤1048576)(hlt:r<t.2.length)(n:Int):
  aw.L1 k k1 k r r n r r (t.2.getD r []).length 0 t.2 t.1=if((List.range' 0 (t.2.getD r []).length).all fun q=>Pu.eT t r q)=true then aw.L0 k k1 n ((r:Int)+1) t.2 t.1 else some false:=by
 have hx:=hr _ (List.getElem_mem hlt)
 rw[←Pu.aE hlt []]at hx
 have hb:=Pu.fS hi r
 have h9:=(Pu.b9 hi).2.2.1
 have h:=Pu.ju (fun j q=>aw.L1 k k1 j r r n r r (t.2.getD r []).length (q:Int) t.2 t.1) (t.2.getD r []).length (fun q=>Pu.eT t r q) (some false) (aw.L0 k k1 n ((r:Int)+1) t.2 t.1)
  (fun j q hq=>by
   have e3:=b6.is (k:=k) (t:=t) (r:=(r:Int)-1) (c:=t.1.getD r 0+q) (by omega) hi ht hr (by rw[Pu.dH]at hb;omega) (by rw[Pu.dH]at hb;omega)
   have ea:=eF.is (k:=k) (p:=t.1) (i:=r) (by omega) (by omega)
   rw[Pu.dH]at ea
   rw[Pu.dH]at hb
   rw[aw.fm]
   simp (maxSteps:=10000000) (disch:=omega) only[↓aG,sss,if_true,if_false,hlt,hq,cr.is,ea,e3,aw.qo,Int.natCast_add,Int.natCast_one]
   unfold Pu.eT
   generalize hx0:(t.2.getD r []).getD q 0=x at*
   cases Pu.within x 1 9 with
   |false=>simp
   |true=>
    have up:(if(0:Int)<r then(if x≤Pu.entry t ((r:Int)-1) (t.1.getD r 0+q)then some false else aw.L1 k k1 j r r n r r (t.2.getD r []).length ((q:Int)+1) t.2 t.1)else aw.L1 k k1 j r r n r r (t.2.getD r []).length ((q:Int)+1) t.2 t.1)=
      if(decide (r=0)||decide (Pu.entry t ((r:Int)-1) (t.1.getD r 0+q)<x))=true then aw.L1 k k1 j r r n r r (t.2.getD r []).length ((q:Int)+1) t.2 t.1 else some false:=by
     by_cases e:r=0
     ·subst e;simp
     ·have e':(0:Int)<r:=by omega
      by_cases c:x≤Pu.entry t ((r:Int)-1) (t.1.getD r 0+q)
      ·have c': ¬Pu.entry t ((r:Int)-1) (t.1.getD r 0+q)<x:=by omega
       simp only[e',c,c',e,if_true,if_false,decide_false,Bool.or_false,Bool.false_eq_true]
      ·have c':Pu.entry t ((r:Int)-1) (t.1.getD r 0+q)<x:=by omega
       simp only[e',c,c',e,if_true,if_false,decide_true,decide_false,Bool.false_or]
    by_cases e:q=0
    ·have e': ¬(0:Int)<q:=by omega
     simp only[e',e,↓aG,sss,if_true,if_false,Bool.true_or]
     rw[e]at up
     exact up
    ·have e':(0:Int)<q:=by omega
     have eq:(q:Int)-1=((q-1:Nat):Int):=by omega
     have hq':q-1<(t.2.getD r []).length:=by omega
     simp (disch:=omega) only[e',e,↓aG,sss,if_true,if_false,eq,hq',Bool.false_or]
     by_cases c:x<(t.2.getD r []).getD (q-1) 0
     ·have c': ¬(t.2.getD r []).getD (q-1) 0≤x:=by omega
      simp only[c,c',↓aG,sss,if_true,if_false]
     ·have c':(t.2.getD r []).getD (q-1) 0≤x:=by omega
      simp only[c,c',↓aG,sss,if_true,if_false]
      exact up)
  (fun j=>by
   rw[aw.fm]
   simp (maxSteps:=10000000) (disch:=omega) only[↓aG,sss,if_true,if_false,Nat.lt_irrefl]) (t.2.getD r []).length k 0 (by omega) (by omega)
 simp only[Int.natCast_zero]at h
 exact h
theorem aw.is{k:Nat}{t:Pu.Tab}(hk:4194304+6≤k)(h1:t.1.length≤1048576)(ht:t.2.length≤1048576)(hr: ∀x∈t.2,x.length≤1048576):aw k t=some (Pu.g8 t):=by
 obtain⟨k,rfl⟩: ∃k',k=k'+1:=⟨k-1,by omega⟩
 rw[aw.eq,a8.is (by omega) h1 ht hr,bO]
 unfold Pu.g8 Pu.shapeOf
 cases hs:Pu.cb t with
 |false=>simp[hs]
 |true=>
  have hi:Pu.bI t.1=true:=by
   simp only[Pu.cb,Bool.and_eq_true]at hs;exact hs.1
  have h:=Pu.ju (fun j r=>aw.L0 k j t.2.length r t.2 t.1) t.2.length (fun r=>(List.range' 0 (t.2.getD r []).length).all fun q=>Pu.eT t r q) (some false) (some true)
   (fun j r hlt=>by
    rw[aw.cj]
    simp (disch:=omega) only[↓aG,sss,if_true,if_false,hlt,aw.inner (k1:=j) (show 4194304≤k by omega) hi ht hr hlt,Int.natCast_add,Int.natCast_one])
   (fun j=>by
    rw[aw.cj]
    simp (disch:=omega) only[↓aG,sss,if_true,if_false,Nat.lt_irrefl]) t.2.length k 0 (by omega) (by omega)
  simp only[Int.natCast_zero]at h
  simp only[if_true,↓aG,sss,if_true,if_false]
  rw[h]
  cases(List.range' 0 t.2.length).all fun r=>(List.range' 0 (t.2.getD r []).length).all fun q=>Pu.eT t r q<;>simp
theorem dm.is{k:Nat}{t:Pu.Tab}(hk:4194304+7≤k)(h1:t.1.length≤1048576)(ht:t.2.length≤1048576)(hr: ∀x∈t.2,x.length≤1048576):dm k t=some (Pu.aX t):=by
 obtain⟨k,rfl⟩: ∃k',k=k'+1:=⟨k-1,by omega⟩
 rw[dm.eq,aw.is (by omega) h1 ht hr,bO]
 unfold Pu.aX
 by_cases h:t.1.length=0<;>simp[h]
theorem aR.loop{k:Nat}{t:Pu.Tab}{x3 x4:List Int}{x5:List (List Int)}(hk:1≤k)(ht:t.2.length≤1048576)(hr: ∀x∈t.2,x.length≤1048576): ∀(m j i:Nat),i+m=t.2.length→m<j→
  aR.L0 k j t.2.length i t.2 x3 x5 x4 (t.2.take i)=some (x4,t.2)
 |m,0,i,_,hj=>by omega
 |0,j+1,i,hm,_=>by
  rw[aR.cj]
  have e:i=t.2.length:=by omega
  subst e
  simp
 |m+1,j+1,i,hm,hj=>by
  rw[aR.cj]
  have hlt:i<t.2.length:=by omega
  have hx:=hr _ (List.getElem_mem hlt)
  rw[←Pu.aE hlt []]at hx
  have ih:=aR.loop (k:=k) (x3:=x3) (x4:=x4) (x5:=x5) hk ht hr m j (i+1) (by omega) (by omega)
  rw[Int.natCast_succ,Pu.take_succ hlt []]at ih
  have hl:(t.2.take i++ [t.2.getD i []]).length≤1099511627776:=by simp;omega
  simp (disch:=omega) only[↓aG,sss,if_true,if_false,hlt,hl,bk.is,ih]
theorem aR.is{k:Nat}{t:Pu.Tab}(hk:4194304+1≤k)(h1:t.1.length≤1048576)(ht:t.2.length≤1048576)(hr: ∀x∈t.2,x.length≤1048576):aR k t=some t:=by
 obtain⟨k,rfl⟩: ∃k',k=k'+1:=⟨k-1,by omega⟩
 rw[aR.eq,bk.is (by omega) (by omega)]
 have h:=aR.loop (k:=k) (t:=t) (x3:= []) (x4:=t.1) (x5:= []) (by omega) ht hr t.2.length k 0 (by omega) (by omega)
 rw[Int.natCast_zero,List.take_zero]at h
 exact h
theorem aQ.is{k:Nat}{x y:List (List Int)}(hk:8≤k)(hx:x.length≤1048576)(hy:y.length≤1048576):aQ k x y=some (x++y,()):=by
 obtain⟨k,rfl⟩: ∃k',k=k'+8:=⟨k-8,by omega⟩
 rw[aQ.eq]
 have w1:IntKind.i64.wrap (x.length:Int)=x.length:=Pu.w64 (by omega) (by omega)
 have w2:IntKind.i64.wrap ((x.length:Int)+y.length)=x.length+y.length:=Pu.w64 (by omega) (by omega)
 have w3:IntKind.i64.wrap 0=0:=Pu.w64 (by omega) (by omega)
 simp only[dU,g6,fH,e9,Int.zero_add,w1,w2]
 have n1: ¬(x.length:Int)<0:=by omega
 have n2: ¬(x.length:Int)+y.length<0:=by omega
 rw[Pu.dW,if_neg n1,Pu.dW,if_neg n2,Pu.dW,if_neg n2,aQ.fP]
 simp only[dU,xk,Int.sub_self,w3,Int.sub_zero,w2]
 have hl:(x++y).length≤1099511627776:=by rw[List.length_append];omega
 rw[Pu.dW]
 split
 ·next h=>
  refine Pu.tG (by decide) (Pu.tG (by decide) (Pu.tG ((by omega)) (Pu.tG ((show((x.length:Int)+y.length).toNat≤1099511627776 by omega)) (Pu.tG (by decide) (Pu.tG ((Nat.zero_le _)) ?_)))))
  refine Pu.tG (?_) (Pu.tG (?_) ?_)
  ·show([]++x).length≤_
   rw[List.nil_append];omega
  ·show(([]++x)++y).length≤_
   rw[List.nil_append];exact hl
  ·rfl
 ·refine Pu.tG (?_) (Pu.tG (?_) ?_)
  ·show([]++x).length≤_
   rw[List.nil_append];omega
  ·show(([]++x)++y).length≤_
   rw[List.nil_append];exact hl
  ·rfl
theorem ay.row{k k1:Nat}{rows:List (List Int)}{i:Nat}(hi:i<rows.length)(hl:rows.length≤9)(hr:(rows.getD i []).length≤9): ∀(m j c s:Nat) (out:List (List Int)),c+m=(rows.getD i []).length→m<j→c≤out.length→out.length≤100→s+m≤1000000→
  (∀col∈out,col.length≤s)→ ∃out',ay.L1 k k1 j rows.length i i (rows.getD i []).length c out rows=ay.L0 k k1 rows.length ((i+1:Nat):Int) out' rows∧out'.length=max out.length (c+m)∧ ∀col∈out',col.length≤s+m
 |m,0,c,s,out,_,hj,_,_,_,_=>by omega
 |0,j+1,c,s,out,hm,_,hc,ho,hs,hcol=>by
  refine⟨out,?_,by omega,fun col h=>hcol col h⟩
  rw[ay.fm]
  refine Eq.trans (Pu.dW _ _ _ _) ?_
  rw[if_neg (by omega)]
  show ay.L0 k k1 _ (IntKind.i64.wrap ((i:Int)+1)) out rows=_
  rw[Pu.w64 (by omega) (by omega)];rfl
 |m+1,j+1,c,s,out,hm,hj,hc,ho,hs,hcol=>by
  rw[ay.fm]
  have hz:IntKind.i64.wrap ((c:Int)+1)=((c+1:Nat):Int):=Pu.w64 (by omega) (by omega)
  have step: ∀out:List (List Int),c<out.length→out.length≤101→(∀col∈out,col.length≤s)→ ∀x,∃out',out'.length=out.length∧(∀col∈out',col.length≤s+1)∧ay.J2 k k1 j c x rows.length i i (rows.getD i []).length c out rows=ay.L1 k k1 j rows.length i i (rows.getD i []).length ((c+1:Nat):Int) out' rows:=fun out h1 h2 h3 x=>by
   refine⟨out.set c (out.getD c []++ [x]),by rw[List.length_set],fun col hcl=> ?_,?_⟩
   ·rcases List.mem_or_eq_of_mem_set hcl with h|h
    ·have:=h3 col h;omega
    ·subst h
     have:=h3 (out.getD c []) (by rw[Pu.aE h1 []];exact List.getElem_mem h1)
     rw[List.length_append,List.length_singleton];omega
   ·rw[ay.qo]
    have hb:(out.getD c []++ [x]).length≤1099511627776:=by
     have:=h3 (out.getD c []) (by rw[Pu.aE h1 []];exact List.getElem_mem h1)
     rw[List.length_append,List.length_singleton];omega
    simp only[g7,Int.toNat_natCast,e9,lU,qE,rq,g6,dU,hz]
    refine Pu.tG (by omega) (Pu.tG h1 (Pu.tG h1 (Pu.tG h1 (Pu.tG hb (Pu.tG (by omega) (Pu.tG h1 (Pu.tG h1 (Pu.tG rfl rfl))))))))
  have hci:c<(rows.getD i []).length:=by omega
  by_cases e:c=out.length
  ·obtain⟨o1,q1,q2,q3⟩:=step (out++ [[]]) (by simp;omega) (by simp;omega) (fun col h=>by
    rcases List.mem_append.1 h with h|h
    ·exact hcol col h
    ·rw[List.mem_singleton.1 h];exact Nat.zero_le _) ((rows.getD i []).getD c 0)
   rw[List.length_append,List.length_singleton]at q1
   obtain⟨o2,r1,r2,r3⟩:=ay.row (k:=k) (k1:=k1) hi hl hr m j (c+1) (s+1) o1 (by omega) (by omega) (by omega) (by omega) (by omega) q2
   refine⟨o2,?_,by omega,fun col h=>by have:=r3 col h;omega⟩
   rw[←r1,←q3]
   simp only[g7,Int.toNat_natCast,e9,lU,qE,fH]
   refine Pu.tG (by omega) (Pu.tG hi (Pu.tG (by omega) (Pu.tG hci (Pu.tG hi (Pu.tG hci (Pu.tG (by omega) (Pu.tG (by rw[List.length_append,List.length_singleton];omega) rfl)))))))
  ·obtain⟨o1,q1,q2,q3⟩:=step out (by omega) (by omega) hcol ((rows.getD i []).getD c 0)
   obtain⟨o2,r1,r2,r3⟩:=ay.row (k:=k) (k1:=k1) hi hl hr m j (c+1) (s+1) o1 (by omega) (by omega) (by omega) (by omega) (by omega) q2
   refine⟨o2,?_,by omega,fun col h=>by have:=r3 col h;omega⟩
   rw[←r1,←q3]
   simp only[g7,Int.toNat_natCast,e9,lU,qE,fH]
   refine Pu.tG (by omega) (Pu.tG hi (Pu.tG (by omega) (Pu.tG hci (Pu.tG hi (Pu.tG hci (Pu.tX (by omega) rfl))))))
theorem ay.loop{k:Nat}{rows:List (List Int)}(hk:100≤k)(hl:rows.length≤9)(hr: ∀r∈rows,r.length≤9)(h0: ∀i,i<rows.length→(rows.getD i []).length≤(rows.getD 0 []).length): ∀(m j i s:Nat) (out:List (List Int)),i+m=rows.length→m<j→s≤100*i→
  out.length=(if i=0 then 0 else(rows.getD 0 []).length)→(∀col∈out,col.length≤s)→ ∃out',ay.L0 k j rows.length i out rows=some out'∧out'.length=(if rows.length=0 then 0 else(rows.getD 0 []).length)
 |m,0,i,s,out,_,hj,_,_,_=>by omega
 |0,j+1,i,s,out,hm,_,_,ho,_=>by
  refine⟨out,?_,?_⟩
  ·rw[ay.cj]
   refine Eq.trans (Pu.dW _ _ _ _) ?_
   rw[if_neg (by omega)]
  ·rw[ho]
   have:i=rows.length:=by omega
   rw[this]
 |m+1,j+1,i,s,out,hm,hj,hs,ho,hcol=>by
  have hi:i<rows.length:=by omega
  have h9:(rows.getD 0 []).length≤9:=hr _ (by rw[Pu.aE (show 0<rows.length by omega) []];exact List.getElem_mem _)
  have hi9:(rows.getD i []).length≤9:=hr _ (by rw[Pu.aE hi []];exact List.getElem_mem _)
  have hi0:=h0 i hi
  have hol:out.length≤9:=by rw[ho];split<;>omega
  obtain⟨o1,q1,q2,q3⟩:=ay.row (k:=k) (k1:=j) hi hl hi9 (rows.getD i []).length k 0 s out (by omega) (by omega) (by omega) (by omega) (by omega) hcol
  obtain⟨o2,r1,r2⟩:=ay.loop hk hl hr h0 m j (i+1) (s+(rows.getD i []).length) o1 (by omega) (by omega) (by omega) (by
   rw[q2,if_neg (by omega),ho]
   by_cases e:i=0
   ·subst e;simp
   ·rw[if_neg e];omega) q3
  refine⟨o2,?_,r2⟩
  rw[←r1,←q1,ay.cj]
  simp only[g7,Int.toNat_natCast,e9,lU,fH]
  refine Pu.tG (by omega) (Pu.tG (by omega) (Pu.tG hi (Pu.tG hi (Pu.tG hi rfl))))
theorem ay.is{k:Nat}{t:Pu.Tab}(hk:4194304≤k)(h:Pu.aX t=true): ∃cols,ay k t=some cols∧cols.length=(if t.2.length=0 then 0 else(t.2.getD 0 []).length):=by
 obtain⟨_,h2,h3⟩:=Pu.cX h
 obtain⟨k,rfl⟩: ∃k',k=k'+1:=⟨k-1,by omega⟩
 rw[ay.eq]
 exact ay.loop (k:=k) (rows:=t.2) (by omega) h2 h3 (fun i hi=>by have:=Pu.sF h i 0 (by omega);rwa [Nat.zero_add]at this) t.2.length k 0 0 [] (by omega) (by omega) (by omega) rfl (fun col h=>by cases h)
theorem dg.is{k n:Nat}(hk:1≤k)(hn:n≤1048576):dg k 1 n=some (0,(n:Int)):=by
 obtain⟨k,rfl⟩: ∃k',k=k'+1:=⟨k-1,by omega⟩
 rw[dg.eq]
 have e1:D.shrI .u64 1 32=0:=Pu.ze (n:=1) (by omega)
 have e2:D.andI .u64 1 4294967295=1:=Pu.za (n:=1) (by omega)
 have e3:=Pu.ze (n:=n) (by omega)
 have e4:=Pu.za (n:=n) (by omega)
 have e5:D.shrI .u64 0 32=0:=Pu.ze (n:=0) (by omega)
 have e6:D.andI .u64 0 4294967295=0:=Pu.za (n:=0) (by omega)
 have w0:IntKind.u64.wrap 0=0:=Pu.zC (by omega) (by omega)
 have wn:IntKind.u64.wrap (n:Int)=n:=Pu.zC (by omega) (by omega)
 simp only[e1,e2,e3,e4,A4,dU,g6,Int.zero_mul,Int.one_mul,Int.mul_zero,Int.add_zero,w0,wn,e5,e6]
 rfl
theorem dt.is{k n:Nat}(hk:2≤k)(hn:n≤1048576):dt k 1 n=some (0,(n:Int)):=by
 obtain⟨k,rfl⟩: ∃k',k=k'+1:=⟨k-1,by omega⟩
 rw[dt.eq,dg.is (by omega) hn,bO]
theorem an.loop{k n:Nat}{v:Int}(hn:n≤1048576): ∀(j d m:Nat),m+d=n→1≤m→d<j→an.L2 k j m (List.replicate m v++List.replicate d (0:Int))=some (List.replicate n v)
 |0,d,m,_,_,h=>by omega
 |j+1,d,m,hm,h1,hj=>by
  rw[an.uz]
  have hlen:(List.replicate m v++List.replicate d (0:Int)).length=n:=by simp;omega
  by_cases hd:d=0
  ·subst hd
   have e:m=n:=by omega
   subst e
   refine Eq.trans (Pu.dW _ _ _ _) ?_
   rw[if_neg (by show¬(m:Int)<((List.replicate m v++List.replicate 0 (0:Int)).length:Nat);rw[hlen];omega)]
   simp
  ·have e2:D.take (D.subN (D.len (List.replicate m v++List.replicate d (0:Int))) (D.nat m)) (D.take (D.subN (D.nat m) 0) (D.drop 0 (List.replicate m v++List.replicate d (0:Int))))=List.replicate (min (n-m) m) v:=by
    show((List.replicate m v++List.replicate d (0:Int)).take m).take ((List.replicate m v++List.replicate d (0:Int)).length-m)=_
    rw[hlen,List.take_append_of_le_length (by simp),List.take_replicate,List.take_replicate]
    congr 1;omega
   rw[e2]
   have hnew:D.app (D.take (D.addN (D.nat m) 0) (List.replicate m v++List.replicate d (0:Int))) (D.app (List.replicate (min (n-m) m) v) (D.drop (D.addN (D.nat m) (D.len (List.replicate (min (n-m) m) v))) (List.replicate m v++List.replicate d (0:Int))))=
     List.replicate (m+min (n-m) m) v++List.replicate (d-min (n-m) m) (0:Int):=by
    show(List.replicate m v++List.replicate d (0:Int)).take m++(List.replicate (min (n-m) m) v++(List.replicate m v++List.replicate d (0:Int)).drop (m+(List.replicate (min (n-m) m) v).length))=_
    rw[List.take_append_of_le_length (by simp),List.take_replicate,Nat.min_self,List.length_replicate,List.drop_append,List.drop_replicate,List.drop_replicate,List.length_replicate,←List.append_assoc,List.replicate_append_replicate]
    rw[show m-(m+min (n-m) m)=0 by omega,show m+min (n-m) m-m=min (n-m) m by omega]
    rfl
   have hz:IntKind.i64.wrap ((m:Int)+(min (n-m) m:Nat))=((m+min (n-m) m:Nat):Int):=by
    rw[Pu.w64 (by omega) (by omega)];omega
   have ih:=an.loop (k:=k) (v:=v) hn j (d-min (n-m) m) (m+min (n-m) m) (by omega) (by omega) (by omega)
   rw[hnew]
   simp only[g6,dU,fH,e9,g7,hlen,List.length_replicate,Int.toNat_natCast]
   rw[hz,ih]
   refine Pu.tG ((by omega)) (Pu.tG ((by omega)) (Pu.tG ((by omega)) (Pu.tG ((by omega)) (Pu.tG ((by omega)) rfl))))
theorem an.is{k n:Nat}{v:Int}(hk:4194304+4≤k)(hn:n≤1048576):an k [v] n=some (List.replicate n v):=by
 obtain⟨k,rfl⟩: ∃k',k=k'+1:=⟨k-1,by omega⟩
 rw[an.eq]
 refine Eq.trans (Pu.dW _ _ _ _) ?_
 rw[if_neg (by omega),an.fP]
 have w1:IntKind.u64.wrap 1=1:=Pu.zC (by omega) (by omega)
 have wn:IntKind.u64.wrap (n:Int)=n:=Pu.zC (by omega) (by omega)
 have wi:IntKind.i64.wrap (n:Int)=n:=Pu.w64 (by omega) (by omega)
 show D.bnd (dt k (IntKind.u64.wrap 1) (IntKind.u64.wrap n)) _=_
 rw[w1,wn,dt.is (by omega) hn,bO]
 refine Eq.trans (Pu.dW _ _ _ _) ?_
 rw[if_neg (by simp)]
 refine Eq.trans (Pu.dW _ _ _ _) ?_
 rw[if_neg (by show¬(9223372036854775807:Int)<n;omega),an.kq]
 simp only[dU,wi]
 refine Pu.tG ((by omega)) (Pu.tG ((by omega)) (Pu.tG ((show(n:Int).toNat≤1099511627776 by omega)) ?_))
 show an.L2 k k (((([v]:List Int).take (List.replicate (n:Int).toNat (0:Int)).length).length:Nat):Int) ((List.replicate (n:Int).toNat (0:Int)).take 0++(([v]:List Int).take (List.replicate (n:Int).toNat (0:Int)).length++(List.replicate (n:Int).toNat (0:Int)).drop (([v]:List Int).take (List.replicate (n:Int).toNat (0:Int)).length).length))=_
 rw[List.length_replicate,Int.toNat_natCast]
 obtain⟨k,rfl⟩: ∃k',k=k'+1:=⟨k-1,by omega⟩
 by_cases h0:n=0
 ·subst h0
  rw[an.uz]
  rfl
 ·obtain⟨n,rfl⟩: ∃n',n=n'+1:=⟨n-1,by omega⟩
  have h:=an.loop (k:=k+1) (v:=v) hn (k+1) n 1 (by omega) (by omega) (by omega)
  simpa[List.replicate_succ]using h
theorem aM.is{k:Nat}{a b:Pu.Tab}(hk:4194304+60≤k)(ha:Pu.lu a)(hb:Pu.lu b):aM k a b=some (Pu.eR a b):=by
 obtain⟨k,rfl⟩: ∃k',k=k'+6:=⟨k-6,by omega⟩
 rw[aM.eq]
 refine Pu.bE (dm.is (t:=a) (by omega) ha.1 ha.2.1 ha.2.2) ?_
 cases pa:Pu.aX a with
 |false=>exact Pu.tM (by simp[Pu.eR,pa])
 |true=>
  refine Pu.tN (Pu.bE (dm.is (t:=b) (by omega) hb.1 hb.2.1 hb.2.2) ?_)
  cases pb:Pu.aX b with
  |false=>exact Pu.tM (by simp[Pu.eR,pb])
  |true=>
   refine Pu.tN ?_
   rw[aM.fP]
   obtain⟨_,a2,a3⟩:=Pu.cX pa
   obtain⟨_,b2,b3⟩:=Pu.cX pb
   refine Pu.bE (aR.is (t:=b) (by omega) hb.1 hb.2.1 hb.2.2) (Pu.bE (aR.is (t:=a) (by omega) ha.1 ha.2.1 ha.2.2) (Pu.bE (aQ.is (by omega) hb.2.1 ha.2.1) ?_))
   obtain⟨cols,c1,c2⟩:=ay.is (k:=k+5) (t:=a) (by omega) pa
   refine Pu.bE c1 ?_
   have hT:=Pu.mY pa pb
   have last: ∀l,l=(Pu.fZ a b).1→aM.J1 k [] [] l (b.2++a.2)=some (Pu.eR a b):=fun l hl=>by
    subst hl
    rw[aM.kq]
    refine Pu.bE (aw.is (t:=Pu.fZ a b) (by omega) hT.1 hT.2.1 hT.2.2) ?_
    cases pt:Pu.g8 (Pu.fZ a b)with
    |false=>exact Pu.tM (by simp[Pu.eR,pt])
    |true=>exact Pu.tN (by simp[Pu.eR,pa,pb,pt];rfl)
   refine Eq.trans (Pu.dW _ _ _ _) ?_
   by_cases h0:a.2.length=0
   ·rw[if_pos h0]at c2
    rw[if_neg (by show¬(0:Int)<(cols.length:Nat);omega)]
    exact last _ (by unfold Pu.fZ;rw[if_pos h0])
   ·rw[if_neg h0]at c2
    have:=Pu.n7 pa (r:=0) (by omega)
    rw[if_pos (by show(0:Int)<(cols.length:Nat);omega)]
    refine Pu.bE (an.is (v:=(cols.length:Int)) (n:=b.2.length) (by omega) (by omega)) ?_
    exact last _ (by unfold Pu.fZ;rw[if_neg h0,c2])
theorem bG.loop{k:Nat}{a b:List Int}(hl:a.length=b.length)(ha:a.length≤1048576): ∀(m j i:Nat),i+m=a.length→m<j→bG.L0 k j i a b=some (decide (a.drop i=b.drop i))
 |m,0,i,_,hj=>by omega
 |0,j+1,i,hi,_=>by
  rw[bG.cj]
  have e:i=a.length:=by omega
  subst e
  simp[hl]
 |m+1,j+1,i,hi,hj=>by
  rw[bG.cj]
  have h1:i<a.length:=by omega
  have h2:i<b.length:=by omega
  have ih:=bG.loop (k:=k) hl ha m j (i+1) (by omega) (by omega)
  rw[Int.natCast_succ]at ih
  rw[Pu.drop_cons h1 0,Pu.drop_cons h2 0]
  by_cases e:a.getD i 0=b.getD i 0<;>simp (disch:=omega) only[aG,nO,qB,lp,e9,fH,g7,lU,dU,g6,uY,wz,Pu.w64,Int.toNat_natCast,decide_eq_true_eq,Int.ofNat_lt,h1,h2,if_true,Int.natCast_nonneg,decide_true,ih,e,List.cons.injEq,true_and,false_and,decide_false,Bool.not_true,Bool.not_false,if_false,Bool.false_eq_true]
theorem bG.is{k:Nat}{a b:List Int}(hk:4194304+1≤k)(ha:a.length≤1048576):bG k a b=some (decide (a=b)):=by
 obtain⟨k,rfl⟩: ∃k',k=k'+1:=⟨k-1,by omega⟩
 rw[bG.eq]
 by_cases hl:a.length=b.length
 ·have h:=bG.loop (k:=k) hl ha a.length k 0 (by omega) (by omega)
  rw[Int.natCast_zero]at h
  simp only[List.drop_zero]at h
  have hl':(a.length:Int)=b.length:=by omega
  simp only[aG,uY,wz,fH,e9,hl',decide_true,Bool.not_true,Bool.false_eq_true,if_false,h]
 ·have hne:a≠b:=fun e=>hl (by rw[e])
  have hl': ¬(a.length:Int)=b.length:=by omega
  simp[hl',hne]
theorem bz.loop{k:Nat}{a b:List (List Int)}(hk:4194304+1≤k)(hl:a.length=b.length)(ha:a.length≤1048576)(hr: ∀x∈a,x.length≤1048576): ∀(m j i:Nat),i+m=a.length→m<j→bz.L0 k j i a b=some (decide (a.drop i=b.drop i))
 |m,0,i,_,hj=>by omega
 |0,j+1,i,hi,_=>by
  rw[bz.cj]
  have e:i=a.length:=by omega
  subst e
  simp[hl]
 |m+1,j+1,i,hi,hj=>by
  rw[bz.cj]
  have h1:i<a.length:=by omega
  have h2:i<b.length:=by omega
  have ih:=bz.loop (k:=k) hk hl ha hr m j (i+1) (by omega) (by omega)
  rw[Int.natCast_succ]at ih
  rw[Pu.drop_cons h1 [],Pu.drop_cons h2 []]
  have hq:=bG.is (k:=k) (a:=a.getD i []) (b:=b.getD i []) (by omega) (by rw[Pu.aE h1];exact hr _ (List.getElem_mem h1))
  simp (disch:=omega) only[aG,nO,qB,lp,e9,fH,g7,lU,dU,g6,uY,hq,bO,Pu.w64,Int.toNat_natCast,decide_eq_true_eq,Int.ofNat_lt,h1,h2,if_true,Int.natCast_nonneg,decide_true,ih]
  by_cases e:a.getD i []=b.getD i []<;>simp only[e,List.cons.injEq,true_and,false_and,decide_false,decide_true,Bool.not_true,Bool.not_false,if_false,if_true,Bool.false_eq_true]
theorem bz.is{k:Nat}{a b:List (List Int)}(hk:4194304+2≤k)(ha:a.length≤1048576)(hr: ∀x∈a,x.length≤1048576):bz k a b=some (decide (a=b)):=by
 obtain⟨k,rfl⟩: ∃k',k=k'+1:=⟨k-1,by omega⟩
 rw[bz.eq]
 by_cases hl:a.length=b.length
 ·have h:=bz.loop (k:=k) (by omega) hl ha hr a.length k 0 (by omega) (by omega)
  rw[Int.natCast_zero]at h
  simp only[List.drop_zero]at h
  have hl':(a.length:Int)=b.length:=by omega
  simp only[aG,uY,wz,fH,e9,hl',decide_true,Bool.not_true,Bool.false_eq_true,if_false,h]
 ·have hne:a≠b:=fun e=>hl (by rw[e])
  have hl': ¬(a.length:Int)=b.length:=by omega
  simp[hl',hne]
theorem bP.is{k:Nat}{a b:List Int×List (List Int)}(hk:4194304+3≤k)(h1:a.1.length≤1048576)(ha:a.2.length≤1048576)(hr: ∀x∈a.2,x.length≤1048576):bP k a b=some (decide (a=b)):=by
 obtain⟨k,rfl⟩: ∃k',k=k'+1:=⟨k-1,by omega⟩
 obtain⟨a1,a2⟩:=a
 obtain⟨b1,b2⟩:=b
 rw[bP.eq,bG.is (by omega) h1,bO,bz.is (by omega) ha hr]
 by_cases e1:a1=b1<;>by_cases e2:a2=b2<;>simp[e1,e2]
theorem aT.loop{k:Nat}: ∀(m j i:Nat) (q:Int) (a:List Int),i+m=a.length→m<j→a.length≤1048576→0≤q→q+m≤4000000000000→aT.L0 k j q i a=some (q+m,a.take i++Pu.mark (a.drop i) q)
 |m,0,i,q,a,_,hj,_,_,_=>by omega
 |0,j+1,i,q,a,hi,_,_,_,_=>by
  rw[aT.cj]
  have e:i=a.length:=by omega
  subst e
  simp[Pu.mark]
 |m+1,j+1,i,q,a,hi,hj,ha,hq,hq2=>by
  rw[aT.cj]
  have h1:i<a.length:=by omega
  have ih:=aT.loop (k:=k) m j (i+1) (q+1) (a.set i q) (by simp;omega) (by omega) (by simpa using ha) (by omega) (by omega)
  rw[Int.natCast_succ]at ih
  have e1:(a.set i q).take (i+1)=a.take i++ [q]:=by
   rw[Pu.take_succ (by simpa using h1) 0,List.take_set_of_le (Nat.le_refl _)]
   simp[h1]
  have e2:(a.set i q).drop (i+1)=a.drop (i+1):=by rw[List.drop_set_of_lt (by omega)]
  rw[e1,e2]at ih
  rw[Pu.drop_cons h1 0]
  simp (disch:=omega) only[aG,nO,qB,lp,e9,fH,g7,rq,dU,g6,Pu.w64,Int.toNat_natCast,decide_eq_true_eq,Int.ofNat_lt,h1,if_true,Int.natCast_nonneg,decide_true,ih,Pu.mark]
  simp
  omega
theorem aT.is{k:Nat}{a:List Int}{q:Int}(hk:4194304+1≤k)(ha:a.length≤1048576)(hq:0≤q)(hq2:q+a.length≤4000000000000):aT k q a=some (q+a.length,Pu.mark a q):=by
 obtain⟨k,rfl⟩: ∃k',k=k'+1:=⟨k-1,by omega⟩
 rw[aT.eq]
 have h:=aT.loop (k:=k) a.length k 0 q a (by omega) (by omega) ha hq hq2
 rw[Int.natCast_zero]at h
 simpa using h
theorem az.inner{k k1 r:Nat}{x3 x4 x5 x6 x8 x11:Int}{x7:Bool}{x9 x10:Nat}: ∀(m j i:Nat) (q:Int) (a:List (List Int)),r<a.length→i+m=(a.getD r []).length→m<j→(a.getD r []).length≤1048576→0≤q→q+m≤4000000000000→0≤x4→x4≤4000000000000→
  az.L1 k k1 j r q i x3 x4 x5 x6 x7 x8 x9 x10 x11 a=az.L0 k k1 (q+m) (x4+1) (a.set r ((a.getD r []).take i++Pu.mark ((a.getD r []).drop i) q))
 |m,0,i,q,a,_,_,hj,_,_,_,_,_=>by omega
 |0,j+1,i,q,a,hr,hi,_,_,_,_,_,_=>by
  rw[az.fm]
  have e:i=(a.getD r []).length:=by omega
  have h1: ¬i<(a.getD r []).length:=by omega
  have e2:a.set r ((a.getD r []).take i++Pu.mark ((a.getD r []).drop i) q)=a:=by
   rw[e,List.take_length,List.drop_length]
   simp only[Pu.mark,List.append_nil]
   rw[Pu.aE hr,List.set_getElem_self]
  rw[e2]
  simp (disch:=omega) only[aG,nO,lp,e9,fH,lU,dU,g6,Pu.w64,decide_eq_true_eq,Int.ofNat_lt,hr,h1,if_true,if_false,decide_true]
  simp
 |m+1,j+1,i,q,a,hr,hi,hj,ha,hq,hq2,hx,hx2=>by
  rw[az.fm]
  have h1:i<(a.getD r []).length:=by omega
  have eg:(a.set r ((a.getD r []).set i q)).getD r []=(a.getD r []).set i q:=by
   rw[Pu.aE (by simpa using hr)];simp
  have ih:=az.inner (k:=k) (k1:=k1) (r:=r) (x3:=x3) (x4:=x4) (x5:=x5) (x6:=x6) (x7:=x7) (x8:=x8) (x9:=x9) (x10:=x10) (x11:=x11) m j (i+1) (q+1) (a.set r ((a.getD r []).set i q)) (by rw[List.length_set];exact hr) (by rw[eg,List.length_set];omega) (by omega) (by rw[eg,List.length_set];exact ha) (by omega) (by omega) hx hx2
  rw[eg,Int.natCast_succ,List.set_set]at ih
  have hl1:i<((a.getD r []).set i q).length:=by rw[List.length_set];exact h1
  have e1:((a.getD r []).set i q).take (i+1)=(a.getD r []).take i++ [q]:=by
   rw[Pu.take_succ hl1 0,List.take_set_of_le (Nat.le_refl _),Pu.aE hl1,List.getElem_set_self]
  have e2:((a.getD r []).set i q).drop (i+1)=(a.getD r []).drop (i+1):=by rw[List.drop_set_of_lt (by omega)]
  rw[e1,e2]at ih
  rw[Pu.drop_cons h1 0]
  simp (disch:=omega) only[aG,nO,qB,lp,e9,fH,g7,rq,lU,dU,g6,Pu.w64,Int.toNat_natCast,decide_eq_true_eq,Int.ofNat_lt,hr,h1,if_true,Int.natCast_nonneg,decide_true,ih,Pu.mark]
  simp only[List.append_assoc,List.singleton_append]
  congr 1
  omega
theorem az.loop{k:Nat}(hk:4194304≤k): ∀(m j i:Nat) (q:Int) (a:List (List Int)),i+m=a.length→m<j→a.length≤1048576→(∀x∈a,x.length≤1048576)→0≤q→q+Pu.dw (a.drop i)≤4000000000000→
  az.L0 k j q i a=some (q+Pu.dw (a.drop i),a.take i++Pu.g9 (a.drop i) q)
 |m,0,i,q,a,_,hj,_,_,_,_=>by omega
 |0,j+1,i,q,a,hi,_,_,_,_,_=>by
  rw[az.cj]
  have e:i=a.length:=by omega
  subst e
  simp[Pu.g9,Pu.dw]
 |m+1,j+1,i,q,a,hi,hj,ha,hr,hq,hq2=>by
  rw[az.cj]
  have h1:i<a.length:=by omega
  have hx:=hr a[i] (List.getElem_mem h1)
  rw[←Pu.aE h1 []]at hx
  rw[Pu.drop_cons h1 []]at hq2⊢
  simp only[Pu.dw]at hq2
  simp (disch:=omega) only[aG,nO,qB,lp,e9,fH,g7,lU,dU,g6,Pu.w64,Int.toNat_natCast,decide_eq_true_eq,Int.ofNat_lt,h1,if_true,Int.natCast_nonneg,decide_true,Pu.g9,Pu.dw]
  have hin:=fun(x7:Bool) (x6:Int)=>az.inner (k:=k) (k1:=j) (r:=i) (x3:=q) (x4:=i) (x5:=i) (x6:=x6) (x7:=x7) (x8:=i) (x9:=i) (x10:=i) (x11:=q) (a.getD i []).length k 0 q a h1 (by omega) (by omega) hx hq (by omega) (by omega) (by omega)
  simp only[Int.natCast_zero]at hin
  rw[hin]
  have ih:=az.loop (k:=k) hk m j (i+1) (q+(a.getD i []).length) (a.set i (Pu.mark (a.getD i []) q)) (by simp;omega) (by omega) (by simpa using ha) (fun x hx'=>by
    rcases List.mem_or_eq_of_mem_set hx' with h|rfl
    ·exact hr x h
    ·rw[Pu.kt];exact hx) (by omega) (by rw[List.drop_set_of_lt (by omega)];omega)
  have e1:(a.set i (Pu.mark (a.getD i []) q)).take (i+1)=a.take i++ [Pu.mark (a.getD i []) q]:=by
   rw[Pu.take_succ (by simpa using h1) [],List.take_set_of_le (Nat.le_refl _),Pu.aE (by simpa using h1)]
   simp
  rw[e1,List.drop_set_of_lt (by omega),Int.natCast_succ]at ih
  simp only[List.take_zero,List.drop_zero,List.nil_append]
  rw[ih]
  simp
  omega
theorem az.is{k:Nat}{a:List (List Int)}{q:Int}(hk:4194304+2≤k)(ha:a.length≤1048576)(hr: ∀x∈a,x.length≤1048576)(hq:0≤q)(hq2:q+Pu.dw a≤4000000000000):az k q a=some (q+Pu.dw a,Pu.g9 a q):=by
 obtain⟨k,rfl⟩: ∃k',k=k'+2:=⟨k-2,by omega⟩
 rw[az.eq]
 have h:=az.loop (k:=k) (by omega) a.length (k+1) 0 q a (by omega) (by omega) ha hr hq hq2
 rw[Int.natCast_zero]at h
 simpa using h
theorem bp.is{k:Nat}{a:List Int}{b:List (List Int)}{q:Int}(hk:4194304+3≤k)(h1:a.length≤1048576)(ha:b.length≤1048576)(hr: ∀x∈b,x.length≤1048576)(hq:0≤q)(hq2:q+a.length+Pu.dw b≤4000000000000):
  bp k q a b=some (q+a.length+Pu.dw b,(Pu.mark a q,Pu.g9 b (q+a.length))):=by
 obtain⟨k,rfl⟩: ∃k',k=k'+1:=⟨k-1,by omega⟩
 rw[bp.eq,aT.is (by omega) h1 hq (by omega),bO,az.is (by omega) ha hr (by omega) (by omega)]
 rfl
theorem bh.loop{k:Nat}{a:List Int}(ha:a.length≤1048576): ∀(m j i:Nat) (q:Int),i+m=a.length→m<j→0≤q→q+m≤4000000000000→bh.L0 k j q i a=some (Pu.held (a.drop i) q)
 |m,0,i,q,_,hj,_,_=>by omega
 |0,j+1,i,q,hi,_,_,_=>by
  rw[bh.cj]
  have e:i=a.length:=by omega
  subst e
  simp[Pu.held]
 |m+1,j+1,i,q,hi,hj,hq,hq2=>by
  rw[bh.cj]
  have h1:i<a.length:=by omega
  have ih:=bh.loop (k:=k) ha m j (i+1) (q+1) (by omega) (by omega) (by omega) (by omega)
  rw[Int.natCast_succ]at ih
  rw[Pu.drop_cons h1 0]
  simp (disch:=omega) only[aG,nO,qB,lp,e9,fH,g7,lU,dU,g6,uY,wz,Pu.w64,Int.toNat_natCast,decide_eq_true_eq,Int.ofNat_lt,h1,if_true,Int.natCast_nonneg,decide_true,Pu.held,ih]
  by_cases e:a.getD i 0=q<;>simp only[e,decide_true,decide_false,Bool.not_false,Bool.not_true,if_true,if_false,Bool.false_eq_true]
theorem bh.is{k:Nat}{a:List Int}{q:Int}(hk:4194304+1≤k)(ha:a.length≤1048576)(hq:0≤q)(hq2:q+a.length≤4000000000000):bh k a q=some (Pu.held a q):=by
 obtain⟨k,rfl⟩: ∃k',k=k'+1:=⟨k-1,by omega⟩
 rw[bh.eq]
 have h:=bh.loop (k:=k) ha a.length k 0 q (by omega) (by omega) hq hq2
 rw[Int.natCast_zero]at h
 exact h
theorem bj.loop{k:Nat}{a:List (List Int)}(hk:4194304+1≤k)(ha:a.length≤1048576)(hr: ∀x∈a,x.length≤1048576): ∀(m j i:Nat) (q:Int),i+m=a.length→m<j→0≤q→q+Pu.dw (a.drop i)≤4000000000000→bj.L0 k j q i a=some (Pu.iG (a.drop i) q)
 |m,0,i,q,_,hj,_,_=>by omega
 |0,j+1,i,q,hi,_,_,_=>by
  rw[bj.cj]
  have e:i=a.length:=by omega
  subst e
  simp[Pu.iG]
 |m+1,j+1,i,q,hi,hj,hq,hq2=>by
  rw[bj.cj]
  have h1:i<a.length:=by omega
  rw[Pu.drop_cons h1 []]at hq2⊢
  simp only[Pu.dw]at hq2
  have hx:=hr a[i] (List.getElem_mem h1)
  rw[←Pu.aE h1 []]at hx
  have hh:=bh.is (k:=k) (a:=a.getD i []) (q:=q) (by omega) hx hq (by omega)
  simp (disch:=omega) only[aG,nO,qB,lp,e9,fH,g7,lU,dU,g6,uY,wz,Pu.w64,Int.toNat_natCast,decide_eq_true_eq,Int.ofNat_lt,h1,if_true,Int.natCast_nonneg,decide_true,Pu.iG,hh,bO]
  by_cases e:Pu.held (a.getD i []) q<0
  ·simp only[e,if_true]
  ·have hle:=Pu.ud (a.getD i []) q hq
   have ih:=bj.loop (k:=k) hk ha hr m j (i+1) (Pu.held (a.getD i []) q) (by omega) (by omega) (by omega) (by omega)
   rw[Int.natCast_succ]at ih
   simp only[e,if_false,ih]
theorem bj.is{k:Nat}{a:List (List Int)}{q:Int}(hk:4194304+2≤k)(ha:a.length≤1048576)(hr: ∀x∈a,x.length≤1048576)(hq:0≤q)(hq2:q+Pu.dw a≤4000000000000):bj k a q=some (Pu.iG a q):=by
 obtain⟨k,rfl⟩: ∃k',k=k'+1:=⟨k-1,by omega⟩
 rw[bj.eq]
 have h:=bj.loop (k:=k) (by omega) ha hr a.length k 0 q (by omega) (by omega) hq hq2
 rw[Int.natCast_zero]at h
 exact h
theorem ct.is{k:Nat}{a:List Int×List (List Int)}{q:Int}(hk:4194304+3≤k)(h1:a.1.length≤1048576)(ha:a.2.length≤1048576)(hr: ∀x∈a.2,x.length≤1048576)(hq:0≤q)(hq2:q+a.1.length+Pu.dw a.2≤4000000000000):
  ct k a q=some (Pu.iG (a.1::a.2) q):=by
 obtain⟨k,rfl⟩: ∃k',k=k'+1:=⟨k-1,by omega⟩
 rw[ct.eq,bh.is (by omega) h1 hq (by omega),bO]
 simp only[Pu.iG,aG,nO,decide_eq_true_eq]
 by_cases e:Pu.held a.1 q<0
 ·simp only[e,if_true]
 ·have hle:=Pu.ud a.1 q hq
  simp only[e,if_false]
  rw[bj.is (by omega) ha hr (by omega) (by omega),bO]
  by_cases e2:Pu.iG a.2 (Pu.held a.1 q)<0
  ·rw[if_pos e2]
   congr 1
   exact(Pu.sX _ _ (by omega) e2).symm
  ·rw[if_neg e2]
theorem ao.is{p q:Pu.Tab}(h1:p.1.length≤maxLen)(h2:p.2.length≤maxLen)(h3: ∀r∈p.2,r.length≤maxLen)(g1:q.1.length≤maxLen)(g2:q.2.length≤maxLen)(g3: ∀r∈q.2,r.length≤maxLen): ∃k,ao k p q=some true:=by
 refine⟨4194304+80+1,?_⟩
 generalize hkk:(4194304+80:Nat)=k
 have hk:4194304+80≤k:=by omega
 clear hkk
 rw[ao.eq]
 obtain⟨r,hr0,hr1⟩:=cz.is (k:=k) (a:=p) (b:=1048576) (by omega) h1 h2 h3 (by omega) (by omega)
 rw[show((p.1,p.2):Pu.Tab)=p from rfl,show((q.1,q.2):Pu.Tab)=q from rfl]
 refine Pu.bE hr0 ?_
 by_cases c:r<0
 ·exact Pu.tG c rfl
 ·obtain⟨s0,s1,s2,s3⟩:=hr1 (by omega)
  have hp:Pu.lu p:=⟨by omega,by omega,fun y hy=>by have:=s3 y hy;omega⟩
  obtain⟨r',hq0,hq1⟩:=cz.is (k:=k) (a:=q) (b:=r) (by omega) g1 g2 g3 (by omega) (by omega)
  refine Pu.tX c (Pu.bE hq0 ?_)
  by_cases c2:r'<0
  ·exact Pu.tG c2 rfl
  ·obtain⟨t0,t1,t2,t3⟩:=hq1 (by omega)
   have hq:Pu.lu q:=⟨by omega,by omega,fun y hy=>by have:=t3 y hy;omega⟩
   have hto1:=bw.is (k:=k) (a:=p) (by omega) hp.1 hp.2.1 hp.2.2
   have hto2:=bw.is (k:=k) (a:=q) (by omega) hq.1 hq.2.1 hq.2.2
   have hs1:=Pu.oK hp.2.1 hp.2.2
   have hs2:=Pu.oK hq.2.1 hq.2.2
   have hmk1:=bp.is (k:=k) (a:=p.1) (b:=p.2) (q:=1) (by omega) hp.1 hp.2.1 hp.2.2 (by omega) (by omega)
   have hmk2:=bp.is (k:=k) (a:=q.1) (b:=q.2) (q:=1+p.1.length+Pu.dw p.2) (by omega) hq.1 hq.2.1 hq.2.2 (by omega) (by omega)
   have he1:=bP.is (k:=k) (a:=p) (b:=p) (by omega) hp.1 hp.2.1 hp.2.2
   have he2:=bP.is (k:=k) (a:=q) (b:=q) (by omega) hq.1 hq.2.1 hq.2.2
   rw[decide_eq_true rfl]at he1 he2
   have n1: ¬((1:Int)+p.1.length+Pu.dw p.2+q.1.length+Pu.dw q.2<0):=by omega
   have hsp:=ai.is (k:=k) (a:=p) (b:=q) (by omega) hp hq
   have him:=aM.is (k:=k) (a:=p) (b:=q) (by omega) hp hq
   have hg:=Pu.yq (a:=p) (b:=q)
   generalize Pu.eR p q=G at*
   obtain⟨g,b⟩:=G
   have hg1:g.1.length≤1048576:=hg.1
   have hgs:=Pu.oK hg.2.1 hg.2.2
   simp only at hgs
   have heg:=bP.is (k:=k) (a:=g) (b:=g) (by omega) hg.1 hg.2.1 hg.2.2
   rw[decide_eq_true rfl]at heg
   have hmg:=bp.is (k:=k) (a:=g.1) (b:=g.2) (q:=1) (by omega) hg.1 hg.2.1 hg.2.2 (by omega) (by omega)
   have hhg:=ct.is (k:=k) (a:=(Pu.mark g.1 1,Pu.g9 g.2 (1+g.1.length))) (q:=1) (by omega) (by simp only[Pu.kt];exact hg.1) (by simp only[Pu.sN];exact hg.2.1) (Pu.xP hg.2.2) (by omega)
    (by simp only[Pu.kt,Pu.qS];omega)
   have hv:Pu.iG (Pu.mark g.1 1::Pu.g9 g.2 (1+g.1.length)) 1=1+g.1.length+Pu.dw g.2:=by
    simp only[Pu.iG]
    rw[Pu.om,if_neg (by omega),Pu.rV _ _ (by omega)]
   simp only[hv]at hhg
   have n2: ¬(1+(g.1.length:Int)+Pu.dw g.2<0):=by omega
   have hJ2:ao.J2 k (1+(g.1.length:Int)+Pu.dw g.2) (Pu.mark g.1 1) (Pu.g9 g.2 (1+g.1.length))=some true:=by
    rw[ao.qo]
    exact Pu.bE hhg (Pu.tX n2 (Pu.tE rfl rfl))
   have hJ1:ao.J1 k b p.1 p.2 q.1 q.2 g.1 g.2 g.1 g.2=some true:=by
    rw[ao.kq]
    exact Pu.bE hmg (Pu.bE hhg (Pu.tX n2 (Pu.tE rfl (Pu.bE hto1 (Pu.bE hto2 (Pu.bE him (Pu.bE heg (Pu.tN (Pu.tB hJ2)))))))))
   have hJ0:ao.J0 k b b p.1 p.2 q.1 q.2 g.1 g.2 p.1 p.2 q.1 q.2 g.1 g.2=some true:=by
    rw[ao.fP]
    exact Pu.bE hto1 (Pu.bE he1 (Pu.tN (Pu.bE hto2 (Pu.bE he2 (Pu.tN (Pu.bE hmk1 (Pu.bE hmk2 (Pu.tX n1 (Pu.bE heg (Pu.tN (Pu.tB hJ1)))))))))))
   exact Pu.tX c2 (Pu.bE hto1 (Pu.bE hto2 (Pu.bE hsp (Pu.bE hto1 (Pu.bE hto2 (Pu.bE him (Pu.bE heg (Pu.tN (Pu.tB hJ0)))))))))
end Go.Am.Seat
