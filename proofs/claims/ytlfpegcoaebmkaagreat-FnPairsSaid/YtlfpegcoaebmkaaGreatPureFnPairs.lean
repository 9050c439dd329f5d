/- What the functions make of data, as plain words; each holds for all data within the bounds that it names. -/
import Derived.Test.YtlfpegcoaebmkaaGreatEqsFnPairs
import Derived.Test.YtlfpegcoaebmkaaGreatPu
set_option linter.unusedSimpArgs false
set_option linter.unusedVariables false
set_option linter.unnecessarySimpa false
set_option linter.unusedSectionVars false
namespace Go.Am.Seat
open Go Go.Am Go.Am.Pu
attribute [local instance] D.real
set_option linter.unusedSimpArgs false
set_option linter.unusedVariables false
set_option maxRecDepth 4000
theorem mG.is{k:Nat}{p:List Int}(hk:1≤k):mG k p=some (decide ((1048576:Int)<p.length)):=by
 obtain⟨k,rfl⟩: ∃k',k=k'+1:=⟨k-1,by omega⟩
 rw[mG.eq]
 rfl
theorem cx.is{k:Nat}{i h:Int}{b:List Int}(hk:1≤k)(hb:b.length≤1048576)(hi:0≤i)(hi':i≤b.length):
  ∃r i' h',cx k i h b=some (r,((),(i',h')))∧0≤r∧r≤255∧0≤i'∧i'≤b.length:=by
 obtain⟨k,rfl⟩: ∃k',k=k'+1:=⟨k-1,by omega⟩
 rw[cx.eq]
 have e33:(0:Int)≤33:=by decide
 have e45:(0:Int)≤45:=by decide
 by_cases hlt:i<b.length
 ·have hn:i.toNat<b.length:=by omega
  have ew:IntKind.i64.wrap (i+1)=i+1:=Pu.w64 (by omega) (by omega)
  refine⟨_,i+1,_,by simp only[↓aq,sss,if_true,if_false,e33,e45,hlt,hi,hn,ew];rfl,(Pu.yd _).1,(Pu.yd _).2,?_,?_⟩
  ·omega
  ·omega
 ·exact⟨_,_,_,by simp only[↓aq,sss,if_true,if_false,e33,e45,hlt];rfl,(Pu.yd _).1,(Pu.yd _).2,hi,hi'⟩
theorem az.is{k:Nat}{n i h:Int}{b:List Int}(hk:2≤k)(hb:b.length≤1048576)(hi:0≤i)(hi':i≤b.length)(hn:n≤256):
  ∃r i' h',az k n i h b=some (r,((),(i',h')))∧0≤r∧(n≤0→r=0)∧(0<n→r<n)∧0≤i'∧i'≤b.length:=by
 obtain⟨k,rfl⟩: ∃k',k=k'+1:=⟨k-1,by omega⟩
 rw[az.eq]
 by_cases h0:n≤0
 ·exact⟨0,i,h,by simp only[↓aq,sss,if_true,if_false,h0],by omega,fun _=>rfl,fun h=>by omega,hi,hi'⟩
 ·obtain⟨r,i',h',e,h1,h2,h3,h4⟩:=cx.is (k:=k) (h:=h) (b:=b) (by omega) hb hi hi'
  have hne: ¬n=0:=by omega
  refine⟨r.tmod n,i',h',by simp only[↓aq,sss,if_true,if_false,h0,hn,e,hne];rfl,Int.tmod_nonneg _ h1,fun h=>by omega,fun _=>Int.tmod_lt_of_pos _ (by omega),h3,h4⟩
theorem az.isB{k:Nat}{n i h:Int}{b:List Int}(hk:2≤k)(hb:b.length≤1048576)(hi:0≤i)(hi':i≤b.length)(hn:n≤1000000):
  ∃r i' h',az k n i h b=some (r,((),(i',h')))∧0≤r∧(0<n→r<n)∧0≤i'∧i'≤b.length:=by
 by_cases h256:n≤256
 ·obtain⟨r,i',h',e,a,_,c,d⟩:=az.is (k:=k) (n:=n) (h:=h) (b:=b) hk hb hi hi' h256
  exact⟨r,i',h',e,a,c,d⟩
 ·obtain⟨k,rfl⟩: ∃k',k=k'+1:=⟨k-1,by omega⟩
  rw[az.eq]
  obtain⟨x,i1,h1,e1,x1,x2,x3,x4⟩:=cx.is (k:=k) (h:=h) (b:=b) (by omega) hb hi hi'
  obtain⟨y,i2,h2,e2,y1,y2,y3,y4⟩:=cx.is (k:=k) (h:=h1) (b:=b) (by omega) hb x3 x4
  obtain⟨z,i3,h3,e3,z1,z2,z3,z4⟩:=cx.is (k:=k) (h:=h2) (b:=b) (by omega) hb y3 y4
  obtain⟨w,i4,h4,e4,w1,w2,w3,w4⟩:=cx.is (k:=k) (h:=h3) (b:=b) (by omega) hb z3 z4
  have hne: ¬n=0:=by omega
  have h0: ¬n≤0:=by omega
  refine⟨(x*16777216+y*65536+z*256+w).tmod n,i4,h4,?_,Int.tmod_nonneg _ (by omega),fun _=>Int.tmod_lt_of_pos _ (by omega),w3,w4⟩
  have q1:IntKind.i64.wrap (x*16777216)=x*16777216:=Pu.w64 (by omega) (by omega)
  have q2:IntKind.i64.wrap (y*65536)=y*65536:=Pu.w64 (by omega) (by omega)
  have q3:IntKind.i64.wrap (z*256)=z*256:=Pu.w64 (by omega) (by omega)
  have q4:IntKind.i64.wrap (x*16777216+y*65536)=x*16777216+y*65536:=Pu.w64 (by omega) (by omega)
  have q5:IntKind.i64.wrap (x*16777216+y*65536+z*256)=x*16777216+y*65536+z*256:=Pu.w64 (by omega) (by omega)
  have q6:IntKind.i64.wrap (x*16777216+y*65536+z*256+w)=x*16777216+y*65536+z*256+w:=Pu.w64 (by omega) (by omega)
  simp only[eB,↓aq,sss,if_true,if_false,h0,h256,e1,e2,e3,e4,hne,q1,q2,q3,q4,q5,q6]
  rfl
theorem gz.is{k:Nat}{a b:Int}(hk:1≤k):gz k a b=some (min a b):=by
 obtain⟨k,rfl⟩: ∃k',k=k'+1:=⟨k-1,by omega⟩
 rw[gz.eq]
 by_cases h:a<b
 ·simp only[↓aq,sss,if_true,if_false,h];congr 1;omega
 ·simp only[↓aq,sss,if_true,if_false,h];congr 1;omega
theorem cm.inner{k k1:Nat}{n p:Int}{r:List (List Int)}(hr: ∀x∈r,x.length≤1000)(hp:1≤p∧p≤1000)(hlen:r.length≤1000): ∀(m j i:Nat) (acc:List (List Int)),i+m=r.length→m<j→acc.length+m≤100000→
  cm.L1 k k1 j n p i acc r=cm.L0 k k1 n (p-1) (acc++(r.drop i).map (p:: ·))
 |m,0,i,acc,_,hj,_=>by omega
 |0,j+1,i,acc,hi,_,_=>by
  rw[cm.dZ]
  have e:i=r.length:=by omega
  subst e
  have ew:IntKind.i64.wrap (p-1)=p-1:=Pu.w64 (by omega) (by omega)
  simp[ew]
 |m+1,j+1,i,acc,hi,hj,ha=>by
  rw[cm.dZ]
  have hlt:i<r.length:=by omega
  have hx:(r.getD i []).length≤1000:=by rw[Pu.aw hlt []];exact hr _ (List.getElem_mem hlt)
  have ih:=cm.inner (k:=k) (k1:=k1) (n:=n) hr hp hlen m j (i+1) (acc++ [p::r.getD i []]) (by omega) (by omega) (by rw[List.length_append];simp;omega)
  rw[Int.natCast_succ]at ih
  rw[Pu.drop_cons hlt []]
  have l1:(p::r.getD i []).length≤1099511627776:=by rw[List.length_cons];omega
  have l2:(acc++ [p::r.getD i []]).length≤1099511627776:=by rw[List.length_append];simp;omega
  simp (disch:=omega) only[↓aq,sss,if_true,if_false,hlt,l1,l2,List.cons_append,List.nil_append,ih,List.map_cons,List.append_assoc]
theorem cm.isP(n:Nat): ∀(k:Nat) (m:Int),n≤9→4194304+n+2≤k→1≤m→m≤1000→
  ∃L,cm k n m=some L∧1≤L.length∧L.length≤Pu.yh n∧ ∀x∈L,Pu.DY n m x:=by
 induction n using Nat.strongRecOn with
 |ind n IH=>
 intro k m hn hk hm hm'
 obtain⟨k,rfl⟩: ∃k',k=k'+1:=⟨k-1,by omega⟩
 rw[cm.eq]
 by_cases h0:n=0
 ·subst h0
  refine⟨[[]],by simp,by simp,by simp[Pu.yh],fun x hx=> ?_⟩
  simp only[List.mem_singleton]at hx
  subst hx
  exact⟨⟨by simp,fun y hy=>by cases hy⟩,fun s _ _=>rfl,rfl⟩
 ·have hne: ¬(n:Int)=0:=by omega
  simp only[↓aq,sss,if_true,if_false,hne]
  rw[gz.is (by omega),bU]
  have loop: ∀(p j:Nat) (acc:List (List Int)),p≤n→(p:Int)≤m→p<j→acc.length+Pu.Br n p≤512→(∀x∈acc,Pu.DY n m x)→
    ∃L,cm.L0 k j n p acc=some L∧acc.length+min p 1≤L.length∧L.length≤acc.length+Pu.Br n p∧ ∀x∈L,Pu.DY n m x:=by
   intro p
   induction p with
   |zero=>
    intro j acc _ _ hj ha hg
    obtain⟨j,rfl⟩: ∃j',j=j'+1:=⟨j-1,by omega⟩
    rw[cm.bh]
    exact⟨acc,by simp,by simp,by simp,hg⟩
   |succ p ihp=>
    intro j acc hp hpm hj ha hg
    obtain⟨j,rfl⟩: ∃j',j=j'+1:=⟨j-1,by omega⟩
    rw[cm.bh]
    have ew:IntKind.i64.wrap ((n:Int)-((p+1:Nat):Int))=((n-(p+1):Nat):Int):=by
     rw[Pu.w64 (by omega) (by omega)];omega
    obtain⟨R,hR,r1,r2,r3⟩:=IH (n-(p+1)) (by omega) k ((p+1:Nat):Int) (by omega) (by omega) (by omega) (by omega)
    have h1:(1:Int)≤((p+1:Nat):Int):=by omega
    have ha':acc.length+(Pu.yh (n-(p+1))+Pu.Br n p)≤512:=ha
    have hin:=cm.inner (k:=k) (k1:=j) (n:=n) (p:=((p+1:Nat):Int)) (r:=R) (fun x hx=>by have:=(r3 x hx).1.1;omega) ⟨h1,by omega⟩ (by omega) R.length k 0 acc (by omega) (by omega) (by omega)
    rw[Int.natCast_zero,List.drop_zero,show((p+1:Nat):Int)-1=(p:Int) by omega]at hin
    simp only[↓aq,sss,if_true,if_false,h1,ew,hR]
    rw[hin]
    obtain⟨L,hL,l1,l2,l3⟩:=ihp j (acc++R.map (((p+1:Nat):Int):: ·)) (by omega) (by omega) (by omega) (by rw[List.length_append,List.length_map];omega) (fun x hx=>by
     rcases List.mem_append.1 hx with h|h
     ·exact hg x h
     ·obtain⟨y,hy,rfl⟩:=List.mem_map.1 h
      obtain⟨⟨q1,q2⟩,q3,q4⟩:=r3 y hy
      refine⟨⟨by rw[List.length_cons];omega,fun z hz=> ?_⟩,fun s hs hs9=> ?_,?_⟩
      ·rcases List.mem_cons.1 hz with rfl|hz
       ·omega
       ·exact q2 z hz
      ·simp only[Pu.gE,Bool.and_eq_true,decide_eq_true_eq]
       exact⟨by omega,hpm,by omega,q3 _ (by omega) (by omega)⟩
      ·simp only[Pu.dm,q4];omega)
    rw[List.length_append,List.length_map]at l1 l2
    refine⟨L,hL,by omega,?_,l3⟩
    show L.length≤acc.length+(Pu.yh (n-(p+1))+Pu.Br n p)
    omega
  have hS:=fun p hp=>Pu.Fc (n:=n) (p:=p) hn (by omega) hp
  have hB:=Pu.BM hn
  obtain⟨p,hp⟩: ∃p:Nat,min (n:Int) m=p:=⟨(min (n:Int) m).toNat,by omega⟩
  rw[hp]
  obtain⟨L,hL,l1,l2,l3⟩:=loop p k [] (by omega) (by omega) (by omega) (by have:=hS p (by omega);simp;omega) (fun x hx=>by cases hx)
  have:=hS p (by omega)
  simp only[List.length_nil,Nat.zero_add]at l1 l2
  exact⟨L,hL,by omega,by omega,l3⟩
theorem cj.isP{k:Nat}{m i h:Int}{b:List Int}(hk:4194304+12≤k)(hb:b.length≤1048576)(hi:0≤i)(hi':i≤b.length)(hm:1≤m)(hm':m≤9):
  ∃p i' h',cj k m i h b=some (p,((),(i',h')))∧(Pu.nu 9 p∧Pu.bK p=true∧Pu.dm p≤m)∧0≤i'∧i'≤b.length:=by
 obtain⟨k,rfl⟩: ∃k',k=k'+1:=⟨k-1,by omega⟩
 rw[cj.eq]
 have ew:IntKind.i64.wrap (m+1)=m+1:=Pu.w64 (by omega) (by omega)
 obtain⟨r,i1,h1,e1,a1,a2,a3,a4,a5⟩:=az.is (k:=k) (n:=m+1) (h:=h) (b:=b) (by omega) hb hi hi' (by omega)
 have a3:=a3 (by omega)
 obtain⟨n,rfl⟩: ∃n:Nat,r=n:=⟨r.toNat,by omega⟩
 obtain⟨L,eL,c1,c2,c3⟩:=cm.isP n k m (by omega) (by omega) hm (by omega)
 have:=Pu.BM (n:=n) (by omega)
 obtain⟨q,i2,h2,e2,b1,b2,b3,b4,b5⟩:=az.is (k:=k) (n:=L.length) (h:=h1) (b:=b) (by omega) hb a4 a5 (by omega)
 have b3:=b3 (by omega)
 have hn:q.toNat<L.length:=by omega
 refine⟨L.getD q.toNat [],i2,h2,?_,?_,b4,b5⟩
 ·simp only[↓aq,sss,if_true,if_false,ew,e1,eL,e2,b1,hn]
 ·rw[Pu.aw hn []]
  obtain⟨⟨d1,d2⟩,d3,d4⟩:=c3 _ (List.getElem_mem hn)
  exact⟨⟨by omega,d2⟩,Pu.Ay _ hm' (d3 0 (by omega) (by omega)),by omega⟩
theorem cj.is{k:Nat}{m i h:Int}{b:List Int}(hk:4194304+12≤k)(hb:b.length≤1048576)(hi:0≤i)(hi':i≤b.length)(hm:1≤m)(hm':m≤9):
  ∃p i' h',cj k m i h b=some (p,((),(i',h')))∧Pu.nu 9 p∧0≤i'∧i'≤b.length:=by
 obtain⟨p,i',h',a,c,d⟩:=cj.isP (k:=k) (h:=h) hk hb hi hi' hm hm'
 exact⟨p,i',h',a,c.1,d⟩
theorem cQ.is{k:Nat}{p:List Int}{i:Int}(hk:1≤k):cQ k p i=some (Pu.atI p i):=by
 obtain⟨k,rfl⟩: ∃k',k=k'+1:=⟨k-1,by omega⟩
 rw[cQ.eq,cQ.fM]
 by_cases h1:i<0
 ·simp only[↓aq,sss,if_true,if_false,h1,Pu.pH h1]
 ·by_cases h2:(p.length:Int)≤i
  ·simp only[↓aq,sss,if_true,if_false,h1,h2,Pu.Bu h2]
  ·have h3:0≤i:=by omega
   have h4:i.toNat<p.length:=by omega
   simp only[↓aq,sss,if_true,if_false,h1,h2,h3,h4,Pu.atI]
theorem bN.is{k:Nat}{t:Pu.Tab}{r c:Int}(hk:2≤k)(hi:Pu.bK t.1=true)(h1: -1000000000≤c)(h2:c≤1000000000):bN k t r c=some (Pu.entry t r c):=by
 obtain⟨k,rfl⟩: ∃k',k=k'+1:=⟨k-1,by omega⟩
 have hb:=Pu.iC hi r
 rw[bN.eq,bN.fM,cQ.is (by omega)]
 unfold Pu.entry
 by_cases c1:r<0
 ·simp only[↓aq,sss,if_true,if_false,c1]
 ·by_cases c2:(t.2.length:Int)≤r
  ·simp only[↓aq,sss,if_true,if_false,c1,c2]
  ·have c3:0≤r:=by omega
   have c4:r.toNat<t.2.length:=by omega
   simp (disch:=omega) only[↓aq,sss,if_true,if_false,c1,c2,c3,c4]
   by_cases d1:c-Pu.atI t.1 r<0
   ·simp only[↓aq,sss,if_true,if_false,d1,Pu.pH d1]
   ·by_cases d2:((t.2.getD r.toNat []).length:Int)≤c-Pu.atI t.1 r
    ·simp only[↓aq,sss,if_true,if_false,d1,d2,Pu.Bu d2]
    ·have d3:0≤c-Pu.atI t.1 r:=by omega
     have d4:(c-Pu.atI t.1 r).toNat<(t.2.getD r.toNat []).length:=by omega
     rw[bN.dR]
     generalize c-Pu.atI t.1 r=z at*
     simp only[↓aq,sss,if_true,if_false,c3,c4,d1,d2,d3,d4,Pu.atI]
theorem j5.is{k:Nat}{a b:Int}(hk:1≤k):j5 k a b=some (max a b):=by
 obtain⟨k,rfl⟩: ∃k',k=k'+1:=⟨k-1,by omega⟩
 rw[j5.eq]
 by_cases h:b<a
 ·simp only[↓aq,sss,if_true,if_false,h];congr 1;omega
 ·simp only[↓aq,sss,if_true,if_false,h];congr 1;omega
theorem bF.is{k:Nat}{n i h:Int}{b:List Int}(hk:3≤k)(hb:b.length≤1048576)(hi:0≤i)(hi':i≤b.length)(hn:n≤256):
  ∃r i' h',bF k n i h b=some (r,((),(i',h')))∧0≤i'∧i'≤b.length:=by
 obtain⟨k,rfl⟩: ∃k',k=k'+1:=⟨k-1,by omega⟩
 rw[bF.eq]
 obtain⟨r,i',h',e,h1,h2,h3,h4,h5⟩:=az.is (k:=k) (h:=h) (b:=b) (by omega) hb hi hi' hn
 rw[e]
 exact⟨_,_,_,rfl,h4,h5⟩
theorem fK.is{k:Nat}{b:Bool}(hk:1≤k):fK k b=some (if b=true then 1 else 0):=by
 obtain⟨k,rfl⟩: ∃k',k=k'+1:=⟨k-1,by omega⟩
 rw[fK.eq]
 cases b<;>rfl
theorem bN.ok{k:Nat}{t:Pu.Tab}{r c:Int}(hk:2≤k):Pu.Ok (bN k t r c) fun _=>True:=by
 obtain⟨k,rfl⟩: ∃k',k=k'+1:=⟨k-1,by omega⟩
 rw[bN.eq,bN.fM]
 simp only[gB,fZ,dP,dX,ed,cy,cK,cS,fe,dB,dD,cO,cP,dL,bZ,cZ,dw,eB,fT,fX,dY,dW,cX,cY,cl,cu,List.nil_append,List.cons_append]
 refine Pu.Ok.t (fun _=>Pu.Ok.ret trivial) (fun c1=>Pu.Ok.t (fun _=>Pu.Ok.ret trivial) (fun c2=> ?_))
 refine Pu.Ok.gX (cQ.is (by omega)) ?_
 generalize IntKind.i64.wrap (c-Pu.atI t.1 r)=z
 refine Pu.Ok.t (fun _=>Pu.Ok.ret trivial) (fun d1=> ?_)
 (repeat (refine Pu.Ok.g (by first|omega|assumption|(simp only[List.length_append,List.length_cons,List.length_nil,List.length_set,List.length_take,List.length_drop,List.length_replicate]at*;omega)) ?_))
 refine Pu.Ok.t (fun _=>Pu.Ok.ret trivial) (fun d2=> ?_)
 rw[bN.dR]
 simp only[gB,fZ,dP,dX,ed,cy,cK,cS,fe,dB,dD,cO,cP,dL,bZ,cZ,dw,eB,fT,fX,dY,dW,cX,cY,cl,cu,List.nil_append,List.cons_append]
 (repeat (refine Pu.Ok.g (by first|omega|assumption|(simp only[List.length_append,List.length_cons,List.length_nil,List.length_set,List.length_take,List.length_drop,List.length_replicate]at*;omega)) ?_))
 exact Pu.Ok.ret trivial
theorem aM.inner{k k1:Nat}{b o g p1:List Int}{i:Nat}{c:List Int}{d:List (List Int)}{rs:List (List Int)}(hk:4194304≤k)(hb:b.length≤1048576)(ho:Pu.nu 9 o)(hi:i<o.length)(hrs:rs.length≤9)
  (key: ∀(p h:Int) (row:List Int),0≤p→p≤b.length→row.length≤9→Pu.Ok (aM.L0 k k1 ((i:Int)+1) p h o p1 b c d g (rs++ [row])) fun r=>r.1.1=g∧Pu.cI 9 9 r.1.2∧0≤r.2.2.1∧r.2.2.1≤b.length):
  ∀(m j:Nat) (x low p h:Int) (row:List Int),(9-x).toNat≤m→m<j→0≤p→p≤b.length→0≤x→(row.length:Int)≤x→row.length≤9→
  Pu.Ok (aM.L1 k k1 j i low x p h row o p1 b c d g rs) fun r=>r.1.1=g∧Pu.cI 9 9 r.1.2∧0≤r.2.2.1∧r.2.2.1≤b.length
 |m,0,x,low,p,h,row,_,hj,_,_,_,_,_=>by omega
 |m,j+1,x,low,p,h,row,hi,hj,h0,h1,h2,h3,h4=>by
  rw[aM.dZ]
  simp only[gB,fZ,dP,dX,ed,cy,cK,cS,fe,dB,dD,cO,cP,dL,bZ,cZ,dw,eB,fT,fX,dY,dW,cX,cY,cl,cu,List.nil_append,List.cons_append]
  (repeat (refine Pu.Ok.g (by first|omega|assumption|(simp only[List.length_append,List.length_cons,List.length_nil,List.length_set,List.length_take,List.length_drop,List.length_replicate]at*;omega)) ?_))
  have hlt:i<o.length:=by omega
  have hx:=ho.2 _ (List.getElem_mem hlt)
  rw[←Pu.aw hlt 0]at hx
  have h9:=ho.1
  (try simp only[Int.toNat_natCast]);(try simp (disch:=omega) only[Pu.w64])
  refine Pu.Ok.t (fun hz=> ?_) (fun hz=> ?_)
  ·refine Pu.Ok.bnd (bN.ok (by omega)) fun r1 _=> ?_
   refine Pu.Ok.gX (j5.is (by omega)) ?_
   obtain⟨r2,i2,h2',e2,b4,b5⟩:=bF.is (k:=k) (n:=3) (h:=h) (b:=b) (by omega) hb h0 h1 (by omega)
   refine Pu.Ok.gX e2 (Pu.Ok.gX (fK.is (by omega)) ?_)
   obtain⟨r3,i3,h3',e3,a1,a2,a3,a4,a5⟩:=az.is (k:=k) (n:=2) (h:=h2') (b:=b) (by omega) hb b4 b5 (by omega)
   refine Pu.Ok.gX e3 (Pu.Ok.gX (gz.is (by omega)) ?_)
   dsimp only
   (repeat (refine Pu.Ok.g (by first|omega|assumption|(simp only[List.length_append,List.length_cons,List.length_nil,List.length_set,List.length_take,List.length_drop,List.length_replicate]at*;omega)) ?_))
   (try simp only[Int.toNat_natCast]);(try simp (disch:=omega) only[Pu.w64])
   exact aM.inner hk hb ho hlt hrs key (m-1) j _ _ i3 h3' _ (by omega) (by omega) a4 a5 (by omega) (by rw[List.length_append];simp;omega) (by rw[List.length_append];simp;omega)
  ·(repeat (refine Pu.Ok.g (by first|omega|assumption|(simp only[List.length_append,List.length_cons,List.length_nil,List.length_set,List.length_take,List.length_drop,List.length_replicate]at*;omega)) ?_))
   exact key p h row h0 h1 h4
theorem aM.loop{k:Nat}{b o g p1:List Int}{c:List Int}{d:List (List Int)}(hk:4194304≤k)(hb:b.length≤1048576)(ho:Pu.nu 9 o)(hp: ∀x∈p1,1≤x∧x≤9): ∀(m j i:Nat) (p h:Int) (rs:List (List Int)),i+m=o.length→m<j→0≤p→p≤b.length→Pu.cI i 9 rs→
  Pu.Ok (aM.L0 k j i p h o p1 b c d g rs) fun r=>r.1.1=g∧Pu.cI 9 9 r.1.2∧0≤r.2.2.1∧r.2.2.1≤b.length
 |m,0,i,p,h,rs,_,hj,_,_,_=>by omega
 |0,j+1,i,p,h,rs,hi,hj,h0,h1,hr=>by
  rw[aM.bh]
  simp only[gB,fZ,dP,dX,ed,cy,cK,cS,fe,dB,dD,cO,cP,dL,bZ,cZ,dw,eB,fT,fX,dY,dW,cX,cY,cl,cu,List.nil_append,List.cons_append]
  have:=ho.1
  exact Pu.Ok.no (by omega) (Pu.Ok.ret ⟨rfl,hr.mono (by omega) (by omega),h0,h1⟩)
 |m+1,j+1,i,p,h,rs,hi,hj,h0,h1,hr=>by
  rw[aM.bh]
  simp only[gB,fZ,dP,dX,ed,cy,cK,cS,fe,dB,dD,cO,cP,dL,bZ,cZ,dw,eB,fT,fX,dY,dW,cX,cY,cl,cu,List.nil_append,List.cons_append]
  (repeat (refine Pu.Ok.g (by first|omega|assumption|(simp only[List.length_append,List.length_cons,List.length_nil,List.length_set,List.length_take,List.length_drop,List.length_replicate]at*;omega)) ?_))
  refine Pu.Ok.gX (cQ.is (by omega)) ?_
  have h9:=ho.1
  have hz:0≤Pu.atI p1 i:=by
   rw[Pu.fb]
   by_cases hl:i<p1.length
   ·rw[Pu.aw hl];have:=hp _ (List.getElem_mem hl);omega
   ·rw[Pu.bW (by omega)];omega
  refine aM.inner hk hb ho (by omega) (by have:=hr.1;omega) ?_ 9 k _ _ p h [] (by omega) (by omega) h0 h1 hz (by simpa using hz) (by simp)
  intro p' h' row q0 q1 q2
  exact aM.loop hk hb ho hp m j (i+1) p' h' _ (by omega) (by omega) q0 q1 (hr.app q2)
theorem aM.ok{k:Nat}{i h:Int}{b o p:List Int}(hk:4194304+2≤k)(hb:b.length≤1048576)(hi:0≤i)(hi':i≤b.length)(ho:Pu.nu 9 o)(hp:Pu.nu 9 p):
  Pu.Ok (aM k i h o p b) fun r=>r.1.1=p∧Pu.cI 9 9 r.1.2∧0≤r.2.2.1∧r.2.2.1≤b.length:=by
 obtain⟨k,rfl⟩: ∃k',k=k'+1:=⟨k-1,by omega⟩
 rw[aM.eq]
 simp only[gB,fZ,dP,dX,ed,cy,cK,cS,fe,dB,dD,cO,cP,dL,bZ,cZ,dw,eB,fT,fX,dY,dW,cX,cY,cl,cu,List.nil_append,List.cons_append]
 have:=hp.1
 (repeat (refine Pu.Ok.g (by first|omega|assumption|(simp only[List.length_append,List.length_cons,List.length_nil,List.length_set,List.length_take,List.length_drop,List.length_replicate]at*;omega)) ?_))
 exact aM.loop (by omega) hb ho hp.2 o.length k 0 i h [] (by omega) (by have:=ho.1;omega) hi hi' ⟨by simp,fun x hx=>by cases hx⟩
theorem ir.is{k:Nat}{x lo hi:Int}(hk:1≤k):ir k x lo hi=some (Pu.within x lo hi):=by
 obtain⟨k,rfl⟩: ∃k',k=k'+1:=⟨k-1,by omega⟩
 rw[ir.eq]
 by_cases h:lo≤x<;>simp[Pu.within,h]
theorem aO.loop{k:Nat}{p:List Int}(hk:4194304≤k)(hp:p.length≤1048576): ∀(m j i:Nat) (s v:Int),i+m=p.length→m<j→(i=0→v=9)→(0<i→v=p.getD (i-1) 0)→v≤9→0≤s→s≤9→
  aO.L0 k j s i p=some (Pu.gE (p.drop i) v s)
 |m,0,i,s,v,_,hj,_,_,_,_,_=>by omega
 |0,j+1,i,s,v,hi,_,_,_,_,_,_=>by
  rw[aO.bh]
  have e:i=p.length:=by omega
  subst e
  simp[Pu.gE]
 |m+1,j+1,i,s,v,hi,hj,h0,h1,hv,hs,hs9=>by
  rw[aO.bh]
  have hlt:i<p.length:=by omega
  have hj1: ∀x:Int,x=p.getD i 0→1≤x→x≤v→aO.J1 k j s i p=some (decide (s+x≤9)&&Pu.gE (p.drop (i+1)) x (s+x)):=by
   intro x hx hx1 hx2
   rw[aO.dR]
   simp (disch:=omega) only[↓aq,sss,if_true,if_false,hlt,←hx]
   by_cases c:9<s+x
   ·have: ¬s+x≤9:=by omega
    simp[c,this]
   ·have c':s+x≤9:=by omega
    have ih:=aO.loop hk hp m j (i+1) (s+x) x (by omega) (by omega) (by omega) (by simp[hx]) (by omega) (by omega) c'
    rw[Int.natCast_succ]at ih
    simp[c,c',ih]
  rw[Pu.drop_cons hlt 0]
  simp (disch:=omega) only[↓aq,sss,if_true,if_false,hlt,ir.is,Pu.gE]
  generalize hx:p.getD i 0=x at*
  unfold Pu.within
  by_cases c1:1≤x
  ·by_cases c2:x≤v
   ·have c3:x≤9:=by omega
    have hj:=hj1 x rfl c1 c2
    by_cases hi0:i=0
    ·have hpos: ¬(0:Int)<i:=by omega
     simp (disch:=omega) only[↓aq,sss,if_true,if_false,c1,c2,c3,hpos,hj]
    ·have hv':=h1 (by omega)
     have e:((i:Int)-1)=((i-1:Nat):Int):=by omega
     have hlt':i-1<p.length:=by omega
     have hge: ¬p.getD (i-1) 0<x:=by rw[←hv'];omega
     have hpos:(0:Int)<i:=by omega
     simp (disch:=omega) only[e,↓aq,sss,if_true,if_false,hlt',c1,c2,c3,hj,hpos,hge]
   ·simp only[c1,c2,↓aq,sss,if_true,if_false]
    by_cases c3:x≤9
    ·have hi0:0<i:=by
      rcases Nat.eq_zero_or_pos i with h|h
      ·have:=h0 h;omega
      ·exact h
     have hv':=h1 hi0
     have e:((i:Int)-1)=((i-1:Nat):Int):=by omega
     have hlt':i-1<p.length:=by omega
     have hge:p.getD (i-1) 0<x:=by rw[←hv'];omega
     have hpos:(0:Int)<i:=by omega
     simp (disch:=omega) only[e,↓aq,sss,if_true,if_false,hlt',c3,hpos,hge]
    ·simp only[c3,↓aq,sss,if_true,if_false]
  ·simp only[c1,↓aq,sss,if_true,if_false]
theorem aO.is{k:Nat}{p:List Int}(hk:4194304+1≤k)(hp:p.length≤1048576):aO k p=some (Pu.bK p):=by
 obtain⟨k,rfl⟩: ∃k',k=k'+1:=⟨k-1,by omega⟩
 rw[aO.eq]
 exact aO.loop (k:=k) (by omega) hp p.length k 0 0 9 (by omega) (by omega) (fun _=>rfl) (by omega) (by omega) (by omega) (by omega)
theorem bS.loop{k:Nat}{q p:List Int}(hq:q.length≤1048576)(hl:q.length≤p.length)(hk:q.length<k):bS.L1 k k 0 q p=some ((List.range' 0 q.length).all fun i=>decide (q.getD i 0≤p.getD i 0)):=by
 have h:=Pu.lE (fun j i=>bS.L1 k j (i:Int) q p) q.length (fun i=>decide (q.getD i 0≤p.getD i 0)) (some false) (some true)
  (fun j i hi=>by
   have hi2:i<p.length:=by omega
   rw[bS.dZ]
   simp (disch:=omega) only[↓aq,sss,if_true,if_false,hi,hi2,Int.natCast_add,Int.natCast_one]
   by_cases c:q.getD i 0≤p.getD i 0
   ·have c': ¬p.getD i 0<q.getD i 0:=by omega
    simp only[c,c',↓aq,sss,if_true,if_false]
   ·have c':p.getD i 0<q.getD i 0:=by omega
    simp only[c,c',↓aq,sss,if_true,if_false])
  (fun j=>by
   rw[bS.dZ]
   simp only[↓aq,sss,if_true,if_false,Nat.lt_irrefl]) q.length k 0 (by omega) hk
 simp only[Int.natCast_zero]at h
 rw[h]
 cases(List.range' 0 q.length).all fun i=>decide (q.getD i 0≤p.getD i 0)<;>simp
theorem bS.is{k:Nat}{q p:List Int}(hk:4194304+2≤k)(hq:q.length≤1048576)(hp:p.length≤1048576):bS k q p=some (Pu.cz q p):=by
 obtain⟨k,rfl⟩: ∃k',k=k'+1:=⟨k-1,by omega⟩
 rw[bS.eq,aO.is (by omega) hq,bU,bS.fM]
 unfold Pu.cz
 cases c1:Pu.bK q with
 |false=>simp only[↓aq,sss,if_true,if_false]
 |true=>
  simp only[↓aq,sss,if_true,if_false]
  rw[aO.is (by omega) hp,bU]
  cases c2:Pu.bK p with
  |false=>simp only[↓aq,sss,if_true,if_false]
  |true=>
   simp only[↓aq,sss,if_true,if_false]
   by_cases c3:p.length<q.length
   ·have c3': ¬q.length≤p.length:=by omega
    simp only[c3,c3',↓aq,sss,if_true,if_false]
   ·have c3':q.length≤p.length:=by omega
    simp only[c3,c3',↓aq,sss,if_true,if_false]
    exact bS.loop hq c3' (by omega)
theorem gD.is{k:Nat}{s:List Int×List Int}(hk:4194304+3≤k)(hq:s.1.length≤1048576)(hp:s.2.length≤1048576):gD k s=some (Pu.cz s.2 s.1):=by
 obtain⟨k,rfl⟩: ∃k',k=k'+1:=⟨k-1,by omega⟩
 rw[gD.eq,bS.is (by omega) hp hq]
 rfl
theorem bD.loop{k:Nat}{t:Pu.Tab}{x3 x4:List Int}(hk:4194304+3≤k)(hi:Pu.bK t.1=true)(h2:t.2.length≤9)(hr: ∀x∈t.2,x.length≤1048576): ∀(m j i:Nat) (acc:List Int),i+m=t.2.length→m<j→acc.length=i→
  bD.L1 k j i t.1 t.2 x3 x4 acc t.1=some (if Pu.cz t.1 (acc++Pu.gd t.1 i (t.2.drop i))=true then((acc++Pu.gd t.1 i (t.2.drop i),t.1),true)else(([],[]),false))
 |m,0,i,acc,_,hj,_=>by omega
 |0,j+1,i,acc,hm,_,hacc=>by
  rw[bD.dZ]
  have e:i=t.2.length:=by omega
  have h9:=(Pu.bw hi).2.2.1
  have hlt: ¬i<t.2.length:=by omega
  rw[gD.is (by omega) (by simp only;omega) (by simp only;omega),e]
  simp only[↓aq,sss,if_true,if_false,Nat.lt_irrefl,List.drop_length,Pu.gd,List.append_nil]
  cases Pu.cz t.1 acc<;>simp
 |m+1,j+1,i,acc,hm,hj,hacc=>by
  rw[bD.dZ]
  have hlt:i<t.2.length:=by omega
  have hb:=Pu.iC hi i
  have hrow:=hr t.2[i] (List.getElem_mem hlt)
  rw[←Pu.aw hlt []]at hrow
  rw[cQ.is (by omega)]
  have ih:=bD.loop (x3:=x3) (x4:=x4) hk hi h2 hr m j (i+1) (acc++ [Pu.atI t.1 i+(t.2.getD i []).length]) (by omega) (by omega) (by simp[hacc])
  rw[Int.natCast_succ]at ih
  rw[Pu.drop_cons hlt []]
  have hl:(acc++ [Pu.atI t.1 i+((t.2.getD i []).length:Int)]).length≤1099511627776:=by simp;omega
  simp (disch:=omega) only[↓aq,sss,if_true,if_false,hlt,hl,ih,Pu.gd]
  simp only[List.append_assoc,List.singleton_append,Pu.fb]
  rfl
theorem bD.is{k:Nat}{t:Pu.Tab}(hk:4194304+4≤k)(h1:t.1.length≤1048576)(h2:t.2.length≤1048576)(hr: ∀x∈t.2,x.length≤1048576):bD k t=some (Pu.shapeOf t):=by
 obtain⟨k,rfl⟩: ∃k',k=k'+1:=⟨k-1,by omega⟩
 rw[bD.eq,aO.is (by omega) h1,bD.fM]
 have hl:t.1.length≤1099511627776:=by omega
 simp only[↓aq,sss,if_true,if_false,List.nil_append,hl]
 unfold Pu.shapeOf
 cases c1:Pu.bK t.1 with
 |false=>
  have:Pu.dz t=false:=by unfold Pu.dz;rw[c1];rfl
  simp only[this,↓aq,sss,if_true,if_false]
 |true=>
  by_cases c2:t.2.length<t.1.length
  ·have:Pu.dz t=false:=by
    have: ¬t.1.length≤t.2.length:=by omega
    unfold Pu.dz;simp[this]
   simp only[this,c2,↓aq,sss,if_true,if_false]
  ·by_cases c3:9<t.2.length
   ·have:Pu.dz t=false:=by
     cases h:Pu.dz t with
     |false=>rfl
     |true=>have:=Pu.Ab h;omega
    have c3':(9:Int)<t.2.length:=by omega
    simp only[this,c2,c3',↓aq,sss,if_true,if_false]
   ·have c3': ¬(9:Int)<t.2.length:=by omega
    have c2':t.1.length≤t.2.length:=by omega
    have hloop:=bD.loop (k:=k) (t:=t) (x3:= []) (x4:= []) (by omega) c1 (by omega) hr t.2.length k 0 [] (by omega) (by omega) rfl
    rw[Int.natCast_zero]at hloop
    simp only[c2,c3',↓aq,sss,if_true,if_false]
    rw[hloop]
    have:Pu.dz t=Pu.cz t.1 (Pu.outer t):=by unfold Pu.dz;simp[c1,c2']
    rw[this]
    rfl
theorem aD.Gm{k k1 k2:Nat}{t:Pu.Tab}{r:Nat}{c x v:Int}{o n:List Int}(hk:3≤k)(hi:Pu.bK t.1=true)(h1:0≤c)(h2:c≤10000000)(hr:r≤1048576):
  aD.J2 k k1 k2 r c x v t.1 t.2 o n=if(Pu.within x 1 9&&(decide (v≤x)&&decide (Pu.entry t ((r:Int)-1) c<x)))=true then aD.L1 k k1 k2 r (c+1) t.1 t.2 o n else some false:=by
 have he:=bN.is (k:=k) (t:=t) (r:=(r:Int)-1) (c:=c) (by omega) hi (by omega) (by omega)
 rw[aD.kD,ir.is (by omega),aD.rG]
 simp (disch:=omega) only[↓aq,sss,if_true,if_false,he]
 cases Pu.within x 1 9 with
 |false=>simp
 |true=>
  by_cases c1:v≤x
  ·have c1': ¬x<v:=by omega
   by_cases c2:Pu.entry t ((r:Int)-1) c<x
   ·have c2': ¬x≤Pu.entry t ((r:Int)-1) c:=by omega
    simp[c1,c1',c2,c2']
   ·have c2':x≤Pu.entry t ((r:Int)-1) c:=by omega
    simp[c1,c1',c2,c2']
  ·have c1':x<v:=by omega
   simp[c1,c1']
theorem aD.inner{k k1:Nat}{t:Pu.Tab}{r:Nat}{n:List Int}(hk:4194304≤k)(hi:Pu.bK t.1=true)(ht:t.2.length≤1048576)(hr: ∀x∈t.2,x.length≤1048576)(hlt:r<t.2.length):
  aD.L1 k k1 k r (t.1.getD r 0) t.1 t.2 (Pu.outer t) n=if((List.range' 0 (t.2.getD r []).length).all fun q=>Pu.ij t r q)=true then aD.L0 k k1 ((r:Int)+1) t.1 t.2 (Pu.outer t) n else some false:=by
 have hx:=hr _ (List.getElem_mem hlt)
 rw[←Pu.aw hlt []]at hx
 have hb:=Pu.iC hi r
 rw[Pu.fb]at hb
 have hol:r<(Pu.outer t).length:=by unfold Pu.outer;rw[Pu.lJ];exact hlt
 have ho:(Pu.outer t).getD r 0=t.1.getD r 0+((t.2.getD r []).length:Int):=by
  have:=Pu.gJ t.1 t.2 0 r hlt
  rw[Nat.zero_add]at this
  exact this
 have h:=Pu.lE (fun j q=>aD.L1 k k1 j r (t.1.getD r 0+(q:Int)) t.1 t.2 (Pu.outer t) n) (t.2.getD r []).length (fun q=>Pu.ij t r q) (some false) (aD.L0 k k1 ((r:Int)+1) t.1 t.2 (Pu.outer t) n)
  (fun j q hq=>by
   rw[aD.dZ]
   have hc:t.1.getD r 0+(q:Int)<(Pu.outer t).getD r 0:=by rw[ho];omega
   have e1:=bN.is (k:=k) (t:=t) (r:=r) (c:=t.1.getD r 0+q) (by omega) hi (by omega) (by omega)
   have e2:=bN.is (k:=k) (t:=t) (r:=r) (c:=t.1.getD r 0+q-1) (by omega) hi (by omega) (by omega)
   rw[Pu.AE hlt]at e1
   rw[Pu.Bm hlt]at e2
   have ej:=fun v=>aD.Gm (k:=k) (k1:=k1) (k2:=j) (t:=t) (r:=r) (c:=t.1.getD r 0+q) (x:=(t.2.getD r []).getD q 0) (v:=v) (o:=Pu.outer t) (n:=n) (by omega) hi (by omega) (by omega) (by omega)
   have en:t.1.getD r 0+(q:Int)+1=t.1.getD r 0+((q+1:Nat):Int):=by omega
   rw[en]at ej
   have key: ∀v:Int,v=(if q=0 then 0 else(t.2.getD r []).getD (q-1) 0)→(Pu.within ((t.2.getD r []).getD q 0) 1 9&&(decide (v≤(t.2.getD r []).getD q 0)&&decide (Pu.entry t ((r:Int)-1) (t.1.getD r 0+q)<(t.2.getD r []).getD q 0)))=Pu.ij t r q:=by
    intro v hv
    unfold Pu.ij
    cases hw:Pu.within ((t.2.getD r []).getD q 0) 1 9 with
    |false=>rfl
    |true=>
     have hw1:1≤(t.2.getD r []).getD q 0:=by
      simp only[Pu.within,Bool.and_eq_true,decide_eq_true_eq]at hw;exact hw.1
     simp only[Bool.true_and]
     congr 1
     ·by_cases e:q=0
      ·have:v≤(t.2.getD r []).getD q 0:=by rw[hv,if_pos e];omega
       simp[e,this]
       simpa[e]using this
      ·rw[hv,if_neg e];simp[e]
     ·by_cases e:r=0
      ·subst e
       rw[Pu.C6 (by omega),decide_eq_true (show(0:Int)<(t.2.getD 0 []).getD q 0 by omega)]
       simp only[decide_true,Bool.true_or]
      ·simp[e]
   by_cases hc0:0<t.1.getD r 0+(q:Int)
   ·simp (disch:=omega) only[↓aq,sss,if_true,if_false,hol,hc,e1,hc0,e2,ej]
    rw[key _ rfl]
   ·simp (disch:=omega) only[↓aq,sss,if_true,if_false,hol,hc,e1,hc0,ej]
    rw[key 0 (by
           have:q=0:=by omega
           rw[if_pos this])])
  (fun j=>by
   rw[aD.dZ]
   have hc: ¬t.1.getD r 0+((t.2.getD r []).length:Int)<(Pu.outer t).getD r 0:=by rw[ho];omega
   simp (disch:=omega) only[↓aq,sss,if_true,if_false,hol,hc]) (t.2.getD r []).length k 0 (by omega) (by omega)
 simp only[Int.natCast_zero,Int.add_zero]at h
 exact h
theorem aD.is{k:Nat}{t:Pu.Tab}(hk:4194304+5≤k)(h1:t.1.length≤1048576)(ht:t.2.length≤1048576)(hr: ∀x∈t.2,x.length≤1048576):aD k t=some (Pu.g8 t):=by
 obtain⟨k,rfl⟩: ∃k',k=k'+1:=⟨k-1,by omega⟩
 rw[aD.eq,bD.is (by omega) h1 ht hr,bU]
 unfold Pu.g8 Pu.shapeOf
 cases hs:Pu.dz t with
 |false=>simp[hs]
 |true=>
  have hi:Pu.bK t.1=true:=by
   simp only[Pu.dz,Bool.and_eq_true]at hs;exact hs.1
  have hol:(Pu.outer t).length=t.2.length:=by unfold Pu.outer;rw[Pu.lJ]
  have h:=Pu.lE (fun j r=>aD.L0 k j r t.1 t.2 (Pu.outer t) t.1) t.2.length (fun r=>(List.range' 0 (t.2.getD r []).length).all fun q=>Pu.ij t r q) (some false) (some true)
   (fun j r hlt=>by
    rw[aD.bh,cQ.is (by omega),Pu.fb]
    simp (disch:=omega) only[↓aq,sss,if_true,if_false,hol,hlt,aD.inner (k1:=j) (n:=t.1) (show 4194304≤k by omega) hi ht hr hlt,Int.natCast_add,Int.natCast_one])
   (fun j=>by
    rw[aD.bh]
    simp (disch:=omega) only[↓aq,sss,if_true,if_false,hol,Nat.lt_irrefl]) t.2.length k 0 (by omega) (by omega)
  simp only[Int.natCast_zero]at h
  simp only[if_true,↓aq,sss,if_true,if_false]
  rw[h]
  cases(List.range' 0 t.2.length).all fun r=>(List.range' 0 (t.2.getD r []).length).all fun q=>Pu.ij t r q<;>simp
theorem dK.ok{k:Nat}{m i h:Int}{b:List Int}(hk:4194304+14≤k)(hb:b.length≤1048576)(hi:0≤i)(hi':i≤b.length)(hm:1≤m)(hm':m≤9):
  Pu.Ok (dK k m i h b) fun r=>fg 9 9 9 r.1∧0≤r.2.2.1∧r.2.2.1≤b.length:=by
 obtain⟨k,rfl⟩: ∃k',k=k'+1:=⟨k-1,by omega⟩
 rw[dK.eq]
 obtain⟨p,i1,h1,e1,hp,a4,a5⟩:=cj.is (k:=k) (m:=m) (h:=h) (b:=b) (by omega) hb hi hi' hm hm'
 refine Pu.Ok.gX e1 ?_
 dsimp only
 refine Pu.Ok.bnd (aM.ok (by omega) hb a4 a5 hp ⟨by simp,fun x hx=>by cases hx⟩) ?_
 rintro⟨⟨q,rs⟩,_,i2,h2⟩ ⟨e2,hr,b4,b5⟩
 simp only at e2
 subst e2
 have ht:fg 9 9 9 (([],rs):Pu.Tab):=⟨by simp,hr⟩
 obtain⟨c1,c2,c3⟩:=ht.tab (by omega) (by omega) (by omega)
 dsimp only
 refine Pu.Ok.gX (aD.is (by omega) c1 c2 c3) ?_
 refine Pu.Ok.tn (fun _=>Pu.Ok.ret ⟨⟨by simp,by simp,fun x hx=> ?_⟩,b4,b5⟩) (fun _=>Pu.Ok.ret ⟨ht,b4,b5⟩)
 simp only[List.mem_cons,List.not_mem_nil,or_false]at hx
 rcases hx with rfl|rfl<;>simp
theorem aL.loop{k:Nat}{b o a c:List Int}(hk:4194304+12≤k)(hb:b.length≤1048576)(ho:Pu.nu 9 o): ∀(m j i:Nat) (low p h:Int) (q:List Int),i+m=o.length→m<j→0≤p→p≤b.length→1≤low→low≤9→q.length≤i→(∀x∈q,1≤x∧x≤9)→
  Pu.Ok (aL.L0 k j low i p h b a c o q) fun r=>r.1.1=o∧Pu.nu 9 r.1.2∧0≤r.2.2.1∧r.2.2.1≤b.length
 |m,0,i,low,p,h,q,_,hj,_,_,_,_,_,_=>by omega
 |0,j+1,i,low,p,h,q,hi,_,h0,h1,h2,h3,hq,hg=>by
  rw[aL.bh]
  simp only[gB,fZ,dP,dX,ed,cy,cK,cS,fe,dB,dD,cO,cP,dL,bZ,cZ,dw,eB,fT,fX,dY,dW,cX,cY,cl,cu,List.nil_append,List.cons_append]
  have h9:=ho.1
  exact Pu.Ok.no (by omega) (Pu.Ok.ret ⟨rfl,⟨by dsimp only;omega,hg⟩,h0,h1⟩)
 |m+1,j+1,i,low,p,h,q,hi,hj,h0,h1,h2,h3,hq,hg=>by
  rw[aL.bh]
  simp only[gB,fZ,dP,dX,ed,cy,cK,cS,fe,dB,dD,cO,cP,dL,bZ,cZ,dw,eB,fT,fX,dY,dW,cX,cY,cl,cu,List.nil_append,List.cons_append]
  have hlt:i<o.length:=by omega
  have hx:=ho.2 _ (List.getElem_mem hlt)
  rw[←Pu.aw hlt 0]at hx
  have h9:=ho.1
  (repeat (refine Pu.Ok.g (by first|omega|assumption|(simp only[List.length_append,List.length_cons,List.length_nil,List.length_set,List.length_take,List.length_drop,List.length_replicate]at*;omega)) ?_))
  (try simp only[Int.toNat_natCast]);(try simp (disch:=omega) only[Pu.w64])
  obtain⟨r,i1,h1',e1,a1,a2,a3,a4,a5⟩:=az.is (k:=k) (n:=o.getD i 0+1) (h:=h) (b:=b) (by omega) hb h0 h1 (by omega)
  refine Pu.Ok.gX e1 (Pu.Ok.gX (gz.is (by omega)) ?_)
  dsimp only
  refine Pu.Ok.t (fun hz=>Pu.Ok.ret ⟨rfl,⟨by dsimp only;omega,hg⟩,a4,a5⟩) (fun hz=> ?_)
  obtain⟨r2,i2,h2',e2,b4,b5⟩:=bF.is (k:=k) (n:=3) (h:=h1') (b:=b) (by omega) hb a4 a5 (by omega)
  refine Pu.Ok.gX e2 (Pu.Ok.tb (fun _=>Pu.Ok.ret ⟨rfl,⟨by dsimp only;omega,hg⟩,b4,b5⟩) (fun _=> ?_))
  dsimp only
  rw[aL.dR]
  simp only[gB,fZ,dP,dX,ed,cy,cK,cS,fe,dB,dD,cO,cP,dL,bZ,cZ,dw,eB,fT,fX,dY,dW,cX,cY,cl,cu,List.nil_append,List.cons_append]
  (repeat (refine Pu.Ok.g (by first|omega|assumption|(simp only[List.length_append,List.length_cons,List.length_nil,List.length_set,List.length_take,List.length_drop,List.length_replicate]at*;omega)) ?_))
  (try simp only[Int.toNat_natCast]);(try simp (disch:=omega) only[Pu.w64])
  exact aL.loop hk hb ho m j (i+1) (min low r) i2 h2' _ (by omega) (by omega) b4 b5 (by omega) (by omega) (by rw[List.length_append];simp;omega) (fun x hx=>by
   rcases List.mem_append.1 hx with h|h
   ·exact hg x h
   ·simp only[List.mem_singleton]at h;omega)
theorem aL.ok{k:Nat}{m i h:Int}{b:List Int}(hk:4194304+13≤k)(hb:b.length≤1048576)(hi:0≤i)(hi':i≤b.length)(hm:1≤m)(hm':m≤9):
  Pu.Ok (aL k m i h b) fun r=>Pu.nu 9 r.1.1∧Pu.nu 9 r.1.2∧0≤r.2.2.1∧r.2.2.1≤b.length:=by
 obtain⟨k,rfl⟩: ∃k',k=k'+1:=⟨k-1,by omega⟩
 rw[aL.eq]
 obtain⟨p,i1,h1,e1,hp,a4,a5⟩:=cj.is (k:=k) (m:=m) (h:=h) (b:=b) (by omega) hb hi hi' hm hm'
 refine Pu.Ok.gX e1 ?_
 have:=hp.1
 refine Pu.Ok.mono (aL.loop (by omega) hb hp p.length k 0 m i1 h1 [] (by omega) (by omega) a4 a5 hm hm' (by simp) (fun x hx=>by cases hx)) ?_
 rintro⟨⟨o,q⟩,_,i',h'⟩ ⟨e,c2,c3,c4⟩
 simp only at e
 subst e
 exact⟨hp,c2,c3,c4⟩
theorem aL.Gs{k:Nat}{b o a c:List Int}(hk:4194304+12≤k)(hb:b.length≤1048576)(ho:Pu.bK o=true): ∀(m j i:Nat) (low p h:Int) (q:List Int),i+m=o.length→m<j→0≤p→p≤b.length→1≤low→low≤9→q.length=i→
  (∀t,t<i→1≤q.getD t 0∧q.getD t 0≤o.getD t 0∧low≤q.getD t 0)→(∀t,t+1<i→q.getD (t+1) 0≤q.getD t 0)→
  Pu.Ok (aL.L0 k j low i p h b a c o q) fun r=>r.1.1=o∧Pu.cz r.1.2 o=true∧0≤r.2.2.1∧r.2.2.1≤b.length:=by
 have fin: ∀{i:Nat} {low:Int} {q:List Int},i≤o.length→q.length=i→(∀t,t<i→1≤q.getD t 0∧q.getD t 0≤o.getD t 0∧low≤q.getD t 0)→(∀t,t+1<i→q.getD (t+1) 0≤q.getD t 0)→Pu.cz q o=true:=by
  intro i low q hi hq hg hd
  have hle: ∀t,q.getD t 0≤o.getD t 0:=fun t=>by
   rcases Nat.lt_or_ge t i with h|h
   ·exact(hg t h).2.1
   ·rw[Pu.bW (by omega)];exact(Pu.lz ho t).1
  refine Pu.oy ?_ ho hle
  refine Pu.kG q 9 0 (fun x hx=> ?_) (fun h=> ?_) (fun t ht=>hd t (by omega)) ?_
  ·obtain⟨t,ht,rfl⟩:=List.getElem_of_mem hx
   have:=(hg t (by omega)).1
   rwa [Pu.aw ht 0]at this
  ·have:=(Pu.lz ho 0).2
   have:=hle 0
   omega
  ·have:=(Pu.qU hle).1
   have:=(Pu.bw ho).2.1
   omega
 intro m
 induction m with
 |zero=>
  intro j i low p h q hi hj h0 h1 h2 h3 hq hg hd
  obtain⟨j,rfl⟩: ∃j',j=j'+1:=⟨j-1,by omega⟩
  rw[aL.bh]
  simp only[gB,fZ,dP,dX,ed,cy,cK,cS,fe,dB,dD,cO,cP,dL,bZ,cZ,dw,eB,fT,fX,dY,dW,cX,cY,cl,cu,List.nil_append,List.cons_append]
  exact Pu.Ok.no (by omega) (Pu.Ok.ret ⟨rfl,fin (by omega) hq hg hd,h0,h1⟩)
 |succ m ih=>
  intro j i low p h q hi hj h0 h1 h2 h3 hq hg hd
  obtain⟨j,rfl⟩: ∃j',j=j'+1:=⟨j-1,by omega⟩
  have hlt:i<o.length:=by omega
  have hx:=(Pu.bw ho).1 _ (List.getElem_mem hlt)
  have h9:=(Pu.bw ho).2.2.1
  rw[←Pu.aw hlt 0]at hx
  rw[aL.bh]
  simp only[gB,fZ,dP,dX,ed,cy,cK,cS,fe,dB,dD,cO,cP,dL,bZ,cZ,dw,eB,fT,fX,dY,dW,cX,cY,cl,cu,List.nil_append,List.cons_append]
  (repeat (refine Pu.Ok.g (by first|omega|assumption|(simp only[List.length_append,List.length_cons,List.length_nil,List.length_set,List.length_take,List.length_drop,List.length_replicate]at*;omega)) ?_))
  (try simp only[Int.toNat_natCast]);(try simp (disch:=omega) only[Pu.w64])
  obtain⟨r,i1,h1',e1,a1,a2,a3,a4,a5⟩:=az.is (k:=k) (n:=o.getD i 0+1) (h:=h) (b:=b) (by omega) hb h0 h1 (by omega)
  refine Pu.Ok.gX e1 (Pu.Ok.gX (gz.is (by omega)) ?_)
  dsimp only
  refine Pu.Ok.t (fun hz=>Pu.Ok.ret ⟨rfl,fin (by omega) hq hg hd,a4,a5⟩) (fun hz=> ?_)
  obtain⟨r2,i2,h2',e2,b4,b5⟩:=bF.is (k:=k) (n:=3) (h:=h1') (b:=b) (by omega) hb a4 a5 (by omega)
  refine Pu.Ok.gX e2 (Pu.Ok.tb (fun _=>Pu.Ok.ret ⟨rfl,fin (by omega) hq hg hd,b4,b5⟩) (fun _=> ?_))
  dsimp only
  rw[aL.dR]
  simp only[gB,fZ,dP,dX,ed,cy,cK,cS,fe,dB,dD,cO,cP,dL,bZ,cZ,dw,eB,fT,fX,dY,dW,cX,cY,cl,cu,List.nil_append,List.cons_append]
  (repeat (refine Pu.Ok.g (by first|omega|assumption|(simp only[List.length_append,List.length_cons,List.length_nil,List.length_set,List.length_take,List.length_drop,List.length_replicate]at*;omega)) ?_))
  (try simp only[Int.toNat_natCast]);(try simp (disch:=omega) only[Pu.w64])
  have a3:=a3 (by omega)
  have hgt: ∀t,t<i→(q++ [min low r]).getD t 0=q.getD t 0:=fun t ht=>by
   simp only[List.getD_eq_getElem?_getD,List.getElem?_append_left (show t<q.length by omega)]
  have hgi:(q++ [min low r]).getD i 0=min low r:=by
   subst hq
   simp only[List.getD_eq_getElem?_getD,List.getElem?_append_right (Nat.le_refl _),Nat.sub_self]
   rfl
  refine ih j (i+1) (min low r) i2 h2' _ (by omega) (by omega) b4 b5 (by omega) (by omega) (by rw[List.length_append,List.length_singleton];omega) (fun t ht=> ?_) (fun t ht=> ?_)
  ·rcases Nat.lt_or_ge t i with h|h
   ·rw[hgt t h];have:=hg t h;omega
   ·have e:t=i:=by omega
    subst e
    rw[hgi];omega
  ·rcases Nat.lt_or_ge (t+1) i with h|h
   ·rw[hgt t (by omega),hgt (t+1) h];exact hd t h
   ·have e:t+1=i:=by omega
    rw[e,hgi,hgt t (by omega)]
    have:=hg t (by omega)
    omega
theorem aL.okI{k:Nat}{m i h:Int}{b:List Int}(hk:4194304+13≤k)(hb:b.length≤1048576)(hi:0≤i)(hi':i≤b.length)(hm:1≤m)(hm':m≤9):
  Pu.Ok (aL k m i h b) fun r=>Pu.cz r.1.2 r.1.1=true∧0≤r.2.2.1∧r.2.2.1≤b.length:=by
 obtain⟨k,rfl⟩: ∃k',k=k'+1:=⟨k-1,by omega⟩
 rw[aL.eq]
 obtain⟨p,i1,h1,e1,⟨_,hp,_⟩,a4,a5⟩:=cj.isP (k:=k) (m:=m) (h:=h) (b:=b) (by omega) hb hi hi' hm hm'
 have hl9:=(Pu.bw hp).2.2.1
 refine Pu.Ok.gX e1 ?_
 refine Pu.Ok.mono (aL.Gs (by omega) hb hp p.length k 0 m i1 h1 [] (by omega) (by omega) a4 a5 hm hm' rfl (fun t ht=>by omega) (fun t ht=>by omega)) ?_
 rintro⟨⟨o,q⟩,_,i',h'⟩ ⟨e,c2,c3,c4⟩
 simp only at e
 subst e
 exact⟨c2,c3,c4⟩
theorem fA.ok{k:Nat}{m i h:Int}{b:List Int}(hk:4194304+15≤k)(hb:b.length≤1048576)(hi:0≤i)(hi':i≤b.length)(hm:1≤m)(hm':m≤9):
  Pu.Ok (fA k m i h b) fun r=>fg 9 9 9 r.1∧0≤r.2.2.1∧r.2.2.1≤b.length:=by
 obtain⟨k,rfl⟩: ∃k',k=k'+1:=⟨k-1,by omega⟩
 rw[fA.eq]
 refine Pu.Ok.bnd (aL.ok (by omega) hb hi hi' hm hm') ?_
 rintro⟨⟨o,p⟩,_,i1,h1⟩ ⟨ho,hp,a4,a5⟩
 dsimp only at*
 refine Pu.Ok.bnd (aM.ok (by omega) hb a4 a5 ho hp) ?_
 rintro⟨⟨q,rs⟩,_,i2,h2⟩ ⟨e2,hr,b4,b5⟩
 simp only at e2
 subst e2
 have ht:fg 9 9 9 ((q,rs):Pu.Tab):=⟨hp.1,hr⟩
 obtain⟨c1,c2,c3⟩:=ht.tab (by omega) (by omega) (by omega)
 dsimp only
 refine Pu.Ok.gX (aD.is (by omega) c1 c2 c3) ?_
 refine Pu.Ok.tn (fun _=>Pu.Ok.ret ⟨⟨by simp,by simp,fun x hx=> ?_⟩,b4,b5⟩) (fun _=>Pu.Ok.ret ⟨ht,b4,b5⟩)
 simp only[List.mem_cons,List.not_mem_nil,or_false]at hx
 rcases hx with rfl|rfl<;>simp
theorem cG.is{k:Nat}{l:List Int}{i h:Int}{b:List Int}(hk:3≤k)(hb:b.length≤1048576)(hi:0≤i)(hi':i≤b.length)(hl:0<l.length)(hl':l.length≤256):
  ∃r i' h',cG k i h l b=some (r,((),(i',h')))∧r∈l∧0≤i'∧i'≤b.length:=by
 obtain⟨k,rfl⟩: ∃k',k=k'+1:=⟨k-1,by omega⟩
 rw[cG.eq]
 obtain⟨r,i',h',e,h1,h2,h3,h4,h5⟩:=az.is (k:=k) (n:=l.length) (h:=h) (b:=b) (by omega) hb hi hi' (by omega)
 have h3:=h3 (by omega)
 have hn:r.toNat<l.length:=by omega
 refine⟨l.getD r.toNat 0,i',h',?_,?_,h4,h5⟩
 ·simp only[↓aq,sss,if_true,if_false,e,h1,hn]
 ·rw[Pu.aw hn 0];exact List.getElem_mem hn
theorem fk.ok{k:Nat}{m i h:Int}{b:List Int}(hk:4194304+16≤k)(hb:b.length≤1048576)(hi:0≤i)(hi':i≤b.length)(hm:1≤m)(hm':m≤9):
  Pu.Ok (fk k m i h b) fun r=>fg 10 9 10 r.1∧0≤r.2.2.1∧r.2.2.1≤b.length:=by
 obtain⟨k,rfl⟩: ∃k',k=k'+1:=⟨k-1,by omega⟩
 rw[fk.eq]
 refine Pu.Ok.bnd (fA.ok (by omega) hb hi hi' hm hm') ?_
 rintro⟨⟨q,rs⟩,_,i1,h1⟩ ⟨⟨hq,hr⟩,a4,a5⟩
 dsimp only at*
 have hr':Pu.cI 9 10 rs:=hr.mono (by omega) (by omega)
 simp only[gB,fZ,dP,dX,ed,cy,cK,cS,fe,dB,dD,cO,cP,dL,bZ,cZ,dw,eB,fT,fX,dY,dW,cX,cY,cl,cu,List.nil_append,List.cons_append]
 refine Pu.Ok.t (fun _=>Pu.Ok.ret ⟨⟨by dsimp only;omega,hr'⟩,a4,a5⟩) (fun h0=> ?_)
 have hlen:=hr.1
 obtain⟨r,i2,h2,e2,b1,b2,b3,b4,b5⟩:=az.is (k:=k) (n:=rs.length) (h:=h1) (b:=b) (by omega) hb a4 a5 (by omega)
 have b3:=b3 (by omega)
 obtain⟨r',i3,h3,e3,c1,c2,c3,c4,c5⟩:=az.is (k:=k) (n:=16) (h:=h2) (b:=b) (by omega) hb b4 b5 (by omega)
 refine Pu.Ok.gX e2 ?_
 dsimp only
 refine Pu.Ok.gX e3 ?_
 dsimp only
 have hrow:=hr.at r.toNat
 refine Pu.Ok.t (fun _=> ?_) (fun _=>Pu.Ok.t (fun _=> ?_) (fun _=>Pu.Ok.t (fun _=> ?_) (fun _=>Pu.Ok.ret ⟨⟨by dsimp only;omega,hr'⟩,c4,c5⟩)))
 ·(repeat (refine Pu.Ok.g (by first|omega|assumption|(simp only[List.length_append,List.length_cons,List.length_nil,List.length_set,List.length_take,List.length_drop,List.length_replicate]at*;omega)) ?_))
  obtain⟨x,i4,h4,e4,d1,d4,d5⟩:=cG.is (k:=k) (l:= [0,9,10,-1]) (h:=h3) (b:=b) (by omega) hb c4 c5 (by simp) (by simp)
  refine Pu.Ok.gX e4 ?_
  dsimp only
  (repeat (refine Pu.Ok.g (by first|omega|assumption|(simp only[List.length_append,List.length_cons,List.length_nil,List.length_set,List.length_take,List.length_drop,List.length_replicate]at*;omega)) ?_))
  refine Pu.Ok.g trivial (Pu.Ok.ret ⟨⟨by dsimp only;omega,hr'.set _ ?_⟩,d4,d5⟩)
  rw[List.length_append,List.length_singleton];omega
 ·(repeat (refine Pu.Ok.g (by first|omega|assumption|(simp only[List.length_append,List.length_cons,List.length_nil,List.length_set,List.length_take,List.length_drop,List.length_replicate]at*;omega)) ?_))
  refine Pu.Ok.t (fun hz=> ?_) (fun _=>Pu.Ok.ret ⟨⟨by dsimp only;omega,hr'⟩,c4,c5⟩)
  have hz':(0:Int).toNat<(rs.getD r.toNat []).length:=by
   show 0<_
   omega
  (repeat (refine Pu.Ok.g (by first|omega|assumption|(simp only[List.length_append,List.length_cons,List.length_nil,List.length_set,List.length_take,List.length_drop,List.length_replicate]at*;omega)) ?_))
  refine Pu.Ok.ret ⟨⟨by dsimp only;omega,hr'.set _ ?_⟩,c4,c5⟩
  rw[List.length_set];omega
 ·obtain⟨x,i4,h4,e4,d1,d4,d5⟩:=cG.is (k:=k) (l:= [1,0,-1,9]) (h:=h3) (b:=b) (by omega) hb c4 c5 (by simp) (by simp)
  refine Pu.Ok.gX e4 ?_
  dsimp only
  (repeat (refine Pu.Ok.g (by first|omega|assumption|(simp only[List.length_append,List.length_cons,List.length_nil,List.length_set,List.length_take,List.length_drop,List.length_replicate]at*;omega)) ?_))
  refine Pu.Ok.ret ⟨⟨?_,hr'⟩,d4,d5⟩
  dsimp only
  rw[List.length_append,List.length_singleton];omega
theorem aC.tx{k:Nat}{b x3:List Int}{x4:List (List Int)}(hk:4194304+20≤k)(hb:b.length≤1048576): ∀(m j i:Nat) (h:Int),i+m=b.length→m<j→Pu.Ok (aC.L0 k j h i 0 b x3 x4) fun r=>Pu.fg 10 9 10 r.1:=by
 have rest: ∀{i h:Int} {q:List Int} {rs:List (List Int)},0≤i→i≤b.length→Pu.fg 10 9 10 (q,rs)→Pu.Ok (aC.J3 k i h x3 x4 b q rs) fun r=>Pu.fg 10 9 10 r.1:=fun{i h q rs} hi hi' ht=>by
  rw[aC.rG]
  obtain⟨r1,i1,h1,e1,_⟩:=az.is (k:=HAdd.hAdd k 1) (n:=6) (i:=i) (h:=h) (b:=b) (by show _≤k+1;omega) hb hi hi' (by omega)
  exact Pu.Ok.gX e1 (Pu.Ok.ret ht)
 have fin: ∀h,Pu.Ok (aC.J2 k h 0 b x3 x4) fun r=>Pu.fg 10 9 10 r.1:=fun h=>by
  rw[aC.kD]
  refine Pu.Ok.bnd (dK.ok (by show _≤k+1;omega) hb (by omega) (by omega) (by omega) (by omega)) ?_
  rintro⟨⟨q,rs⟩,_,i1,h1⟩ ⟨⟨hq,hr⟩,a4,a5⟩
  dsimp only at*
  obtain⟨r2,i2,h2,e2,b4,b5⟩:=bF.is (k:=HAdd.hAdd k 1) (n:=8) (h:=h1) (b:=b) (by show _≤k+1;omega) hb a4 a5 (by omega)
  refine Pu.Ok.gX e2 ?_
  dsimp only
  refine Pu.Ok.tb (fun _=> ?_) (fun _=> ?_)
  ·refine Pu.Ok.bnd (fk.ok (by show _≤k+1;omega) hb b4 b5 (by omega) (by omega)) ?_
   rintro⟨⟨q,rs⟩,_,i1,h1⟩ ⟨ht,a4,a5⟩
   exact rest a4 a5 ht
  ·exact rest b4 b5 ⟨by dsimp only;omega,hr.mono (by omega) (by omega)⟩
 intro m
 induction m with
 |zero=>
  intro j i h hi hj
  obtain⟨j,rfl⟩: ∃j',j=j'+1:=⟨j-1,by omega⟩
  rw[aC.bh]
  simp only[gB,fZ,dP,dX,ed,cy,cK,cS,fe,dB,dD,cO,cP,dL,bZ,cZ,dw,eB,fT,fX,dY,dW,cX,cY,cl,cu,List.nil_append,List.cons_append]
  exact Pu.Ok.no (by omega) (fin h)
 |succ m ih=>
  intro j i h hi hj
  obtain⟨j,rfl⟩: ∃j',j=j'+1:=⟨j-1,by omega⟩
  have hw:IntKind.i64.wrap ((i:Int)+1)=((i+1:Nat):Int):=Pu.w64 (by omega) (by omega)
  rw[aC.bh]
  simp only[gB,fZ,dP,dX,ed,cy,cK,cS,fe,dB,dD,cO,cP,dL,bZ,cZ,dw,eB,fT,fX,dY,dW,cX,cY,cl,cu,List.nil_append,List.cons_append]
  refine Pu.Ok.g (by omega) (Pu.Ok.t (fun _=> ?_) (fun _=>fin h))
  rw[aC.dR]
  simp only[gB,fZ,dP,dX,ed,cy,cK,cS,fe,dB,dD,cO,cP,dL,bZ,cZ,dw,eB,fT,fX,dY,dW,cX,cY,cl,cu,List.nil_append,List.cons_append]
  rw[hw]
  refine Pu.Ok.g (by omega) (Pu.Ok.g (by omega) (Pu.Ok.g (by omega) ?_))
  exact ih j (i+1) _ (by omega) (by omega)
theorem aC.ok{k:Nat}{b:List Int}(hk:4194304+30≤k)(hb:b.length≤1048576):Pu.Ok (aC k b) fun r=>Pu.fg 10 9 10 r.1:=by
 obtain⟨k,rfl⟩: ∃k',k=k'+2:=⟨k-2,by omega⟩
 rw[aC.eq]
 exact aC.tx (by omega) hb b.length k 0 _ (by omega) (by omega)
theorem dI.is{k:Nat}{x lo hi:Int}(hk:1≤k):dI k x lo hi=some (Pu.within x lo hi):=by
 obtain⟨k,rfl⟩: ∃k',k=k'+1:=⟨k-1,by omega⟩
 rw[dI.eq]
 by_cases h:lo≤x<;>simp[Pu.within,h]
theorem aX.loop{k:Nat}{p:List Int}(hk:4194304≤k)(hp:p.length≤1048576): ∀(m j i:Nat) (s v:Int),i+m=p.length→m<j→(i=0→v=9)→(0<i→v=p.getD (i-1) 0)→v≤9→0≤s→s≤9→
  aX.L0 k j s p.length i p=some (Pu.gE (p.drop i) v s)
 |m,0,i,s,v,_,hj,_,_,_,_,_=>by omega
 |0,j+1,i,s,v,hi,_,_,_,_,_,_=>by
  rw[aX.bh]
  have e:i=p.length:=by omega
  subst e
  simp[Pu.gE]
 |m+1,j+1,i,s,v,hi,hj,h0,h1,hv,hs,hs9=>by
  rw[aX.bh]
  have hlt:i<p.length:=by omega
  have hj1: ∀x:Int,x=p.getD i 0→1≤x→x≤v→aX.J1 k j s x p.length i p=some (decide (s+x≤9)&&Pu.gE (p.drop (i+1)) x (s+x)):=by
   intro x hx hx1 hx2
   rw[aX.dR]
   simp (disch:=omega) only[↓aq,sss,if_true,if_false]
   by_cases c:9<s+x
   ·have: ¬s+x≤9:=by omega
    simp[c,this]
   ·have c':s+x≤9:=by omega
    have ih:=aX.loop hk hp m j (i+1) (s+x) x (by omega) (by omega) (by omega) (by simp[hx]) (by omega) (by omega) c'
    rw[Int.natCast_succ]at ih
    simp[c,c',ih]
  rw[Pu.drop_cons hlt 0]
  simp (disch:=omega) only[↓aq,sss,if_true,if_false,hlt,dI.is,Pu.gE]
  generalize hx:p.getD i 0=x at*
  unfold Pu.within
  by_cases c1:1≤x
  ·by_cases c2:x≤v
   ·have c3:x≤9:=by omega
    have hj:=hj1 x rfl c1 c2
    by_cases hi0:i=0
    ·have hpos: ¬(0:Int)<i:=by omega
     simp (disch:=omega) only[↓aq,sss,if_true,if_false,c1,c2,c3,hpos,hj]
    ·have hv':=h1 (by omega)
     have e:((i:Int)-1)=((i-1:Nat):Int):=by omega
     have hlt':i-1<p.length:=by omega
     have hge: ¬p.getD (i-1) 0<x:=by rw[←hv'];omega
     have hpos:(0:Int)<i:=by omega
     simp (disch:=omega) only[e,↓aq,sss,if_true,if_false,hlt',c1,c2,c3,hj,hpos,hge]
   ·simp only[c1,c2,↓aq,sss,if_true,if_false]
    by_cases c3:x≤9
    ·have hi0:0<i:=by
      rcases Nat.eq_zero_or_pos i with h|h
      ·have:=h0 h;omega
      ·exact h
     have hv':=h1 hi0
     have e:((i:Int)-1)=((i-1:Nat):Int):=by omega
     have hlt':i-1<p.length:=by omega
     have hge:p.getD (i-1) 0<x:=by rw[←hv'];omega
     have hpos:(0:Int)<i:=by omega
     simp (disch:=omega) only[e,↓aq,sss,if_true,if_false,hlt',c3,hpos,hge]
    ·simp only[c3,↓aq,sss,if_true,if_false]
  ·simp only[c1,↓aq,sss,if_true,if_false]
theorem aX.is{k:Nat}{p:List Int}(hk:4194304+1≤k)(hp:p.length≤1048576):aX k p=some (Pu.bK p):=by
 obtain⟨k,rfl⟩: ∃k',k=k'+1:=⟨k-1,by omega⟩
 rw[aX.eq]
 exact aX.loop (k:=k) (by omega) hp p.length k 0 0 9 (by omega) (by omega) (fun _=>rfl) (by omega) (by omega) (by omega) (by omega)
theorem cq.is{k:Nat}{a:List Int}(hk:1≤k)(ha:a.length≤1099511627776):cq k a=some a:=by
 obtain⟨k,rfl⟩: ∃k',k=k'+1:=⟨k-1,by omega⟩
 rw[cq.eq]
 by_cases h:a.length=0
 ·have:a= []:=List.eq_nil_of_length_eq_zero h
  subst this
  simp[FZ,CU]
 ·simp[h,ha]
theorem gV.is{k:Nat}{p:List Int}{i:Int}(hk:2≤k)(hp:p.length≤1048576):gV k p i=some (Pu.atI p i):=by
 obtain⟨k,rfl⟩: ∃k',k=k'+1:=⟨k-1,by omega⟩
 rw[gV.eq,dI.is (by omega)]
 unfold Pu.within
 by_cases h1:0≤i
 ·have h0: ¬i<0:=by omega
  by_cases h2:i≤(p.length:Int)-1
  ·have h4:i.toNat<p.length:=by omega
   simp (disch:=omega) only[↓aq,sss,if_true,if_false,h0,h1,h2,h4,Pu.atI]
  ·simp (disch:=omega) only[↓aq,sss,if_true,if_false,h1,h2,Pu.Bu (p:=p) (i:=i) (by omega)]
 ·simp (disch:=omega) only[↓aq,sss,if_true,if_false,h1,Pu.pH (p:=p) (i:=i) (by omega)]
theorem b6.loop{k:Nat}{q p:List Int}(hq:q.length≤1048576)(hp:p.length≤1048576)(hk:4194304+2≤k):b6.L1 k k q.length 0 p q=some ((List.range' 0 q.length).all fun i=>decide (q.getD i 0≤p.getD i 0)):=by
 have h:=Pu.lE (fun j i=>b6.L1 k j q.length (i:Int) p q) q.length (fun i=>decide (q.getD i 0≤p.getD i 0)) (some false) (some true)
  (fun j i hi=>by
   rw[b6.dZ,gV.is (by omega) hp,Pu.fb]
   simp (disch:=omega) only[↓aq,sss,if_true,if_false,hi,Int.natCast_add,Int.natCast_one]
   by_cases c:q.getD i 0≤p.getD i 0
   ·have c': ¬p.getD i 0<q.getD i 0:=by omega
    simp only[c,c',↓aq,sss,if_true,if_false]
   ·have c':p.getD i 0<q.getD i 0:=by omega
    simp only[c,c',↓aq,sss,if_true,if_false])
  (fun j=>by
   rw[b6.dZ]
   simp only[↓aq,sss,if_true,if_false,Nat.lt_irrefl]) q.length k 0 (by omega) (by omega)
 simp only[Int.natCast_zero]at h
 rw[h]
 cases(List.range' 0 q.length).all fun i=>decide (q.getD i 0≤p.getD i 0)<;>simp
theorem b6.is{k:Nat}{q p:List Int}(hk:4194304+3≤k)(hq:q.length≤1048576)(hp:p.length≤1048576):b6 k q p=some (Pu.cz q p):=by
 obtain⟨k,rfl⟩: ∃k',k=k'+1:=⟨k-1,by omega⟩
 rw[b6.eq,aX.is (by omega) hq,bU,b6.fM,Pu.mS]
 cases c1:Pu.bK q with
 |false=>simp only[↓aq,sss,if_true,if_false]
 |true=>
  simp only[↓aq,sss,if_true,if_false]
  rw[aX.is (by omega) hp,bU]
  cases c2:Pu.bK p with
  |false=>simp only[↓aq,sss,if_true,if_false]
  |true=>
   simp only[↓aq,sss,if_true,if_false]
   exact b6.loop hq hp (by omega)
theorem iL.is{k:Nat}{s:List Int×List Int}(hk:4194304+4≤k)(hq:s.1.length≤1048576)(hp:s.2.length≤1048576):iL k s=some (Pu.cz s.2 s.1):=by
 obtain⟨k,rfl⟩: ∃k',k=k'+1:=⟨k-1,by omega⟩
 rw[iL.eq,b6.is (by omega) hp hq]
 rfl
theorem bM.loop{k:Nat}{t:Pu.Tab}{x3 x4:List Int}(hk:4194304+4≤k)(hi:Pu.bK t.1=true)(h2:t.2.length≤1048576)(hr: ∀x∈t.2,x.length≤1048576): ∀(m j i:Nat) (acc:List Int),i+m=t.2.length→m<j→acc.length=i→
  bM.L1 k j t.2.length i t.2 t.1 x3 x4 acc t.1=some (if Pu.cz t.1 (acc++Pu.gd t.1 i (t.2.drop i))=true then((acc++Pu.gd t.1 i (t.2.drop i),t.1),true)else(([],[]),false))
 |m,0,i,acc,_,hj,_=>by omega
 |0,j+1,i,acc,hm,_,hacc=>by
  rw[bM.dZ]
  have e:i=t.2.length:=by omega
  have h9:=(Pu.bw hi).2.2.1
  have hlt: ¬i<t.2.length:=by omega
  rw[iL.is (by omega) (by simp only;omega) (by simp only;omega),e]
  simp only[↓aq,sss,if_true,if_false,Nat.lt_irrefl,List.drop_length,Pu.gd,List.append_nil]
  cases Pu.cz t.1 acc<;>simp
 |m+1,j+1,i,acc,hm,hj,hacc=>by
  rw[bM.dZ]
  have hlt:i<t.2.length:=by omega
  have hb:=Pu.iC hi i
  have h9:=(Pu.bw hi).2.2.1
  have hrow:=hr t.2[i] (List.getElem_mem hlt)
  rw[←Pu.aw hlt []]at hrow
  rw[gV.is (by omega) (by omega)]
  have ih:=bM.loop (x3:=x3) (x4:=x4) hk hi h2 hr m j (i+1) (acc++ [Pu.atI t.1 i+(t.2.getD i []).length]) (by omega) (by omega) (by simp[hacc])
  rw[Int.natCast_succ]at ih
  rw[Pu.drop_cons hlt []]
  have hl:(acc++ [Pu.atI t.1 i+((t.2.getD i []).length:Int)]).length≤1099511627776:=by simp;omega
  simp (disch:=omega) only[↓aq,sss,if_true,if_false,hlt,hl,ih,Pu.gd]
  simp only[List.append_assoc,List.singleton_append,Pu.fb]
  rfl
theorem bM.is{k:Nat}{t:Pu.Tab}(hk:4194304+5≤k)(h1:t.1.length≤1048576)(h2:t.2.length≤1048576)(hr: ∀x∈t.2,x.length≤1048576):bM k t=some (Pu.shapeOf t):=by
 obtain⟨k,rfl⟩: ∃k',k=k'+1:=⟨k-1,by omega⟩
 rw[bM.eq,aX.is (by omega) h1,bM.fM,cq.is (by omega) (by omega)]
 simp only[↓aq,sss,if_true,if_false]
 unfold Pu.shapeOf
 cases c1:Pu.bK t.1 with
 |false=>
  have:Pu.dz t=false:=by unfold Pu.dz;rw[c1];rfl
  simp only[this,↓aq,sss,if_true,if_false]
 |true=>
  by_cases c2:t.2.length<t.1.length
  ·have:Pu.dz t=false:=by
    have: ¬t.1.length≤t.2.length:=by omega
    unfold Pu.dz;simp[this]
   simp only[this,c2,↓aq,sss,if_true,if_false]
  ·have c2':t.1.length≤t.2.length:=by omega
   have hloop:=bM.loop (k:=k) (t:=t) (x3:= []) (x4:= []) (by omega) c1 h2 hr t.2.length k 0 [] (by omega) (by omega) rfl
   rw[Int.natCast_zero]at hloop
   simp only[c2,↓aq,sss,if_true,if_false]
   rw[hloop]
   have:Pu.dz t=Pu.cz t.1 (Pu.outer t):=by unfold Pu.dz;simp[c1,c2']
   rw[this]
   rfl
theorem eA.is{k:Nat}{t:Pu.Tab}{r c:Int}(hk:3≤k)(hi:Pu.bK t.1=true)(ht:t.2.length≤1048576)(hr: ∀x∈t.2,x.length≤1048576)(h1: -1000000000≤c)(h2:c≤1000000000):eA k t r c=some (Pu.entry t r c):=by
 obtain⟨k,rfl⟩: ∃k',k=k'+1:=⟨k-1,by omega⟩
 have hb:=Pu.iC hi r
 have h9:=(Pu.bw hi).2.2.1
 rw[eA.eq,dI.is (by omega)]
 unfold Pu.entry Pu.within
 by_cases c1:r<0
 ·have c1': ¬0≤r:=by omega
  simp (disch:=omega) only[↓aq,sss,if_true,if_false,c1,c1']
 ·have c3:0≤r:=by omega
  by_cases c2:(t.2.length:Int)≤r
  ·have c2': ¬r≤(t.2.length:Int)-1:=by omega
   simp (disch:=omega) only[↓aq,sss,if_true,if_false,c1,c3,c2,c2']
  ·have c2':r≤(t.2.length:Int)-1:=by omega
   have c4:r.toNat<t.2.length:=by omega
   have hx:=hr _ (List.getElem_mem c4)
   rw[←Pu.aw c4 []]at hx
   simp (disch:=omega) only[↓aq,sss,if_true,if_false,c1,c2,c2',c3,c4,gV.is]
theorem aN.inner{k k1:Nat}{t:Pu.Tab}{r:Nat}(hk:4194304≤k)(hi:Pu.bK t.1=true)(ht:t.2.length≤1048576)(hr: ∀x∈t.2,x.length≤1048576)(hlt:r<t.2.length)(n:Int):
  aN.L1 k k1 k r r n r r (t.2.getD r []).length 0 t.2 t.1=if((List.range' 0 (t.2.getD r []).length).all fun q=>Pu.ij t r q)=true then aN.L0 k k1 n ((r:Int)+1) t.2 t.1 else some false:=by
 have hx:=hr _ (List.getElem_mem hlt)
 rw[←Pu.aw hlt []]at hx
 have hb:=Pu.iC hi r
 have h9:=(Pu.bw hi).2.2.1
 have h:=Pu.lE (fun j q=>aN.L1 k k1 j r r n r r (t.2.getD r []).length (q:Int) t.2 t.1) (t.2.getD r []).length (fun q=>Pu.ij t r q) (some false) (aN.L0 k k1 n ((r:Int)+1) t.2 t.1)
  (fun j q hq=>by
   have e3:=eA.is (k:=k) (t:=t) (r:=(r:Int)-1) (c:=t.1.getD r 0+q) (by omega) hi ht hr (by rw[Pu.fb]at hb;omega) (by rw[Pu.fb]at hb;omega)
   have ea:=gV.is (k:=k) (p:=t.1) (i:=r) (by omega) (by omega)
   rw[Pu.fb]at ea
   rw[Pu.fb]at hb
   rw[aN.dZ]
   simp (maxSteps:=10000000) (disch:=omega) only[↓aq,sss,if_true,if_false,hlt,hq,dI.is,ea,e3,aN.kD,Int.natCast_add,Int.natCast_one]
   unfold Pu.ij
   generalize hx0:(t.2.getD r []).getD q 0=x at*
   cases Pu.within x 1 9 with
   |false=>simp
   |true=>
    have up:(if(0:Int)<r then(if x≤Pu.entry t ((r:Int)-1) (t.1.getD r 0+q)then some false else aN.L1 k k1 j r r n r r (t.2.getD r []).length ((q:Int)+1) t.2 t.1)else aN.L1 k k1 j r r n r r (t.2.getD r []).length ((q:Int)+1) t.2 t.1)=
      if(decide (r=0)||decide (Pu.entry t ((r:Int)-1) (t.1.getD r 0+q)<x))=true then aN.L1 k k1 j r r n r r (t.2.getD r []).length ((q:Int)+1) t.2 t.1 else some false:=by
     by_cases e:r=0
     ·subst e;simp
     ·have e':(0:Int)<r:=by omega
      by_cases c:x≤Pu.entry t ((r:Int)-1) (t.1.getD r 0+q)
      ·have c': ¬Pu.entry t ((r:Int)-1) (t.1.getD r 0+q)<x:=by omega
       simp only[e',c,c',e,if_true,if_false,decide_false,Bool.or_false,Bool.false_eq_true]
      ·have c':Pu.entry t ((r:Int)-1) (t.1.getD r 0+q)<x:=by omega
       simp only[e',c,c',e,if_true,if_false,decide_true,decide_false,Bool.false_or]
    by_cases e:q=0
    ·have e': ¬(0:Int)<q:=by omega
     simp only[e',e,↓aq,sss,if_true,if_false,Bool.true_or]
     rw[e]at up
     exact up
    ·have e':(0:Int)<q:=by omega
     have eq:(q:Int)-1=((q-1:Nat):Int):=by omega
     have hq':q-1<(t.2.getD r []).length:=by omega
     simp (disch:=omega) only[e',e,↓aq,sss,if_true,if_false,eq,hq',Bool.false_or]
     by_cases c:x<(t.2.getD r []).getD (q-1) 0
     ·have c': ¬(t.2.getD r []).getD (q-1) 0≤x:=by omega
      simp only[c,c',↓aq,sss,if_true,if_false]
     ·have c':(t.2.getD r []).getD (q-1) 0≤x:=by omega
      simp only[c,c',↓aq,sss,if_true,if_false]
      exact up)
  (fun j=>by
   rw[aN.dZ]
   simp (maxSteps:=10000000) (disch:=omega) only[↓aq,sss,if_true,if_false,Nat.lt_irrefl]) (t.2.getD r []).length k 0 (by omega) (by omega)
 simp only[Int.natCast_zero]at h
 exact h
theorem aN.is{k:Nat}{t:Pu.Tab}(hk:4194304+6≤k)(h1:t.1.length≤1048576)(ht:t.2.length≤1048576)(hr: ∀x∈t.2,x.length≤1048576):aN k t=some (Pu.g8 t):=by
 obtain⟨k,rfl⟩: ∃k',k=k'+1:=⟨k-1,by omega⟩
 rw[aN.eq,bM.is (by omega) h1 ht hr,bU]
 unfold Pu.g8 Pu.shapeOf
 cases hs:Pu.dz t with
 |false=>simp[hs]
 |true=>
  have hi:Pu.bK t.1=true:=by
   simp only[Pu.dz,Bool.and_eq_true]at hs;exact hs.1
  have h:=Pu.lE (fun j r=>aN.L0 k j t.2.length r t.2 t.1) t.2.length (fun r=>(List.range' 0 (t.2.getD r []).length).all fun q=>Pu.ij t r q) (some false) (some true)
   (fun j r hlt=>by
    rw[aN.bh]
    simp (disch:=omega) only[↓aq,sss,if_true,if_false,hlt,aN.inner (k1:=j) (show 4194304≤k by omega) hi ht hr hlt,Int.natCast_add,Int.natCast_one])
   (fun j=>by
    rw[aN.bh]
    simp (disch:=omega) only[↓aq,sss,if_true,if_false,Nat.lt_irrefl]) t.2.length k 0 (by omega) (by omega)
  simp only[Int.natCast_zero]at h
  simp only[if_true,↓aq,sss,if_true,if_false]
  rw[h]
  cases(List.range' 0 t.2.length).all fun r=>(List.range' 0 (t.2.getD r []).length).all fun q=>Pu.ij t r q<;>simp
theorem eE.is{k:Nat}{t:Pu.Tab}(hk:4194304+7≤k)(h1:t.1.length≤1048576)(ht:t.2.length≤1048576)(hr: ∀x∈t.2,x.length≤1048576):eE k t=some (Pu.bk t):=by
 obtain⟨k,rfl⟩: ∃k',k=k'+1:=⟨k-1,by omega⟩
 rw[eE.eq,aN.is (by omega) h1 ht hr,bU]
 unfold Pu.bk
 by_cases h:t.1.length=0<;>simp[h]
theorem b8.loop{k:Nat}{p:List Int}(hk:2≤k)(hp:p.length≤1000000): ∀(m j i:Nat) (acc:List Int),i+m=p.length→m<j→acc.length≤i→b8.L0 k j p.length i p acc=some (acc++Pu.jY p m i)
 |m,0,i,acc,_,hj,_=>by omega
 |0,j+1,i,acc,hi,_,ha=>by
  rw[b8.bh]
  have hn: ¬((i:Int)<(p.length:Int)):=by omega
  simp only[↓aq,sss,if_true,if_false,hn,Pu.jY,List.append_nil]
 |m+1,j+1,i,acc,hi,hj,ha=>by
  rw[b8.bh]
  have h1:i<p.length:=by omega
  have e:(i:Int)+1=((i+1:Nat):Int):=by omega
  have ih:=fun acc h=>b8.loop hk hp m j (i+1) acc (by omega) (by omega) h
  have hl:(acc++ [(i:Int)]).length≤1099511627776:=by rw[List.length_append,List.length_singleton];omega
  have h2:=ih (acc++ [(i:Int)]) (by rw[List.length_append,List.length_singleton];omega)
  have h3:=ih acc (by omega)
  have ea:gV k p ((i:Int)+1)=some (p.getD (i+1) 0):=by rw[gV.is (by omega) (by omega),e,Pu.fb]
  rw[←e]at h2 h3
  unfold Pu.jY
  by_cases c:p.getD (i+1) 0<p.getD i 0
  ·simp (disch:=omega) only[↓aq,sss,if_true,if_false,h1,ea,c,hl,b8.dR,h2,List.append_assoc,List.cons_append,List.nil_append]
  ·simp (disch:=omega) only[↓aq,sss,if_true,if_false,h1,ea,c,b8.dR,h3]
theorem b8.is{k:Nat}{p:List Int}(hk:4194304+3≤k)(hp:p.length≤1000000):b8 k p=some (Pu.iY p):=by
 obtain⟨k,rfl⟩: ∃k',k=k'+1:=⟨k-1,by omega⟩
 rw[b8.eq,aX.is (by omega) (by omega),bU]
 unfold Pu.iY
 have h:=b8.loop (k:=k) (p:=p) (by omega) hp p.length k 0 [] (by omega) (by omega) (by simp)
 rw[Int.natCast_zero,List.nil_append]at h
 cases hb:Pu.bK p with
 |true=>simp only[↓aq,sss,if_true,if_false,h]
 |false=>simp only[↓aq,sss,if_true,if_false]
theorem bL.is{k:Nat}{r:List Int}{x:Int}(hk:4194304+1≤k)(hr:r.length≤1048577):bL k r x=some (Pu.wX (fun y=>decide (x=y)) r):=by
 obtain⟨k,rfl⟩: ∃k',k=k'+1:=⟨k-1,by omega⟩
 rw[bL.eq]
 have h:=Pu.oM r 0 (fun y=>decide (x=y)) (fun j i=>bL.L0 k j x r.length i r) (fun i=>some (i:Int)) (some (-1))
  (fun j i hi=>by
   rw[bL.bh]
   by_cases c:x=r.getD i 0
   ·simp (disch:=omega) only[↓aq,sss,if_true,if_false,hi,←c]
   ·simp (disch:=omega) only[↓aq,sss,if_true,if_false,hi,c,Int.natCast_add,Int.natCast_one])
  (fun j=>by
   rw[bL.bh]
   simp only[↓aq,sss,if_true,if_false,Nat.lt_irrefl]) r.length k 0 (by omega) (by omega) (by omega)
 simp only[Int.natCast_zero]at h
 simp only[cK,cy]
 rw[h]
 unfold Pu.wX
 split<;>rfl
theorem cD.is{k:Nat}{r:List Int}{x:Int}(hk:4194304+2≤k)(hr:r.length≤1048577):cD k r x=some (Pu.has r x):=by
 obtain⟨k,rfl⟩: ∃k',k=k'+1:=⟨k-1,by omega⟩
 rw[cD.eq,bL.is (by omega) hr,bU,fZ,Pu.u3]
 rfl
theorem br.loop{k:Nat}{t:Pu.Tab}{x3 x4:List Int}{x5:List (List Int)}(hk:1≤k)(ht:t.2.length≤1048576)(hr: ∀x∈t.2,x.length≤1048576): ∀(m j i:Nat),i+m=t.2.length→m<j→
  br.L0 k j t.2.length i t.2 x3 x5 x4 (t.2.take i)=some (x4,t.2)
 |m,0,i,_,hj=>by omega
 |0,j+1,i,hm,_=>by
  rw[br.bh]
  have e:i=t.2.length:=by omega
  subst e
  simp
 |m+1,j+1,i,hm,hj=>by
  rw[br.bh]
  have hlt:i<t.2.length:=by omega
  have hx:=hr _ (List.getElem_mem hlt)
  rw[←Pu.aw hlt []]at hx
  have ih:=br.loop (k:=k) (x3:=x3) (x4:=x4) (x5:=x5) hk ht hr m j (i+1) (by omega) (by omega)
  rw[Int.natCast_succ,Pu.take_succ hlt []]at ih
  have hl:(t.2.take i++ [t.2.getD i []]).length≤1099511627776:=by simp;omega
  simp (disch:=omega) only[↓aq,sss,if_true,if_false,hlt,hl,cq.is,ih]
theorem br.is{k:Nat}{t:Pu.Tab}(hk:4194304+1≤k)(h1:t.1.length≤1048576)(ht:t.2.length≤1048576)(hr: ∀x∈t.2,x.length≤1048576):br k t=some t:=by
 obtain⟨k,rfl⟩: ∃k',k=k'+1:=⟨k-1,by omega⟩
 rw[br.eq,cq.is (by omega) (by omega)]
 have h:=br.loop (k:=k) (t:=t) (x3:= []) (x4:=t.1) (x5:= []) (by omega) ht hr t.2.length k 0 (by omega) (by omega)
 rw[Int.natCast_zero,List.take_zero]at h
 exact h
theorem af.tH{k k1:Nat}{y:Int}{r:Nat}{rs:List (List Int)}{inn:List Int}(hr:r<rs.length)(hs:Pu.cI 1000 1000 rs): ∀(m j:Nat),m≤(rs.getD r []).length→m<j→
  af.L5 k k1 j ((m:Int)-1) r y r rs inn=match Pu.dT (rs.getD r []) y m with
   |some q=>af.L3 k k1 ((rs.getD r []).getD q 0) ((r:Int)-1) inn (rs.set r ((rs.getD r []).set q y))
   |none=>af.L3 k k1 y ((r:Int)-1) inn rs
 |m,0,_,hj=>by omega
 |0,j+1,_,_=>by
  rw[af.vi]
  have hl:=hs.1
  have hn: ¬((0:Int)≤((0:Nat):Int)-1):=by omega
  simp (disch:=omega) only[↓aq,sss,if_true,if_false,hn,Pu.dT,af.zf]
 |m+1,j+1,hm,hj=>by
  rw[af.vi]
  have hl:=hs.1
  have hx:=hs.at r
  have e:((m+1:Nat):Int)-1=(m:Int):=by omega
  have h1:m<(rs.getD r []).length:=by omega
  have ih:=af.tH (k:=k) (k1:=k1) (y:=y) (inn:=inn) hr hs m j (by omega) (by omega)
  rw[e]
  unfold Pu.dT
  by_cases c:(rs.getD r []).getD m 0<y
  ·simp (disch:=omega) only[↓aq,sss,if_true,if_false,hr,h1,c,af.zf]
  ·simp (disch:=omega) only[↓aq,sss,if_true,if_false,hr,h1,c,ih]
theorem af.qB{k:Nat}{inn:List Int}(hk:2000≤k): ∀(r j:Nat) (y:Int) (rs:List (List Int)),r≤rs.length→Pu.cI 1000 1000 rs→r<j→
  af.L3 k j y ((r:Int)-1) inn rs=some ((Pu.eP r rs y).2,(inn,(Pu.eP r rs y).1))
 |r,0,_,_,_,_,hj=>by omega
 |0,j+1,y,rs,_,_,_=>by
  rw[af.nT]
  have hn: ¬((0:Int)≤((0:Nat):Int)-1):=by omega
  simp only[↓aq,sss,if_true,if_false,hn,Pu.eP]
 |r+1,j+1,y,rs,hr,hs,hj=>by
  rw[af.nT]
  have e:((r+1:Nat):Int)-1=(r:Int):=by omega
  have hlt:r<rs.length:=by omega
  have hx:=hs.at r
  have hl:=hs.1
  have h5:=af.tH (k:=k) (k1:=j) (y:=y) (inn:=inn) hlt hs (rs.getD r []).length k (by omega) (by omega)
  rw[e]
  unfold Pu.eP
  cases hq:Pu.dT (rs.getD r []) y (rs.getD r []).length with
  |some q=>
   rw[hq]at h5
   simp (disch:=omega) only[↓aq,sss,if_true,if_false,hlt,h5]
   exact af.qB hk r j _ _ (by rw[List.length_set];omega) (hs.set r (by rw[List.length_set];exact hx)) (by omega)
  |none=>
   rw[hq]at h5
   simp (disch:=omega) only[↓aq,sss,if_true,if_false,hlt,h5]
   exact af.qB hk r j _ _ (by omega) hs (by omega)
theorem af.tO{k k1:Nat}{y:Int}{r n:Nat}{rs:List (List Int)}{inn:List Int}(hr:r<rs.length)(hn:r<n)(hs:Pu.cI 1000 1000 rs): ∀(m j:Nat),m≤(rs.getD r []).length→m<j→
  af.L4 k k1 j ((m:Int)-1) r y r 0 n rs inn=match Pu.dT (rs.getD r []) y m with
   |some q=>af.L2 k k1 ((rs.getD r []).getD q 0) ((r:Int)-1) 0 n inn (rs.set r ((rs.getD r []).set q y))
   |none=>af.L2 k k1 y ((r:Int)-1) 0 n inn rs
 |m,0,_,hj=>by omega
 |0,j+1,_,_=>by
  rw[af.qg]
  have hl:=hs.1
  have hn: ¬((0:Int)≤((0:Nat):Int)-1):=by omega
  simp (disch:=omega) only[↓aq,sss,if_true,if_false,hn,Pu.dT,af.zA]
 |m+1,j+1,hm,hj=>by
  rw[af.qg]
  have hl:=hs.1
  have hx:=hs.at r
  have e:((m+1:Nat):Int)-1=(m:Int):=by omega
  have h1:m<(rs.getD r []).length:=by omega
  have ih:=af.tO (k:=k) (k1:=k1) (y:=y) (inn:=inn) hr hn hs m j (by omega) (by omega)
  rw[e]
  unfold Pu.dT
  by_cases c:(rs.getD r []).getD m 0<y
  ·simp (disch:=omega) only[↓aq,sss,if_true,if_false,cl,Nat.zero_add,hr,hn,h1,c,af.zA]
  ·simp (disch:=omega) only[↓aq,sss,if_true,if_false,cl,Nat.zero_add,hr,hn,h1,c,ih]
theorem af.qn{k:Nat}{n:Nat}{inn:List Int}(hk:2000≤k): ∀(r j:Nat) (y:Int) (rs:List (List Int)),r≤rs.length→r≤n→Pu.cI 1000 1000 rs→r<j→
  af.L2 k j y ((r:Int)-1) 0 n inn rs=some ((Pu.eP r rs y).2,(inn,(Pu.eP r rs y).1.take n))
 |r,0,_,_,_,_,_,hj=>by omega
 |0,j+1,y,rs,_,_,_,_=>by
  rw[af.kP]
  have hn: ¬((0:Int)≤((0:Nat):Int)-1):=by omega
  simp only[↓aq,sss,if_true,if_false,hn,Pu.eP,List.drop_zero]
 |r+1,j+1,y,rs,hr,hrn,hs,hj=>by
  rw[af.kP]
  have e:((r+1:Nat):Int)-1=(r:Int):=by omega
  have hlt:r<rs.length:=by omega
  have hn:r<n:=by omega
  have hx:=hs.at r
  have hl:=hs.1
  have h5:=af.tO (k:=k) (k1:=j) (y:=y) (n:=n) (inn:=inn) hlt hn hs (rs.getD r []).length k (by omega) (by omega)
  rw[e]
  unfold Pu.eP
  cases hq:Pu.dT (rs.getD r []) y (rs.getD r []).length with
  |some q=>
   rw[hq]at h5
   simp (disch:=omega) only[↓aq,sss,if_true,if_false,cl,Nat.zero_add,hlt,hn,h5]
   exact af.qn hk r j _ _ (by rw[List.length_set];omega) (by omega) (hs.set r (by rw[List.length_set];exact hx)) (by omega)
  |none=>
   rw[hq]at h5
   simp (disch:=omega) only[↓aq,sss,if_true,if_false,cl,Nat.zero_add,hlt,hn,h5]
   exact af.qn hk r j _ _ (by omega) (by omega) hs (by omega)
theorem af.is{k:Nat}{rs:List (List Int)}{n:Nat}{inn:List Int}(hk:4194304+1≤k)(hs:Pu.cI 9 9 rs)(hn:n<rs.length)(hl:1≤(rs.getD n []).length):
  af k n inn rs=some ((Pu.bV rs n).2,(inn,(Pu.bV rs n).1)):=by
 obtain⟨k,rfl⟩: ∃k',k=k'+1:=⟨k-1,by omega⟩
 rw[af.eq]
 have h9:=hs.1
 have hx:=hs.at n
 have hs':Pu.cI 1000 1000 (rs.set n ((rs.getD n []).take ((rs.getD n []).length-1))):=(hs.mono (by omega) (by omega)).set n (by rw[List.length_take];omega)
 have ew:IntKind.i64.wrap (((rs.getD n []).length:Int)-1)=(((rs.getD n []).length-1:Nat):Int):=by rw[Pu.w64 (by omega) (by omega)];omega
 have h3:=af.qB (k:=k) (inn:=inn) (by omega) n k ((rs.getD n []).getD ((rs.getD n []).length-1) 0) _ (by rw[List.length_set];omega) hs' (by omega)
 have h2:=af.qn (k:=k) (n:=n) (inn:=inn) (by omega) n k ((rs.getD n []).getD ((rs.getD n []).length-1) 0) _ (by rw[List.length_set];omega) (by omega) hs' (by omega)
 have q1:(rs.getD n []).length-1<(rs.getD n []).length:=by omega
 have q2:(rs.getD n []).length-1≤(rs.getD n []).length:=by omega
 have q3:n≤(rs.set n ((rs.getD n []).take ((rs.getD n []).length-1))).length:=by rw[List.length_set];omega
 unfold Pu.bV
 by_cases c:(rs.getD n []).length=1
 ·have c':(((rs.getD n []).length-1:Nat):Int)=0:=by omega
  rw[if_pos c]
  simp (disch:=omega) only[↓aq,sss,if_true,if_false,cu,Nat.sub_zero,List.drop_zero,hn,ew,q1,q2,q3,af.fM,h2]
  simp only[c',decide_true,if_true]
 ·have c': ¬(((rs.getD n []).length-1:Nat):Int)=0:=by omega
  simp (disch:=omega) only[↓aq,sss,if_true,if_false,cu,Nat.sub_zero,List.drop_zero,hn,ew,q1,q2,q3,c,c',af.dR,h3]
theorem dA.is{k:Nat}{t:Pu.Tab}{row:Int}(hk:4194304+8≤k)(h1:t.1.length≤1048576)(hl:t.2.length≤1048576)(hr: ∀r∈t.2,r.length≤1048576):dA k t row=some (Pu.ep t row):=by
 obtain⟨k,rfl⟩: ∃k',k=k'+1:=⟨k-1,by omega⟩
 have hsh:=bM.is (k:=k) (t:=t) (by omega) h1 hl hr
 rw[dA.eq,show((t.1,t.2):Pu.Tab)=t from rfl,hsh,bU,eE.is (by omega) h1 hl hr,bU]
 unfold Pu.ep
 cases hp:Pu.bk t with
 |false=>simp
 |true=>
  have hpp:=hp
  simp only[Pu.bk,Bool.and_eq_true]at hpp
  have hs:Pu.shapeOf t=((Pu.outer t,t.1),true):=by unfold Pu.shapeOf;rw[if_pos (Pu.ke hpp.1)]
  have ho:(Pu.outer t).length≤9:=by rw[Pu.cp];exact(Pu.fH hp).1
  have hc:=b8.is (k:=k) (p:=Pu.outer t) (by omega) (by omega)
  have hh:=cD.is (k:=k) (x:=row) (r:=Pu.iY (Pu.outer t)) (by omega) (by have:=Pu.tw (Pu.outer t);omega)
  simp only[↓aq,sss,if_true,if_false,hs,hc,hh]
  cases hb:Pu.has (Pu.iY (Pu.outer t)) row with
  |false=>simp
  |true=>
   obtain⟨n,rfl,hn,hl1⟩:=Pu.vw hp hb
   have hown:=br.is (k:=k) (t:=t) (by omega) h1 hl hr
   have h10:=af.is (k:=k) (rs:=t.2) (n:=n) (inn:=t.1) (by omega) (Pu.fH hp) hn hl1
   rw[dA.fM,show((t.1,t.2):Pu.Tab)=t from rfl]
   simp only[↓aq,sss,if_true,if_false,hown,h10,Int.toNat_natCast,and_self]
theorem fq.is{k:Nat}{t:Pu.Tab}(hk:4194304+6≤k)(h1:t.1.length≤1048576)(ht:t.2.length≤1048576)(hr: ∀x∈t.2,x.length≤1048576):fq k t=some (Pu.bk t):=by
 obtain⟨k,rfl⟩: ∃k',k=k'+1:=⟨k-1,by omega⟩
 rw[fq.eq,aD.is (by omega) h1 ht hr,bU]
 unfold Pu.bk
 cases Pu.g8 t<;>simp
theorem b7.loop{k:Nat}{p:List Int}(hk:1≤k)(hp:p.length≤1000000): ∀(m j i:Nat) (acc:List Int),i+m=p.length→m<j→acc.length≤i→b7.L0 k j i p acc=some (acc++Pu.jY p m i)
 |m,0,i,acc,_,hj,_=>by omega
 |0,j+1,i,acc,hi,_,ha=>by
  rw[b7.bh]
  have hn: ¬((i:Int)<(p.length:Int)):=by omega
  simp only[↓aq,sss,if_true,if_false,hn,Pu.jY,List.append_nil]
 |m+1,j+1,i,acc,hi,hj,ha=>by
  rw[b7.bh]
  have h1:i<p.length:=by omega
  have e:(i:Int)+1=((i+1:Nat):Int):=by omega
  have ih:=fun acc h=>b7.loop hk hp m j (i+1) acc (by omega) (by omega) h
  have hl:(acc++ [(i:Int)]).length≤1099511627776:=by rw[List.length_append,List.length_singleton];omega
  have h2:=ih (acc++ [(i:Int)]) (by rw[List.length_append,List.length_singleton];omega)
  have h3:=ih acc (by omega)
  have ea:cQ k p ((i:Int)+1)=some (p.getD (i+1) 0):=by rw[cQ.is (by omega),e,Pu.fb]
  rw[←e]at h2 h3
  unfold Pu.jY
  by_cases c:p.getD (i+1) 0<p.getD i 0
  ·simp (disch:=omega) only[↓aq,sss,if_true,if_false,h1,ea,c,hl,b7.dR,h2,List.append_assoc,List.cons_append,List.nil_append]
  ·simp (disch:=omega) only[↓aq,sss,if_true,if_false,h1,ea,c,b7.dR,h3]
theorem b7.is{k:Nat}{p:List Int}(hk:4194304+3≤k)(hp:p.length≤1000000):b7 k p=some (Pu.iY p):=by
 obtain⟨k,rfl⟩: ∃k',k=k'+1:=⟨k-1,by omega⟩
 rw[b7.eq,aO.is (by omega) (by omega),bU]
 unfold Pu.iY
 have h:=b7.loop (k:=k) (p:=p) (by omega) hp p.length k 0 [] (by omega) (by omega) (by simp)
 rw[Int.natCast_zero,List.nil_append]at h
 cases hb:Pu.bK p with
 |true=>simp only[↓aq,sss,if_true,if_false,h]
 |false=>simp only[↓aq,sss,if_true,if_false]
theorem dy.loop{k:Nat}{x:Int}{r:List Int}(hr:r.length≤1048577): ∀(m j i:Nat),i+m=r.length→m<j→dy.L0 k j x i r=some (Pu.has (r.drop i) x)
 |m,0,i,_,hj=>by omega
 |0,j+1,i,hi,_=>by
  rw[dy.bh]
  have e:i=r.length:=by omega
  subst e
  simp[Pu.has]
 |m+1,j+1,i,hi,hj=>by
  rw[dy.bh]
  have h1:i<r.length:=by omega
  have ih:=dy.loop (k:=k) (x:=x) hr m j (i+1) (by omega) (by omega)
  rw[Int.natCast_succ]at ih
  have e:Pu.has (r.drop i) x=(decide (x=r.getD i 0)||Pu.has (r.drop (i+1)) x):=by
   rw[Pu.drop_cons h1 0];rfl
  rw[e]
  by_cases c:r.getD i 0=x
  ·have c':x=r.getD i 0:=c.symm
   simp (disch:=omega) only[↓aq,sss,if_true,if_false,h1,c,Bool.true_or]
  ·have c': ¬x=r.getD i 0:=fun h=>c h.symm
   simp (disch:=omega) only[↓aq,sss,if_true,if_false,h1,c,c',Bool.false_or,ih]
theorem dy.is{k:Nat}{x:Int}{r:List Int}(hk:4194304+2≤k)(hr:r.length≤1048577):dy k r x=some (Pu.has r x):=by
 obtain⟨k,rfl⟩: ∃k',k=k'+1:=⟨k-1,by omega⟩
 rw[dy.eq]
 have h:=dy.loop (k:=k) (x:=x) hr r.length k 0 (by omega) (by omega)
 rw[Int.natCast_zero,List.drop_zero]at h
 exact h
theorem dv.loop{k:Nat}{t:Pu.Tab}{x3 x4:List Int}{x5:List (List Int)}(ht:t.2.length≤1048576)(hr: ∀x∈t.2,x.length≤1048576): ∀(m j i:Nat),i+m=t.2.length→m<j→
  dv.L0 k j i t.1 t.2 x3 x5 x4 (t.2.take i)=some (x4,t.2)
 |m,0,i,_,hj=>by omega
 |0,j+1,i,hm,_=>by
  rw[dv.bh]
  have e:i=t.2.length:=by omega
  subst e
  simp
 |m+1,j+1,i,hm,hj=>by
  rw[dv.bh]
  have hlt:i<t.2.length:=by omega
  have hx:=hr _ (List.getElem_mem hlt)
  rw[←Pu.aw hlt []]at hx
  have ih:=dv.loop (k:=k) (x3:=x3) (x4:=x4) (x5:=x5) ht hr m j (i+1) (by omega) (by omega)
  rw[Int.natCast_succ,Pu.take_succ hlt []]at ih
  have hl:(t.2.take i++ [t.2.getD i []]).length≤1099511627776:=by simp;omega
  have hx':(t.2.getD i []).length≤1099511627776:=by omega
  simp (disch:=omega) only[↓aq,sss,if_true,if_false,hlt,hl,hx',List.nil_append,ih]
theorem dv.is{k:Nat}{t:Pu.Tab}(hk:4194304+1≤k)(h1:t.1.length≤1048576)(ht:t.2.length≤1048576)(hr: ∀x∈t.2,x.length≤1048576):dv k t=some t:=by
 obtain⟨k,rfl⟩: ∃k',k=k'+1:=⟨k-1,by omega⟩
 rw[dv.eq]
 have h:=dv.loop (k:=k) (t:=t) (x3:= []) (x4:=t.1) (x5:= []) ht hr t.2.length k 0 (by omega) (by omega)
 rw[Int.natCast_zero,List.take_zero]at h
 have hl:t.1.length≤1099511627776:=by omega
 simp only[↓aq,sss,if_true,if_false,List.nil_append,hl,h]
theorem ar.tH{k k1:Nat}{y:Int}{r:Nat}{rs d2:List (List Int)}{inn d1:List Int}(hr:r<rs.length)(hs:Pu.cI 1000 1000 rs): ∀(m j q:Nat),m≤(rs.getD r []).length→m<j→Pu.dT (rs.getD r []) y m=some q→
  ar.L5 k k1 j y r ((m:Int)-1) d1 d2 inn rs=ar.L3 k k1 ((rs.getD r []).getD q 0) ((r:Int)-1) d1 d2 inn (rs.set r ((rs.getD r []).set q y))
 |m,0,_,_,hj,_=>by omega
 |0,j+1,q,_,_,hq=>by simp[Pu.dT]at hq
 |m+1,j+1,q,hm,hj,hq=>by
  rw[ar.vi]
  have hl:=hs.1
  have hx:=hs.at r
  have e:((m+1:Nat):Int)-1=(m:Int):=by omega
  have h1:m<(rs.getD r []).length:=by omega
  rw[e]
  unfold Pu.dT at hq
  by_cases c:(rs.getD r []).getD m 0<y
  ·rw[if_pos c]at hq
   injection hq with hq
   subst hq
   have c': ¬y≤(rs.getD r []).getD m 0:=by omega
   simp (disch:=omega) only[↓aq,sss,if_true,if_false,hr,h1,c']
  ·rw[if_neg c]at hq
   have c':y≤(rs.getD r []).getD m 0:=by omega
   have ih:=ar.tH (k:=k) (k1:=k1) (y:=y) (inn:=inn) (d1:=d1) (d2:=d2) hr hs m j q (by omega) (by omega) hq
   simp (disch:=omega) only[↓aq,sss,if_true,if_false,hr,h1,c',ih]
theorem ar.qB{k:Nat}{inn d1:List Int}{d2:List (List Int)}(hk:2000≤k): ∀(r j:Nat) (y:Int) (rs:List (List Int)),r≤rs.length→Pu.cI 1000 1000 rs→r<j→Pu.Be r rs y→
  ar.L3 k j y ((r:Int)-1) d1 d2 inn rs=some ((inn,(Pu.eP r rs y).1),(Pu.eP r rs y).2)
 |r,0,_,_,_,_,hj,_=>by omega
 |0,j+1,y,rs,_,_,_,_=>by
  rw[ar.nT]
  have hn: ¬((0:Int)≤((0:Nat):Int)-1):=by omega
  simp only[↓aq,sss,if_true,if_false,hn,Pu.eP]
 |r+1,j+1,y,rs,hr,hs,hj,hg=>by
  rw[ar.nT]
  have e:((r+1:Nat):Int)-1=(r:Int):=by omega
  have hlt:r<rs.length:=by omega
  have hx:=hs.at r
  have hl:=hs.1
  obtain⟨q,hq,hg⟩:=hg
  have h5:=ar.tH (k:=k) (k1:=j) (y:=y) (inn:=inn) (d1:=d1) (d2:=d2) hlt hs (rs.getD r []).length k q (by omega) (by omega) hq
  rw[e]
  unfold Pu.eP
  rw[hq]
  simp (disch:=omega) only[↓aq,sss,if_true,if_false,hlt,h5]
  exact ar.qB hk r j _ _ (by rw[List.length_set];omega) (hs.set r (by rw[List.length_set];exact hx)) (by omega) hg
theorem ar.tO{k k1:Nat}{y:Int}{r:Nat}{n:Nat}{rs d2:List (List Int)}{inn d1:List Int}(hr:r<rs.length)(hn:r<n)(hs:Pu.cI 1000 1000 rs): ∀(m j q:Nat),m≤(rs.getD r []).length→m<j→Pu.dT (rs.getD r []) y m=some q→
  ar.L4 k k1 j y r ((m:Int)-1) 0 n d1 d2 inn rs=ar.L2 k k1 ((rs.getD r []).getD q 0) ((r:Int)-1) 0 n d1 d2 inn (rs.set r ((rs.getD r []).set q y))
 |m,0,_,_,hj,_=>by omega
 |0,j+1,q,_,_,hq=>by simp[Pu.dT]at hq
 |m+1,j+1,q,hm,hj,hq=>by
  rw[ar.qg]
  have hl:=hs.1
  have hx:=hs.at r
  have e:((m+1:Nat):Int)-1=(m:Int):=by omega
  have h1:m<(rs.getD r []).length:=by omega
  rw[e]
  unfold Pu.dT at hq
  by_cases c:(rs.getD r []).getD m 0<y
  ·rw[if_pos c]at hq
   injection hq with hq
   subst hq
   have c': ¬y≤(rs.getD r []).getD m 0:=by omega
   simp (disch:=omega) only[↓aq,sss,if_true,if_false,cl,Nat.zero_add,hr,hn,h1,c']
  ·rw[if_neg c]at hq
   have c':y≤(rs.getD r []).getD m 0:=by omega
   have ih:=ar.tO (k:=k) (k1:=k1) (y:=y) (inn:=inn) (d1:=d1) (d2:=d2) hr hn hs m j q (by omega) (by omega) hq
   simp (disch:=omega) only[↓aq,sss,if_true,if_false,cl,Nat.zero_add,hr,hn,h1,c',ih]
theorem ar.qn{k:Nat}{n:Nat}{inn d1:List Int}{d2:List (List Int)}(hk:2000≤k): ∀(r j:Nat) (y:Int) (rs:List (List Int)),r≤rs.length→r≤n→Pu.cI 1000 1000 rs→r<j→Pu.Be r rs y→
  ar.L2 k j y ((r:Int)-1) 0 n d1 d2 inn rs=some ((inn,(Pu.eP r rs y).1.take n),(Pu.eP r rs y).2)
 |r,0,_,_,_,_,_,hj,_=>by omega
 |0,j+1,y,rs,_,_,_,_,_=>by
  rw[ar.kP]
  have hn: ¬((0:Int)≤((0:Nat):Int)-1):=by omega
  simp only[↓aq,sss,if_true,if_false,hn,Pu.eP,List.drop_zero]
 |r+1,j+1,y,rs,hr,hrn,hs,hj,hg=>by
  rw[ar.kP]
  have e:((r+1:Nat):Int)-1=(r:Int):=by omega
  have hlt:r<rs.length:=by omega
  have hn:r<n:=by omega
  have hx:=hs.at r
  have hl:=hs.1
  obtain⟨q,hq,hg⟩:=hg
  have h5:=ar.tO (k:=k) (k1:=j) (y:=y) (inn:=inn) (d1:=d1) (d2:=d2) (n:=n) hlt hn hs (rs.getD r []).length k q (by omega) (by omega) hq
  rw[e]
  unfold Pu.eP
  rw[hq]
  simp (disch:=omega) only[↓aq,sss,if_true,if_false,cl,Nat.zero_add,hlt,hn,h5]
  exact ar.qn hk r j _ _ (by rw[List.length_set];omega) (by omega) (hs.set r (by rw[List.length_set];exact hx)) (by omega) hg
theorem ar.is{k:Nat}{t:Pu.Tab}{n:Nat}(hk:4194304+3≤k)(h1:t.1.length≤1048576)(hs:Pu.cI 9 9 t.2)(hn:n<t.2.length)(hl:1≤(t.2.getD n []).length)
  (hg:Pu.Be n (t.2.set n ((t.2.getD n []).take ((t.2.getD n []).length-1))) ((t.2.getD n []).getD ((t.2.getD n []).length-1) 0)):
  ar k t n=some ((t.1,(Pu.bV t.2 n).1),(Pu.bV t.2 n).2):=by
 obtain⟨k,rfl⟩: ∃k',k=k'+1:=⟨k-1,by omega⟩
 have h9:=hs.1
 have hx:=hs.at n
 have hcp:=dv.is (k:=k) (t:=t) (by omega) h1 (by omega) (fun r hr=>by have:=hs.2 r hr;omega)
 rw[ar.eq,show((t.1,t.2):Pu.Tab)=t from rfl,hcp,bU]
 obtain⟨inn,rs⟩:=t
 dsimp only at*
 have hs':Pu.cI 1000 1000 (rs.set n ((rs.getD n []).take ((rs.getD n []).length-1))):=(hs.mono (by omega) (by omega)).set n (by rw[List.length_take];omega)
 have ew:IntKind.i64.wrap (((rs.getD n []).length:Int)-1)=(((rs.getD n []).length-1:Nat):Int):=by rw[Pu.w64 (by omega) (by omega)];omega
 have h3:=fun d1 d2=>ar.qB (k:=k) (inn:=inn) (d1:=d1) (d2:=d2) (by omega) n k ((rs.getD n []).getD ((rs.getD n []).length-1) 0) _ (by rw[List.length_set];omega) hs' (by omega) hg
 have h2:=fun d1 d2=>ar.qn (k:=k) (n:=n) (inn:=inn) (d1:=d1) (d2:=d2) (by omega) n k ((rs.getD n []).getD ((rs.getD n []).length-1) 0) _ (by rw[List.length_set];omega) (by omega) hs' (by omega) hg
 have q1:(rs.getD n []).length-1<(rs.getD n []).length:=by omega
 have q2:(rs.getD n []).length-1≤(rs.getD n []).length:=by omega
 have q3:n≤(rs.set n ((rs.getD n []).take ((rs.getD n []).length-1))).length:=by rw[List.length_set];omega
 unfold Pu.bV
 by_cases c:(rs.getD n []).length=1
 ·have c':(((rs.getD n []).length-1:Nat):Int)=0:=by omega
  rw[if_pos c]
  simp (disch:=omega) only[↓aq,sss,if_true,if_false,cu,Nat.sub_zero,List.drop_zero,hn,ew,q1,q2,q3,ar.fM,h2]
  simp only[c',decide_true,if_true]
 ·have c': ¬(((rs.getD n []).length-1:Nat):Int)=0:=by omega
  simp (disch:=omega) only[↓aq,sss,if_true,if_false,cu,Nat.sub_zero,List.drop_zero,hn,ew,q1,q2,q3,c,c',ar.dR,h3]
theorem gr.is{k:Nat}{t:Pu.Tab}{row:Int}(hk:4194304+8≤k)(h1:t.1.length≤1048576)(hl:t.2.length≤1048576)(hr: ∀r∈t.2,r.length≤1048576):gr k t row=some (Pu.ep t row):=by
 obtain⟨k,rfl⟩: ∃k',k=k'+1:=⟨k-1,by omega⟩
 rw[gr.eq,fq.is (by omega) h1 hl hr,bU]
 unfold Pu.ep
 cases hp:Pu.bk t with
 |false=>simp
 |true=>
  have hpp:=hp
  simp only[Pu.bk,Bool.and_eq_true]at hpp
  have hs:Pu.shapeOf t=((Pu.outer t,t.1),true):=by unfold Pu.shapeOf;rw[if_pos (Pu.ke hpp.1)]
  have ho:(Pu.outer t).length≤9:=by rw[Pu.cp];exact(Pu.fH hp).1
  have hc:=b7.is (k:=k) (p:=Pu.outer t) (by omega) (by omega)
  have hh:=dy.is (k:=k) (x:=row) (r:=Pu.iY (Pu.outer t)) (by omega) (by have:=Pu.tw (Pu.outer t);omega)
  have hsh:=bD.is (k:=k) (t:=t) (by omega) h1 hl hr
  rw[show((t.1,t.2):Pu.Tab)=t from rfl]
  simp only[↓aq,sss,if_true,if_false,hsh,hs,hc,hh]
  cases hb:Pu.has (Pu.iY (Pu.outer t)) row with
  |false=>simp
  |true=>
   obtain⟨n,rfl,hn,hl1⟩:=Pu.vw hp hb
   have h10:=ar.is (k:=k) (t:=t) (n:=n) (by omega) h1 (Pu.fH hp) hn hl1 (Pu.BI hp hn hl1)
   simp only[↓aq,sss,if_true,if_false,h10,Int.toNat_natCast,and_self]
theorem ct.loop{k:Nat}{w:List Int}(hw:w.length≤1048576)(hb: ∀x∈w,-1000000≤x∧x≤1000000): ∀(m j i:Nat) (s:Int),i+m=w.length→m<j→ -1000000*i≤s→s≤1000000*i→ct.L0 k j s i w=some (s+Pu.dm (w.drop i))
 |m,0,i,s,_,hj,_,_=>by omega
 |0,j+1,i,s,hm,_,_,_=>by
  rw[ct.bh]
  have e:i=w.length:=by omega
  subst e
  simp[Pu.dm]
 |m+1,j+1,i,s,hm,hj,hs1,hs2=>by
  rw[ct.bh]
  have hlt:i<w.length:=by omega
  have hx:=hb _ (List.getElem_mem hlt)
  rw[←Pu.aw hlt 0]at hx
  have ih:=ct.loop (k:=k) hw hb m j (i+1) (s+w.getD i 0) (by omega) (by omega) (by omega) (by omega)
  rw[Int.natCast_succ]at ih
  rw[Pu.drop_cons hlt 0]
  simp (disch:=omega) only[↓aq,sss,if_true,if_false,hlt,ih,Pu.dm,Int.add_assoc]
theorem ct.is{k:Nat}{w:List Int}(hk:4194304+1≤k)(hw:w.length≤1048576)(hb: ∀x∈w,-1000000≤x∧x≤1000000):ct k w=some (Pu.dm w):=by
 obtain⟨k,rfl⟩: ∃k',k=k'+1:=⟨k-1,by omega⟩
 rw[ct.eq]
 have h:=ct.loop (k:=k) hw hb w.length k 0 0 (by omega) (by omega) (by omega) (by omega)
 rw[Int.natCast_zero]at h
 rw[h,Int.zero_add,List.drop_zero]
theorem cJ.tail{k:Nat}{o p:List Int}{r:Int}(hk:4194304+1≤k)(hp:p.length≤1048576)(hb: ∀x∈p,x≤1000000000∧ -1000000000≤x)(h0:0≤r)(h1:r<p.length):
  cJ.J1 k r p=some (if Pu.bK (p.set r.toNat (p.getD r.toNat 0+1))=true then(p.set r.toNat (p.getD r.toNat 0+1),true)else([],false)):=by
 rw[cJ.dR]
 have hn:r.toNat<p.length:=by omega
 have hx:=hb _ (List.getElem_mem hn)
 rw[←Pu.aw hn 0]at hx
 have ew:IntKind.i64.wrap (p.getD r.toNat 0+1)=p.getD r.toNat 0+1:=Pu.w64 (by omega) (by omega)
 have hi:=aO.is (k:=k) (p:=p.set r.toNat (p.getD r.toNat 0+1)) hk (by rw[List.length_set];exact hp)
 by_cases hq:Pu.bK (p.set r.toNat (p.getD r.toNat 0+1))=true
 ·simp only[↓aq,sss,if_true,if_false,h0,hn,ew,hi,hq]
 ·simp only[Bool.not_eq_true]at hq
  simp only[↓aq,sss,if_true,if_false,h0,hn,ew,hi,hq]
theorem cJ.is{k:Nat}{p:List Int}{r:Int}(hk:4194304+3≤k)(hp:p.length≤1000000):cJ k p r=some (Pu.jf p r):=by
 obtain⟨k,rfl⟩: ∃k',k=k'+1:=⟨k-1,by omega⟩
 rw[cJ.eq,aO.is (by omega) (by omega),bU]
 unfold Pu.jf
 by_cases h1:Pu.bK p=true
 ·have hb: ∀x∈p,x≤1000000000∧ -1000000000≤x:=fun x hx=>by
   have:=(Pu.bw h1).1 x hx
   omega
  by_cases h2:r<0
  ·have h3: ¬0≤r:=by omega
   simp[h1,h2,h3]
  ·by_cases h3:(p.length:Int)<r
   ·have h4: ¬r≤p.length:=by omega
    simp[h1,h2,h3,h4]
   ·have h2':0≤r:=by omega
    have h3':r≤p.length:=by omega
    have hl:([]++p).length≤1099511627776:=by simp;omega
    rw[cJ.fM]
    by_cases e:r=p.length
    ·have hr:r<(p++ [0]).length:=by rw[List.length_append];simp;omega
     have ht:=cJ.tail (o:=p) (k:=k) (p:=p++ [0]) (r:=r) (by omega) (by rw[List.length_append];simp;omega) (fun x hx=>by
      rcases List.mem_append.1 hx with h|h
      ·exact hb x h
      ·simp at h;omega) h2' hr
     have hlim:(p++ [(0:Int)]).length≤1099511627776:=by rw[List.length_append];simp;omega
     have hlim':p.length≤1099511627776:=by omega
     have e':(r=(p.length:Int))=True:=eq_true e
     simp only[↓aq,sss,if_true,if_false,h1,h2,h3,e',hlim,hlim',List.nil_append]
     rw[ht];simp only[h2',h3',and_self,if_true]
    ·have ht:=cJ.tail (o:=p) (k:=k) (p:=p) (r:=r) (by omega) (by omega) hb h2' (by omega)
     have hlim':p.length≤1099511627776:=by omega
     simp only[↓aq,sss,if_true,if_false,h1,h2,h3,e,hlim',List.nil_append]
     rw[ht];simp only[h2',h3',and_self,if_true]
 ·simp only[Bool.not_eq_true]at h1
  simp[h1]
theorem bR.ok{o:List Int}(ho:Pu.bK o=true): ∀(d k:Nat) (c:List (List Int)),4194304+10+d≤k→Pu.Ch c→Pu.cz (Pu.iX c) o=true→(c.length:Int)≤Pu.dm (Pu.iX c)+1→Pu.dm o=Pu.dm (Pu.iX c)+d→
  Pu.Ok (bR k o c) fun L=>1≤L.length∧L.length≤Pu.fct d∧ ∀x∈L,Pu.Ch x:=by
 intro d
 induction d with
 |zero=>
  intro k c hk hc hi hl hs
  obtain⟨k,rfl⟩: ∃k',k=k'+1:=⟨k-1,by omega⟩
  obtain⟨c1,c2,c3⟩:=hc
  obtain⟨hp,_⟩:=Pu.l7 hi
  rw[bR.eq]
  have hz:IntKind.i64.wrap ((c.length:Int)-1)=((c.length-1:Nat):Int):=by rw[Pu.w64 (by omega) (by omega)];omega
  simp only[gB,fZ,dP,dX,ed,cy,cK,cS,fe,dB,dD,cO,cP,dL,bZ,cZ,dw,eB,fT,fX,dY,dW,cX,cY,cl,cu,List.nil_append,List.cons_append]
  simp only[hz,Int.toNat_natCast]
  (repeat (refine Pu.Ok.g (by first|omega|assumption|(simp only[List.length_append,List.length_cons,List.length_nil,List.length_set,List.length_take,List.length_drop,List.length_replicate]at*;omega)) ?_))
  refine Pu.Ok.gX (ct.is (w:=Pu.iX c) (by omega) (by have:=(Pu.fL hp).1;omega) fun x hx=>by have:=(Pu.fL hp).2 x hx;omega) ?_
  refine Pu.Ok.gX (ct.is (w:=o) (by omega) (by have:=(Pu.fL ho).1;omega) fun x hx=>by have:=(Pu.fL ho).2 x hx;omega) ?_
  refine Pu.Ok.t (fun _=>Pu.Ok.ret ⟨by simp,by simp[Pu.fct],fun x hx=>by simp only[List.mem_singleton]at hx;subst hx;exact⟨c1,c2,c3⟩⟩) (fun hn=>absurd (by rw[hs];simp) hn)
 |succ d ih=>
  intro k c hk hc hi hl hs
  obtain⟨k,rfl⟩: ∃k',k=k'+1:=⟨k-1,by omega⟩
  have hc':=hc
  obtain⟨c1,c2,c3⟩:=hc
  obtain⟨hp,_⟩:=Pu.l7 hi
  have hso:=(Pu.bw ho).2.1
  rw[bR.eq]
  have hz:IntKind.i64.wrap ((c.length:Int)-1)=((c.length-1:Nat):Int):=by rw[Pu.w64 (by omega) (by omega)];omega
  simp only[gB,fZ,dP,dX,ed,cy,cK,cS,fe,dB,dD,cO,cP,dL,bZ,cZ,dw,eB,fT,fX,dY,dW,cX,cY,cl,cu,List.nil_append,List.cons_append]
  simp only[hz,Int.toNat_natCast]
  (repeat (refine Pu.Ok.g (by first|omega|assumption|(simp only[List.length_append,List.length_cons,List.length_nil,List.length_set,List.length_take,List.length_drop,List.length_replicate]at*;omega)) ?_))
  have hlp:=(Pu.fL hp).1
  refine Pu.Ok.gX (ct.is (w:=Pu.iX c) (by omega) (by omega) fun x hx=>by have:=(Pu.fL hp).2 x hx;omega) ?_
  refine Pu.Ok.gX (ct.is (w:=o) (by omega) (by have:=(Pu.fL ho).1;omega) fun x hx=>by have:=(Pu.fL ho).2 x hx;omega) ?_
  refine Pu.Ok.t (fun e=>by omega) (fun _=> ?_)
  obtain⟨ra,oa,a1,a2,a3⟩:=Pu.EN hi (by omega)
  have hT:=Pu.DF (d:=d) (by have:=Pu.lz hp 0;have:=(Pu.bw hp).2.2.2;omega)
  have hsucc:Pu.fct (d+1)=(d+1)*Pu.fct d:=rfl
  rw[hsucc]
  generalize Pu.fct d=T at*
  have hle:=Pu.pQ hi
  obtain⟨F,hF⟩: ∃F:Nat→Int,F=fun r=>Pu.dm (o.take r)-Pu.dm ((Pu.iX c).take r):=⟨_,rfl⟩
  have hF1: ∀r,F (r+1)=F r+(o.getD r 0-(Pu.iX c).getD r 0):=fun r=>by
   subst hF
   simp only[Pu.wV]
   omega
  have hF0:F 0=0:=by subst hF;simp[Pu.dm]
  have hFe:F ((Pu.iX c).length+1)≤d+1:=by
   subst hF
   have h1:=(Pu.s9 o (fun x hx=>by have:=(Pu.bw ho).1 x hx;omega) ((Pu.iX c).length+1)).2
   have h2:(Pu.iX c).take ((Pu.iX c).length+1)=Pu.iX c:=List.take_of_length_le (by omega)
   simp only[h2]
   omega
  have hFp: ∀r,0≤F r:=fun r=>by
   induction r with
   |zero=>omega
   |succ r ih=>have:=hF1 r;have:=hle r;omega
  have loop: ∀(m j r:Nat) (out:List (List (List Int))),r+m=(Pu.iX c).length+1→m<j→(out.length:Int)≤F r*T→(∀x∈out,Pu.Ch x)→(r≤ra∨1≤out.length)→
    Pu.Ok (bR.L0 k j (c.length-1) r o c out) fun L=>1≤L.length∧L.length≤(d+1)*T∧ ∀x∈L,Pu.Ch x:=by
   intro m
   induction m with
   |zero=>
    intro j r out hr hj hout hg hne
    obtain⟨j,rfl⟩: ∃j',j=j'+1:=⟨j-1,by omega⟩
    rw[bR.bh]
    simp only[gB,fZ,dP,dX,ed,cy,cK,cS,fe,dB,dD,cO,cP,dL,bZ,cZ,dw,eB,fT,fX,dY,dW,cX,cY,cl,cu,List.nil_append,List.cons_append]
    (repeat (refine Pu.Ok.g (by first|omega|assumption|(simp only[List.length_append,List.length_cons,List.length_nil,List.length_set,List.length_take,List.length_drop,List.length_replicate]at*;omega)) ?_))
    refine Pu.Ok.no (show¬(r:Int)≤((Pu.iX c).length:Nat) by omega) (Pu.Ok.ret ⟨by omega,?_,hg⟩)
    have e:r=(Pu.iX c).length+1:=by omega
    subst e
    have:F ((Pu.iX c).length+1)*T≤(d+1:Int)*T:=Int.mul_le_mul_of_nonneg_right hFe (by omega)
    have e2:(((d+1)*T:Nat):Int)=(d+1:Int)*T:=by simp
    omega
   |succ m ihm=>
    intro j r out hr hj hout hg hne
    obtain⟨j,rfl⟩: ∃j',j=j'+1:=⟨j-1,by omega⟩
    have hw:IntKind.i64.wrap ((r:Int)+1)=((r+1:Nat):Int):=Pu.w64 (by omega) (by omega)
    have hmono:F r*T≤F (r+1)*T:=Int.mul_le_mul_of_nonneg_right (by have:=hF1 r;have:=hle r;omega) (by omega)
    have next: ∀out',(out'.length:Int)≤F (r+1)*T→(∀x∈out',Pu.Ch x)→(r+1≤ra∨1≤out'.length)→Pu.Ok (bR.J1 k j (c.length-1) r o c out') fun L=>1≤L.length∧L.length≤(d+1)*T∧ ∀x∈L,Pu.Ch x:=by
     intro out' h1 h2 h3
     rw[bR.dR]
     simp only[gB,fZ,dP,dX,ed,cy,cK,cS,fe,dB,dD,cO,cP,dL,bZ,cZ,dw,eB,fT,fX,dY,dW,cX,cY,cl,cu,List.nil_append,List.cons_append]
     rw[hw]
     exact ihm j (r+1) out' (by omega) (by omega) h1 h2 h3
    rw[bR.bh]
    simp only[gB,fZ,dP,dX,ed,cy,cK,cS,fe,dB,dD,cO,cP,dL,bZ,cZ,dw,eB,fT,fX,dY,dW,cX,cY,cl,cu,List.nil_append,List.cons_append]
    (repeat (refine Pu.Ok.g (by first|omega|assumption|(simp only[List.length_append,List.length_cons,List.length_nil,List.length_set,List.length_take,List.length_drop,List.length_replicate]at*;omega)) ?_))
    refine Pu.Ok.t (fun _=> ?_) (fun hn=>absurd (show(r:Int)≤((Pu.iX c).length:Nat) by omega) hn)
    (repeat (refine Pu.Ok.g (by first|omega|assumption|(simp only[List.length_append,List.length_cons,List.length_nil,List.length_set,List.length_take,List.length_drop,List.length_replicate]at*;omega)) ?_))
    refine Pu.Ok.gX (cJ.is (p:=Pu.iX c) (r:=r) (by omega) (by omega)) ?_
    cases hab:Pu.jf (Pu.iX c) r with
    |mk q b=>
    cases b with
    |false=>
     refine Pu.Ok.tb (fun h=>by cases h) (fun _=>next out (by omega) hg ?_)
     rcases hne with h|h
     ·left
      refine Nat.lt_of_le_of_ne h fun e=> ?_
      subst e
      rw[a2]at hab;cases hab
     ·exact .inr h
    |true=>
     refine Pu.Ok.tb (fun _=> ?_) (fun h=>by cases h)
     obtain⟨b1,b2,b3,b4,b5⟩:=Pu.nx hab
     have hq:=Pu.fL b5
     refine Pu.Ok.gX (bS.is (q:=q) (p:=o) (by omega) (by have:=hq.1;omega) (by have:=(Pu.fL ho).1;omega)) ?_
     cases hin:Pu.cz q o with
     |false=>
      refine Pu.Ok.tb (fun h=>by cases h) (fun _=>next out (by omega) hg ?_)
      rcases hne with h|h
      ·left
       refine Nat.lt_of_le_of_ne h fun e=> ?_
       subst e
       rw[a2]at hab
       injection hab with e1 _
       subst e1
       rw[a3]at hin;cases hin
      ·exact .inr h
     |true=>
      refine Pu.Ok.tb (fun _=> ?_) (fun h=>by cases h)
      have hsq:=Pu.sum_add hp hab
      have hql:=(Pu.bw b5).2.1
      simp only[List.nil_append]
      (repeat (refine Pu.Ok.g (by first|omega|assumption|(simp only[List.length_append,List.length_cons,List.length_nil,List.length_set,List.length_take,List.length_drop,List.length_replicate]at*;omega)) ?_))
      have hlast:=Pu.CW c q
      refine Pu.Ok.bnd (ih k (c++ [q]) (by omega) ⟨by rw[List.length_append];omega,by rw[List.length_append,List.length_singleton];omega,fun x hx=> ?_⟩ (by rw[hlast];exact hin)
       (by rw[hlast,List.length_append,List.length_singleton];omega) (by rw[hlast];omega)) fun L hL=> ?_
      ·rcases List.mem_append.1 hx with h|h
       ·exact c3 x h
       ·simp only[List.mem_singleton]at h;subst h;exact hq
      obtain⟨l1,l2,l3⟩:=hL
      have hstep:F r*T+T≤F (r+1)*T:=by
       have h1:F r+1≤F (r+1):=by
        have h1:=hF1 r
        have h2:=Pu.pQ hin r
        rw[b4,if_pos rfl]at h2
        omega
       have:=Int.mul_le_mul_of_nonneg_right h1 (show(0:Int)≤T by omega)
       rw[Int.add_mul,Int.one_mul]at this
       exact this
      have hbig:F r*T≤9*362880:=by
       have h1:F r≤9:=by
        subst hF
        have h1:=(Pu.s9 o (fun x hx=>by have:=(Pu.bw ho).1 x hx;omega) r).2
        have h2:=(Pu.s9 (Pu.iX c) (fun x hx=>by have:=(Pu.bw hp).1 x hx;omega) r).1
        show Pu.dm (o.take r)-Pu.dm ((Pu.iX c).take r)≤9
        omega
       exact Int.mul_le_mul h1 (by omega) (by omega) (by omega)
      have hlim:(out++L).length≤1099511627776:=by rw[List.length_append];omega
      refine Pu.Ok.g hlim (next (out++L) (by rw[List.length_append];omega) (fun x hx=> ?_) (.inr (by rw[List.length_append];omega)))
      rcases List.mem_append.1 hx with h|h
      ·exact hg x h
      ·exact l3 x h
  have h:=loop ((Pu.iX c).length+1) k 0 [] (by omega) (by omega) (by rw[hF0];simp) (fun x hx=>by cases hx) (.inl (by omega))
  exact h
theorem a8.uk{k k1:Nat}{a r:Nat}{c:List (List Int)}{x6 x7:List Int}{y:List (List Int)}{rows:List (List Int)}{Q:List Int×List (List Int)→Prop}(hk:4194304+1≤k)(hc:c.length≤10)(hr9:r≤9)(hrows:rows.length≤9)
  (key: ∀row:List Int,row.length≤9→Pu.Ok (a8.L0 k k1 a (((r+1:Nat):Int)) c x6 y x7 (rows++ [row])) Q):
  ∀(m j q:Nat) (row:List Int),q+m=max c.length 1→1≤q→m<j→row.length+1≤q→Pu.Ok (a8.L1 k k1 j a r q c row x6 y x7 rows) Q
 |m,0,q,row,_,_,hj,_=>by omega
 |0,j+1,q,row,hq,h1,_,hl=>by
  rw[a8.dZ]
  simp only[gB,fZ,dP,dX,ed,cy,cK,cS,fe,dB,dD,cO,cP,dL,bZ,cZ,dw,eB,fT,fX,dY,dW,cX,cY,cl,cu,List.nil_append,List.cons_append]
  have hw:IntKind.i64.wrap ((r:Int)+1)=((r+1:Nat):Int):=Pu.w64 (by omega) (by omega)
  refine Pu.Ok.no (by omega) ?_
  refine Pu.Ok.g (by rw[List.length_append];simp;omega) ?_
  rw[hw]
  exact key row (by omega)
 |m+1,j+1,q,row,hq,h1,hj,hl=>by
  have hqc:q<c.length:=by omega
  rw[a8.dZ]
  have hw:IntKind.i64.wrap ((q:Int)-1)=((q-1:Nat):Int):=by rw[Pu.w64 (by omega) (by omega)];omega
  have hw2:IntKind.i64.wrap ((q:Int)+1)=((q+1:Nat):Int):=Pu.w64 (by omega) (by omega)
  simp only[gB,fZ,dP,dX,ed,cy,cK,cS,fe,dB,dD,cO,cP,dL,bZ,cZ,dw,eB,fT,fX,dY,dW,cX,cY,cl,cu,List.nil_append,List.cons_append]
  simp only[hw,Int.toNat_natCast]
  refine Pu.Ok.t (fun _=> ?_) (fun hn=>absurd (show(q:Int)<(c.length:Nat) by omega) hn)
  (repeat (refine Pu.Ok.g (by first|omega|assumption|(simp only[List.length_append,List.length_cons,List.length_nil,List.length_set,List.length_take,List.length_drop,List.length_replicate]at*;omega)) ?_))
  refine Pu.Ok.gX (cQ.is (by omega)) ?_
  (repeat (refine Pu.Ok.g (by first|omega|assumption|(simp only[List.length_append,List.length_cons,List.length_nil,List.length_set,List.length_take,List.length_drop,List.length_replicate]at*;omega)) ?_))
  refine Pu.Ok.gX (cQ.is (by omega)) ?_
  have next: ∀row':List Int,row'.length≤q→Pu.Ok (a8.J2 k k1 j a r q c row' x6 y x7 rows) Q:=fun row' hr'=>by
   rw[a8.kD]
   simp only[gB,fZ,dP,dX,ed,cy,cK,cS,fe,dB,dD,cO,cP,dL,bZ,cZ,dw,eB,fT,fX,dY,dW,cX,cY,cl,cu,List.nil_append,List.cons_append]
   rw[hw2]
   exact a8.uk hk hc hr9 hrows key m j (q+1) row' (by omega) (by omega) (by omega) (by omega)
  refine Pu.Ok.t (fun _=> ?_) (fun _=>next row (by omega))
  refine Pu.Ok.g (by rw[List.length_append];simp;omega) (next _ (by rw[List.length_append];simp;omega))
theorem a8.ok{k:Nat}{c:List (List Int)}(hk:4194304+3≤k)(hc:Pu.Ch c):Pu.Ok (a8 k c) fun t=>Pu.fg 9 9 9 t:=by
 obtain⟨k,rfl⟩: ∃k',k=k'+1:=⟨k-1,by omega⟩
 obtain⟨c1,c2,c3⟩:=hc
 have h0:(c.getD 0 []).length≤9:=by rw[Pu.aw c1 []];exact(c3 _ (List.getElem_mem c1)).1
 have hlast:(c.getD (c.length-1) []).length≤9:=by rw[Pu.aw (show c.length-1<c.length by omega) []];exact(c3 _ (List.getElem_mem _)).1
 rw[a8.eq]
 have hz:IntKind.i64.wrap ((c.length:Int)-1)=((c.length-1:Nat):Int):=by rw[Pu.w64 (by omega) (by omega)];omega
 have z0:(0:Int).toNat=0:=rfl
 simp only[gB,fZ,dP,dX,ed,cy,cK,cS,fe,dB,dD,cO,cP,dL,bZ,cZ,dw,eB,fT,fX,dY,dW,cX,cY,cl,cu,List.nil_append,List.cons_append]
 simp only[hz,Int.toNat_natCast,z0,List.nil_append]
 (repeat (refine Pu.Ok.g (by first|omega|assumption|(simp only[List.length_append,List.length_cons,List.length_nil,List.length_set,List.length_take,List.length_drop,List.length_replicate]at*;omega)) ?_))
 have loop: ∀(m j r:Nat) (rows:List (List Int)),r+m=(c.getD (c.length-1) []).length→m<j→rows.length=r→(∀x∈rows,x.length≤9)→
   Pu.Ok (a8.L0 k j (c.length-1) r c [] [] (c.getD 0 []) rows) fun t=>Pu.fg 9 9 9 t:=by
  intro m
  induction m with
  |zero=>
   intro j r rows hr hj hl hg
   obtain⟨j,rfl⟩: ∃j',j=j'+1:=⟨j-1,by omega⟩
   rw[a8.bh]
   simp only[gB,fZ,dP,dX,ed,cy,cK,cS,fe,dB,dD,cO,cP,dL,bZ,cZ,dw,eB,fT,fX,dY,dW,cX,cY,cl,cu,List.nil_append,List.cons_append]
   (repeat (refine Pu.Ok.g (by first|omega|assumption|(simp only[List.length_append,List.length_cons,List.length_nil,List.length_set,List.length_take,List.length_drop,List.length_replicate]at*;omega)) ?_))
   exact Pu.Ok.no (by omega) (Pu.Ok.ret ⟨h0,by show rows.length≤9;omega,hg⟩)
  |succ m ih=>
   intro j r rows hr hj hl hg
   obtain⟨j,rfl⟩: ∃j',j=j'+1:=⟨j-1,by omega⟩
   rw[a8.bh]
   simp only[gB,fZ,dP,dX,ed,cy,cK,cS,fe,dB,dD,cO,cP,dL,bZ,cZ,dw,eB,fT,fX,dY,dW,cX,cY,cl,cu,List.nil_append,List.cons_append]
   (repeat (refine Pu.Ok.g (by first|omega|assumption|(simp only[List.length_append,List.length_cons,List.length_nil,List.length_set,List.length_take,List.length_drop,List.length_replicate]at*;omega)) ?_))
   refine a8.uk (by omega) c2 (by omega) (by omega) (fun row hrow=> ?_) (max c.length 1-1) k 1 [] (by omega) (by omega) (by omega) (by simp)
   exact ih j (r+1) (rows++ [row]) (by omega) (by omega) (by rw[List.length_append,List.length_singleton];omega) (fun x hx=>by
    rcases List.mem_append.1 hx with h|h
    ·exact hg x h
    ·simp only[List.mem_singleton]at h;subst h;exact hrow)
 exact loop (c.getD (c.length-1) []).length k 0 [] (by omega) (by omega) rfl (fun x hx=>by cases hx)
theorem dh.loop{k:Nat}{sep:ByteArray}{ws:List ByteArray}(hs:sep.size≤10)(hw: ∀w∈ws,w.size≤10000)(hn:ws.length≤10000): ∀(m j i:Nat) (acc:List Int),i+m=ws.length→m<j→acc.length≤i*10010→ ∃r,dh.L0 k j sep i ws acc=some r
 |m,0,i,acc,_,hj,_=>by omega
 |0,j+1,i,acc,hi,_,_=>by
  rw[dh.bh,Pu.yf]
  have hlt': ¬(i:Int)<D.ofN (D.len ws):=by show¬(i:Int)<(ws.length:Int);omega
  rw[if_neg hlt']
  exact⟨_,rfl⟩
 |m+1,j+1,i,acc,hi,hj,ha=>by
  rw[dh.bh,Pu.yf]
  have hlt':(i:Int)<D.ofN (D.len ws):=by show(i:Int)<(ws.length:Int);omega
  rw[if_pos hlt',Pu.yf]
  have li: ∀s:ByteArray,(D.ints s).length=s.size:=fun s=>by
   show(s.data.toList.map _).length=_
   rw[List.length_map];rfl
  have key: ∀acc':List Int,acc'.length≤i*10010+10→ ∃r,dh.J1 k j sep i ws acc'=some r:=by
   intro acc' ha'
   rw[dh.dR]
   have hi':i<ws.length:=by omega
   have t1:D.le 0 (i:Int)=true:=decide_eq_true (by omega)
   have t2:D.ltN (D.nat (i:Int)) (D.len ws)=true:=decide_eq_true (by show(i:Int).toNat<ws.length;omega)
   have hx:(D.rd ws (D.nat (i:Int)) (⟨#[]⟩:ByteArray)).size≤10000:=by
    show(ws.getD (i:Int).toNat _).size≤_
    rw[Int.toNat_natCast,Pu.aw hi' _]
    exact hw _ (List.getElem_mem hi')
   have hlen:(D.app acc' (D.ints (D.rd ws (D.nat (i:Int)) (⟨#[]⟩:ByteArray)))).length≤(i+1)*10010:=by
    show(acc'++_).length≤_
    rw[List.length_append,li];omega
   have t3:D.leN (D.len (D.app acc' (D.ints (D.rd ws (D.nat (i:Int)) (⟨#[]⟩:ByteArray))))) 1099511627776=true:=decide_eq_true (by
    show(D.app acc' (D.ints (D.rd ws (D.nat (i:Int)) (⟨#[]⟩:ByteArray)))).length≤_
    omega)
   rw[aq,if_pos t1,aq,if_pos t2,aq,if_pos t2,aq,if_pos t3]
   have ew:D.wrap .i64 (D.add (i:Int) 1)=((i+1:Nat):Int):=by
    show IntKind.i64.wrap ((i:Int)+1)=_
    rw[Pu.w64 (by omega) (by omega)];omega
   rw[ew]
   exact dh.loop hs hw hn m j (i+1) _ (by omega) (by omega) hlen
  split
  ·have hl:(D.app acc (D.ints sep)).length≤i*10010+10:=by
    show(acc++_).length≤_
    rw[List.length_append,li];omega
   have t3:D.leN (D.len (D.app acc (D.ints sep))) 1099511627776=true:=decide_eq_true (by
    show(D.app acc (D.ints sep)).length≤_
    omega)
   rw[aq,if_pos t3]
   exact key _ hl
  ·exact key acc (Nat.le_add_right_of_le ha)
theorem dh.is{k:Nat}{sep:ByteArray}{ws:List ByteArray}(hk:100000≤k)(hs:sep.size≤10)(hw: ∀w∈ws,w.size≤10000)(hn:ws.length≤10000): ∃r,dh k ws sep=some r:=by
 obtain⟨k,rfl⟩: ∃k',k=k'+1:=⟨k-1,by omega⟩
 rw[dh.eq]
 have h:=dh.loop (k:=k) (sep:=sep) hs hw hn ws.length k 0 [] (by omega) (by omega) (by simp)
 rw[Int.natCast_zero]at h
 exact h
theorem bI.loop{k:Nat}: ∀(m j:Nat) (n:Int) (b:Bool) (s:ByteArray),n.natAbs<10^m→ -9223372036854775808≤n→n≤9223372036854775807→m<j→s.size+m≤1000→ ∃r,bI.L0 k j n b s=some r∧r.size≤s.size+m+1
 |m,0,n,b,s,_,_,_,hj,_=>by omega
 |0,j+1,n,b,s,hn,_,_,_,hs=>by
  rw[bI.bh]
  have e:n=0:=by
   have:n.natAbs<1:=by simpa using hn
   omega
  subst e
  have hl:D.leN (D.addN (D.lenS (⟨#[45]⟩:ByteArray)) (D.lenS s)) 1099511627776=true:=decide_eq_true (by show 1+s.size≤_;omega)
  have t0: ¬D.no (D.eq (0:Int) 0)=true:=by decide
  rw[aq,if_neg t0]
  cases b with
  |false=>exact⟨s,rfl,by omega⟩
  |true=>
   refine⟨(⟨#[45]⟩:ByteArray)++s,?_,?_⟩
   ·rw[aq,if_pos rfl,aq,if_pos hl];rfl
   ·rw[ByteArray.size_append];show 1+s.size≤_;omega
 |m+1,j+1,n,b,s,hn,h1,h2,hj,hs=>by
  rw[bI.bh]
  have t10:D.no (D.eq (10:Int) 0)=true:=by decide
  have key: ∀x,∃r,bI.J1 k j n b s x=some r∧r.size≤s.size+(m+1)+1:=by
   intro x
   rw[bI.dR]
   have hl:D.leN (D.addN (D.lenS (D.ofInts ((D.wrap .u8 (D.wrap .i64 (D.add 48 x)))::([]:List Int)))) (D.lenS s)) 1099511627776=true:=decide_eq_true (by show 1+s.size≤_;omega)
   rw[aq,if_pos hl,aq,if_pos t10]
   have ha:(n.tdiv 10).natAbs=n.natAbs/10:=by rw[Int.natAbs_tdiv];rfl
   have ew:D.wrap .i64 (D.quo n 10)=n.tdiv 10:=by
    show IntKind.i64.wrap (n.tdiv 10)=_
    exact Pu.w64 (by omega) (by omega)
   rw[ew]
   have hsz:(D.catS (D.ofInts ((D.wrap .u8 (D.wrap .i64 (D.add 48 x)))::([]:List Int))) s).size=1+s.size:=by
    show(_++s).size=_
    rw[ByteArray.size_append];rfl
   obtain⟨r,e,hr⟩:=bI.loop (k:=k) m j (n.tdiv 10) b (D.catS (D.ofInts ((D.wrap .u8 (D.wrap .i64 (D.add 48 x)))::([]:List Int))) s) (by rw[ha];rw[Nat.pow_succ]at hn;omega) (by omega) (by omega) (by omega) (by omega)
   exact⟨r,e,by omega⟩
  by_cases h0:n=0
  ·subst h0
   have t0: ¬D.no (D.eq (0:Int) 0)=true:=by decide
   have hl:D.leN (D.addN (D.lenS (⟨#[45]⟩:ByteArray)) (D.lenS s)) 1099511627776=true:=decide_eq_true (by show 1+s.size≤_;omega)
   rw[aq,if_neg t0]
   cases b with
   |false=>exact⟨s,rfl,by omega⟩
   |true=>
    refine⟨(⟨#[45]⟩:ByteArray)++s,?_,?_⟩
    ·rw[aq,if_pos rfl,aq,if_pos hl];rfl
    ·rw[ByteArray.size_append];show 1+s.size≤_;omega
  ·have t0:D.no (D.eq n 0)=true:=by
    show(!decide (n=0))=true
    simp[h0]
   rw[aq,if_pos t0,aq,if_pos t10,aq]
   split
   ·exact key _
   ·exact key _
theorem bI.is{k:Nat}{n:Int}(hk:1000≤k)(h1: -9223372036854775808≤n)(h2:n≤9223372036854775807): ∃r,bI k n=some r∧r.size≤30:=by
 obtain⟨k,rfl⟩: ∃k',k=k'+1:=⟨k-1,by omega⟩
 rw[bI.eq,aq]
 split
 ·exact⟨_,rfl,by decide⟩
 ·obtain⟨r,e,hr⟩:=bI.loop (k:=k) 20 k n (D.lt n 0) (⟨#[]⟩:ByteArray) (by omega) h1 h2 (by omega) (by show 0+20≤1000;omega)
  refine⟨r,e,?_⟩
  have:r.size≤0+20+1:=hr
  omega
theorem Aj{t:Pu.Tab}(h:Pu.g8 t=true){i q:Nat}(hi:i<t.2.length)(hq:q<(t.2.getD i []).length):1≤(t.2.getD i []).getD q 0∧(t.2.getD i []).getD q 0≤9:=by
 simp only[Pu.g8,Bool.and_eq_true]at h
 have h1:=Pu.dM.1 h.2 i hi
 have h2:=Pu.dM.1 h1 q hq
 simp only[Pu.ij,Pu.within,Bool.and_eq_true,decide_eq_true_eq]at h2
 exact h2.1
theorem aF.Fu{k k1:Nat}{i:Nat}{ws:List ByteArray}{t:Pu.Tab}{Q:ByteArray→Prop}(hk:1000≤k)(ht:Pu.g8 t=true)(hr:Pu.cI 9 10 t.2)(hi:i<t.2.length)(hw:ws.length≤9)
  (key: ∀s:ByteArray,s.size≤10000→Pu.Ok (aF.L0 k k1 ((i:Int)+1) (ws++ [s]) t.1 t.2) Q):
  ∀(m j q:Nat) (s:ByteArray),q+m=(t.2.getD i []).length→m<j→s.size≤10+q*30→Pu.Ok (aF.L2 k k1 j i s q ws t.1 t.2) Q
 |m,0,q,s,_,hj,_=>by omega
 |0,j+1,q,s,hq,_,hs=>by
  rw[aF.kP]
  simp only[gB,fZ,dP,dX,ed,cy,cK,cS,fe,dB,dD,cO,cP,dL,bZ,cZ,dw,eB,fT,fX,dY,dW,cX,cY,cl,cu,List.nil_append,List.cons_append]
  (try simp only[Int.toNat_natCast]);(try simp (disch:=omega) only[Pu.w64])
  have:=hr.at i
  have:=hr.1
  (repeat (refine Pu.Ok.g (by first|omega|assumption|(simp only[List.length_append,List.length_cons,List.length_nil,List.length_set,List.length_take,List.length_drop,List.length_replicate]at*;omega)) ?_))
  refine Pu.Ok.no (by omega) ?_
  (repeat (refine Pu.Ok.g (by first|omega|assumption|(simp only[List.length_append,List.length_cons,List.length_nil,List.length_set,List.length_take,List.length_drop,List.length_replicate]at*;omega)) ?_))
  (try simp only[Int.toNat_natCast]);(try simp (disch:=omega) only[Pu.w64])
  exact key s (by omega)
 |m+1,j+1,q,s,hq,hj,hs=>by
  rw[aF.kP]
  simp only[gB,fZ,dP,dX,ed,cy,cK,cS,fe,dB,dD,cO,cP,dL,bZ,cZ,dw,eB,fT,fX,dY,dW,cX,cY,cl,cu,List.nil_append,List.cons_append]
  (try simp only[Int.toNat_natCast]);(try simp (disch:=omega) only[Pu.w64])
  have:=hr.at i
  have:=hr.1
  have he:=Aj ht hi (show q<_ by omega)
  (repeat (refine Pu.Ok.g (by first|omega|assumption|(simp only[List.length_append,List.length_cons,List.length_nil,List.length_set,List.length_take,List.length_drop,List.length_replicate]at*;omega)) ?_))
  obtain⟨r,e,h1⟩:=bI.is (k:=k) (n:=(t.2.getD i []).getD q 0) (by omega) (by omega) (by omega)
  refine Pu.Ok.gX e ?_
  (repeat (refine Pu.Ok.g (by first|omega|assumption|(simp only[List.length_append,List.length_cons,List.length_nil,List.length_set,List.length_take,List.length_drop,List.length_replicate]at*;omega)) ?_))
  (try simp only[Int.toNat_natCast]);(try simp (disch:=omega) only[Pu.w64])
  exact aF.Fu hk ht hr hi hw key m j (q+1) _ (by omega) (by omega) (by rw[ByteArray.size_append];omega)
theorem aF.uk{k k1:Nat}{i:Nat}{ws:List ByteArray}{t:Pu.Tab}{Q:ByteArray→Prop}(hk:1000≤k)(ht:Pu.g8 t=true)(hr:Pu.cI 9 10 t.2)(hi:i<t.2.length)(hw:ws.length≤9)
  (key: ∀s:ByteArray,s.size≤10000→Pu.Ok (aF.L0 k k1 ((i:Int)+1) (ws++ [s]) t.1 t.2) Q):
  ∀(m j q:Nat) (s:ByteArray),10≤q+m→m<j→s.size≤q→q≤9→Pu.Ok (aF.L1 k k1 j i s q ws t.1 t.2) Q
 |m,0,q,s,_,hj,_,_=>by omega
 |m,j+1,q,s,hq,hj,hs,h9=>by
  rw[aF.dZ]
  simp only[gB,fZ,dP,dX,ed,cy,cK,cS,fe,dB,dD,cO,cP,dL,bZ,cZ,dw,eB,fT,fX,dY,dW,cX,cY,cl,cu,List.nil_append,List.cons_append]
  refine Pu.Ok.gX (cQ.is (by omega)) ?_
  have hi1:Pu.bK t.1=true:=by
   have:=Pu.ke ht
   simp only[Pu.dz,Bool.and_eq_true]at this
   exact this.1
  have hb:=Pu.iC hi1 i
  have hx:=hr.at i
  refine Pu.Ok.t (fun hlt=> ?_) (fun _=> ?_)
  ·have hz:s.size+(⟨#[46]⟩:ByteArray).size≤1099511627776:=by
    show s.size+1≤_
    omega
   (repeat (refine Pu.Ok.g (by first|omega|assumption|(simp only[List.length_append,List.length_cons,List.length_nil,List.length_set,List.length_take,List.length_drop,List.length_replicate]at*;omega)) ?_))
   (try simp only[Int.toNat_natCast]);(try simp (disch:=omega) only[Pu.w64])
   exact aF.uk hk ht hr hi hw key (m-1) j (q+1) _ (by omega) (by omega) (by rw[ByteArray.size_append];show s.size+1≤_;omega) (by omega)
  ·exact aF.Fu hk ht hr hi hw key (t.2.getD i []).length k 0 s (by omega) (by omega) (by omega)
theorem aF.tx{k:Nat}{t:Pu.Tab}(hk:100000≤k)(ht:Pu.g8 t=true)(hr:Pu.cI 9 10 t.2):
  ∀(m j i:Nat) (ws:List ByteArray),i+m=t.2.length→m<j→ws.length=i→(∀w∈ws,w.size≤10000)→Pu.Ok (aF.L0 k j i ws t.1 t.2) fun _=>True
 |m,0,i,ws,_,hj,_,_=>by omega
 |0,j+1,i,ws,hi,_,hl,hw=>by
  rw[aF.bh]
  simp only[gB,fZ,dP,dX,ed,cy,cK,cS,fe,dB,dD,cO,cP,dL,bZ,cZ,dw,eB,fT,fX,dY,dW,cX,cY,cl,cu,List.nil_append,List.cons_append]
  have:=hr.1
  refine Pu.Ok.no (by omega) ?_
  obtain⟨r,e⟩:=dh.is (k:=k) (sep:=(⟨#[47]⟩:ByteArray)) (ws:=ws) hk (by decide) hw (by omega)
  exact Pu.Ok.gX e (Pu.Ok.ret trivial)
 |m+1,j+1,i,ws,hi,hj,hl,hw=>by
  rw[aF.bh]
  simp only[gB,fZ,dP,dX,ed,cy,cK,cS,fe,dB,dD,cO,cP,dL,bZ,cZ,dw,eB,fT,fX,dY,dW,cX,cY,cl,cu,List.nil_append,List.cons_append]
  have:=hr.1
  (repeat (refine Pu.Ok.g (by first|omega|assumption|(simp only[List.length_append,List.length_cons,List.length_nil,List.length_set,List.length_take,List.length_drop,List.length_replicate]at*;omega)) ?_))
  refine aF.uk (by omega) ht hr (by omega) (by omega) (fun s hs=> ?_) 10 k 0 _ (by omega) (by omega) (by show 0≤0;omega) (by omega)
  exact aF.tx hk ht hr m j (i+1) _ (by omega) (by omega) (by rw[List.length_append,List.length_singleton];omega) (fun w hw'=>by
   rcases List.mem_append.1 hw' with h|h
   ·exact hw w h
   ·simp only[List.mem_singleton]at h;subst h;exact hs)
theorem aF.ok{k:Nat}{t:Pu.Tab}(hk:4194304+6≤k)(ht:fg 10 9 10 t):Pu.Ok (aF k t) fun _=>True:=by
 obtain⟨k,rfl⟩: ∃k',k=k'+1:=⟨k-1,by omega⟩
 obtain⟨c1,c2,c3⟩:=ht.tab (by omega) (by omega) (by omega)
 rw[aF.eq]
 refine Pu.Ok.gX (aD.is (by omega) c1 c2 c3) ?_
 simp only[gB,fZ,dP,dX,ed,cy,cK,cS,fe,dB,dD,cO,cP,dL,bZ,cZ,dw,eB,fT,fX,dY,dW,cX,cY,cl,cu,List.nil_append,List.cons_append]
 refine Pu.Ok.tn (fun _=>Pu.Ok.ret trivial) (fun hb=>Pu.Ok.t (fun _=>Pu.Ok.ret trivial) (fun _=> ?_))
 exact aF.tx (t:=t) (by omega) hb ht.2 t.2.length k 0 [] (by omega) (by have:=ht.2.1;omega) rfl (fun w hw=>by cases hw)
theorem ao.Fp{k k1 a:Nat}{r n3:Int}{x2:Int}{x4:Bool}{x5:Int}{x6 x7:Nat}{out:List Pu.Tab}{all:List (List (List Int))}{t:Pu.Tab}{Q:List Pu.Tab→Prop}(ha:a≤out.length)(hl:out.length≤400000)(hr:0≤r)(hr':r≤400000)(hout: ∀x∈out,Pu.fg 9 9 9 x)(ht:Pu.fg 9 9 9 t)
  (key: ∀out':List Pu.Tab,out'.length=out.length+1→(∀x∈out',Pu.fg 9 9 9 x)→Pu.Ok (ao.L0 k k1 (r+1) out' all) Q):
  Pu.Ok (ao.J3 k k1 a r x2 n3 x4 x5 x6 x7 out all t.1 t.2) Q:=by
 rw[ao.rG]
 have hw:IntKind.i64.wrap (r+1)=r+1:=Pu.w64 (by omega) (by omega)
 simp only[gB,fZ,dP,dX,ed,cy,cK,cS,fe,dB,dD,cO,cP,dL,bZ,cZ,dw,eB,fT,fX,dY,dW,cX,cY,cl,cu,List.nil_append,List.cons_append]
 simp only[Int.toNat_natCast,hw]
 have l1:(List.take (out.length-a) (List.drop a out)).length≤1099511627776:=by rw[List.length_take];omega
 have l2:a≤(List.take a out).length:=by rw[List.length_take];omega
 have l3:(List.take a (List.take a out)).length≤a:=by rw[List.length_take];omega
 have l4:(List.take (out.length-a) (List.drop a out)).length≤out.length:=by rw[List.length_take,List.length_drop];omega
 refine Pu.Ok.g (by omega) (Pu.Ok.g (by omega) (Pu.Ok.g l1 (Pu.Ok.g (by omega) (Pu.Ok.g l2 (Pu.Ok.g ?_ (Pu.Ok.g ?_ ?_))))))
 ·rw[List.length_append];simp only[List.length_cons,List.length_nil];omega
 ·rw[List.length_append,List.length_append];simp only[List.length_cons,List.length_nil];omega
 refine key _ ?_ ?_
 ·simp only[List.length_append,List.length_take,List.length_drop,List.length_cons,List.length_nil]
  omega
 ·intro x hx
  rcases List.mem_append.1 hx with h|h
  ·rcases List.mem_append.1 h with h|h
   ·exact hout x (List.mem_of_mem_take (List.mem_of_mem_take h))
   ·simp only[List.mem_singleton]at h;subst h;exact ht
  ·exact hout x (List.mem_of_mem_drop (List.mem_of_mem_take h))
theorem ao.uk{k k1:Nat}{r n3:Int}{x2:Int}{x4:Bool}{x5:Int}{x6 x7:Nat}{out:List Pu.Tab}{all:List (List (List Int))}{t:Pu.Tab}{Q:List Pu.Tab→Prop}(hk:4194304+10≤k)(hl:out.length≤400000)(hr:0≤r)(hr':r≤400000)(hout: ∀x∈out,Pu.fg 9 9 9 x)(ht:Pu.fg 9 9 9 t)
  (key: ∀out':List Pu.Tab,out'.length=out.length+1→(∀x∈out',Pu.fg 9 9 9 x)→Pu.Ok (ao.L0 k k1 (r+1) out' all) Q):
  ∀(a j:Nat),a<j→a≤out.length→Pu.Ok (ao.L1 k k1 j a r x2 n3 x4 x5 x6 x7 out all t.1 t.2) Q
 |a,0,hj,_=>by omega
 |0,j+1,_,ha=>by
  rw[ao.dZ]
  simp only[gB,fZ,dP,dX,ed,cy,cK,cS,fe,dB,dD,cO,cP,dL,bZ,cZ,dw,eB,fT,fX,dY,dW,cX,cY,cl,cu,List.nil_append,List.cons_append]
  exact Pu.Ok.no (by omega) (ao.Fp (a:=0) ha hl hr hr' hout ht key)
 |a+1,j+1,hj,ha=>by
  rw[ao.dZ]
  have hw:IntKind.i64.wrap (((a+1:Nat):Int)-1)=(a:Int):=by rw[Pu.w64 (by omega) (by omega)];omega
  simp only[gB,fZ,dP,dX,ed,cy,cK,cS,fe,dB,dD,cO,cP,dL,bZ,cZ,dw,eB,fT,fX,dY,dW,cX,cY,cl,cu,List.nil_append,List.cons_append]
  simp only[hw,Int.toNat_natCast]
  (repeat (refine Pu.Ok.g (by first|omega|assumption|(simp only[List.length_append,List.length_cons,List.length_nil,List.length_set,List.length_take,List.length_drop,List.length_replicate]at*;omega)) ?_))
  have hx:Pu.fg 9 9 9 (out.getD a ([],[])):=by rw[Pu.aw (show a<out.length by omega)];exact hout _ (List.getElem_mem _)
  have up: ∀{t:Pu.Tab},Pu.fg 9 9 9 t→Pu.fg 10 9 10 t:=fun h=>⟨by have:=h.1;omega,h.2.1,fun r hr=>by have:=h.2.2 r hr;omega⟩
  refine Pu.Ok.bnd (aF.ok (by omega) (up hx)) fun r3 _=>Pu.Ok.bnd (aF.ok (by omega) (up ht)) fun r4 _=> ?_
  refine Pu.Ok.tn (fun _=> ?_) (fun _=>ao.Fp ha hl hr hr' hout ht key)
  rw[ao.kD]
  simp only[gB,fZ,dP,dX,ed,cy,cK,cS,fe,dB,dD,cO,cP,dL,bZ,cZ,dw,eB,fT,fX,dY,dW,cX,cY,cl,cu,List.nil_append,List.cons_append]
  rw[hw]
  exact ao.uk hk hl hr hr' hout ht key a j (by omega) (by omega)
theorem ao.ok{k:Nat}{s:List Int×List Int}(hk:4194304+40≤k)(hs:Pu.cz s.2 s.1=true):Pu.Ok (ao k s) fun L=>1≤L.length∧L.length≤362880∧ ∀t∈L,Pu.fg 9 9 9 t:=by
 obtain⟨k,rfl⟩: ∃k',k=k'+2:=⟨k-2,by omega⟩
 obtain⟨hp,ho⟩:=Pu.l7 hs
 have h1:=(Pu.fL hp).1
 have h2:=(Pu.fL ho).1
 rw[ao.eq]
 refine Pu.Ok.gX (gD.is (s:=s) (by omega) (by omega) (by omega)) ?_
 rw[hs]
 refine Pu.Ok.tn (fun h=>by cases h) (fun _=> ?_)
 simp only[gB,fZ,dP,dX,ed,cy,cK,cS,fe,dB,dD,cO,cP,dL,bZ,cZ,dw,eB,fT,fX,dY,dW,cX,cY,cl,cu,List.nil_append,List.cons_append]
 refine Pu.Ok.g (by omega) ?_
 have hle:=(Pu.qU (Pu.pQ hs)).1
 have hso:=(Pu.bw ho).2.1
 have hsp:=(Pu.bw hp).2.2.2
 obtain⟨d,hd⟩: ∃d:Nat,Pu.dm s.1=Pu.dm s.2+d:=⟨(Pu.dm s.1-Pu.dm s.2).toNat,by omega⟩
 refine Pu.Ok.bnd (bR.ok ho d (k+1) [s.2] (by omega) ⟨by simp,by simp,fun x hx=>by simp only[List.mem_singleton]at hx;subst hx;exact Pu.fL hp⟩ hs (by show(1:Int)≤Pu.dm s.2+1;omega) hd) fun L hL=> ?_
 obtain⟨l1,l2,l3⟩:=hL
 have hd9:d≤9:=by
  have:=(Pu.bw hp).2.2.2
  omega
 have hf:=Pu.DF hd9
 have loop: ∀(m j r:Nat) (out:List Pu.Tab),r+m=L.length→m<j→out.length=r→(∀x∈out,Pu.fg 9 9 9 x)→Pu.Ok (ao.L0 k j r out L) fun L=>1≤L.length∧L.length≤362880∧ ∀t∈L,Pu.fg 9 9 9 t:=by
  intro m
  induction m with
  |zero=>
   intro j r out hr hj hl hg
   obtain⟨j,rfl⟩: ∃j',j=j'+1:=⟨j-1,by omega⟩
   rw[ao.bh]
   simp only[gB,fZ,dP,dX,ed,cy,cK,cS,fe,dB,dD,cO,cP,dL,bZ,cZ,dw,eB,fT,fX,dY,dW,cX,cY,cl,cu,List.nil_append,List.cons_append]
   exact Pu.Ok.no (by omega) (Pu.Ok.ret ⟨by omega,by omega,hg⟩)
  |succ m ih=>
   intro j r out hr hj hl hg
   obtain⟨j,rfl⟩: ∃j',j=j'+1:=⟨j-1,by omega⟩
   rw[ao.bh]
   simp only[gB,fZ,dP,dX,ed,cy,cK,cS,fe,dB,dD,cO,cP,dL,bZ,cZ,dw,eB,fT,fX,dY,dW,cX,cY,cl,cu,List.nil_append,List.cons_append]
   simp only[Int.toNat_natCast]
   refine Pu.Ok.g (by omega) (Pu.Ok.g (by omega) (Pu.Ok.g (by omega) (Pu.Ok.g (by omega) (Pu.Ok.g (by omega) ?_))))
   have hc:Pu.Ch (L.getD r []):=by rw[Pu.aw (show r<L.length by omega)];exact l3 _ (List.getElem_mem _)
   refine Pu.Ok.bnd (a8.ok (by omega) hc) fun t ht=> ?_
   refine ao.uk (t:=t) (by omega) (by omega) (by omega) (by omega) hg ht (fun out' h1 h2=> ?_) out.length k (by omega) (by omega)
   exact ih j (r+1) out' (by omega) (by omega) (by omega) h2
 exact loop L.length (k+1) 0 [] (by omega) (by omega) rfl (fun x hx=>by cases hx)
theorem fz.ok{k:Nat}{i h:Int}{b:List Int}(hk:4194304+20≤k)(hb:b.length≤1048576)(hi:0≤i)(hi':i≤b.length):
  Pu.Ok (fz k i h b) fun r=>Pu.cz r.1.2 r.1.1=true∧0≤r.2.2.1∧r.2.2.1≤b.length:=by
 obtain⟨k,rfl⟩: ∃k',k=k'+1:=⟨k-1,by omega⟩
 rw[fz.eq]
 obtain⟨r,i1,h1,e1,a1,a2⟩:=bF.is (k:=k) (n:=3) (h:=h) (b:=b) (by omega) hb hi hi' (by omega)
 refine Pu.Ok.gX e1 (Pu.Ok.tb (fun _=> ?_) (fun _=> ?_))
 ·refine Pu.Ok.bnd (aL.okI (by omega) hb a1 a2 (by omega) (by omega)) ?_
  rintro⟨⟨o,q⟩,_,i',h'⟩ ⟨c1,c2,c3⟩
  exact Pu.Ok.ret ⟨c1,c2,c3⟩
 ·obtain⟨p,i2,h2,e2,⟨_,hp,_⟩,b4,b5⟩:=cj.isP (k:=k) (m:=6) (h:=h1) (b:=b) (by omega) hb a1 a2 (by omega) (by omega)
  refine Pu.Ok.gX e2 (Pu.Ok.ret ⟨Pu.oy rfl hp (fun t=> ?_),b4,b5⟩)
  show([]:List Int).getD t 0≤_
  exact(Pu.lz hp t).1
theorem dC.pick{k:Nat}{s:List Int×List Int}{i h:Int}{b:List Int}(hk:4194304+60≤k)(hb:b.length≤1048576)(hi:0≤i)(hi':i≤b.length)(hs:Pu.cz s.2 s.1=true):
  Pu.Ok (D.bnd (ao k s) fun r1=>D.bnd (az k (r1.length:Nat) i h b) fun r2=>D.test (decide (0≤r2.1)) (D.test (decide (r2.1.toNat<r1.length)) (D.test (decide (r2.1.toNat<r1.length)) (D.test (decide (r2.1.toNat<r1.length)) (D.test (decide (r2.1.toNat<r1.length))
   (some (((r1.getD r2.1.toNat ([],[])).1,(r1.getD r2.1.toNat ([],[])).2),((),(r2.2.2.1,r2.2.2.2)))) none) none) none) none) none)
   fun r=>Pu.fg 9 9 9 r.1∧0≤r.2.2.1∧r.2.2.1≤b.length:=by
 refine Pu.Ok.bnd (ao.ok (by omega) hs) fun L hL=> ?_
 obtain⟨l1,l2,l3⟩:=hL
 obtain⟨r,i',h',e,a,c,d,d'⟩:=az.isB (k:=k) (n:=(L.length:Nat)) (h:=h) (b:=b) (by omega) hb hi hi' (by omega)
 have c:=c (by omega)
 refine Pu.Ok.gX e ?_
 dsimp only
 have hr:r.toNat<L.length:=by omega
 refine Pu.Ok.g a (Pu.Ok.g hr (Pu.Ok.g hr (Pu.Ok.g hr (Pu.Ok.g hr (Pu.Ok.ret ⟨?_,d,d'⟩)))))
 have:=l3 _ (List.getElem_mem hr)
 rw[←Pu.aw hr ([],[])]at this
 exact this
theorem dC.ok{k:Nat}{i h:Int}{b:List Int}(hk:4194304+70≤k)(hb:b.length≤1048576)(hi:0≤i)(hi':i≤b.length):
  Pu.Ok (dC k i h b) fun r=>Pu.fg 9 9 9 r.1∧0≤r.2.2.1∧r.2.2.1≤b.length:=by
 obtain⟨k,rfl⟩: ∃k',k=k'+1:=⟨k-1,by omega⟩
 rw[dC.eq]
 refine Pu.Ok.bnd (fz.ok (by omega) hb hi hi') ?_
 rintro⟨⟨o,q⟩,_,i',h'⟩ ⟨c1,c2,c3⟩
 exact dC.pick (s:=(o,q)) (by omega) hb c2 c3 c1
theorem aG.tx{k:Nat}{b x3 x5:List Int}{x4 x6:List (List Int)}(hk:4194304+100≤k)(hb:b.length≤1048576): ∀(m j i:Nat) (h:Int),i+m=b.length→m<j→Pu.Ok (aG.L0 k j h i b x3 x4 x5 x6) fun r=>Pu.fg 9 9 9 r.1∧Pu.fg 9 9 9 r.2:=by
 have fin: ∀h,Pu.Ok (aG.J2 k h b x3 x4 x5 x6) fun r=>Pu.fg 9 9 9 r.1∧Pu.fg 9 9 9 r.2:=fun h=>by
  rw[aG.kD]
  refine Pu.Ok.bnd (dK.ok (by show _≤k+1;omega) hb (by omega) (by omega) (by omega) (by omega)) ?_
  rintro⟨⟨q,rs⟩,_,i1,h1⟩ ⟨ht,a4,a5⟩
  dsimp only at*
  obtain⟨t1,t2,t3⟩:=ht.tab (by omega) (by omega) (by omega)
  have hs:=bD.is (k:=HAdd.hAdd k 1) (t:=(q,rs)) (by show _≤k+1;omega) t1 t2 t3
  refine Pu.Ok.gX hs ?_
  have hin:Pu.cz (Pu.shapeOf (q,rs)).1.2 (Pu.shapeOf (q,rs)).1.1=true:=by
   unfold Pu.shapeOf
   cases c:Pu.dz (q,rs)with
   |false=>rfl
   |true=>
    simp only[Pu.dz,Bool.and_eq_true]at c
    exact c.2.2
  have draw: ∀{i h:Int},0≤i→i≤b.length→Pu.Ok (D.bnd (dC (HAdd.hAdd k 1) i h b) fun r3=>some ((q,rs),(r3.1.1,r3.1.2))) fun r=>Pu.fg 9 9 9 r.1∧Pu.fg 9 9 9 r.2:=fun h0 h1=>
   Pu.Ok.bnd (dC.ok (by show _≤k+1;omega) hb h0 h1) fun r hr=>Pu.Ok.ret ⟨ht,hr.1⟩
  refine Pu.Ok.bnd (ao.ok (by show _≤k+1;omega) hin) fun L hL=> ?_
  obtain⟨l1,l2,l3⟩:=hL
  refine Pu.Ok.tb (fun _=>draw a4 a5) (fun _=> ?_)
  obtain⟨r2,i2,h2,e2,b4,b5⟩:=bF.is (k:=HAdd.hAdd k 1) (n:=8) (h:=h1) (b:=b) (by show _≤k+1;omega) hb a4 a5 (by omega)
  refine Pu.Ok.gX e2 ?_
  dsimp only
  refine Pu.Ok.tb (fun _=>draw b4 b5) (fun _=> ?_)
  rw[aG.rG]
  obtain⟨r,i',h',e,a,c,d,d'⟩:=az.isB (k:=HAdd.hAdd k 1) (n:=(L.length:Nat)) (i:=i2) (h:=h2) (b:=b) (by show _≤k+1;omega) hb b4 b5 (by omega)
  have c:=c (by omega)
  refine Pu.Ok.gX e ?_
  dsimp only
  have hr:r.toNat<L.length:=by omega
  refine Pu.Ok.g a (Pu.Ok.g hr (Pu.Ok.g hr (Pu.Ok.g hr (Pu.Ok.g hr (Pu.Ok.ret ⟨ht,?_⟩)))))
  have:=l3 _ (List.getElem_mem hr)
  rw[←Pu.aw hr ([],[])]at this
  exact this
 intro m
 induction m with
 |zero=>
  intro j i h hi hj
  obtain⟨j,rfl⟩: ∃j',j=j'+1:=⟨j-1,by omega⟩
  rw[aG.bh]
  simp only[gB,fZ,dP,dX,ed,cy,cK,cS,fe,dB,dD,cO,cP,dL,bZ,cZ,dw,eB,fT,fX,dY,dW,cX,cY,cl,cu,List.nil_append,List.cons_append]
  exact Pu.Ok.no (by omega) (fin h)
 |succ m ih=>
  intro j i h hi hj
  obtain⟨j,rfl⟩: ∃j',j=j'+1:=⟨j-1,by omega⟩
  have hw:IntKind.i64.wrap ((i:Int)+1)=((i+1:Nat):Int):=Pu.w64 (by omega) (by omega)
  rw[aG.bh]
  simp only[gB,fZ,dP,dX,ed,cy,cK,cS,fe,dB,dD,cO,cP,dL,bZ,cZ,dw,eB,fT,fX,dY,dW,cX,cY,cl,cu,List.nil_append,List.cons_append]
  refine Pu.Ok.g (by omega) (Pu.Ok.t (fun _=> ?_) (fun _=>fin h))
  rw[aG.dR]
  simp only[gB,fZ,dP,dX,ed,cy,cK,cS,fe,dB,dD,cO,cP,dL,bZ,cZ,dw,eB,fT,fX,dY,dW,cX,cY,cl,cu,List.nil_append,List.cons_append]
  rw[hw]
  refine Pu.Ok.g (by omega) (Pu.Ok.g (by omega) (Pu.Ok.g (by omega) ?_))
  exact ih j (i+1) _ (by omega) (by omega)
theorem aG.ok{k:Nat}{b:List Int}(hk:4194304+110≤k)(hb:b.length≤1048576):Pu.Ok (aG k b) fun r=>Pu.fg 9 9 9 r.1∧Pu.fg 9 9 9 r.2:=by
 obtain⟨k,rfl⟩: ∃k',k=k'+2:=⟨k-2,by omega⟩
 rw[aG.eq]
 exact aG.tx (by omega) hb b.length k 0 _ (by omega) (by omega)
theorem aj.app{k:Nat}{a:List (List Int)}(ha:a.length≤1048576)(hf:a.flatten.length≤1099511627776): ∀(m j i:Nat),i+m=a.length→m<j→
  aj.L4 k j a.length i (a.take i).flatten a=some a.flatten
 |m,0,i,_,hj=>by omega
 |0,j+1,i,hm,_=>by
  rw[aj.qg]
  have e:i=a.length:=by omega
  subst e
  simp
 |m+1,j+1,i,hm,hj=>by
  rw[aj.qg]
  have hlt:i<a.length:=by omega
  have ih:=aj.app (k:=k) ha hf m j (i+1) (by omega) (by omega)
  rw[Int.natCast_succ,Pu.take_succ hlt []]at ih
  have hl:((a.take i).flatten++a.getD i []).length≤1099511627776:=by
   refine Nat.le_trans ?_ hf
   have e:a.flatten=(a.take i).flatten++(a.drop i).flatten:=by rw[←List.flatten_append,List.take_append_drop]
   rw[e,Pu.drop_cons hlt []]
   simp only[List.flatten_cons,List.length_append]
   omega
  simp only[List.flatten_append,List.flatten_cons,List.flatten_nil,List.append_nil]at ih
  simp (disch:=omega) only[↓aq,sss,if_true,if_false,hlt,hl,ih]
theorem aj.tail{k:Nat}{a:List (List Int)}{y:List Int}(hk:4194304≤k)(ha:a.length≤1048576)(hf:a.flatten.length≤1099511627776):aj.L3 k (HAdd.hAdd k 1) 0 0 a.length 0 y a=some a.flatten:=by
 rw[aj.nT]
 by_cases h0:a.length=0
 ·have:a= []:=List.eq_nil_of_length_eq_zero h0
  subst this
  simp
 ·have hlt:0<a.length:=by omega
  have h:=aj.app (k:=k) ha hf (a.length-1) k 1 (by omega) (by omega)
  have e:(a.take 1).flatten=a.getD 0 []:=by rw[Pu.take_succ hlt []];simp
  rw[e]at h
  have hl:(a.getD 0 []).length≤1099511627776:=by
   refine Nat.le_trans ?_ hf
   have e2:a.flatten=(a.take 1).flatten++(a.drop 1).flatten:=by rw[←List.flatten_append,List.take_append_drop]
   rw[e2,e]
   simp
  have hlt':(0:Int)<a.length:=by omega
  simp (disch:=omega) only[↓aq,sss,if_true,if_false,hlt,hlt',hl,List.take_zero,List.nil_append,Int.toNat_zero,Int.zero_add]
  simpa using h
theorem aj.loop{k:Nat}{a:List (List Int)}(hk:4194304≤k)(ha:a.length≤1048576)(hf:a.flatten.length≤1099511627776): ∀(m j i:Nat),i+m=a.length→m<j→
  aj.L0 k j (a.take i).flatten.length a.length i a=some a.flatten
 |m,0,i,_,hj=>by omega
 |0,j+1,i,hm,_=>by
  rw[aj.bh,aj.kD]
  have e:i=a.length:=by omega
  subst e
  rw[List.take_length]
  have hn: ¬((a.flatten.length:Nat):Int)<0:=by omega
  simp (disch:=omega) only[↓aq,sss,if_true,if_false,Nat.lt_irrefl,hn,Int.sub_zero,Int.sub_self]
  by_cases h0:a.flatten.length=0
  ·have h0': ¬(0:Int)<(a.flatten.length:Nat):=by omega
   have h:=aj.app (k:=k) ha hf a.length (k+1) 0 (by omega) (by omega)
   simp only[h0',↓aq,sss,if_true,if_false]
   simpa using h
  ·have h0':(0:Int)<(a.flatten.length:Nat):=by omega
   have h1:(1:Int)≤(a.flatten.length:Nat):=by omega
   simp (disch:=omega) only[h0',h1,hf,↓aq,sss,if_true,if_false,Int.toNat_zero,Nat.le_refl,Int.le_refl,List.length_replicate,Nat.zero_le,cu,Nat.sub_self]
   exact aj.tail hk ha hf
 |m+1,j+1,i,hm,hj=>by
  rw[aj.bh]
  have hlt:i<a.length:=by omega
  have ih:=aj.loop (k:=k) hk ha hf m j (i+1) (by omega) (by omega)
  rw[Int.natCast_succ,Pu.take_succ hlt []]at ih
  have hl:((a.take i).flatten++a.getD i []).length≤1099511627776:=by
   refine Nat.le_trans ?_ hf
   have e:a.flatten=(a.take i).flatten++(a.drop i).flatten:=by rw[←List.flatten_append,List.take_append_drop]
   rw[e,Pu.drop_cons hlt []]
   simp only[List.flatten_cons,List.length_append]
   omega
  simp only[List.flatten_append,List.flatten_cons,List.flatten_nil,List.append_nil,List.length_append,Int.natCast_add]at ih hl
  have hn: ¬(((a.take i).flatten.length:Int)+(a.getD i []).length<0):=by omega
  simp (disch:=omega) only[↓aq,sss,if_true,if_false,hlt,hn,aj.dR,ih]
theorem aj.is{k:Nat}{a:List (List Int)}(hk:4194304+2≤k)(ha:a.length≤1048576)(hf:a.flatten.length≤1099511627776):aj k a=some a.flatten:=by
 obtain⟨k,rfl⟩: ∃k',k=k'+2:=⟨k-2,by omega⟩
 rw[aj.eq]
 exact aj.loop (k:=k) (by omega) ha hf a.length (k+1) 0 (by omega) (by omega)
theorem dj.is{k:Nat}{l:List Int}(hk:4194304+3≤k)(hl:l.length≤1048576):dj k l=some (Pu.gR l):=by
 obtain⟨k,rfl⟩: ∃k',k=k'+1:=⟨k-1,by omega⟩
 rw[dj.eq]
 have h:=Pu.lE (fun j i=>dj.L0 k j ((i:Int)+1) l) l.length (fun i=>Pu.has l ((i:Int)+1)) (some false) (some true)
  (fun j i hi=>by
   rw[dj.bh,cD.is (by omega) (by omega)]
   have c:(i:Int)+1≤l.length:=by omega
   cases hh:Pu.has l ((i:Int)+1)<;>simp (disch:=omega) only[↓aq,sss,if_true,if_false,c,hh,Int.natCast_add,Int.natCast_one])
  (fun j=>by
   rw[dj.bh]
   have c: ¬(l.length:Int)+1≤l.length:=by omega
   simp only[↓aq,sss,if_true,if_false,c]) l.length k 0 (by omega) (by omega)
 simp only[Int.natCast_zero,Int.zero_add]at h
 rw[h]
 unfold Pu.gR
 cases(List.range' 0 l.length).all fun i=>Pu.has l ((i:Int)+1)<;>simp
theorem gp.is{k:Nat}{t:Pu.Tab}(hk:4194304+7≤k)(h1:t.1.length≤1048576)(ht:t.2.length≤1048576)(hr: ∀x∈t.2,x.length≤1048576):gp k t=some (Pu.gh t):=by
 obtain⟨k,rfl⟩: ∃k',k=k'+1:=⟨k-1,by omega⟩
 rw[gp.eq,aN.is (by omega) h1 ht hr,bU]
 unfold Pu.gh
 cases hi:Pu.g8 t with
 |false=>simp
 |true=>
  have h9:=Pu.Aq hi
  simp only[↓aq,sss,if_true,if_false]
  rw[aj.is (by omega) ht (by omega),bU,dj.is (by omega) (by omega)]
  rfl
theorem aY.loop{k:Nat}{a b:List Int}(hl:a.length=b.length)(ha:a.length≤1048576): ∀(m j i:Nat),i+m=a.length→m<j→aY.L0 k j a.length i a b=some (decide (a.drop i=b.drop i))
 |m,0,i,_,hj=>by omega
 |0,j+1,i,hi,_=>by
  rw[aY.bh]
  have e:i=a.length:=by omega
  subst e
  simp[hl]
 |m+1,j+1,i,hi,hj=>by
  rw[aY.bh]
  have h1:i<a.length:=by omega
  have h2:i<b.length:=by omega
  have ih:=aY.loop (k:=k) hl ha m j (i+1) (by omega) (by omega)
  rw[Int.natCast_succ]at ih
  rw[Pu.drop_cons h1 0,Pu.drop_cons h2 0]
  by_cases e:a.getD i 0=b.getD i 0<;>simp (disch:=omega) only[↓aq,sss,if_true,if_false,h1,h2,ih,e,List.cons.injEq,true_and,false_and]
theorem aY.is{k:Nat}{a b:List Int}(hk:4194304+1≤k)(ha:a.length≤1048576):aY k a b=some (decide (a=b)):=by
 obtain⟨k,rfl⟩: ∃k',k=k'+1:=⟨k-1,by omega⟩
 rw[aY.eq]
 by_cases hl:a.length=b.length
 ·have h:=aY.loop (k:=k) hl ha a.length k 0 (by omega) (by omega)
  rw[Int.natCast_zero]at h
  simp only[List.drop_zero]at h
  have hl':(a.length:Int)=b.length:=by omega
  have e:D.eq (a.length:Int) (b.length:Int)=true:=decide_eq_true hl'
  simp only[cK,cy,e,fT,Bool.not_true,aq,Bool.false_eq_true,if_false,h]
 ·have hne:a≠b:=fun e=>hl (by rw[e])
  have hl': ¬(a.length:Int)=b.length:=by omega
  simp[hl',hne]
theorem gA.is{k:Nat}{a b:List Int×List Int}(hk:4194304+2≤k)(h1:a.1.length≤1048576)(h2:a.2.length≤1048576):gA k a b=some (decide (a=b)):=by
 obtain⟨k,rfl⟩: ∃k',k=k'+1:=⟨k-1,by omega⟩
 obtain⟨a1,a2⟩:=a
 obtain⟨b1,b2⟩:=b
 rw[gA.eq,aY.is (by omega) h1,aY.is (by omega) h2]
 by_cases e:a1=b1<;>simp[e]
theorem fj.is{k:Nat}{a b:Pu.Tab}(hk:4194304+10≤k)(ha:Pu.kr a)(hb:Pu.kr b):fj k a b=some (decide ((Pu.shapeOf a).1=(Pu.shapeOf b).1)):=by
 obtain⟨k,rfl⟩: ∃k',k=k'+1:=⟨k-1,by omega⟩
 have hs:(Pu.shapeOf a).1.1.length≤1048576∧(Pu.shapeOf a).1.2.length≤1048576:=by
  unfold Pu.shapeOf
  split
  ·exact⟨by rw[Pu.cp];exact ha.2.1,ha.1⟩
  ·simp
 rw[fj.eq,show((a.1,a.2):Pu.Tab)=a from rfl,show((b.1,b.2):Pu.Tab)=b from rfl,bM.is (by omega) ha.1 ha.2.1 ha.2.2,bM.is (by omega) hb.1 hb.2.1 hb.2.2,bU,bU]
 rw[show(((Pu.shapeOf a).1.1,(Pu.shapeOf a).1.2):List Int×List Int)=(Pu.shapeOf a).1 from rfl,show(((Pu.shapeOf b).1.1,(Pu.shapeOf b).1.2):List Int×List Int)=(Pu.shapeOf b).1 from rfl,gA.is (by omega) hs.1 hs.2,bU]
theorem bY.loop{k:Nat}{Q:List (List Int)}{inn:List Int}{a:Nat}{K:Int}(h9:Pu.cI 9 9 Q)(hp: ∀r,r<Q.length→1≤(Q.getD r []).length)(ha:a<Q.length)(htop:(Q.getD a []).getD ((Q.getD a []).length-1) 0=K)
  (hlt: ∀r,r<Q.length→r≠a→(Q.getD r []).getD ((Q.getD r []).length-1) 0<K∨((Q.getD r []).getD ((Q.getD r []).length-1) 0=K∧(Q.getD r []).length<(Q.getD a []).length)): ∀(m j i b:Nat),i+m=Q.length→m<j→b<Q.length→(b=a∨i≤a)→bY.L0 k j b Q.length i Q inn=some (a:Int)
 |m,0,i,b,_,hj,_,_=>by omega
 |0,j+1,i,b,hi,_,hb,hinv=>by
  rw[bY.bh]
  have e:i=Q.length:=by omega
  have hn: ¬(i:Int)<Q.length:=by omega
  have hba:b=a:=hinv.resolve_right (by omega)
  exact Pu.tX hn (by rw[hba])
 |m+1,j+1,i,b,hi,hj,hb,hinv=>by
  have hl9:=h9.1
  have hn:(i:Int)<Q.length:=by omega
  have hil:i<Q.length:=by omega
  have hri:=hp i hil
  have hrb:=hp b hb
  have hi9:=h9.at i
  have hb9:=h9.at b
  have wi:IntKind.i64.wrap (((Q.getD i []).length:Int)-1)=(((Q.getD i []).length-1:Nat):Int):=by rw[Pu.w64 (by omega) (by omega)];omega
  have wb:IntKind.i64.wrap (((Q.getD b []).length:Int)-1)=(((Q.getD b []).length-1:Nat):Int):=by rw[Pu.w64 (by omega) (by omega)];omega
  have ws:IntKind.i64.wrap ((i:Int)+1)=((i+1:Nat):Int):=by rw[Pu.w64 (by omega) (by omega)];omega
  have li:(Q.getD i []).length-1<(Q.getD i []).length:=by omega
  have lb:(Q.getD b []).length-1<(Q.getD b []).length:=by omega
  have hnext: ∀b':Nat,b'<Q.length→(b'=a∨i+1≤a)→bY.J1 k j b' Q.length i Q inn=some (a:Int):=fun b' h1 h2=>by
   rw[bY.dR,cZ,bZ,ws]
   exact bY.loop h9 hp ha htop hlt m j (i+1) b' (by omega) (by omega) h1 h2
  rw[bY.bh]
  simp only[cS,cy,cK,fe,dw,bZ,Int.toNat_natCast,wi,wb]
  refine Pu.tG hn (Pu.tG (Int.natCast_nonneg i) (Pu.tG hil (Pu.tG hil (Pu.tG (Int.natCast_nonneg b) (Pu.tG hb (Pu.tG hb (Pu.tG hil (Pu.tG hil ?_))))))))
  refine Pu.tG (Int.natCast_nonneg _) (Pu.tG li (Pu.tG hil (Pu.tG li (Pu.tG hb (Pu.tG hb (Pu.tG (Int.natCast_nonneg _) (Pu.tG lb (Pu.tG hb (Pu.tG lb ?_)))))))))
  by_cases eb:b=a
  ·subst eb
   by_cases ei:i=b
   ·subst ei
    refine Pu.tX (Int.lt_irrefl _) (Pu.tG rfl (Pu.tG hil (Pu.tG hb (Pu.tX (Int.lt_irrefl _) (hnext i hb (.inl rfl))))))
   ·by_cases c1:(Q.getD b []).getD ((Q.getD b []).length-1) 0<(Q.getD i []).getD ((Q.getD i []).length-1) 0
    ·have:=hlt i hil ei
     omega
    ·refine Pu.tX c1 ?_
     by_cases c2:(Q.getD i []).getD ((Q.getD i []).length-1) 0=(Q.getD b []).getD ((Q.getD b []).length-1) 0
     ·have:=hlt i hil ei
      exact Pu.tG c2 (Pu.tG hil (Pu.tG hb (Pu.tX (by omega) (hnext b hb (.inl rfl)))))
     ·exact Pu.tX c2 (hnext b hb (.inl rfl))
  ·have hia:i≤a:=hinv.resolve_left eb
   have hbK:=hlt b hb eb
   by_cases ei:i=a
   ·subst ei
    rcases hbK with hbK|hbK
    ·exact Pu.tG (by omega) (hnext i hil (.inl rfl))
    ·refine Pu.tX (by omega) (Pu.tG (by omega) (Pu.tG hil (Pu.tG hb (Pu.tG (by omega) (hnext i hil (.inl rfl))))))
   ·by_cases c1:(Q.getD b []).getD ((Q.getD b []).length-1) 0<(Q.getD i []).getD ((Q.getD i []).length-1) 0
    ·exact Pu.tG c1 (hnext i hil (.inr (by omega)))
    ·refine Pu.tX c1 ?_
     by_cases c2:(Q.getD i []).getD ((Q.getD i []).length-1) 0=(Q.getD b []).getD ((Q.getD b []).length-1) 0
     ·refine Pu.tG c2 (Pu.tG hil (Pu.tG hb ?_))
      by_cases c3:((Q.getD b []).length:Int)<(Q.getD i []).length
      ·exact Pu.tG c3 (hnext i hil (.inr (by omega)))
      ·exact Pu.tX c3 (hnext b hb (.inr (by omega)))
     ·exact Pu.tX c2 (hnext b hb (.inr (by omega)))
theorem bY.is{k:Nat}{Q:List (List Int)}{inn:List Int}{a:Nat}{K:Int}(hk:4194304+1≤k)(h9:Pu.cI 9 9 Q)(hp: ∀r,r<Q.length→1≤(Q.getD r []).length)(ha:a<Q.length)(htop:(Q.getD a []).getD ((Q.getD a []).length-1) 0=K)
  (hlt: ∀r,r<Q.length→r≠a→(Q.getD r []).getD ((Q.getD r []).length-1) 0<K∨((Q.getD r []).getD ((Q.getD r []).length-1) 0=K∧(Q.getD r []).length<(Q.getD a []).length)):bY k (inn,Q)=some (a:Int):=by
 obtain⟨k,rfl⟩: ∃k',k=k'+1:=⟨k-1,by omega⟩
 have hl9:=h9.1
 have h:=bY.loop (k:=k) (inn:=inn) h9 hp ha htop hlt Q.length k 0 0 (by omega) (by omega) (by omega) (.inr (Nat.zero_le _))
 rw[bY.eq]
 exact h
theorem aK.loop{k:Nat}: ∀(m j i n:Nat) (l:List (Int×Int)),n≤i+2*m→m<j→n≤l.length→l.length≤1000→i≤n→ ∃l',aK.L0 k j i ((n:Int)-1) l=some ((),l')∧l'.length=l.length∧ ∀c,l'.getD c (0,0)=if i≤c∧c<n then l.getD (i+n-1-c) (0,0)else l.getD c (0,0)
 |m,0,i,n,l,_,hj,_,_,_=>by omega
 |m,j+1,i,n,l,hm,hj,hn,hl,hin=>by
  rw[aK.bh]
  by_cases c:i+1<n
  ·have hc:(i:Int)<(n:Int)-1:=by omega
   obtain⟨e,he⟩: ∃e:Nat,n=e+1:=⟨n-1,by omega⟩
   subst he
   have e1:((e+1:Nat):Int)-1=(e:Int):=by omega
   rw[e1]at hc⊢
   have hi:i<l.length:=by omega
   have hel:e<l.length:=by omega
   have ws:IntKind.i64.wrap ((i:Int)+1)=((i+1:Nat):Int):=by rw[Pu.w64 (by omega) (by omega)];omega
   have we:IntKind.i64.wrap ((e:Int)-1)=(e:Int)-1:=Pu.w64 (by omega) (by omega)
   have hel2:e<(l.set i (l.getD e (0,0))).length:=by rw[List.length_set];exact hel
   obtain⟨m,rfl⟩: ∃m',m=m'+1:=⟨m-1,by omega⟩
   obtain⟨l',q1,q2,q3⟩:=aK.loop (k:=k) m j (i+1) e ((l.set i (l.getD e (0,0))).set e (l.getD i (0,0))) (by omega) (by omega) (by rw[List.length_set,List.length_set];omega) (by rw[List.length_set,List.length_set];exact hl) (by omega)
   refine⟨l',?_,by rw[q2,List.length_set,List.length_set],fun c=> ?_⟩
   ·simp only[cS,cy,fe,dB,cZ,dw,bZ,Int.toNat_natCast,ws,we]
    rw[show(((l.getD e (0,0)).1,(l.getD e (0,0)).2):Int×Int)=l.getD e (0,0)from rfl,show(((l.getD i (0,0)).1,(l.getD i (0,0)).2):Int×Int)=l.getD i (0,0)from rfl]
    exact Pu.tG hc (Pu.tG (Int.natCast_nonneg e) (Pu.tG hel (Pu.tG hel (Pu.tG (Int.natCast_nonneg i) (Pu.tG hi (Pu.tG hi (Pu.tG (Int.natCast_nonneg i) (Pu.tG hi (Pu.tG hi (Pu.tG (Int.natCast_nonneg e) (Pu.tG hel2 (Pu.tG hel2 q1))))))))))))
   ·have hget: ∀c,((l.set i (l.getD e (0,0))).set e (l.getD i (0,0))).getD c (0,0)=if c=e then l.getD i (0,0)else if c=i then l.getD e (0,0)else l.getD c (0,0):=by
     intro c
     by_cases a1:c=e
     ·subst a1;rw[if_pos rfl,Pu.aw (by rw[List.length_set];exact hel2),List.getElem_set_self]
     ·rw[if_neg a1,Pu.getD_set_ne (Ne.symm a1)]
      by_cases a2:c=i
      ·subst a2;rw[if_pos rfl,Pu.aw (by rw[List.length_set];exact hi),List.getElem_set_self]
      ·rw[if_neg a2,Pu.getD_set_ne (Ne.symm a2)]
    rw[q3]
    by_cases d1:i+1≤c∧c<e
    ·rw[if_pos d1,if_pos (by omega),hget,if_neg (by omega),if_neg (by omega)]
     congr 1;omega
    ·rw[if_neg d1,hget]
     by_cases d2:c=e
     ·subst d2;rw[if_pos rfl,if_pos (by omega)];congr 1;omega
     ·rw[if_neg d2]
      by_cases d3:c=i
      ·subst d3;rw[if_pos rfl,if_pos (by omega)];congr 1;omega
      ·rw[if_neg d3,if_neg (by omega)]
  ·have hc: ¬(i:Int)<(n:Int)-1:=by omega
   refine⟨l,Pu.tX hc rfl,rfl,fun c=> ?_⟩
   split
   ·congr 1;omega
   ·rfl
theorem aK.is{k:Nat}{l:List (Int×Int)}(hk:4194304+1≤k)(hl:l.length≤1000):aK k l=some ((),l.reverse):=by
 obtain⟨k,rfl⟩: ∃k',k=k'+1:=⟨k-1,by omega⟩
 obtain⟨l',q1,q2,q3⟩:=aK.loop (k:=k) l.length k 0 l.length l (by omega) (by omega) (Nat.le_refl _) hl (Nat.zero_le _)
 have e:l'=l.reverse:=by
  refine List.ext_getElem (by rw[q2,List.length_reverse]) fun c h1 h2=> ?_
  have:=q3 c
  rw[if_pos (by omega),Pu.aw h1,Pu.aw (show 0+l.length-1-c<l.length by omega)]at this
  rw[this,List.getElem_reverse]
  congr 1;omega
 have hw:IntKind.i64.wrap ((l.length:Int)-1)=(l.length:Int)-1:=Pu.w64 (by omega) (by omega)
 rw[aK.eq,cK,cy,dw,bZ,hw,←e]
 exact q1
theorem ae.tH{k k1:Nat}{y:Int}{r:Nat}{rs:List (List Int)}{inn:List Int}(hr:r<rs.length)(hs:Pu.cI 1000 1000 rs): ∀(m j:Nat),m≤(rs.getD r []).length→m<j→
  ae.L5 k k1 j ((m:Int)-1) r y r rs inn=match Pu.dT (rs.getD r []) y m with
   |some q=>ae.L3 k k1 ((rs.getD r []).getD q 0) ((r:Int)-1) inn (rs.set r ((rs.getD r []).set q y))
   |none=>ae.L3 k k1 y ((r:Int)-1) inn rs
 |m,0,_,hj=>by omega
 |0,j+1,_,_=>by
  rw[ae.vi]
  have hl:=hs.1
  have hn: ¬((0:Int)≤((0:Nat):Int)-1):=by omega
  simp (disch:=omega) only[↓aq,sss,if_true,if_false,hn,Pu.dT,ae.zf]
 |m+1,j+1,hm,hj=>by
  rw[ae.vi]
  have hl:=hs.1
  have hx:=hs.at r
  have e:((m+1:Nat):Int)-1=(m:Int):=by omega
  have h1:m<(rs.getD r []).length:=by omega
  have ih:=ae.tH (k:=k) (k1:=k1) (y:=y) (inn:=inn) hr hs m j (by omega) (by omega)
  rw[e]
  unfold Pu.dT
  by_cases c:(rs.getD r []).getD m 0<y
  ·simp (disch:=omega) only[↓aq,sss,if_true,if_false,hr,h1,c,ae.zf]
  ·simp (disch:=omega) only[↓aq,sss,if_true,if_false,hr,h1,c,ih]
theorem ae.qB{k:Nat}{inn:List Int}(hk:2000≤k): ∀(r j:Nat) (y:Int) (rs:List (List Int)),r≤rs.length→Pu.cI 1000 1000 rs→r<j→
  ae.L3 k j y ((r:Int)-1) inn rs=some ((Pu.eP r rs y).2,(inn,(Pu.eP r rs y).1))
 |r,0,_,_,_,_,hj=>by omega
 |0,j+1,y,rs,_,_,_=>by
  rw[ae.nT]
  have hn: ¬((0:Int)≤((0:Nat):Int)-1):=by omega
  simp only[↓aq,sss,if_true,if_false,hn,Pu.eP]
 |r+1,j+1,y,rs,hr,hs,hj=>by
  rw[ae.nT]
  have e:((r+1:Nat):Int)-1=(r:Int):=by omega
  have hlt:r<rs.length:=by omega
  have hx:=hs.at r
  have hl:=hs.1
  have h5:=ae.tH (k:=k) (k1:=j) (y:=y) (inn:=inn) hlt hs (rs.getD r []).length k (by omega) (by omega)
  rw[e]
  unfold Pu.eP
  cases hq:Pu.dT (rs.getD r []) y (rs.getD r []).length with
  |some q=>
   rw[hq]at h5
   simp (disch:=omega) only[↓aq,sss,if_true,if_false,hlt,h5]
   exact ae.qB hk r j _ _ (by rw[List.length_set];omega) (hs.set r (by rw[List.length_set];exact hx)) (by omega)
  |none=>
   rw[hq]at h5
   simp (disch:=omega) only[↓aq,sss,if_true,if_false,hlt,h5]
   exact ae.qB hk r j _ _ (by omega) hs (by omega)
theorem ae.tO{k k1:Nat}{y:Int}{r n:Nat}{rs:List (List Int)}{inn:List Int}(hr:r<rs.length)(hn:r<n)(hs:Pu.cI 1000 1000 rs): ∀(m j:Nat),m≤(rs.getD r []).length→m<j→
  ae.L4 k k1 j ((m:Int)-1) r y r 0 n rs inn=match Pu.dT (rs.getD r []) y m with
   |some q=>ae.L2 k k1 ((rs.getD r []).getD q 0) ((r:Int)-1) 0 n inn (rs.set r ((rs.getD r []).set q y))
   |none=>ae.L2 k k1 y ((r:Int)-1) 0 n inn rs
 |m,0,_,hj=>by omega
 |0,j+1,_,_=>by
  rw[ae.qg]
  have hl:=hs.1
  have hn: ¬((0:Int)≤((0:Nat):Int)-1):=by omega
  simp (disch:=omega) only[↓aq,sss,if_true,if_false,hn,Pu.dT,ae.zA]
 |m+1,j+1,hm,hj=>by
  rw[ae.qg]
  have hl:=hs.1
  have hx:=hs.at r
  have e:((m+1:Nat):Int)-1=(m:Int):=by omega
  have h1:m<(rs.getD r []).length:=by omega
  have ih:=ae.tO (k:=k) (k1:=k1) (y:=y) (inn:=inn) hr hn hs m j (by omega) (by omega)
  rw[e]
  unfold Pu.dT
  by_cases c:(rs.getD r []).getD m 0<y
  ·simp (disch:=omega) only[↓aq,sss,if_true,if_false,cl,Nat.zero_add,hr,hn,h1,c,ae.zA]
  ·simp (disch:=omega) only[↓aq,sss,if_true,if_false,cl,Nat.zero_add,hr,hn,h1,c,ih]
theorem ae.qn{k:Nat}{n:Nat}{inn:List Int}(hk:2000≤k): ∀(r j:Nat) (y:Int) (rs:List (List Int)),r≤rs.length→r≤n→Pu.cI 1000 1000 rs→r<j→
  ae.L2 k j y ((r:Int)-1) 0 n inn rs=some ((Pu.eP r rs y).2,(inn,(Pu.eP r rs y).1.take n))
 |r,0,_,_,_,_,_,hj=>by omega
 |0,j+1,y,rs,_,_,_,_=>by
  rw[ae.kP]
  have hn: ¬((0:Int)≤((0:Nat):Int)-1):=by omega
  simp only[↓aq,sss,if_true,if_false,hn,Pu.eP,List.drop_zero]
 |r+1,j+1,y,rs,hr,hrn,hs,hj=>by
  rw[ae.kP]
  have e:((r+1:Nat):Int)-1=(r:Int):=by omega
  have hlt:r<rs.length:=by omega
  have hn:r<n:=by omega
  have hx:=hs.at r
  have hl:=hs.1
  have h5:=ae.tO (k:=k) (k1:=j) (y:=y) (n:=n) (inn:=inn) hlt hn hs (rs.getD r []).length k (by omega) (by omega)
  rw[e]
  unfold Pu.eP
  cases hq:Pu.dT (rs.getD r []) y (rs.getD r []).length with
  |some q=>
   rw[hq]at h5
   simp (disch:=omega) only[↓aq,sss,if_true,if_false,cl,Nat.zero_add,hlt,hn,h5]
   exact ae.qn hk r j _ _ (by rw[List.length_set];omega) (by omega) (hs.set r (by rw[List.length_set];exact hx)) (by omega)
  |none=>
   rw[hq]at h5
   simp (disch:=omega) only[↓aq,sss,if_true,if_false,cl,Nat.zero_add,hlt,hn,h5]
   exact ae.qn hk r j _ _ (by omega) (by omega) hs (by omega)
theorem ae.is{k:Nat}{rs:List (List Int)}{n:Nat}{inn:List Int}(hk:4194304+1≤k)(hs:Pu.cI 9 9 rs)(hn:n<rs.length)(hl:1≤(rs.getD n []).length):
  ae k n inn rs=some ((Pu.bV rs n).2,(inn,(Pu.bV rs n).1)):=by
 obtain⟨k,rfl⟩: ∃k',k=k'+1:=⟨k-1,by omega⟩
 rw[ae.eq]
 have h9:=hs.1
 have hx:=hs.at n
 have hs':Pu.cI 1000 1000 (rs.set n ((rs.getD n []).take ((rs.getD n []).length-1))):=(hs.mono (by omega) (by omega)).set n (by rw[List.length_take];omega)
 have ew:IntKind.i64.wrap (((rs.getD n []).length:Int)-1)=(((rs.getD n []).length-1:Nat):Int):=by rw[Pu.w64 (by omega) (by omega)];omega
 have h3:=ae.qB (k:=k) (inn:=inn) (by omega) n k ((rs.getD n []).getD ((rs.getD n []).length-1) 0) _ (by rw[List.length_set];omega) hs' (by omega)
 have h2:=ae.qn (k:=k) (n:=n) (inn:=inn) (by omega) n k ((rs.getD n []).getD ((rs.getD n []).length-1) 0) _ (by rw[List.length_set];omega) (by omega) hs' (by omega)
 have q1:(rs.getD n []).length-1<(rs.getD n []).length:=by omega
 have q2:(rs.getD n []).length-1≤(rs.getD n []).length:=by omega
 have q3:n≤(rs.set n ((rs.getD n []).take ((rs.getD n []).length-1))).length:=by rw[List.length_set];omega
 unfold Pu.bV
 by_cases c:(rs.getD n []).length=1
 ·have c':(((rs.getD n []).length-1:Nat):Int)=0:=by omega
  rw[if_pos c]
  simp (disch:=omega) only[↓aq,sss,if_true,if_false,cu,Nat.sub_zero,List.drop_zero,hn,ew,q1,q2,q3,ae.fM,h2]
  simp only[c',decide_true,if_true]
 ·have c': ¬(((rs.getD n []).length-1:Nat):Int)=0:=by omega
  simp (disch:=omega) only[↓aq,sss,if_true,if_false,cu,Nat.sub_zero,List.drop_zero,hn,ew,q1,q2,q3,c,c',ae.dR,h3]
theorem aT.Fo{k:Nat}{q:Pu.Tab}{f:Int→Int}{inn qin:List Int}(hk:4194304+40≤k): ∀(m j n:Nat) (acc:List (Int×Int)) (P F X:List (List Int)),Pu.Unr q m P X→Pu.qj (F.take n) X f→n≤F.length→m<j→m≤9→acc.length+m≤9→n≤9→
  aT.L3 k j 0 n acc inn P qin F=some (acc++Pu.prf q f m P).reverse
 |m,0,n,acc,P,F,X,_,_,_,hj,_,_,_=>by omega
 |0,j+1,n,acc,P,F,X,h,s,hn,_,_,ha,_=>by
  have h0:n=0:=by
   have hlen:(F.take n).length=n:=by rw[List.length_take];omega
   refine Nat.eq_zero_of_not_pos fun hp=> ?_
   have hX:0<X.length:=by rw[s.same.1];omega
   have h1:=Pu.ox h.pl (r:=0) hX
   have h2:=Pu.kF (rs:=X) (r:=0) (x:=0) hX h1
   have:=h.fl
   rw[List.eq_nil_of_length_eq_zero this]at h2
   cases h2
  rw[aT.nT]
  have hr:=aK.is (k:=k) (l:=acc) (by omega) (by omega)
  have hn0: ¬(0:Int)<((n:Nat):Int):=by omega
  refine Pu.tX hn0 (Pu.bE hr ?_)
  simp[Pu.prf,Pu.prs]
 |m+1,j+1,n,acc,P,F,X,h,s,hn,hj,h9,ha,hn9=>by
  obtain⟨a,a1,a2,a3,a4,t1,t2,hQ9,hP1,hP2,a6,a7⟩:=s.step h
  have hlen:(F.take n).length=n:=by rw[List.length_take];omega
  have hlo:=bY.is (k:=k) (Q:=F.take n) (inn:=qin) (a:=a) (K:=f ((m+1:Nat):Int)) (by omega) hQ9 t1 a2 a4 t2
  rw[hlen]at a2
  have haF:a<F.length:=by omega
  have hget:(F.take n).getD a []=F.getD a []:=Pu.iE a2 []
  rw[hget]at a3
  have a4':(F.getD a []).getD ((F.getD a []).length-1) 0=f ((m+1:Nat):Int):=by
   have:=a4
   rw[hget]at this
   exact this
  have hr9:=hQ9.at a
  simp only[hget]at hr9
  have hrm:=ae.is (k:=k) (inn:=inn) (by omega) h.p9 hP1 hP2
  have hw:IntKind.i64.wrap (((F.getD a []).length:Int)-1)=(((F.getD a []).length-1:Nat):Int):=by rw[Pu.w64 (by omega) (by omega)];omega
  have hlt:(F.getD a []).length-1<(F.getD a []).length:=by omega
  have hap:(acc++ [(f ((m+1:Nat):Int),(Pu.bV P a).2)]).length≤1099511627776:=by rw[List.length_append,List.length_singleton];omega
  have hJ1: ∀(n':Nat) (F':List (List Int)),F'.take n'=Pu.cw (F.take n) a→n'≤F'.length→n'≤9→aT.J1 k j a (f ((m+1:Nat):Int)) 0 n' acc inn P qin F'=some (acc++Pu.prf q f (m+1) P).reverse:=by
   intro n' F' e1 e2 e3
   have ih:=aT.Fo (inn:=inn) (qin:=qin) hk m j n' (acc++ [(f ((m+1:Nat):Int),(Pu.bV P a).2)]) (Pu.bV P a).1 F' (Pu.cw X a) a6 (by rw[e1];exact a7) e2 (by omega) (by omega) (by rw[List.length_append,List.length_singleton];omega) e3
   rw[aT.dR]
   refine Pu.bE hrm ?_
   refine Pu.tG hap ?_
   simp only[dD]
   rw[ih,show Pu.prf q f (m+1) P=(f ((m+1:Nat):Int),(Pu.bV P (Pu.rowOf q ((m+1:Nat):Int)).toNat).2)::Pu.prf q f m (Pu.bV P (Pu.rowOf q ((m+1:Nat):Int)).toNat).1 from rfl]
   rw[a1,Int.toNat_natCast,List.append_assoc,List.singleton_append]
  rw[aT.nT]
  have hn0:(0:Int)<((n:Nat):Int):=by omega
  simp only[cS,cy,cK,fe,dw,bZ,cO,cP,cl,cu,dB,List.drop_zero,Nat.zero_add,Nat.sub_zero]
  refine Pu.tG hn0 (Pu.bE hlo ?_)
  simp only[Int.toNat_natCast,hw,a4']
  have i0:=Int.natCast_nonneg a
  have i1:=Int.natCast_nonneg ((F.getD a []).length-1)
  refine Pu.tG i0 (Pu.tG a2 (Pu.tG haF (Pu.tG haF (Pu.tG i0 (Pu.tG a2 (Pu.tG haF (Pu.tG haF (Pu.tG i1 (Pu.tG hlt (Pu.tG haF (Pu.tG hlt (Pu.tG i0 (Pu.tG a2 (Pu.tG haF (Pu.tG haF (Pu.tG i1 (Pu.tG (Nat.le_of_lt hlt) (Pu.tG i0 (Pu.tG a2 (Pu.tG haF (Pu.tG haF (Pu.tG rfl ?_))))))))))))))))))))))
  have hts:(F.set a ((F.getD a []).take ((F.getD a []).length-1))).take n=(F.take n).set a ((F.getD a []).take ((F.getD a []).length-1)):=List.take_set
  by_cases c:(F.getD a []).length=1
  ·have c':(((F.getD a []).length-1:Nat):Int)=0:=by omega
   refine Pu.tG c' (Pu.tG i0 (Pu.tG (Nat.le_of_lt a2) (hJ1 a _ ?_ (by rw[List.length_set];omega) (by omega))))
   unfold Pu.cw
   rw[hget,if_pos c,←hts,List.take_take,Nat.min_eq_left (by omega)]
  ·have c': ¬(((F.getD a []).length-1:Nat):Int)=0:=by omega
   refine Pu.tX c' (hJ1 n _ ?_ (by rw[List.length_set];omega) hn9)
   unfold Pu.cw
   rw[hget,if_neg c,hts]
theorem aT.Fl{k:Nat}{q:Pu.Tab}{f:Int→Int}{inn qin:List Int}(hk:4194304+40≤k): ∀(m j:Nat) (acc:List (Int×Int)) (P Q X:List (List Int)),Pu.Unr q m P X→Pu.qj Q X f→m<j→m≤9→acc.length+m≤9→
  aT.L0 k j acc inn P qin Q=some (acc++Pu.prf q f m P).reverse
 |m,0,acc,P,Q,X,_,_,hj,_,_=>by omega
 |0,j+1,acc,P,Q,X,h,s,_,_,ha=>by
  have h0:Q.length=0:=by
   refine Nat.eq_zero_of_not_pos fun hp=> ?_
   have hX:0<X.length:=by rw[s.same.1];exact hp
   have h1:=Pu.ox h.pl (r:=0) hX
   have h2:=Pu.kF (rs:=X) (r:=0) (x:=0) hX h1
   have:=h.fl
   rw[List.eq_nil_of_length_eq_zero this]at h2
   cases h2
  rw[aT.bh]
  have hr:=aK.is (k:=k) (l:=acc) (by omega) (by omega)
  have hn0: ¬(0:Int)<(Q.length:Int):=by omega
  refine Pu.tX hn0 (Pu.bE hr ?_)
  simp[Pu.prf,Pu.prs]
 |m+1,j+1,acc,P,F,X,h,s,hj,h9,ha=>by
  obtain⟨a,a1,a2,a3,a4,t1,t2,hQ9,hP1,hP2,a6,a7⟩:=s.step h
  have hlo:=bY.is (k:=k) (Q:=F) (inn:=qin) (a:=a) (K:=f ((m+1:Nat):Int)) (by omega) hQ9 t1 a2 a4 t2
  have hF9:F.length≤9:=hQ9.1
  have a4':(F.getD a []).getD ((F.getD a []).length-1) 0=f ((m+1:Nat):Int):=a4
  have hr9:(F.getD a []).length≤9:=hQ9.at a
  have hrm:=ae.is (k:=k) (inn:=inn) (by omega) h.p9 hP1 hP2
  have hw:IntKind.i64.wrap (((F.getD a []).length:Int)-1)=(((F.getD a []).length-1:Nat):Int):=by rw[Pu.w64 (by omega) (by omega)];omega
  have hlt:(F.getD a []).length-1<(F.getD a []).length:=by omega
  have hap:(acc++ [(f ((m+1:Nat):Int),(Pu.bV P a).2)]).length≤1099511627776:=by rw[List.length_append,List.length_singleton];omega
  have hfin:(acc++ [(f ((m+1:Nat):Int),(Pu.bV P a).2)]++Pu.prf q f m (Pu.bV P a).1)=acc++Pu.prf q f (m+1) P:=by
   rw[show Pu.prf q f (m+1) P=(f ((m+1:Nat):Int),(Pu.bV P (Pu.rowOf q ((m+1:Nat):Int)).toNat).2)::Pu.prf q f m (Pu.bV P (Pu.rowOf q ((m+1:Nat):Int)).toNat).1 from rfl,a1,Int.toNat_natCast,List.append_assoc,List.singleton_append]
  rw[aT.bh]
  have hn0:(0:Int)<(F.length:Int):=by omega
  simp only[cS,cy,cK,fe,dw,bZ,cO,cP,cu,dB,List.drop_zero,Nat.sub_zero]
  refine Pu.tG hn0 (Pu.bE hlo ?_)
  simp only[Int.toNat_natCast,hw,a4']
  have i0:=Int.natCast_nonneg a
  have i1:=Int.natCast_nonneg ((F.getD a []).length-1)
  refine Pu.tG i0 (Pu.tG a2 (Pu.tG a2 (Pu.tG a2 (Pu.tG i0 (Pu.tG a2 (Pu.tG a2 (Pu.tG a2 (Pu.tG i1 (Pu.tG hlt (Pu.tG a2 (Pu.tG hlt (Pu.tG i0 (Pu.tG a2 (Pu.tG a2 (Pu.tG a2 (Pu.tG i1 (Pu.tG (Nat.le_of_lt hlt) (Pu.tG i0 (Pu.tG a2 (Pu.tG a2 (Pu.tG a2 (Pu.tG rfl ?_))))))))))))))))))))))
  by_cases c:(F.getD a []).length=1
  ·have c':(((F.getD a []).length-1:Nat):Int)=0:=by omega
   have a2':a≤(F.set a ((F.getD a []).take ((F.getD a []).length-1))).length:=by rw[List.length_set];omega
   refine Pu.tG c' (Pu.tG i0 (Pu.tG a2' ?_))
   have ih:=aT.Fo (inn:=inn) (qin:=qin) hk m j a (acc++ [(f ((m+1:Nat):Int),(Pu.bV P a).2)]) (Pu.bV P a).1 (F.set a ((F.getD a []).take ((F.getD a []).length-1))) (Pu.cw X a) a6 (by
    have e:(F.set a ((F.getD a []).take ((F.getD a []).length-1))).take a=Pu.cw F a:=by unfold Pu.cw;rw[if_pos c]
    rw[e];exact a7) a2' (by omega) (by omega) (by rw[List.length_append,List.length_singleton];omega) (by omega)
   rw[hfin]at ih
   rw[aT.dR]
   exact Pu.bE hrm (Pu.tG hap ih)
  ·have c': ¬(((F.getD a []).length-1:Nat):Int)=0:=by omega
   refine Pu.tX c' ?_
   have ih:=aT.Fl (inn:=inn) (qin:=qin) hk m j (acc++ [(f ((m+1:Nat):Int),(Pu.bV P a).2)]) (Pu.bV P a).1 (F.set a ((F.getD a []).take ((F.getD a []).length-1))) (Pu.cw X a) a6 (by
    have e:F.set a ((F.getD a []).take ((F.getD a []).length-1))=Pu.cw F a:=by unfold Pu.cw;rw[if_neg c]
    rw[e];exact a7) (by omega) (by omega) (by rw[List.length_append,List.length_singleton];omega)
   rw[hfin]at ih
   rw[aT.kD]
   exact Pu.bE hrm (Pu.tG hap ih)
theorem aT.is{k:Nat}{p q:Pu.Tab}{X:List (List Int)}{f:Int→Int}(hk:4194304+50≤k)(hp:Pu.bk p=true)(hq:Pu.bk q=true)(hx:Pu.bk ([],X)=true)(hs:Pu.gh ([],X)=true)(hS:Pu.qj q.2 X f)(ho:Pu.outer p=Pu.outer q):aT k p q=some (Pu.prf ([],X) f q.2.flatten.length p.2).reverse:=by
 obtain⟨k,rfl⟩: ∃k',k=k'+1:=⟨k-1,by omega⟩
 have okT: ∀t:Pu.Tab,Pu.bk t=true→Pu.kr t:=fun t h=>by
  have hr:=Pu.fH h
  exact⟨by rw[Pu.dG h];simp,by have:=hr.1;omega,fun r hm=>by have:=hr.2 r hm;omega⟩
 have o1:=okT p hp
 have o2:=okT q hq
 have h1:=br.is (k:=k) (t:=p) (by omega) o1.1 o1.2.1 o1.2.2
 have h2:=br.is (k:=k) (t:=q) (by omega) o2.1 o2.2.1 o2.2.2
 have h9:=Pu.jo hq
 have hxq:Pu.outer p=Pu.outer (([],X):Pu.Tab):=ho.trans (Pu.CF (Pu.dG hq) rfl hS.same.1.symm fun r=>(hS.same.2 r).symm)
 have hu:=Pu.sT hp hx hs hxq
 have hf:X.flatten.length=q.2.flatten.length:=Pu.xP hS.same
 simp only at hu
 rw[hf]at hu
 rw[aT.eq,show((p.1,p.2):Pu.Tab)=p from rfl,show((q.1,q.2):Pu.Tab)=q from rfl]
 refine Pu.bE h1 (Pu.bE h2 ?_)
 have:=aT.Fl (k:=k) (inn:=p.1) (qin:=q.1) (by omega) q.2.flatten.length k [] p.2 q.2 X hu hS (by omega) h9 (by simpa using h9)
 rw[List.nil_append]at this
 exact this
theorem bH.loop{k:Nat}{l:List (Int×Int)}(h9:l.length≤1000): ∀(m j i:Nat) (acc:List Int),i+m=l.length→m<j→acc.length=i→bH.L1 k j l.length i acc l=some (acc++(l.drop i).map Prod.snd,true)
 |m,0,i,acc,_,hj,_=>by omega
 |0,j+1,i,acc,hi,_,_=>by
  rw[bH.dZ]
  have hn: ¬(i:Int)<l.length:=by omega
  refine Pu.tX hn ?_
  rw[List.drop_of_length_le (by omega)]
  simp
 |m+1,j+1,i,acc,hi,hj,ha=>by
  have hlt:i<l.length:=by omega
  have hn:(i:Int)<l.length:=by omega
  have hw:IntKind.i64.wrap ((i:Int)+1)=((i+1:Nat):Int):=by rw[Pu.w64 (by omega) (by omega)];omega
  have ih:=bH.loop (k:=k) h9 m j (i+1) (acc++ [(l.getD i (0,0)).2]) (by omega) (by omega) (by rw[List.length_append,List.length_singleton];omega)
  have hap:(acc++ [(l.getD i (0,0)).2]).length≤1099511627776:=by rw[List.length_append,List.length_singleton];omega
  rw[bH.dZ]
  simp only[cS,cy,cK,fe,cZ,bZ,dD,Int.toNat_natCast,hw]
  refine Pu.tG hn (Pu.tG (Int.natCast_nonneg i) (Pu.tG hlt (Pu.tG hlt (Pu.tG (show(0:Int)≤1 by omega) (Pu.tG (show(1:Int)<((2:Nat):Int) by omega) (Pu.tG hap ?_))))))
  rw[ih,Pu.drop_cons hlt (0,0),List.map_cons,List.append_assoc,List.singleton_append]
theorem bH.is{k:Nat}{p q:Pu.Tab}(hk:4194304+60≤k)(hp:Pu.kr p)(hq:Pu.kr q):bH k p q=some (Pu.ez p q):=by
 obtain⟨k,rfl⟩: ∃k',k=k'+1:=⟨k-1,by omega⟩
 have h1:=eE.is (k:=k) (t:=p) (by omega) hp.1 hp.2.1 hp.2.2
 have h2:=eE.is (k:=k) (t:=q) (by omega) hq.1 hq.2.1 hq.2.2
 have h3:=gp.is (k:=k) (t:=q) (by omega) hq.1 hq.2.1 hq.2.2
 have h4:=fj.is (k:=k) (a:=p) (b:=q) (by omega) hp hq
 have shp: ∀t:Pu.Tab,Pu.bk t=true→Pu.shapeOf t=((Pu.outer t,[]),true):=fun t h=>by
  have h':=h
  simp only[Pu.bk,Bool.and_eq_true]at h'
  unfold Pu.shapeOf
  rw[if_pos (Pu.ke h'.1),Pu.dG h]
 rw[bH.eq,show((p.1,p.2):Pu.Tab)=p from rfl,show((q.1,q.2):Pu.Tab)=q from rfl]
 unfold Pu.ez
 refine Pu.bE h1 ?_
 cases c3:Pu.bk p with
 |false=>rw[if_neg (fun h=>by cases h.1)];exact Pu.tM rfl
 |true=>
  refine Pu.tN (Pu.bE h2 ?_)
  cases c4:Pu.bk q with
  |false=>rw[if_neg (fun h=>by cases h.2.1)];exact Pu.tM rfl
  |true=>
   refine Pu.tN (Pu.bE h3 ?_)
   cases c5:Pu.gh q with
   |false=>rw[if_neg (fun h=>by cases h.2.2.1)];exact Pu.tM rfl
   |true=>
    rw[shp p c3,shp q c4]at h4
    refine Pu.tN (Pu.bE h4 ?_)
    by_cases c6:Pu.outer p=Pu.outer q
    ·rw[if_pos ⟨rfl,rfl,rfl,c6⟩,decide_eq_true (by simp only[c6])]
     refine Pu.tN ?_
     have e0:(([],q.2):Pu.Tab)=q:=Prod.ext (Pu.dG c4).symm rfl
     have hS:Pu.qj q.2 q.2 (fun v=>v):=⟨⟨rfl,fun _=>rfl⟩,fun _ _ _ _=>rfl,fun _ _ _ _ _ _ _ _ h=> .inl h⟩
     have hu:=aT.is (k:=k) (p:=p) (q:=q) (X:=q.2) (by omega) c3 c4 (by rw[e0];exact c4) (by rw[e0];exact c5) hS c6
     rw[e0,Pu.FK]at hu
     have h9:=Pu.jo c4
     have hl:=bH.loop (k:=k) (l:=(Pu.prs q q.2.flatten.length p.2).reverse) (by rw[List.length_reverse,Pu.yG];omega) q.2.flatten.length k 0 [] (by rw[List.length_reverse,Pu.yG];omega) (by omega) rfl
     rw[bH.fM]
     refine Pu.bE hu ?_
     rw[List.drop_zero,List.nil_append,Pu.Cb]at hl
     exact hl
    ·rw[if_neg (fun h=>c6 h.2.2.2),decide_eq_false (fun h=>c6 (congrArg Prod.fst h))]
     exact Pu.tM rfl
theorem cr.loop{k:Nat}{t:Pu.Tab}{x2:List Int}(ht:t.2.length≤1048576)(hf:t.2.flatten.length≤1099511627776): ∀(m j i:Nat),i+m=t.2.length→m<j→
  cr.L0 k j i (t.2.take i).flatten x2 t.2=some t.2.flatten
 |m,0,i,_,hj=>by omega
 |0,j+1,i,hm,_=>by
  rw[cr.bh]
  have e:i=t.2.length:=by omega
  subst e
  simp
 |m+1,j+1,i,hm,hj=>by
  rw[cr.bh]
  have hlt:i<t.2.length:=by omega
  have ih:=cr.loop (k:=k) (x2:=x2) ht hf m j (i+1) (by omega) (by omega)
  rw[Int.natCast_succ,Pu.take_succ hlt []]at ih
  have hl:((t.2.take i).flatten++t.2.getD i []).length≤1099511627776:=by
   refine Nat.le_trans ?_ hf
   have e:t.2.flatten=(t.2.take i).flatten++(t.2.drop i).flatten:=by rw[←List.flatten_append,List.take_append_drop]
   rw[e,Pu.drop_cons hlt []]
   simp only[List.flatten_cons,List.length_append]
   omega
  simp only[List.flatten_append,List.flatten_cons,List.flatten_nil,List.append_nil]at ih
  simp (disch:=omega) only[↓aq,sss,if_true,if_false,hlt,hl,ih]
theorem cr.is{k:Nat}{t:Pu.Tab}(hk:4194304+1≤k)(ht:t.2.length≤1048576)(hf:t.2.flatten.length≤1099511627776):cr k t=some t.2.flatten:=by
 obtain⟨k,rfl⟩: ∃k',k=k'+1:=⟨k-1,by omega⟩
 rw[cr.eq]
 exact cr.loop (k:=k) ht hf t.2.length k 0 (by omega) (by omega)
theorem bp.loop{k:Nat}{l:List Int}(h1: ∀x∈l,1≤x∧x≤9)(hl:l.length≤9): ∀(m j i:Nat) (seen:List Bool),i+m=l.length→m<j→seen.length=10→(∀v:Nat,v<10→seen.getD v false=Pu.has (l.take i) v)→
  bp.L0 k j i l seen=some (Pu.l9 l.length (l.take i) (l.drop i))
 |m,0,i,seen,_,hj,_,_=>by omega
 |0,j+1,i,seen,hm,_,_,_=>by
  rw[bp.bh]
  have e:i=l.length:=by omega
  subst e
  simp[Pu.l9]
 |m+1,j+1,i,seen,hm,hj,hs,hv=>by
  rw[bp.bh]
  have hlt:i<l.length:=by omega
  have hx:=h1 _ (List.getElem_mem hlt)
  rw[←Pu.aw hlt 0]at hx
  rw[Pu.drop_cons hlt 0]
  simp only[Pu.l9]
  have hx10:(l.getD i 0).toNat<seen.length:=by omega
  have hx0:(0:Int)≤l.getD i 0:=by omega
  have hvx:=hv (l.getD i 0).toNat (by omega)
  have ex:(((l.getD i 0).toNat:Nat):Int)=l.getD i 0:=by omega
  rw[ex]at hvx
  by_cases c:l.getD i 0≤l.length
  ·have c': ¬(l.length:Int)<l.getD i 0:=by omega
   cases hh:Pu.has (l.take i) (l.getD i 0)with
   |true=>
    rw[hh]at hvx
    simp (disch:=omega) only[↓aq,sss,if_true,if_false,hlt,c,c',hx0,hx10,hvx]
   |false=>
    rw[hh]at hvx
    have ih:=bp.loop (k:=k) h1 hl m j (i+1) (seen.set (l.getD i 0).toNat true) (by omega) (by omega) (by simpa using hs) (fun v hv10=>by
     rw[Pu.take_succ hlt 0]
     by_cases e:v=(l.getD i 0).toNat
     ·subst e
      have:Pu.has (l.take i++ [l.getD i 0]) (((l.getD i 0).toNat:Nat):Int)=true:=by rw[Pu.mR,ex];exact List.mem_append.2 (.inr (List.mem_singleton.2 rfl))
      rw[this,Pu.aw (by rw[List.length_set];omega),List.getElem_set_self]
     ·have e1:(seen.set (l.getD i 0).toNat true).getD v false=seen.getD v false:=by
       rw[Pu.aw (by rw[List.length_set];omega),List.getElem_set_ne (by omega)]
       exact(Pu.aw (by omega) false).symm
      rw[e1,hv v hv10]
      have hne: ¬(v:Int)=l.getD i 0:=by omega
      unfold Pu.has
      rw[List.any_append]
      simp only[List.any_cons,List.any_nil,hne,decide_false,Bool.or_false])
    rw[Int.natCast_succ,Pu.take_succ hlt 0]at ih
    simp (disch:=omega) only[↓aq,sss,if_true,if_false,hlt,c,c',hx0,hx10,hvx,bp.dR,ih]
  ·have c':(l.length:Int)<l.getD i 0:=by omega
   simp (disch:=omega) only[↓aq,sss,if_true,if_false,hlt,c,c']
theorem bp.is{k:Nat}{t:Pu.Tab}(hk:4194304+6≤k)(h1:t.1.length≤1048576)(ht:t.2.length≤1048576)(hr: ∀x∈t.2,x.length≤1048576):bp k t=some (Pu.gh t):=by
 obtain⟨k,rfl⟩: ∃k',k=k'+1:=⟨k-1,by omega⟩
 rw[bp.eq,aD.is (by omega) h1 ht hr,bU]
 unfold Pu.gh
 cases hi:Pu.g8 t with
 |false=>simp
 |true=>
  have h9:=Pu.Aq hi
  have he:=Pu.pj hi
  simp only[↓aq,sss,if_true,if_false]
  rw[cr.is (by omega) ht (by omega),bU]
  have h:=bp.loop (k:=k) (l:=t.2.flatten) he h9 t.2.flatten.length k 0 (List.replicate 10 false) (by omega) (by omega) (by simp) (fun v hv=>by
   rw[Pu.aw (by simpa using hv),List.getElem_replicate];rfl)
  rw[Int.natCast_zero]at h
  rw[if_pos (by omega),if_pos (by omega),if_pos (by decide)]
  show bp.L0 k k 0 t.2.flatten (List.replicate 10 false)=_
  rw[h,List.take_zero,List.drop_zero,Pu.A0 fun x hx=>(he x hx).1]
theorem ch.loop{k:Nat}{a b:List Int}(hl:a.length=b.length)(ha:a.length≤1048576): ∀(m j i:Nat),i+m=a.length→m<j→ch.L0 k j i a b=some (decide (a.drop i=b.drop i))
 |m,0,i,_,hj=>by omega
 |0,j+1,i,hi,_=>by
  rw[ch.bh]
  have e:i=a.length:=by omega
  subst e
  simp[hl]
 |m+1,j+1,i,hi,hj=>by
  rw[ch.bh]
  have h1:i<a.length:=by omega
  have h2:i<b.length:=by omega
  have ih:=ch.loop (k:=k) hl ha m j (i+1) (by omega) (by omega)
  rw[Int.natCast_succ]at ih
  rw[Pu.drop_cons h1 0,Pu.drop_cons h2 0]
  by_cases e:a.getD i 0=b.getD i 0<;>simp (disch:=omega) only[aq,gB,fZ,dP,cy,cK,cS,fe,bZ,cZ,fT,fX,Pu.w64,Int.toNat_natCast,decide_eq_true_eq,Int.ofNat_lt,h1,h2,if_true,Int.natCast_nonneg,decide_true,ih,e,List.cons.injEq,true_and,false_and,decide_false,Bool.not_true,Bool.not_false,if_false,Bool.false_eq_true]
theorem ch.is{k:Nat}{a b:List Int}(hk:4194304+1≤k)(ha:a.length≤1048576):ch k a b=some (decide (a=b)):=by
 obtain⟨k,rfl⟩: ∃k',k=k'+1:=⟨k-1,by omega⟩
 rw[ch.eq]
 by_cases hl:a.length=b.length
 ·have h:=ch.loop (k:=k) hl ha a.length k 0 (by omega) (by omega)
  rw[Int.natCast_zero]at h
  simp only[List.drop_zero]at h
  have hl':(a.length:Int)=b.length:=by omega
  simp only[aq,fT,fX,cK,cy,hl',decide_true,Bool.not_true,Bool.false_eq_true,if_false,h]
 ·have hne:a≠b:=fun e=>hl (by rw[e])
  have hl': ¬(a.length:Int)=b.length:=by omega
  simp[hl',hne]
theorem gn.is{k:Nat}{a b:List Int×List Int}(hk:4194304+2≤k)(h1:a.1.length≤1048576)(h2:a.2.length≤1048576):gn k a b=some (decide (a=b)):=by
 obtain⟨k,rfl⟩: ∃k',k=k'+1:=⟨k-1,by omega⟩
 obtain⟨a1,a2⟩:=a
 obtain⟨b1,b2⟩:=b
 rw[gn.eq,ch.is (by omega) h1,ch.is (by omega) h2]
 by_cases e:a1=b1<;>simp[e]
theorem bg.inner{k k1:Nat}{n:Int}{r:Nat}{a:List Int}{rows:List (List Int)}(hlt:r<rows.length)(hx:(rows.getD r []).length≤1048576)(hk:4194304≤k)(hl:rows.length≤1048576):
  bg.L1 k k1 k n r 0 a rows=if Pu.has (rows.getD r []) n=true then some (r:Int)else bg.L0 k k1 n ((r:Int)+1) a rows:=by
 have h:=Pu.oM (rows.getD r []) 0 (fun y=>decide (n=y)) (fun j i=>bg.L1 k k1 j n r i a rows) (fun _=>some (r:Int)) (bg.L0 k k1 n ((r:Int)+1) a rows)
  (fun j i hi=>by
   rw[bg.dZ]
   by_cases c:n=(rows.getD r []).getD i 0
   ·simp (disch:=omega) only[↓aq,sss,if_true,if_false,hlt,hi,←c]
   ·have c': ¬(rows.getD r []).getD i 0=n:=fun e=>c e.symm
    simp (disch:=omega) only[↓aq,sss,if_true,if_false,hlt,hi,c,c',Int.natCast_add,Int.natCast_one])
  (fun j=>by
   rw[bg.dZ]
   simp (disch:=omega) only[↓aq,sss,if_true,if_false,hlt,Nat.lt_irrefl]) (rows.getD r []).length k 0 (by omega) (by omega) (by omega)
 simp only[Int.natCast_zero]at h
 rw[h]
 have e:Pu.has (rows.getD r []) n=decide ((rows.getD r []).findIdx (fun y=>decide (n=y))<(rows.getD r []).length):=by
  unfold Pu.has
  exact Pu.EI _ _
 rw[e]
 simp only[decide_eq_true_eq]
theorem bg.is{k:Nat}{t:Pu.Tab}{n:Int}(hk:4194304+7≤k)(h1:t.1.length≤1048576)(ht:t.2.length≤1048576)(hr: ∀x∈t.2,x.length≤1048576):bg k t n=some (if Pu.gh t=true then Pu.rowOf t n else-1):=by
 obtain⟨k,rfl⟩: ∃k',k=k'+1:=⟨k-1,by omega⟩
 rw[bg.eq,bp.is (by omega) h1 ht hr,bU]
 cases hs:Pu.gh t with
 |false=>simp
 |true=>
  have h:=Pu.oM t.2 [] (fun r=>Pu.has r n) (fun j i=>bg.L0 k j n i t.1 t.2) (fun i=>some (i:Int)) (some (-1))
   (fun j i hi=>by
    have hx:=hr _ (List.getElem_mem hi)
    rw[←Pu.aw hi []]at hx
    rw[bg.bh]
    simp (disch:=omega) only[↓aq,sss,if_true,if_false,hi]
    rw[bg.inner hi hx (by omega) ht,Int.natCast_add,Int.natCast_one])
   (fun j=>by
    rw[bg.bh]
    simp (disch:=omega) only[↓aq,sss,if_true,if_false,Nat.lt_irrefl]) t.2.length k 0 (by omega) (by omega) (by omega)
  simp only[Int.natCast_zero]at h
  simp only[↓aq,sss,if_true,if_false]
  rw[h]
  unfold Pu.rowOf Pu.wX
  split<;>rfl
theorem aU.HL{k:Nat}{q:Pu.Tab}{inn:List Int}{m:Nat}{P Q:List (List Int)}(hk:4194304+40≤k)(hq:Pu.bk q=true)(hs:Pu.gh q=true)(hin:inn.length≤1048576)(h:Pu.Unr q (m+1) P Q):
  ∃a:Nat,Pu.rowOf q ((m+1:Nat):Int)=a∧bg k q ((m+1:Nat):Int)=some (a:Int)∧ar k (inn,P) a=some ((inn,(Pu.bV P a).1),(Pu.bV P a).2)∧Pu.Unr q m (Pu.bV P a).1 (Pu.cw Q a):=by
 obtain⟨a,a1,a2,a3,_,_,a6⟩:=h.step
 have hz:=Pu.fH hq
 have hz1:=hz.1
 have hro:=bg.is (k:=k) (t:=q) (n:=((m+1:Nat):Int)) (by omega) (by rw[Pu.dG hq];simp) (by omega) (fun r hr=>by have:=hz.2 r hr;omega)
 rw[if_pos hs,a1]at hro
 have hP1:a<P.length:=by rw[h.same.1];exact a2
 have hP2:1≤(P.getD a []).length:=by rw[h.same.2];exact a3
 exact⟨a,a1,hro,ar.is (by omega) hin h.p9 hP1 hP2 (Pu.D8 h.col hP1 hP2),a6⟩
theorem aU.Fm{k:Nat}{q:Pu.Tab}{x1:List Int}{inn:List Int}(hk:4194304+40≤k)(hq:Pu.bk q=true)(hs:Pu.gh q=true)(hin:inn.length≤1048576): ∀(m j:Nat) (out:List Int) (P Q:List (List Int)),Pu.Unr q m P Q→m<j→m≤out.length→m≤9→
  aU.L2 k j m out q.1 q.2 inn P=some (Pu.wop q m P++out.drop m,true)
 |m,0,out,P,Q,_,hj,_,_=>by omega
 |0,j+1,out,P,Q,_,_,_,_=>by
  rw[aU.kP]
  have hn: ¬(1:Int)≤((0:Nat):Int):=by omega
  exact Pu.tX hn rfl
 |m+1,j+1,out,P,Q,h,hj,ho,h9=>by
  obtain⟨a,a1,a2,a3,a4⟩:=aU.HL (inn:=inn) hk hq hs hin h
  have ih:=aU.Fm (x1:=x1) hk hq hs hin m j (out.set m (Pu.bV P a).2) (Pu.bV P a).1 (Pu.cw Q a) a4 (by omega) (by rw[List.length_set];omega) (by omega)
  rw[aU.kP,show((q.1,q.2):Pu.Tab)=q from rfl]
  have hn:(1:Int)≤((m+1:Nat):Int):=by omega
  have hw:IntKind.i64.wrap (((m+1:Nat):Int)-1)=(m:Int):=by rw[Pu.w64 (by omega) (by omega)];omega
  have hlt:m<out.length:=by omega
  refine Pu.tG hn (Pu.bE a2 (Pu.bE a3 ?_))
  simp only[cS,cy,dw,bZ,dB,hw,Int.toNat_natCast]
  refine Pu.tG (Int.natCast_nonneg m) (Pu.tG hlt (Pu.tG hlt ?_))
  rw[ih,show Pu.wop q (m+1) P=Pu.wop q m (Pu.bV P (Pu.rowOf q ((m+1:Nat):Int)).toNat).1++ [(Pu.bV P (Pu.rowOf q ((m+1:Nat):Int)).toNat).2]from rfl]
  rw[a1,Int.toNat_natCast,Pu.drop_cons (show m<(out.set m (Pu.bV P a).2).length by rw[List.length_set];exact hlt) 0,Pu.aw (by rw[List.length_set];exact hlt),List.getElem_set_self,List.drop_set_of_lt (by omega),List.append_assoc,List.singleton_append]
theorem aU.Gp{k:Nat}{q:Pu.Tab}{inn:List Int}(hk:4194304+40≤k)(hq:Pu.bk q=true)(hs:Pu.gh q=true)(hin:inn.length≤1048576){m j:Nat}{out:List Int}{P Q:List (List Int)}(h:Pu.Unr q m P Q)(hj:m<j)(ho:m≤out.length)(h9:m≤9):
  aU.L1 k j m out q.1 q.2 inn P=some (Pu.wop q m P++out.drop m,true):=by
 obtain⟨j,rfl⟩: ∃j',j=j'+1:=⟨j-1,by omega⟩
 cases m with
 |zero=>
  rw[aU.dZ]
  have hn: ¬(1:Int)≤((0:Nat):Int):=by omega
  exact Pu.tX hn rfl
 |succ m=>
  have h2:=aU.Fm (x1:= []) hk hq hs hin (m+1) (j+1) out P Q h hj ho h9
  rw[aU.kP]at h2
  rw[aU.dZ]
  exact h2
theorem aU.is{k:Nat}{p q:Pu.Tab}(hk:4194304+50≤k)(hp:Pu.kr p)(hq:Pu.kr q):aU k p q=some (Pu.ez p q):=by
 obtain⟨k,rfl⟩: ∃k',k=k'+1:=⟨k-1,by omega⟩
 have e1:((p.1,p.2):Pu.Tab)=p:=rfl
 have e2:((q.1,q.2):Pu.Tab)=q:=rfl
 have hs1:=bD.is (k:=k) (t:=p) (by omega) hp.1 hp.2.1 hp.2.2
 have hs2:=bD.is (k:=k) (t:=q) (by omega) hq.1 hq.2.1 hq.2.2
 have hl1:=fq.is (k:=k) (t:=p) (by omega) hp.1 hp.2.1 hp.2.2
 have hl2:=fq.is (k:=k) (t:=q) (by omega) hq.1 hq.2.1 hq.2.2
 have hst:=bp.is (k:=k) (t:=q) (by omega) hq.1 hq.2.1 hq.2.2
 have shp: ∀t:Pu.Tab,Pu.bk t=true→Pu.shapeOf t=((Pu.outer t,[]),true):=fun t h=>by
  have h':=h
  simp only[Pu.bk,Bool.and_eq_true]at h'
  unfold Pu.shapeOf
  rw[if_pos (Pu.ke h'.1),Pu.dG h]
 have shn: ∀t:Pu.Tab,(Pu.shapeOf t).2=false→ ¬Pu.bk t=true:=fun t h h'=>by rw[shp t h']at h;cases h
 rw[aU.eq,e1,e2]
 refine Pu.bE hs1 (Pu.bE hs2 ?_)
 unfold Pu.ez
 cases c1:(Pu.shapeOf p).2 with
 |false=>rw[if_neg (fun h=>shn p c1 h.1)];exact Pu.tM rfl
 |true=>
  refine Pu.tN ?_
  cases c2:(Pu.shapeOf q).2 with
  |false=>rw[if_neg (fun h=>shn q c2 h.2.1)];exact Pu.tM rfl
  |true=>
   refine Pu.tN (Pu.bE hl1 ?_)
   cases c3:Pu.bk p with
   |false=>rw[if_neg (fun h=>by cases h.1)];exact Pu.tM rfl
   |true=>
    refine Pu.tN (Pu.bE hl2 ?_)
    cases c4:Pu.bk q with
    |false=>rw[if_neg (fun h=>by cases h.2.1)];exact Pu.tM rfl
    |true=>
     refine Pu.tN (Pu.bE hst ?_)
     cases c5:Pu.gh q with
     |false=>rw[if_neg (fun h=>by cases h.2.2.1)];exact Pu.tM rfl
     |true=>
      rw[shp p c3,shp q c4]
      have hpr:=Pu.fH c3
      have hpr1:=hpr.1
      have hes:=gn.is (k:=k) (a:=(Pu.outer p,[])) (b:=(Pu.outer q,[])) (by omega) (by simp only[Pu.cp];omega) (by simp)
      refine Pu.tN (Pu.bE hes ?_)
      by_cases c6:Pu.outer p=Pu.outer q
      ·rw[if_pos ⟨rfl,rfl,rfl,c6⟩,decide_eq_true (by rw[c6])]
       refine Pu.tN ?_
       have hpo:=Pu.ji c3
       have h9:=Pu.jo c4
       have hsum:Pu.dm (Pu.outer p)=(q.2.flatten.length:Int):=by rw[c6,Pu.sL c4]
       have hsz:=ct.is (k:=k) (w:=Pu.outer p) (by omega) (by rw[Pu.cp];omega) (fun x hx=>by have:=(Pu.bw hpo).1 x hx;omega)
       rw[hsum]at hsz
       have hl:=aU.Gp (k:=k) (q:=q) (inn:=p.1) (by omega) c4 c5 hp.1 (m:=q.2.flatten.length) (j:=k) (out:=List.replicate q.2.flatten.length 0) (Pu.sT c3 c4 c5 c6) (by omega) (by simp) h9
       rw[aU.fM]
       refine Pu.bE hsz ?_
       have hmx:q.2.flatten.length≤1099511627776:=by omega
       simp only[cS,dL,Int.toNat_natCast]
       refine Pu.tG (Int.natCast_nonneg _) (Pu.tG (Int.le_refl _) (Pu.tG hmx ?_))
       rw[hl,List.drop_of_length_le (by simp),List.append_nil]
      ·rw[if_neg (fun h=>c6 h.2.2.2),decide_eq_false (fun h=>c6 (congrArg Prod.fst h))]
       exact Pu.tM rfl
theorem bQ.loop{k:Nat}{l n:Int}{b:List Int}(hk:3≤k)(hb:b.length≤1048576)(hl:l≤256)(hn:n≤100): ∀(m j i:Nat) (p h:Int) (out:List Int),n≤(i:Int)+m→m<j→out.length≤i→i≤100→0≤p→p≤b.length→Pu.Ok (bQ.L0 k j l n i p h out b) fun r=>r.1.length≤200∧0≤r.2.2.1∧r.2.2.1≤b.length
 |m,0,i,p,h,out,_,hj,_,_,_,_=>by omega
 |m,j+1,i,p,h,out,hm,hj,ho,hi,h0,h1=>by
  rw[bQ.bh]
  by_cases c:(i:Int)<n
  ·obtain⟨r1,i1,h1',e1,a1,a2,a3,a4,a5⟩:=az.is (k:=k) (n:=l) (h:=h) (b:=b) (by omega) hb h0 h1 hl
   obtain⟨m,rfl⟩: ∃m',m=m'+1:=⟨m-1,by omega⟩
   have hws:IntKind.i64.wrap ((i:Int)+1)=((i+1:Nat):Int):=by rw[Pu.w64 (by omega) (by omega)];omega
   obtain⟨y,y1,y2⟩:=bQ.loop (k:=k) hk hb hl hn m j (i+1) i1 h1' (out++ [IntKind.i64.wrap (1+r1)]) (by omega) (by omega) (by rw[List.length_append,List.length_singleton];omega) (by omega) a4 a5
   have hap:(out++ [IntKind.i64.wrap (1+r1)]).length≤1099511627776:=by rw[List.length_append,List.length_singleton];omega
   simp only[cZ,bZ,dD,cy,hws]
   exact⟨y,Pu.tG c (Pu.bE e1 (Pu.tG hap y1)),y2⟩
  ·exact⟨_,Pu.tX c rfl,by dsimp only;omega,h0,h1⟩
theorem bQ.ok{k:Nat}{l i h:Int}{b:List Int}(hk:4194304+5≤k)(hb:b.length≤1048576)(hl:l≤256)(hi:0≤i)(hi':i≤b.length):Pu.Ok (bQ k 7 l i h b) fun r=>r.1.length≤200∧0≤r.2.2.1∧r.2.2.1≤b.length:=by
 obtain⟨k,rfl⟩: ∃k',k=k'+1:=⟨k-1,by omega⟩
 have hw:D.wrap .i64 (D.add 7 1)=8:=by show IntKind.i64.wrap (7+1)=8;rw[Pu.w64 (by omega) (by omega)];rfl
 obtain⟨r1,i1,h1,e1,a1,a2,a3,a4,a5⟩:=az.is (k:=k) (n:=8) (h:=h) (b:=b) (by omega) hb hi hi' (by omega)
 have:=a3 (by omega)
 obtain⟨y,y1,y2⟩:=bQ.loop (k:=k) (l:=l) (n:=r1) (b:=b) (by omega) hb hl (by omega) 8 k 0 i1 h1 [] (by omega) (by omega) (by simp) (by omega) a4 a5
 rw[Int.natCast_zero]at y1
 rw[bQ.eq,hw]
 exact⟨y,Pu.bE e1 y1,y2⟩
theorem cR.loop{k:Nat}{w:List Int}(hk:1≤k)(hw:w.length≤1048576): ∀(m j i:Nat),i+m=w.length→m<j→cR.L0 k j i w=some (decide (w.length≤9)&&(w.drop i).all fun n=>Pu.within n 1 9)
 |m,0,i,_,hj=>by omega
 |0,j+1,i,hi,_=>by
  rw[cR.bh]
  have hn: ¬(i:Int)<w.length:=by omega
  refine Pu.tX hn ?_
  rw[List.drop_of_length_le (by omega)]
  simp
  omega
 |m+1,j+1,i,hi,hj=>by
  have hlt:i<w.length:=by omega
  have hn:(i:Int)<w.length:=by omega
  have ih:=cR.loop hk hw m j (i+1) (by omega) (by omega)
  have hws:IntKind.i64.wrap ((i:Int)+1)=((i+1:Nat):Int):=by rw[Pu.w64 (by omega) (by omega)];omega
  rw[cR.bh,Pu.drop_cons hlt 0]
  simp only[cS,cy,cK,fe,cZ,bZ,Int.toNat_natCast,hws]
  refine Pu.tG hn (Pu.tG (Int.natCast_nonneg i) (Pu.tG hlt (Pu.tG hlt (Pu.bE (ir.is (by omega)) ?_))))
  cases c:Pu.within (w.getD i 0) 1 9 with
  |false=>refine Pu.tM ?_;simp only[List.all_cons,c,Bool.false_and,Bool.and_false]
  |true=>refine Pu.tN ?_;rw[ih,List.all_cons,c,Bool.true_and]
theorem cR.is{k:Nat}{w:List Int}(hk:4194304+2≤k)(hw:w.length≤1048576):cR k w=some (Pu.isWord w):=by
 obtain⟨k,rfl⟩: ∃k',k=k'+1:=⟨k-1,by omega⟩
 have h:=cR.loop (k:=k) (by omega) hw w.length k 0 (by omega) (by omega)
 rw[Int.natCast_zero,List.drop_zero]at h
 rw[cR.eq]
 exact h
theorem an.inner{k k1 i:Nat}{w out:List Int}(hk:1≤k)(hw:w.length≤2000)(hi:i<w.length)(ho:out.length≤4000): ∀(m j q:Nat) (n:Int),q+m=w.length→m<j→n=((Pu.pc w i q+1:Nat):Int)→an.L2 k k1 j i n q w out=an.L0 k k1 ((i+1:Nat):Int) w (out++ [((Pu.plc w i+1:Nat):Int)])
 |m,0,q,n,_,hj,_=>by omega
 |0,j+1,q,n,hq,_,hn1=>by
  rw[an.kP]
  have hn: ¬(q:Int)<w.length:=by omega
  have hws:IntKind.i64.wrap ((i:Int)+1)=((i+1:Nat):Int):=by rw[Pu.w64 (by omega) (by omega)];omega
  have hap:(out++ [n]).length≤1099511627776:=by rw[List.length_append,List.length_singleton];omega
  simp only[cy,cK,cZ,bZ,hws,dD]
  have e:Pu.plc w i=Pu.pc w i q:=by rw[←Pu.F8,show w.length=q by omega]
  rw[e,←hn1]
  exact Pu.tX hn (Pu.tG hap rfl)
 |m+1,j+1,q,n,hq,hj,hn1=>by
  have hlt:q<w.length:=by omega
  have hn:(q:Int)<w.length:=by omega
  have hle:=Pu.Hl w i q
  have hws:IntKind.i64.wrap ((q:Int)+1)=((q+1:Nat):Int):=by rw[Pu.w64 (by omega) (by omega)];omega
  have hJ: ∀v:Int,0≤v→v≤1→((Pu.pc w i (q+1):Nat):Int)=((Pu.pc w i q:Nat):Int)+v→an.J3 k k1 j i (IntKind.i64.wrap (n+v)) q w out=an.L0 k k1 ((i+1:Nat):Int) w (out++ [((Pu.plc w i+1:Nat):Int)]):=fun v hv0 hv e=>by
   rw[an.rG,cZ,bZ,hws]
   exact an.inner hk hw hi ho m j (q+1) _ (by omega) (by omega) (by rw[Pu.w64 (by omega) (by omega),hn1];omega)
  rw[an.kP]
  simp only[cS,cy,cK,fe,Int.toNat_natCast]
  by_cases c:w.getD q 0<w.getD i 0
  ·exact Pu.tG hn (Pu.tG (Int.natCast_nonneg q) (Pu.tG hlt (Pu.tG hlt (Pu.tG (Int.natCast_nonneg i) (Pu.tG hi (Pu.tG hi (Pu.tG c (Pu.bE (fK.is hk) (hJ 1 (by decide) (by decide) (by rw[Pu.Hw c];rfl))))))))))
  ·by_cases c2:w.getD q 0=w.getD i 0
   ·have e:=hJ (if decide ((q:Int)<(i:Int))=true then 1 else 0) (by split<;>decide) (by split<;>decide) (by
     rw[Pu.Ho c2]
     cases decide ((q:Int)<(i:Int))with
     |true=>rfl
     |false=>exact(Int.add_zero _).symm)
    exact Pu.tG hn (Pu.tG (Int.natCast_nonneg q) (Pu.tG hlt (Pu.tG hlt (Pu.tG (Int.natCast_nonneg i) (Pu.tG hi (Pu.tG hi (Pu.tX c (Pu.tG (Int.natCast_nonneg q) (Pu.tG hlt (Pu.tG hlt (Pu.tG (Int.natCast_nonneg i) (Pu.tG hi (Pu.tG hi (Pu.tG c2 (Pu.bE (fK.is hk) e)))))))))))))))
   ·exact Pu.tG hn (Pu.tG (Int.natCast_nonneg q) (Pu.tG hlt (Pu.tG hlt (Pu.tG (Int.natCast_nonneg i) (Pu.tG hi (Pu.tG hi (Pu.tX c (Pu.tG (Int.natCast_nonneg q) (Pu.tG hlt (Pu.tG hlt (Pu.tG (Int.natCast_nonneg i) (Pu.tG hi (Pu.tG hi (Pu.tX c2 (Pu.bE (fK.is hk) (hJ 0 (by decide) (by decide) (by rw[Pu.He c c2,Int.add_zero])))))))))))))))))
theorem an.outer{k:Nat}{w:List Int}(hk:4194304+10≤k)(hw:w.length≤2000)(h:Pu.isWord w=true): ∀(m j i:Nat) (out:List Int),i+m=w.length→m<j→out.length≤i→an.L0 k j i w out=some (out++(List.range' i m).map fun i=>((Pu.plc w i+1:Nat):Int))
 |m,0,i,out,_,hj,_=>by omega
 |0,j+1,i,out,hi,_,ho=>by
  rw[an.bh]
  have hn: ¬(i:Int)<w.length:=by omega
  rw[List.range'_zero,List.map_nil,List.append_nil]
  exact Pu.tX hn rfl
 |m+1,j+1,i,out,hi,hj,ho=>by
  have hlt:i<w.length:=by omega
  have hn:(i:Int)<w.length:=by omega
  have hw2:=cR.is (k:=k) (w:=w) (by omega) (by omega)
  rw[h]at hw2
  have e:=an.inner (k:=k) (k1:=j) (w:=w) (out:=out) (by omega) hw hlt (by omega) w.length k 0 1 (by omega) (by omega) rfl
  have y1:=an.outer hk hw h m j (i+1) (out++ [((Pu.plc w i+1:Nat):Int)]) (by omega) (by omega) (by rw[List.length_append,List.length_singleton];omega)
  rw[Int.natCast_zero]at e
  rw[an.bh]
  refine Pu.tG hn (Pu.bE hw2 (Pu.tY ?_))
  rw[an.dR,e,y1,List.range'_succ,List.map_cons,List.append_assoc]
  rfl
theorem an.is{k:Nat}{w:List Int}(hk:4194304+12≤k)(hw:w.length≤2000):an k w=some (Pu.vD w):=by
 obtain⟨k,rfl⟩: ∃k',k=k'+1:=⟨k-1,by omega⟩
 rw[an.eq]
 unfold Pu.vD
 cases h:Pu.isWord w with
 |true=>
  have h2:=an.outer (k:=k) (by omega) hw h w.length k 0 [] (by omega) (by omega) (by simp)
  rw[Int.natCast_zero]at h2
  rw[h2,if_pos rfl,List.range_eq_range']
  rfl
 |false=>
  have h2:=cR.is (k:=k) (w:=w) (by omega) (by omega)
  rw[h]at h2
  obtain⟨j,rfl⟩: ∃j,k=j+1:=⟨k-1,by omega⟩
  have hn:(0:Int)<w.length:=by
   cases w with
   |nil=>cases h
   |cons a l=>simp only[List.length_cons];omega
  rw[an.bh,if_neg (by decide)]
  exact Pu.tG hn (Pu.bE h2 (Pu.tF rfl))
theorem an.ok{k:Nat}{w:List Int}(hk:4194304+12≤k)(hw:w.length≤1000):Pu.Ok (an k w) fun r=>r.length≤1000:=
 ⟨_,an.is hk (by omega),by
  unfold Pu.vD
  cases h:Pu.isWord w with
  |true=>rw[if_pos rfl,List.length_map,List.length_range];exact hw
  |false=>exact Nat.zero_le _⟩
theorem fG.ok{k:Nat}{i h:Int}{b:List Int}(hk:4194304+20≤k)(hb:b.length≤1048576)(hi:0≤i)(hi':i≤b.length):Pu.Ok (fG k i h b) fun r=>r.1.length≤1000∧0≤r.2.2.1∧r.2.2.1≤b.length:=by
 obtain⟨k,rfl⟩: ∃k',k=k'+1:=⟨k-1,by omega⟩
 obtain⟨r0,i0,h0,e0,a1,a2,a3,a4,a5⟩:=az.is (k:=k) (n:=4) (h:=h) (b:=b) (by omega) hb hi hi' (by omega)
 have hr:=a3 (by omega)
 have hw:D.wrap .i64 (D.add 2 r0)=2+r0:=by show IntKind.i64.wrap (2+r0)=2+r0;exact Pu.w64 (by omega) (by omega)
 obtain⟨w,w1,w2,w3,w4⟩:=bQ.ok (k:=k) (l:=2+r0) (i:=i0) (h:=h0) (b:=b) (by omega) hb (by omega) a4 a5
 obtain⟨r2,i2,h2,e2,b4,b5⟩:=bF.is (k:=k) (n:=3) (i:=w.2.2.1) (h:=w.2.2.2) (b:=b) (by omega) hb w3 w4 (by omega)
 obtain⟨s,s1,s2⟩:=an.ok (k:=k) (w:=w.1) (by omega) (by omega)
 rw[fG.eq]
 cases r2 with
 |false=>
  refine⟨(w.1,((),(i2,h2))),Pu.bE e0 ?_,by dsimp only;omega,b4,b5⟩
  simp only[hw]
  exact Pu.bE w1 (Pu.bE e2 (Pu.tF rfl))
 |true=>
  refine⟨(s,((),(i2,h2))),Pu.bE e0 ?_,s2,b4,b5⟩
  simp only[hw]
  exact Pu.bE w1 (Pu.bE e2 (Pu.tY (Pu.bE s1 rfl)))
theorem cd.loop{k:Nat}{p h:Int}{b:List Int}(hp:0≤p∧p≤b.length): ∀(m j:Nat) (out:List Int),10≤out.length+m→m<j→out.length≤1000→Pu.Ok (cd.L0 k j out p h b) fun r=>r.1.length≤1010∧0≤r.2.2.1∧r.2.2.1≤b.length
 |m,0,out,_,hj,_=>by omega
 |m,j+1,out,hm,hj,ho=>by
  rw[cd.bh]
  by_cases c:(out.length:Int)<10
  ·obtain⟨m,rfl⟩: ∃m',m=m'+1:=⟨m-1,by omega⟩
   have hap:(out++ [1]).length≤1099511627776:=by rw[List.length_append,List.length_singleton];omega
   obtain⟨y,y1,y2⟩:=cd.loop (k:=k) (h:=h) hp m j (out++ [1]) (by rw[List.length_append,List.length_singleton];omega) (by omega) (by rw[List.length_append,List.length_singleton];omega)
   exact⟨y,Pu.tG c (Pu.tG hap y1),y2⟩
  ·exact⟨_,Pu.tX c rfl,by dsimp only;omega,hp.1,hp.2⟩
theorem cd.okI{k:Nat}{i h:Int}{b:List Int}(hk:4194304+30≤k)(hb:b.length≤1048576)(hi:0≤i)(hi':i≤b.length):Pu.Ok (cd k i h b) fun r=>r.1.length≤1010∧0≤r.2.2.1∧r.2.2.1≤b.length:=by
 obtain⟨k,rfl⟩: ∃k',k=k'+1:=⟨k-1,by omega⟩
 obtain⟨w,w1,w2,w3,w4⟩:=fG.ok (k:=k) (i:=i) (h:=h) (b:=b) (by omega) hb hi hi'
 obtain⟨r1,i1,h1,e1,a1,a2,a3,a4,a5⟩:=az.is (k:=k) (n:=14) (i:=w.2.2.1) (h:=w.2.2.2) (b:=b) (by omega) hb w3 w4 (by omega)
 rw[cd.eq]
 by_cases c:r1=0
 ·obtain⟨x,i2,h2,e2,_,q1,q2⟩:=cG.is (k:=k) (l:= [0,10,-1,9]) (i:=i1) (h:=h1) (b:=b) (by omega) hb a4 a5 (by simp) (by simp)
  have hap:(w.1++ [x]).length≤1099511627776:=by rw[List.length_append,List.length_singleton];omega
  exact⟨(w.1++ [x],((),(i2,h2))),Pu.bE w1 (Pu.bE e1 (Pu.tG c (Pu.bE e2 (Pu.tG hap rfl)))),by dsimp only;rw[List.length_append,List.length_singleton];omega,q1,q2⟩
 ·by_cases c2:r1=1
  ·obtain⟨y,y1,y2⟩:=cd.loop (k:=k) (p:=i1) (h:=h1) (b:=b) ⟨a4,a5⟩ 10 k w.1 (by omega) (by omega) w2
   exact⟨y,Pu.bE w1 (Pu.bE e1 (Pu.tX c (Pu.tG c2 y1))),y2⟩
  ·exact⟨(w.1,((),(i1,h1))),Pu.bE w1 (Pu.bE e1 (Pu.tX c (Pu.tX c2 rfl))),by dsimp only;omega,a4,a5⟩
theorem aR.tx{k:Nat}{b x3:List Int}(hk:4194304+40≤k)(hb:b.length≤1048576): ∀(m j i:Nat) (h:Int),i+m=b.length→m<j→Pu.Ok (aR.L0 k j h i b x3) fun r=>r.length≤1010:=by
 have fin: ∀h,Pu.Ok (aR.J2 k h b x3) fun r=>r.length≤1010:=fun h=>by
  rw[aR.kD]
  refine Pu.Ok.bnd (cd.okI (by show _≤k+1;omega) hb (by omega) (by omega)) ?_
  rintro⟨w,_,i1,h1⟩ ⟨hw,a4,a5⟩
  dsimp only at*
  obtain⟨r2,i2,h2,e2,b4,b5⟩:=bF.is (k:=HAdd.hAdd k 1) (n:=2) (h:=h1) (b:=b) (by show _≤k+1;omega) hb a4 a5 (by omega)
  refine Pu.Ok.gX e2 ?_
  dsimp only
  refine Pu.Ok.tb (fun _=> ?_) (fun _=>Pu.Ok.ret hw)
  have e:=an.is (k:=HAdd.hAdd k 1) (w:=w) (by show _≤k+1;omega) (by omega)
  refine Pu.Ok.gX e (Pu.Ok.ret ?_)
  unfold Pu.vD
  cases h:Pu.isWord w with
  |true=>rw[if_pos rfl,List.length_map,List.length_range];exact hw
  |false=>exact Nat.zero_le _
 intro m
 induction m with
 |zero=>
  intro j i h hi hj
  obtain⟨j,rfl⟩: ∃j',j=j'+1:=⟨j-1,by omega⟩
  rw[aR.bh]
  simp only[gB,fZ,dP,dX,ed,cy,cK,cS,fe,dB,dD,cO,cP,dL,bZ,cZ,dw,eB,fT,fX,dY,dW,cX,cY,cl,cu,List.nil_append,List.cons_append]
  exact Pu.Ok.no (by omega) (fin h)
 |succ m ih=>
  intro j i h hi hj
  obtain⟨j,rfl⟩: ∃j',j=j'+1:=⟨j-1,by omega⟩
  have hw:IntKind.i64.wrap ((i:Int)+1)=((i+1:Nat):Int):=Pu.w64 (by omega) (by omega)
  rw[aR.bh]
  simp only[gB,fZ,dP,dX,ed,cy,cK,cS,fe,dB,dD,cO,cP,dL,bZ,cZ,dw,eB,fT,fX,dY,dW,cX,cY,cl,cu,List.nil_append,List.cons_append]
  refine Pu.Ok.g (by omega) (Pu.Ok.t (fun _=> ?_) (fun _=>fin h))
  rw[aR.dR]
  simp only[gB,fZ,dP,dX,ed,cy,cK,cS,fe,dB,dD,cO,cP,dL,bZ,cZ,dw,eB,fT,fX,dY,dW,cX,cY,cl,cu,List.nil_append,List.cons_append]
  rw[hw]
  refine Pu.Ok.g (by omega) (Pu.Ok.g (by omega) (Pu.Ok.g (by omega) ?_))
  exact ih j (i+1) _ (by omega) (by omega)
theorem aR.ok{k:Nat}{b:List Int}(hk:4194304+50≤k)(hb:b.length≤1048576):Pu.Ok (aR k b) fun r=>r.length≤1010:=by
 obtain⟨k,rfl⟩: ∃k',k=k'+2:=⟨k-2,by omega⟩
 rw[aR.eq]
 exact aR.tx (by omega) hb b.length k 0 _ (by omega) (by omega)
theorem gq.is{k:Nat}{x:Int}(hk:2≤k):gq k x=some (!Pu.within x 1 9,()):=by
 obtain⟨k,rfl⟩: ∃k',k=k'+1:=⟨k-1,by omega⟩
 rw[gq.eq,dI.is (by omega)]
 rfl
theorem aE.is{k:Nat}{r:List Int}(hk:4194304+1≤k)(hr:r.length≤1048577):aE k r=some (Pu.wX (fun y=> !Pu.within y 1 9) r,()):=by
 obtain⟨k,rfl⟩: ∃k',k=k'+1:=⟨k-1,by omega⟩
 rw[aE.eq]
 have h:=Pu.oM r 0 (fun y=> !Pu.within y 1 9) (fun j i=>aE.L0 k j r.length i r) (fun i=>some ((i:Int),())) (some (-1,()))
  (fun j i hi=>by
   rw[aE.bh,gq.is (by omega)]
   cases c:Pu.within (r.getD i 0) 1 9<;>simp (disch:=omega) only[↓aq,sss,if_true,if_false,hi,c,Int.natCast_add,Int.natCast_one])
  (fun j=>by
   rw[aE.bh]
   simp only[↓aq,sss,if_true,if_false,Nat.lt_irrefl]) r.length k 0 (by omega) (by omega) (by omega)
 simp only[Int.natCast_zero]at h
 simp only[cK,cy]
 rw[h]
 unfold Pu.wX
 split<;>rfl
theorem bt.is{k:Nat}{r:List Int}(hk:4194304+2≤k)(hr:r.length≤1048577):bt k r=some (r.any fun y=> !Pu.within y 1 9,()):=by
 obtain⟨k,rfl⟩: ∃k',k=k'+1:=⟨k-1,by omega⟩
 rw[bt.eq,aE.is (by omega) hr,bU,fZ,Pu.u3]
theorem fQ.is{k:Nat}{w:List Int}(hk:4194304+3≤k)(hw:w.length≤1048576):fQ k w=some (Pu.isWord w):=by
 obtain⟨k,rfl⟩: ∃k',k=k'+1:=⟨k-1,by omega⟩
 rw[fQ.eq,bt.is (by omega) (by omega),bU]
 unfold Pu.isWord
 have e:(!w.any fun y=> !Pu.within y 1 9)=w.all fun n=>Pu.within n 1 9:=by rw[List.all_eq_not_any_not]
 by_cases c:w.length≤9
 ·have c':(w.length:Int)≤9:=by omega
  simp only[↓aq,sss,if_true,if_false,c,c',e]
 ·have c': ¬(w.length:Int)≤9:=by omega
  simp only[↓aq,sss,if_true,if_false,c,c']
theorem bJ.loop{k:Nat}{w:List Int}(hl:w.length≤9)(hw: ∀x∈w,1≤x∧x≤w.length): ∀(m j i:Nat) (out:List Int),i+m=w.length→m<j→out.length=w.length→bJ.L1 k j w.length i out w=some (Pu.uX (w.drop i) i out,true)
 |m,0,i,out,_,hj,_=>by omega
 |0,j+1,i,out,hm,_,_=>by
  rw[bJ.dZ,List.drop_of_length_le (by omega)]
  have hn: ¬(i:Int)<w.length:=by omega
  exact Pu.tX hn rfl
 |m+1,j+1,i,out,hm,hj,ho=>by
  have hlt:i<w.length:=by omega
  have hn:(i:Int)<w.length:=by omega
  have hws:IntKind.i64.wrap ((i:Int)+1)=((i+1:Nat):Int):=by rw[Pu.w64 (by omega) (by omega)];omega
  have hx:=hw (w.getD i 0) (by rw[Pu.aw hlt];exact List.getElem_mem hlt)
  have hz:IntKind.i64.wrap (w.getD i 0-1)=w.getD i 0-1:=Pu.w64 (by omega) (by omega)
  have h0:(w.getD i 0-1).toNat<out.length:=by omega
  have ih:=bJ.loop (k:=k) hl hw m j (i+1) (out.set (w.getD i 0-1).toNat ((i+1:Nat):Int)) (by omega) (by omega) (by rw[List.length_set];exact ho)
  rw[bJ.dZ]
  simp only[cS,cy,cK,fe,cZ,dw,bZ,dB,Int.toNat_natCast,hws,hz]
  rw[Pu.drop_cons hlt 0]
  refine Pu.tG hn (Pu.tG (Int.natCast_nonneg i) (Pu.tG hlt (Pu.tG hlt (Pu.tG (by omega) (Pu.tG h0 (Pu.tG h0 ?_))))))
  rw[ih]
  rfl
theorem bJ.is{k:Nat}{w:List Int}(hk:4194304+20≤k)(hw:w.length≤2000):bJ k w=some (Pu.di w):=by
 obtain⟨k,rfl⟩: ∃k',k=k'+1:=⟨k-1,by omega⟩
 have h1:=fQ.is (k:=k) (w:=w) (by omega) (by omega)
 rw[bJ.eq]
 refine Pu.bE h1 ?_
 unfold Pu.di
 cases hw1:Pu.isWord w with
 |false=>rw[if_neg (fun h=>by cases h.1)];exact Pu.tM rfl
 |true=>
  refine Pu.tN ?_
  refine Pu.bE (dj.is (by omega) (by omega)) ?_
  cases h2:Pu.gR w with
  |false=>rw[if_neg (fun h=>by cases h.2)];exact Pu.tM rfl
  |true=>
   rw[if_pos ⟨rfl,rfl⟩]
   refine Pu.tN ?_
   obtain⟨a,b,c⟩:=Pu.mo hw1 h2
   have h9:=(Pu.g6 hw1).1
   have e:=bJ.loop (k:=k) h9 b w.length k 0 (List.replicate w.length 0) (by omega) (by omega) (by simp)
   rw[Int.natCast_zero]at e
   rw[bJ.fM]
   simp only[cS,cy,cK,dL,Int.toNat_natCast]
   refine Pu.tG (by omega) (Pu.tG (by omega) (Pu.tG (by omega) ?_))
   rw[e]
   rfl
theorem bO.loop{k:Nat}{w:List Int}(hl:w.length≤9)(hw: ∀x∈w,1≤x∧x≤w.length): ∀(m j i:Nat) (out:List Int),i+m=w.length→m<j→out.length=w.length→bO.L1 k j i w out=some (Pu.uX (w.drop i) i out,true)
 |m,0,i,out,_,hj,_=>by omega
 |0,j+1,i,out,hm,_,_=>by
  rw[bO.dZ,List.drop_of_length_le (by omega)]
  have hn: ¬(i:Int)<w.length:=by omega
  exact Pu.tX hn rfl
 |m+1,j+1,i,out,hm,hj,ho=>by
  have hlt:i<w.length:=by omega
  have hn:(i:Int)<w.length:=by omega
  have hws:IntKind.i64.wrap ((i:Int)+1)=((i+1:Nat):Int):=by rw[Pu.w64 (by omega) (by omega)];omega
  have hx:=hw (w.getD i 0) (by rw[Pu.aw hlt];exact List.getElem_mem hlt)
  have hz:IntKind.i64.wrap (w.getD i 0-1)=w.getD i 0-1:=Pu.w64 (by omega) (by omega)
  have h0:(w.getD i 0-1).toNat<out.length:=by omega
  have ih:=bO.loop (k:=k) hl hw m j (i+1) (out.set (w.getD i 0-1).toNat ((i+1:Nat):Int)) (by omega) (by omega) (by rw[List.length_set];exact ho)
  rw[bO.dZ]
  simp only[cS,cy,cK,fe,cZ,dw,bZ,dB,Int.toNat_natCast,hws,hz]
  rw[Pu.drop_cons hlt 0]
  refine Pu.tG hn (Pu.tG (Int.natCast_nonneg i) (Pu.tG hlt (Pu.tG hlt (Pu.tG (by omega) (Pu.tG h0 (Pu.tG h0 ?_))))))
  rw[ih]
  rfl
theorem bO.is{k:Nat}{w:List Int}(hk:4194304+20≤k)(hw:w.length≤2000):bO k w=some (Pu.di w):=by
 obtain⟨k,rfl⟩: ∃k',k=k'+1:=⟨k-1,by omega⟩
 have h1:=cR.is (k:=k) (w:=w) (by omega) (by omega)
 rw[bO.eq]
 refine Pu.bE h1 ?_
 unfold Pu.di
 cases hw1:Pu.isWord w with
 |false=>rw[if_neg (fun h=>by cases h.1)];exact Pu.tM rfl
 |true=>
  refine Pu.tN ?_
  refine Pu.bE (an.is (by omega) hw) ?_
  have hsl:(Pu.vD w).length≤1048576:=by rw[Pu.Ae hw1];omega
  refine Pu.bE (ch.is (by omega) hsl) ?_
  have ho:=Pu.ET hw1
  cases h2:Pu.gR w with
  |false=>
   rw[decide_eq_false (fun h=>by rw[ho,h2]at h;cases h),if_neg (fun h=>by cases h.2)]
   exact Pu.tM rfl
  |true=>
   rw[decide_eq_true (ho.2 h2),if_pos ⟨rfl,rfl⟩]
   refine Pu.tN ?_
   obtain⟨a,b,c⟩:=Pu.mo hw1 h2
   have h9:=(Pu.g6 hw1).1
   have e:=bO.loop (k:=k) h9 b w.length k 0 (List.replicate w.length 0) (by omega) (by omega) (by simp)
   rw[Int.natCast_zero]at e
   rw[bO.fM]
   simp only[cS,cy,cK,dL,Int.toNat_natCast]
   refine Pu.tG (by omega) (Pu.tG (by omega) (Pu.tG (by omega) ?_))
   rw[e]
   rfl
theorem aZ.loop{k:Nat}{p q:List Int}{a b:List (List Int)}(hk:4194304+1≤k)(hl:a.length=b.length)(ha:a.length≤1048576)(hr: ∀x∈a,x.length≤1048576): ∀(m j i:Nat),i+m=a.length→m<j→aZ.L1 k j i p a q b=some (decide (a.drop i=b.drop i))
 |m,0,i,_,hj=>by omega
 |0,j+1,i,hi,_=>by
  rw[aZ.dZ]
  have e:i=a.length:=by omega
  subst e
  simp[hl]
 |m+1,j+1,i,hi,hj=>by
  rw[aZ.dZ]
  have h1:i<a.length:=by omega
  have h2:i<b.length:=by omega
  have ih:=aZ.loop (k:=k) (p:=p) (q:=q) hk hl ha hr m j (i+1) (by omega) (by omega)
  rw[Int.natCast_succ]at ih
  have hx:(a.getD i []).length≤1048576:=by rw[Pu.aw h1 []];exact hr _ (List.getElem_mem h1)
  have hs:=ch.is (k:=k) (b:=b.getD i []) hk hx
  rw[Pu.drop_cons h1 [],Pu.drop_cons h2 []]
  by_cases e:a.getD i []=b.getD i []
  ·rw[e]at hs
   simp (disch:=omega) only[↓aq,sss,if_true,if_false,h1,h2,hs,ih,e,List.cons.injEq,true_and,false_and,eq_self]
  ·simp (disch:=omega) only[↓aq,sss,if_true,if_false,h1,h2,hs,ih,e,List.cons.injEq,true_and,false_and]
theorem aZ.is{k:Nat}{a b:List Int×List (List Int)}(hk:4194304+2≤k)(h1:a.1.length≤1048576)(ha:a.2.length≤1048576)(hr: ∀x∈a.2,x.length≤1048576):aZ k a b=some (decide (a=b)):=by
 obtain⟨k,rfl⟩: ∃k',k=k'+1:=⟨k-1,by omega⟩
 obtain⟨a1,a2⟩:=a
 obtain⟨b1,b2⟩:=b
 have hs:=ch.is (k:=k) (a:=a1) (b:=b1) (by omega) h1
 rw[aZ.eq,hs,bU,aZ.fM]
 by_cases e1:a1=b1
 ·subst e1
  by_cases hl:a2.length=b2.length
  ·have h:=aZ.loop (k:=k) (p:=a1) (q:=a1) (a:=a2) (b:=b2) (by omega) hl ha hr a2.length k 0 (by omega) (by simp only at ha;omega)
   rw[Int.natCast_zero]at h
   simp only[List.drop_zero]at h
   have hl':(a2.length:Int)=b2.length:=by omega
   simp only[↓aq,sss,if_true,if_false,hl',h,Prod.mk.injEq,true_and,eq_self]
  ·have hne:a2≠b2:=fun e=>hl (by rw[e])
   have hl': ¬(a2.length:Int)=b2.length:=by omega
   simp[hl',hne]
 ·simp[e1]
theorem ca.loop{k:Nat}{a b:List Int}(hl:a.length=b.length)(ha:a.length≤1048576): ∀(m j i:Nat),i+m=a.length→m<j→ca.L0 k j i a b=some (decide (a.drop i=b.drop i))
 |m,0,i,_,hj=>by omega
 |0,j+1,i,hi,_=>by
  rw[ca.bh]
  have e:i=a.length:=by omega
  subst e
  simp[hl]
 |m+1,j+1,i,hi,hj=>by
  rw[ca.bh]
  have h1:i<a.length:=by omega
  have h2:i<b.length:=by omega
  have ih:=ca.loop (k:=k) hl ha m j (i+1) (by omega) (by omega)
  rw[Int.natCast_succ]at ih
  rw[Pu.drop_cons h1 0,Pu.drop_cons h2 0]
  by_cases e:a.getD i 0=b.getD i 0<;>simp (disch:=omega) only[aq,gB,fZ,dP,cy,cK,cS,fe,bZ,cZ,fT,fX,Pu.w64,Int.toNat_natCast,decide_eq_true_eq,Int.ofNat_lt,h1,h2,if_true,Int.natCast_nonneg,decide_true,ih,e,List.cons.injEq,true_and,false_and,decide_false,Bool.not_true,Bool.not_false,if_false,Bool.false_eq_true]
theorem ca.is{k:Nat}{a b:List Int}(hk:4194304+1≤k)(ha:a.length≤1048576):ca k a b=some (decide (a=b)):=by
 obtain⟨k,rfl⟩: ∃k',k=k'+1:=⟨k-1,by omega⟩
 rw[ca.eq]
 by_cases hl:a.length=b.length
 ·have h:=ca.loop (k:=k) hl ha a.length k 0 (by omega) (by omega)
  rw[Int.natCast_zero]at h
  simp only[List.drop_zero]at h
  have hl':(a.length:Int)=b.length:=by omega
  simp only[aq,fT,fX,cK,cy,hl',decide_true,Bool.not_true,Bool.false_eq_true,if_false,h]
 ·have hne:a≠b:=fun e=>hl (by rw[e])
  have hl': ¬(a.length:Int)=b.length:=by omega
  simp[hl',hne]
theorem fp.is{k:Nat}{w:List Int}(hk:4194304+30≤k)(hw:w.length≤2000):fp k w=some (Pu.pX w):=by
 obtain⟨k,rfl⟩: ∃k',k=k'+1:=⟨k-1,by omega⟩
 have hl:=Pu.uw w
 rw[fp.eq]
 refine Pu.bE (bJ.is (by omega) hw) ?_
 unfold Pu.pX
 cases(Pu.di w).2 with
 |false=>exact Pu.tF rfl
 |true=>exact Pu.tY (Pu.bE (aY.is (by omega) (by omega)) rfl)
theorem de.is{k:Nat}{n x:Int}(hk:1≤k):de k n x=some (decide (x<n),x):=by
 obtain⟨k,rfl⟩: ∃k',k=k'+1:=⟨k-1,by omega⟩
 rw[de.eq]
 rfl
theorem ak.loop{k:Nat}{r:List Int}{x:Int}(hk:1≤k)(hr:r.length≤1048577): ∀(m j i:Nat),i+m=r.length→m<j→i≤r.findIdx (fun n=>decide (x<n))→
  ak.L0 k j r.length i r x=some (if r.findIdx (fun n=>decide (x<n))<r.length then((r.findIdx (fun n=>decide (x<n)):Nat):Int)else-1,x)
 |m,0,i,_,hj,_=>by omega
 |0,j+1,i,hm,_,hi=>by
  rw[ak.bh]
  have e:i=r.length:=by omega
  have h: ¬r.findIdx (fun n=>decide (x<n))<r.length:=by omega
  subst e
  rw[if_neg h]
  simp
 |m+1,j+1,i,hm,hj,hi=>by
  rw[ak.bh]
  have hlt:i<r.length:=by omega
  simp (disch:=omega) only[↓aq,sss,if_true,if_false,hlt,de.is]
  by_cases c:x<r.getD i 0
  ·have e:r.findIdx (fun n=>decide (x<n))=i:=by
    refine Nat.le_antisymm ?_ hi
    exact Pu.findIdx_le hlt (by simpa using c)
   simp only[c,↓aq,sss,if_true,if_false,e,hlt]
  ·have hne:r.findIdx (fun n=>decide (x<n))≠i:=fun e=>by
    have:=Pu.wq (p:=fun n=>decide (x<n)) (r:=r) (by rw[e];exact hlt)
    rw[e]at this
    exact c (by simpa using this)
   have ih:=ak.loop (k:=k) (x:=x) hk hr m j (i+1) (by omega) (by omega) (by omega)
   rw[Int.natCast_succ]at ih
   simp only[c,↓aq,sss,if_true,if_false,ih]
theorem ak.is{k:Nat}{r:List Int}{x:Int}(hk:4194304+1≤k)(hr:r.length≤1048577):
  ak k x r=some (if r.findIdx (fun n=>decide (x<n))<r.length then((r.findIdx (fun n=>decide (x<n)):Nat):Int)else-1,x):=by
 obtain⟨k,rfl⟩: ∃k',k=k'+1:=⟨k-1,by omega⟩
 rw[ak.eq]
 exact ak.loop (k:=k) (by omega) hr r.length k 0 (by omega) (by omega) (by omega)
theorem a9.loop{k:Nat}{inner:List Int}(hk:4194304+1≤k): ∀(m j i:Nat) (x:Int) (rows:List (List Int)),i+m=rows.length→m<j→rows.length≤1048576→(∀r∈rows,r.length≤1048576)→
  a9.L0 k j rows.length i x rows inner=some (((i+(Pu.aP (rows.drop i) x).2:Nat):Int),(inner,rows.take i++(Pu.aP (rows.drop i) x).1))
 |m,0,i,x,rows,_,hj,_,_=>by omega
 |0,j+1,i,x,rows,hm,_,hl,hr=>by
  rw[a9.bh]
  have e:i=rows.length:=by omega
  subst e
  have h1:rows.length+1≤1099511627776:=by omega
  simp (disch:=omega) only[↓aq,sss,if_true,if_false,Nat.lt_irrefl,h1,List.drop_length,List.take_length,Pu.aP,List.length_append,List.length_cons,List.length_nil,Int.natCast_add,Int.natCast_one,Int.natCast_zero,Int.add_zero,Int.zero_add,Nat.zero_add,Nat.add_zero,Int.add_sub_cancel]
 |m+1,j+1,i,x,rows,hm,hj,hl,hr=>by
  rw[a9.bh]
  have hlt:i<rows.length:=by omega
  have hx:=hr _ (List.getElem_mem hlt)
  rw[←Pu.aw hlt []]at hx
  have hi:=ak.is (k:=k) (r:=rows.getD i []) (x:=x) (by omega) (by omega)
  rw[Pu.drop_cons hlt []]
  unfold Pu.aP
  generalize hf:(rows.getD i []).findIdx (fun n=>decide (x<n))=f at*
  by_cases c:f<(rows.getD i []).length
  ·rw[if_pos c]at hi⊢
   have ih:=a9.loop (inner:=inner) hk m j (i+1) ((rows.getD i []).getD f 0) (rows.set i ((rows.getD i []).set f x)) (by rw[List.length_set];omega) (by omega) (by rw[List.length_set];exact hl) (fun r h=>by
    rcases List.mem_or_eq_of_mem_set h with h|rfl
    ·exact hr r h
    ·rw[List.length_set];exact hx)
   rw[Pu.qh hlt,Pu.qv,List.length_set,Int.natCast_succ]at ih
   have hn: ¬(f:Int)<0:=by omega
   simp (disch:=omega) only[↓aq,sss,if_true,if_false,hlt,hi,hn,c,ih]
   simp only[List.append_assoc,List.singleton_append]
   congr 2
   omega
  ·rw[if_neg c]at hi⊢
   have hn:(-1:Int)<0:=by omega
   have h1:(rows.getD i []++ [x]).length≤1099511627776:=by simp only[List.length_append,List.length_cons,List.length_nil];omega
   simp (disch:=omega) only[↓aq,sss,if_true,if_false,hlt,hi,hn,h1,Nat.add_zero]
   rw[Pu.xj hlt]
theorem a9.is{k:Nat}{inner:List Int}{x:Int}{rows:List (List Int)}(hk:4194304+2≤k)(hl:rows.length≤1048576)(hr: ∀r∈rows,r.length≤1048576):
  a9 k x inner rows=some ((((Pu.aP rows x).2:Nat):Int),(inner,(Pu.aP rows x).1)):=by
 obtain⟨k,rfl⟩: ∃k',k=k'+1:=⟨k-1,by omega⟩
 rw[a9.eq]
 have h:=a9.loop (k:=k) (inner:=inner) (by omega) rows.length k 0 x rows (by omega) (by omega) hl hr
 rw[Int.natCast_zero]at h
 simpa using h
theorem cU.is{k:Nat}{t:Pu.Tab}{x:Int}(hk:4194304+8≤k)(h1:t.1.length≤1048576)(hl:t.2.length≤1048576)(hr: ∀r∈t.2,r.length≤1048576):cU k t x=some (Pu.mc t x):=by
 obtain⟨k,rfl⟩: ∃k',k=k'+1:=⟨k-1,by omega⟩
 rw[cU.eq,eE.is (by omega) h1 hl hr,bU]
 unfold Pu.mc
 cases hp:Pu.bk t with
 |false=>simp
 |true=>
  have h9:=Pu.jo hp
  simp only[↓aq,sss,if_true,if_false]
  rw[dI.is (by omega),bU]
  cases hw:Pu.within x 1 9 with
  |false=>simp
  |true=>
   simp only[↓aq,sss,if_true,if_false]
   rw[aj.is (by omega) hl (by omega),bU]
   by_cases c:t.2.flatten.length<9
   ·have c': ¬((t.2.flatten.length:Nat):Int)=9:=by omega
    simp only[c,c',↓aq,sss,if_true,if_false]
    rw[cU.fM,br.is (by omega) h1 hl hr,bU,a9.is (by omega) hl hr]
    simp
   ·have c':((t.2.flatten.length:Nat):Int)=9:=by omega
    simp only[c,c',↓aq,sss,if_true,if_false]
    simp
theorem ef.loop{k:Nat}{n:Nat}(hn:n≤1000): ∀(m j i:Nat),i+m=n→m<j→ef.L0 k j n i (Pu.mr i)=some (Pu.mr n)
 |m,0,i,_,hj=>by omega
 |0,j+1,i,hi,_=>by
  rw[ef.bh]
  have e:i=n:=by omega
  have hc: ¬(i:Int)<(n:Int):=by omega
  exact Pu.tX hc (by rw[e])
 |m+1,j+1,i,hi,hj=>by
  have hc:(i:Int)<(n:Int):=by omega
  have ih:=ef.loop (k:=k) hn m j (i+1) (by omega) (by omega)
  have hws:IntKind.i64.wrap ((i:Int)+1)=((i+1:Nat):Int):=by rw[Pu.w64 (by omega) (by omega)];omega
  have hu:Pu.mr i++ [((i+1:Nat):Int)]=Pu.mr (i+1):=by
   unfold Pu.mr
   rw[List.range_succ,List.map_append]
   rfl
  have hap:(Pu.mr i++ [((i+1:Nat):Int)]).length≤1099511627776:=by rw[hu,Pu.mz];omega
  rw[ef.bh]
  simp only[cZ,bZ,dD,cy,hws]
  refine Pu.tG hc (Pu.tG hap ?_)
  rw[hu,ih]
theorem ef.is{k n:Nat}(hk:4194304+1≤k)(hn:n≤1000):ef k n=some (Pu.mr n):=by
 obtain⟨k,rfl⟩: ∃k',k=k'+1:=⟨k-1,by omega⟩
 have h:=ef.loop (k:=k) hn n k 0 (by omega) (by omega)
 rw[Int.natCast_zero]at h
 rw[ef.eq]
 exact h
theorem aS.loop{k:Nat}{inner:List Int}(hk:4194304+1≤k): ∀(m j i:Nat) (x:Int) (rows:List (List Int)),i+m=rows.length→m<j→rows.length≤1048576→(∀r∈rows,r.length≤1048576)→
  aS.L0 k j rows.length i x rows inner=some (((i+(Pu.aP (rows.drop i) x).2:Nat):Int),(inner,rows.take i++(Pu.aP (rows.drop i) x).1))
 |m,0,i,x,rows,_,hj,_,_=>by omega
 |0,j+1,i,x,rows,hm,_,hl,hr=>by
  rw[aS.bh]
  have e:i=rows.length:=by omega
  subst e
  have h1:rows.length+1≤1099511627776:=by omega
  simp (disch:=omega) only[↓aq,sss,if_true,if_false,Nat.lt_irrefl,h1,List.drop_length,List.take_length,Pu.aP,List.length_append,List.length_cons,List.length_nil,Int.natCast_add,Int.natCast_one,Int.natCast_zero,Int.add_zero,Int.zero_add,Nat.zero_add,Nat.add_zero,Int.add_sub_cancel]
 |m+1,j+1,i,x,rows,hm,hj,hl,hr=>by
  rw[aS.bh]
  have hlt:i<rows.length:=by omega
  have hx:=hr _ (List.getElem_mem hlt)
  rw[←Pu.aw hlt []]at hx
  have hi:=ak.is (k:=k) (r:=rows.getD i []) (x:=x) (by omega) (by omega)
  rw[Pu.drop_cons hlt []]
  unfold Pu.aP
  generalize hf:(rows.getD i []).findIdx (fun n=>decide (x<n))=f at*
  by_cases c:f<(rows.getD i []).length
  ·rw[if_pos c]at hi⊢
   have ih:=aS.loop (inner:=inner) hk m j (i+1) ((rows.getD i []).getD f 0) (rows.set i ((rows.getD i []).set f x)) (by rw[List.length_set];omega) (by omega) (by rw[List.length_set];exact hl) (fun r h=>by
    rcases List.mem_or_eq_of_mem_set h with h|rfl
    ·exact hr r h
    ·rw[List.length_set];exact hx)
   rw[Pu.qh hlt,Pu.qv,List.length_set,Int.natCast_succ]at ih
   have hn: ¬(f:Int)<0:=by omega
   simp (disch:=omega) only[↓aq,sss,if_true,if_false,hlt,hi,hn,c,ih]
   simp only[List.append_assoc,List.singleton_append]
   congr 2
   omega
  ·rw[if_neg c]at hi⊢
   have hn:(-1:Int)<0:=by omega
   have h1:(rows.getD i []++ [x]).length≤1099511627776:=by simp only[List.length_append,List.length_cons,List.length_nil];omega
   simp (disch:=omega) only[↓aq,sss,if_true,if_false,hlt,hi,hn,h1,Nat.add_zero]
   rw[Pu.xj hlt]
theorem aS.is{k:Nat}{inner:List Int}{x:Int}{rows:List (List Int)}(hk:4194304+2≤k)(hl:rows.length≤1048576)(hr: ∀r∈rows,r.length≤1048576):
  aS k x inner rows=some ((((Pu.aP rows x).2:Nat):Int),(inner,(Pu.aP rows x).1)):=by
 obtain⟨k,rfl⟩: ∃k',k=k'+1:=⟨k-1,by omega⟩
 rw[aS.eq]
 have h:=aS.loop (k:=k) (inner:=inner) (by omega) rows.length k 0 x rows (by omega) (by omega) hl hr
 rw[Int.natCast_zero]at h
 simpa using h
theorem aQ.add{k k1:Nat}{i a n:Nat}{W v:List Int}{x4:List Int}{x5:List (List Int)}{x6:List Int}{x7:List (List Int)}{pi:List Int}{P:List (List Int)}{qi:List Int}{F:List (List Int)}{z:Int}(hi:i<v.length)(hz:v.getD i 0=z)(ha:a<F.length)(hF: ∀r,(F.getD r []).length≤1000)(hw:i≤1000):
  aQ.J1 k k1 i a n i v W x4 x5 x6 x7 pi P qi F=aQ.L0 k k1 n ((i+1:Nat):Int) v W x4 x5 x6 x7 pi P qi (F.set a (F.getD a []++ [z])):=by
 rw[aQ.dR]
 have h9:=hF a
 have hws:IntKind.i64.wrap ((i:Int)+1)=((i+1:Nat):Int):=by rw[Pu.w64 (by omega) (by omega)];omega
 have hap:(F.getD a []++ [z]).length≤1099511627776:=by rw[List.length_append,List.length_singleton];omega
 simp only[cS,cy,fe,dB,dD,cZ,bZ,Int.toNat_natCast,hws,hz]
 have a0:=Int.natCast_nonneg a
 exact Pu.tG a0 (Pu.tG ha (Pu.tG ha (Pu.tG (Int.natCast_nonneg i) (Pu.tG hi (Pu.tG hi (Pu.tG ha (Pu.tG hap (Pu.tG a0 (Pu.tG ha (Pu.tG ha (Pu.tG rfl rfl)))))))))))
theorem aQ.loop{k:Nat}{W:List Int}{x4:List Int}{x5:List (List Int)}{x6:List Int}{x7:List (List Int)}(hk:4194304+20≤k)(hW:W.length≤9)(hx: ∀x∈W,1≤x∧x≤9): ∀(m j i:Nat) (P Q:List (List Int)),i+m=W.length→m<j→Pu.Ins P Q i→
  aQ.L0 k j W.length i (Pu.mr W.length) W x4 x5 x6 x7 [] P [] Q=some (([],Pu.fN (W.drop i) P),([],Pu.nH (W.drop i) P Q i))
 |m,0,i,P,Q,_,hj,_=>by omega
 |0,j+1,i,P,Q,hi,_,_=>by
  rw[aQ.bh]
  have hn: ¬(i:Int)<W.length:=by omega
  refine Pu.tX hn ?_
  rw[List.drop_of_length_le (by omega)]
  rfl
 |m+1,j+1,i,P,Q,hi,hj,h=>by
  have hlt:i<W.length:=by omega
  have hn:(i:Int)<W.length:=by omega
  have hxi:=hx _ (List.getElem_mem hlt)
  rw[←Pu.aw hlt 0]at hxi
  obtain⟨s1,_,_⟩:=h.step hxi (by omega)
  have ih:=aQ.loop (x4:=x4) (x5:=x5) (x6:=x6) (x7:=x7) hk hW hx m j (i+1) (Pu.aP P (W.getD i 0)).1 (Pu.gW Q (Pu.aP P (W.getD i 0)).2 ((i+1:Nat):Int)) (by omega) (by omega) s1
  have hP:=Pu.fH (Pu.C8 h (by omega))
  have hQ:=Pu.fH h.pl
  have hP1:P.length≤9:=hP.1
  have hQ1:Q.length≤9:=hQ.1
  have hins:=aS.is (k:=k) (inner:= []) (x:=W.getD i 0) (rows:=P) (by omega) (by omega) (fun r hr=>by have:=hP.2 r hr;omega)
  have ha:=(Pu.si P (W.getD i 0)).1
  rw[h.same.1]at ha
  have hup:(Pu.mr W.length).getD i 0=((i+1:Nat):Int):=by
   rw[Pu.aw (by rw[Pu.mz];exact hlt)]
   simp only[Pu.mr,List.getElem_map,List.getElem_range]
   omega
  have hul:i<(Pu.mr W.length).length:=by rw[Pu.mz];exact hlt
  rw[aQ.bh,Pu.drop_cons hlt 0]
  show _=some (([],Pu.fN (W.drop (i+1)) (Pu.aP P (W.getD i 0)).1),([],Pu.nH (W.drop (i+1)) (Pu.aP P (W.getD i 0)).1 (Pu.gW Q (Pu.aP P (W.getD i 0)).2 ((i+1:Nat):Int)) (i+1)))
  rw[←ih]
  simp only[cS,cy,cK,fe,Int.toNat_natCast]
  refine Pu.tG hn (Pu.tG (Int.natCast_nonneg i) (Pu.tG hlt (Pu.tG hlt (Pu.bE hins ?_))))
  simp only
  have hq9: ∀r,(Q.getD r []).length≤9:=fun r=>hQ.at r
  generalize(Pu.aP P (W.getD i 0)).2=a at*
  unfold Pu.gW
  by_cases c:a=Q.length
  ·have hc:((a:Nat):Int)=(Q.length:Int):=by omega
   have hap:(Q++ [[]]).length≤1099511627776:=by rw[List.length_append,List.length_singleton];omega
   have hF: ∀r,((Q++ [[]]).getD r []).length≤1000:=fun r=>by
    by_cases hr:r<Q.length
    ·simp only[List.getD_eq_getElem?_getD,List.getElem?_append_left hr]
     have:=hq9 r
     simp only[List.getD_eq_getElem?_getD]at this
     omega
    ·simp only[List.getD_eq_getElem?_getD,List.getElem?_append_right (Nat.le_of_not_lt hr)]
     cases r-Q.length<;>simp
   refine Pu.tG hc (Pu.tG hap ?_)
   simp only[dD]
   rw[aQ.add hul hup (by rw[List.length_append,List.length_singleton];omega) hF (by omega),if_pos c]
   congr 1
   rw[c]
   simp
  ·have hc: ¬((a:Nat):Int)=(Q.length:Int):=by omega
   refine Pu.tX hc ?_
   rw[aQ.add hul hup (by omega) (fun r=>by have:=hq9 r;omega) (by omega),if_neg c]
theorem aQ.is{k:Nat}{W:List Int}(hk:4194304+30≤k)(h:Pu.isWord W=true):aQ k W (Pu.mr W.length)=some (([],Pu.fN W []),([],Pu.nH W [] [] 0)):=by
 obtain⟨k,rfl⟩: ∃k',k=k'+1:=⟨k-1,by omega⟩
 obtain⟨h1,h2⟩:=Pu.g6 h
 have hl:=aQ.loop (k:=k) (x4:= []) (x5:= []) (x6:= []) (x7:= []) (by omega) h1 h2 W.length k 0 [] [] (by omega) (by omega) Pu.Ins.nil
 rw[Int.natCast_zero,List.drop_zero]at hl
 rw[aQ.eq]
 exact hl
theorem eT.is{k:Nat}{w:List Int}(hk:4194304+40≤k)(hw:w.length≤1048576):eT k w=some (Pu.j3 w):=by
 obtain⟨k,rfl⟩: ∃k',k=k'+1:=⟨k-1,by omega⟩
 have h1:=fQ.is (k:=k) (w:=w) (by omega) hw
 rw[eT.eq]
 unfold Pu.j3
 refine Pu.bE h1 ?_
 cases c:Pu.isWord w with
 |false=>exact Pu.tM rfl
 |true=>
  have h9:=(Pu.g6 c).1
  exact Pu.tN (Pu.bE (ef.is (n:=w.length) (by omega) (by omega)) (Pu.bE (aQ.is (by omega) c) rfl))
theorem eR.is{k:Nat}{w:List Int}(hk:4194304+40≤k)(hw:w.length≤1048576):eR k w=some (Pu.fy w):=by
 obtain⟨k,rfl⟩: ∃k',k=k'+1:=⟨k-1,by omega⟩
 have h1:=fQ.is (k:=k) (w:=w) (by omega) hw
 rw[eR.eq]
 unfold Pu.fy
 refine Pu.bE h1 ?_
 cases c:Pu.isWord w with
 |false=>exact Pu.tM rfl
 |true=>
  have h9:=(Pu.g6 c).1
  exact Pu.tN (Pu.bE (ef.is (n:=w.length) (by omega) (by omega)) (Pu.bE (aQ.is (by omega) c) rfl))
theorem bB.at{k:Nat}{p:List Int}(hk:4194304+200≤k):bB (k+1) p=some true:=by
 rw[bB.eq]
 refine Pu.bE (mG.is (by omega)) ?_
 by_cases c:(1048576:Int)<p.length
 ·rw[decide_eq_true c];exact Pu.tY rfl
 ·rw[decide_eq_false c]
  have hp:p.length≤1048576:=by omega
  obtain⟨⟨t,x⟩,e1,ht⟩:=aC.ok (k:=k) (b:=p) (by omega) hp
  obtain⟨⟨a,q⟩,e2,ha,hq⟩:=aG.ok (k:=k) (b:=p) (by omega) hp
  obtain⟨m,e3,hm⟩:=aR.ok (k:=k) (b:=p) (by omega) hp
  have ht:Pu.fg 10 9 10 t:=ht
  have ha:Pu.fg 9 9 9 a:=ha
  have hq:Pu.fg 9 9 9 q:=hq
  obtain⟨c1,c2,c3⟩:=ht.tab (by omega) (by omega) (by omega)
  have hA:Pu.kr a:=ha.tab (by omega) (by omega) (by omega)
  have hQ:Pu.kr q:=hq.tab (by omega) (by omega) (by omega)
  have self: ∀{u:Pu.Tab},Pu.kr u→aZ k u u=some true:=fun{u} h=>by
   have:=aZ.is (k:=k) (a:=u) (b:=u) (by omega) h.1 h.2.1 h.2.2
   rw[decide_eq_true rfl]at this
   exact this
  have ints: ∀{l:List Int},l.length≤2000→ca k l l=some true:=fun{l} h=>by
   have:=ca.is (k:=k) (a:=l) (b:=l) (by omega) (by omega)
   rw[decide_eq_true rfl]at this
   exact this
  have f1:=dA.is (k:=k) (t:=t) (row:=x) (by omega) c1 c2 c3
  have f2:=gr.is (k:=k) (t:=t) (row:=x) (by omega) c1 c2 c3
  have hr:=Pu.xb (t:=t) ⟨c1,c2,c3⟩ x
  have g1:=bH.is (k:=k) (p:=a) (q:=q) (by omega) hA hQ
  have g2:=aU.is (k:=k) (p:=a) (q:=q) (by omega) hA hQ
  have hw:=Pu.wS (p:=a) (q:=q)
  have i1:=bJ.is (k:=k) (w:=m) (by omega) (by omega)
  have i2:=bO.is (k:=k) (w:=m) (by omega) (by omega)
  have i3:=fp.is (k:=k) (w:=m) (by omega) (by omega)
  have hi:=Pu.uw m
  have J2:bB.J2 k (Pu.di m).2 m (Pu.di m).1=some true:=by
   rw[bB.kD]
   by_cases hb:Pu.isWord m=true∧Pu.gR m=true
   ·have hinv:=Pu.AK hb.1 hb.2
    have he:(Pu.di m).2=true:=by unfold Pu.di;rw[if_pos hb]
    have j1:=eT.is (k:=k) (w:=(Pu.di m).1) (by omega) (by omega)
    have j2:=eR.is (k:=k) (w:=m) (by omega) (by omega)
    rw[hinv]at j1
    have hr2:(Pu.fy m).2=true:=by unfold Pu.fy;rw[if_pos hb.1]
    rw[he]
    refine Pu.tN (Pu.bE j1 (Pu.bE j2 (Pu.tY ?_)))
    rw[hr2]
    exact Pu.tY (Pu.bE (self Pu.w8) rfl)
   ·have he:(Pu.di m).2=false:=by unfold Pu.di;rw[if_neg hb]
    rw[he]
    exact Pu.tM rfl
  have J1:bB.J1 k (Pu.ez a q).2 (Pu.di m).2 (Pu.ez a q).1 m (Pu.di m).1 a.1 a.2 q.1 q.2=some true:=by
   rw[bB.dR]
   cases hb:(Pu.ez a q).2 with
   |false=>exact Pu.tF J2
   |true=>
    obtain⟨b1,b2⟩:=Pu.Cx hb
    have j1:=eT.is (k:=k) (w:=(Pu.ez a q).1) (by omega) (by omega)
    have j2:=eR.is (k:=k) (w:=(Pu.ez a q).1) (by omega) (by omega)
    rw[b1]at j1
    rw[b2]at j2
    exact Pu.tY (Pu.bE j1 (Pu.bE j2 (Pu.tN (Pu.tN (Pu.bE (self hA) (Pu.tN (Pu.bE (self hQ) (Pu.tN J2))))))))
  have J0:bB.J0 k x (Pu.ep t x).2.1 (Pu.ep t x).2.2 (Pu.ez a q).2 (Pu.di m).2 (Pu.ez a q).1 m (Pu.di m).1 t.1 t.2 (Pu.ep t x).1.1 (Pu.ep t x).1.2 a.1 a.2 q.1 q.2=some true:=by
   rw[bB.fM]
   cases hb:(Pu.ep t x).2.2 with
   |false=>exact Pu.tF J1
   |true=>
    have j1:=cU.is (k:=k) (t:=(Pu.ep t x).1) (x:=(Pu.ep t x).2.1) (by omega) hr.1 hr.2.1 hr.2.2
    rw[Pu.AI hb]at j1
    exact Pu.tY (Pu.bE j1 (Pu.tN (Pu.tE rfl (Pu.bE (self ⟨c1,c2,c3⟩) (Pu.tN J1)))))
  refine Pu.tF (Pu.bE e1 (Pu.bE f1 (Pu.bE f2 (Pu.bE e2 (Pu.bE g1 (Pu.bE g2 (Pu.bE e3 (Pu.bE i1 (Pu.bE i2 (Pu.tB (Pu.tE rfl (Pu.bE (self hr) (Pu.tN (Pu.tB (Pu.bE (ints (by omega)) (Pu.tN (Pu.tB (Pu.bE (ints (by omega)) (Pu.tN (Pu.bE i3 ?_))))))))))))))))))))
  have hs:=ca.is (k:=k) (a:=(Pu.di m).1) (b:=m) (by omega) (by omega)
  cases hb:(Pu.di m).2 with
  |true=>
   rw[hb]at J0
   have e:Pu.pX m=decide ((Pu.di m).1=m):=by unfold Pu.pX;rw[hb];rfl
   rw[←e]at hs
   exact Pu.tY (Pu.bE hs (Pu.tB J0))
  |false=>
   rw[hb]at J0
   have e:Pu.pX m=false:=by unfold Pu.pX;rw[hb];rfl
   rw[e]
   exact Pu.tF (Pu.tB J0)
theorem bB.is{p:List Int}(h1:p.length≤maxLen): ∃k,bB k p=some true:=⟨_,bB.at (Nat.le_refl (4194304+200))⟩
end Go.Am.Seat
