/- What the functions make of data, as plain words; each holds for all data within the bounds that it names. -/
import Derived.Test.YtlfpegcoaebmkaaEqsFnPromoted
import Derived.Test.YtlfpegcoaebmkaaPu
set_option linter.unusedSimpArgs false
set_option linter.unusedVariables false
set_option linter.unnecessarySimpa false
set_option linter.unusedSectionVars false
namespace Go.Am.Seat
open Go Go.Am Go.Am.Pu
attribute [local instance] D.real
set_option linter.unusedSimpArgs false
set_option linter.unusedVariables false
set_option maxRecDepth 4000
theorem nm.is{k:Nat}{p:List Int}(hk:1≤k):nm k p=some (decide ((1048576:Int)<p.length)):=by
 obtain⟨k,rfl⟩: ∃k',k=k'+1:=⟨k-1,by omega⟩
 rw[nm.eq]
 rfl
theorem cr.is{k:Nat}{i h:Int}{b:List Int}(hk:1≤k)(hb:b.length≤1048576)(hi:0≤i)(hi':i≤b.length):
  ∃r i' h',cr k i h b=some (r,((),(i',h')))∧0≤r∧r≤255∧0≤i'∧i'≤b.length:=by
 obtain⟨k,rfl⟩: ∃k',k=k'+1:=⟨k-1,by omega⟩
 rw[cr.eq]
 have e33:(0:Int)≤33:=by decide
 have e45:(0:Int)≤45:=by decide
 by_cases hlt:i<b.length
 ·have hn:i.toNat<b.length:=by omega
  have ew:IntKind.i64.wrap (i+1)=i+1:=Pu.w64 (by omega) (by omega)
  refine⟨_,i+1,_,by simp only[↓ak,sss,if_true,if_false,e33,e45,hlt,hi,hn,ew];rfl,(Pu.yO _).1,(Pu.yO _).2,?_,?_⟩
  ·omega
  ·omega
 ·exact⟨_,_,_,by simp only[↓ak,sss,if_true,if_false,e33,e45,hlt];rfl,(Pu.yO _).1,(Pu.yO _).2,hi,hi'⟩
theorem aM.is{k:Nat}{n i h:Int}{b:List Int}(hk:2≤k)(hb:b.length≤1048576)(hi:0≤i)(hi':i≤b.length)(hn:n≤256):
  ∃r i' h',aM k n i h b=some (r,((),(i',h')))∧0≤r∧(n≤0→r=0)∧(0<n→r<n)∧0≤i'∧i'≤b.length:=by
 obtain⟨k,rfl⟩: ∃k',k=k'+1:=⟨k-1,by omega⟩
 rw[aM.eq]
 by_cases h0:n≤0
 ·exact⟨0,i,h,by simp only[↓ak,sss,if_true,if_false,h0],by omega,fun _=>rfl,fun h=>by omega,hi,hi'⟩
 ·obtain⟨r,i',h',e,h1,h2,h3,h4⟩:=cr.is (k:=k) (h:=h) (b:=b) (by omega) hb hi hi'
  have hne: ¬n=0:=by omega
  refine⟨r.tmod n,i',h',by simp only[↓ak,sss,if_true,if_false,h0,hn,e,hne];rfl,Int.tmod_nonneg _ h1,fun h=>by omega,fun _=>Int.tmod_lt_of_pos _ (by omega),h3,h4⟩
theorem aM.isB{k:Nat}{n i h:Int}{b:List Int}(hk:2≤k)(hb:b.length≤1048576)(hi:0≤i)(hi':i≤b.length)(hn:n≤1000000):
  ∃r i' h',aM k n i h b=some (r,((),(i',h')))∧0≤r∧(0<n→r<n)∧0≤i'∧i'≤b.length:=by
 by_cases h256:n≤256
 ·obtain⟨r,i',h',e,a,_,c,d⟩:=aM.is (k:=k) (n:=n) (h:=h) (b:=b) hk hb hi hi' h256
  exact⟨r,i',h',e,a,c,d⟩
 ·obtain⟨k,rfl⟩: ∃k',k=k'+1:=⟨k-1,by omega⟩
  rw[aM.eq]
  obtain⟨x,i1,h1,e1,x1,x2,x3,x4⟩:=cr.is (k:=k) (h:=h) (b:=b) (by omega) hb hi hi'
  obtain⟨y,i2,h2,e2,y1,y2,y3,y4⟩:=cr.is (k:=k) (h:=h1) (b:=b) (by omega) hb x3 x4
  obtain⟨z,i3,h3,e3,z1,z2,z3,z4⟩:=cr.is (k:=k) (h:=h2) (b:=b) (by omega) hb y3 y4
  obtain⟨w,i4,h4,e4,w1,w2,w3,w4⟩:=cr.is (k:=k) (h:=h3) (b:=b) (by omega) hb z3 z4
  have hne: ¬n=0:=by omega
  have h0: ¬n≤0:=by omega
  refine⟨(x*16777216+y*65536+z*256+w).tmod n,i4,h4,?_,Int.tmod_nonneg _ (by omega),fun _=>Int.tmod_lt_of_pos _ (by omega),w3,w4⟩
  have q1:IntKind.i64.wrap (x*16777216)=x*16777216:=Pu.w64 (by omega) (by omega)
  have q2:IntKind.i64.wrap (y*65536)=y*65536:=Pu.w64 (by omega) (by omega)
  have q3:IntKind.i64.wrap (z*256)=z*256:=Pu.w64 (by omega) (by omega)
  have q4:IntKind.i64.wrap (x*16777216+y*65536)=x*16777216+y*65536:=Pu.w64 (by omega) (by omega)
  have q5:IntKind.i64.wrap (x*16777216+y*65536+z*256)=x*16777216+y*65536+z*256:=Pu.w64 (by omega) (by omega)
  have q6:IntKind.i64.wrap (x*16777216+y*65536+z*256+w)=x*16777216+y*65536+z*256+w:=Pu.w64 (by omega) (by omega)
  simp only[eX,↓ak,sss,if_true,if_false,h0,h256,e1,e2,e3,e4,hne,q1,q2,q3,q4,q5,q6]
  rfl
theorem bU.is{k:Nat}{n i h:Int}{b:List Int}(hk:3≤k)(hb:b.length≤1048576)(hi:0≤i)(hi':i≤b.length)(hn:n≤256):
  ∃r i' h',bU k n i h b=some (r,((),(i',h')))∧0≤i'∧i'≤b.length:=by
 obtain⟨k,rfl⟩: ∃k',k=k'+1:=⟨k-1,by omega⟩
 rw[bU.eq]
 obtain⟨r,i',h',e,h1,h2,h3,h4,h5⟩:=aM.is (k:=k) (h:=h) (b:=b) (by omega) hb hi hi' hn
 rw[e]
 exact⟨_,_,_,rfl,h4,h5⟩
theorem gw.is{k:Nat}{a b:Int}(hk:1≤k):gw k a b=some (min a b):=by
 obtain⟨k,rfl⟩: ∃k',k=k'+1:=⟨k-1,by omega⟩
 rw[gw.eq]
 by_cases h:a<b
 ·simp only[↓ak,sss,if_true,if_false,h];congr 1;omega
 ·simp only[↓ak,sss,if_true,if_false,h];congr 1;omega
theorem cn.inner{k k1:Nat}{n p:Int}{r:List (List Int)}(hr: ∀x∈r,x.length≤1000)(hp:1≤p∧p≤1000)(hlen:r.length≤1000): ∀(m j i:Nat) (acc:List (List Int)),i+m=r.length→m<j→acc.length+m≤100000→
  cn.L1 k k1 j n p i acc r=cn.L0 k k1 n (p-1) (acc++(r.drop i).map (p:: ·))
 |m,0,i,acc,_,hj,_=>by omega
 |0,j+1,i,acc,hi,_,_=>by
  rw[cn.eA]
  have e:i=r.length:=by omega
  subst e
  have ew:IntKind.i64.wrap (p-1)=p-1:=Pu.w64 (by omega) (by omega)
  simp[ew]
 |m+1,j+1,i,acc,hi,hj,ha=>by
  rw[cn.eA]
  have hlt:i<r.length:=by omega
  have hx:(r.getD i []).length≤1000:=by rw[Pu.al hlt []];exact hr _ (List.getElem_mem hlt)
  have ih:=cn.inner (k:=k) (k1:=k1) (n:=n) hr hp hlen m j (i+1) (acc++ [p::r.getD i []]) (by omega) (by omega) (by rw[List.length_append];simp;omega)
  rw[Int.natCast_succ]at ih
  rw[Pu.drop_cons hlt []]
  have l1:(p::r.getD i []).length≤1099511627776:=by rw[List.length_cons];omega
  have l2:(acc++ [p::r.getD i []]).length≤1099511627776:=by rw[List.length_append];simp;omega
  simp (disch:=omega) only[↓ak,sss,if_true,if_false,hlt,l1,l2,List.cons_append,List.nil_append,ih,List.map_cons,List.append_assoc]
theorem cn.isP(n:Nat): ∀(k:Nat) (m:Int),n≤9→4194304+n+2≤k→1≤m→m≤1000→
  ∃L,cn k n m=some L∧1≤L.length∧L.length≤Pu.yJ n∧ ∀x∈L,Pu.EF n m x:=by
 induction n using Nat.strongRecOn with
 |ind n IH=>
 intro k m hn hk hm hm'
 obtain⟨k,rfl⟩: ∃k',k=k'+1:=⟨k-1,by omega⟩
 rw[cn.eq]
 by_cases h0:n=0
 ·subst h0
  refine⟨[[]],by simp,by simp,by simp[Pu.yJ],fun x hx=> ?_⟩
  simp only[List.mem_singleton]at hx
  subst hx
  exact⟨⟨by simp,fun y hy=>by cases hy⟩,fun s _ _=>rfl,rfl⟩
 ·have hne: ¬(n:Int)=0:=by omega
  simp only[↓ak,sss,if_true,if_false,hne]
  rw[gw.is (by omega),aX]
  have loop: ∀(p j:Nat) (acc:List (List Int)),p≤n→(p:Int)≤m→p<j→acc.length+Pu.Bz n p≤512→(∀x∈acc,Pu.EF n m x)→
    ∃L,cn.L0 k j n p acc=some L∧acc.length+min p 1≤L.length∧L.length≤acc.length+Pu.Bz n p∧ ∀x∈L,Pu.EF n m x:=by
   intro p
   induction p with
   |zero=>
    intro j acc _ _ hj ha hg
    obtain⟨j,rfl⟩: ∃j',j=j'+1:=⟨j-1,by omega⟩
    rw[cn.bq]
    exact⟨acc,by simp,by simp,by simp,hg⟩
   |succ p ihp=>
    intro j acc hp hpm hj ha hg
    obtain⟨j,rfl⟩: ∃j',j=j'+1:=⟨j-1,by omega⟩
    rw[cn.bq]
    have ew:IntKind.i64.wrap ((n:Int)-((p+1:Nat):Int))=((n-(p+1):Nat):Int):=by
     rw[Pu.w64 (by omega) (by omega)];omega
    obtain⟨R,hR,r1,r2,r3⟩:=IH (n-(p+1)) (by omega) k ((p+1:Nat):Int) (by omega) (by omega) (by omega) (by omega)
    have h1:(1:Int)≤((p+1:Nat):Int):=by omega
    have ha':acc.length+(Pu.yJ (n-(p+1))+Pu.Bz n p)≤512:=ha
    have hin:=cn.inner (k:=k) (k1:=j) (n:=n) (p:=((p+1:Nat):Int)) (r:=R) (fun x hx=>by have:=(r3 x hx).1.1;omega) ⟨h1,by omega⟩ (by omega) R.length k 0 acc (by omega) (by omega) (by omega)
    rw[Int.natCast_zero,List.drop_zero,show((p+1:Nat):Int)-1=(p:Int) by omega]at hin
    simp only[↓ak,sss,if_true,if_false,h1,ew,hR]
    rw[hin]
    obtain⟨L,hL,l1,l2,l3⟩:=ihp j (acc++R.map (((p+1:Nat):Int):: ·)) (by omega) (by omega) (by omega) (by rw[List.length_append,List.length_map];omega) (fun x hx=>by
     rcases List.mem_append.1 hx with h|h
     ·exact hg x h
     ·obtain⟨y,hy,rfl⟩:=List.mem_map.1 h
      obtain⟨⟨q1,q2⟩,q3,q4⟩:=r3 y hy
      refine⟨⟨by rw[List.length_cons];omega,fun z hz=> ?_⟩,fun s hs hs9=> ?_,?_⟩
      ·rcases List.mem_cons.1 hz with rfl|hz
       ·omega
       ·exact q2 z hz
      ·simp only[Pu.gB,Bool.and_eq_true,decide_eq_true_eq]
       exact⟨by omega,hpm,by omega,q3 _ (by omega) (by omega)⟩
      ·simp only[Pu.dg,q4];omega)
    rw[List.length_append,List.length_map]at l1 l2
    refine⟨L,hL,by omega,?_,l3⟩
    show L.length≤acc.length+(Pu.yJ (n-(p+1))+Pu.Bz n p)
    omega
  have hS:=fun p hp=>Pu.Fe (n:=n) (p:=p) hn (by omega) hp
  have hB:=Pu.Cm hn
  obtain⟨p,hp⟩: ∃p:Nat,min (n:Int) m=p:=⟨(min (n:Int) m).toNat,by omega⟩
  rw[hp]
  obtain⟨L,hL,l1,l2,l3⟩:=loop p k [] (by omega) (by omega) (by omega) (by have:=hS p (by omega);simp;omega) (fun x hx=>by cases hx)
  have:=hS p (by omega)
  simp only[List.length_nil,Nat.zero_add]at l1 l2
  exact⟨L,hL,by omega,by omega,l3⟩
theorem cm.isP{k:Nat}{m i h:Int}{b:List Int}(hk:4194304+12≤k)(hb:b.length≤1048576)(hi:0≤i)(hi':i≤b.length)(hm:1≤m)(hm':m≤9):
  ∃p i' h',cm k m i h b=some (p,((),(i',h')))∧(Pu.oh 9 p∧Pu.bm p=true∧Pu.dg p≤m)∧0≤i'∧i'≤b.length:=by
 obtain⟨k,rfl⟩: ∃k',k=k'+1:=⟨k-1,by omega⟩
 rw[cm.eq]
 have ew:IntKind.i64.wrap (m+1)=m+1:=Pu.w64 (by omega) (by omega)
 obtain⟨r,i1,h1,e1,a1,a2,a3,a4,a5⟩:=aM.is (k:=k) (n:=m+1) (h:=h) (b:=b) (by omega) hb hi hi' (by omega)
 have a3:=a3 (by omega)
 obtain⟨n,rfl⟩: ∃n:Nat,r=n:=⟨r.toNat,by omega⟩
 obtain⟨L,eL,c1,c2,c3⟩:=cn.isP n k m (by omega) (by omega) hm (by omega)
 have:=Pu.Cm (n:=n) (by omega)
 obtain⟨q,i2,h2,e2,b1,b2,b3,b4,b5⟩:=aM.is (k:=k) (n:=L.length) (h:=h1) (b:=b) (by omega) hb a4 a5 (by omega)
 have b3:=b3 (by omega)
 have hn:q.toNat<L.length:=by omega
 refine⟨L.getD q.toNat [],i2,h2,?_,?_,b4,b5⟩
 ·simp only[↓ak,sss,if_true,if_false,ew,e1,eL,e2,b1,hn]
 ·rw[Pu.al hn []]
  obtain⟨⟨d1,d2⟩,d3,d4⟩:=c3 _ (List.getElem_mem hn)
  exact⟨⟨by omega,d2⟩,Pu.zY _ hm' (d3 0 (by omega) (by omega)),by omega⟩
theorem cm.is{k:Nat}{m i h:Int}{b:List Int}(hk:4194304+12≤k)(hb:b.length≤1048576)(hi:0≤i)(hi':i≤b.length)(hm:1≤m)(hm':m≤9):
  ∃p i' h',cm k m i h b=some (p,((),(i',h')))∧Pu.oh 9 p∧0≤i'∧i'≤b.length:=by
 obtain⟨p,i',h',a,c,d⟩:=cm.isP (k:=k) (h:=h) hk hb hi hi' hm hm'
 exact⟨p,i',h',a,c.1,d⟩
theorem aN.loop{k:Nat}{b o a c:List Int}(hk:4194304+12≤k)(hb:b.length≤1048576)(ho:Pu.oh 9 o): ∀(m j i:Nat) (low p h:Int) (q:List Int),i+m=o.length→m<j→0≤p→p≤b.length→1≤low→low≤9→q.length≤i→(∀x∈q,1≤x∧x≤9)→
  Pu.Ok (aN.L0 k j low i p h b a c o q) fun r=>r.1.1=o∧Pu.oh 9 r.1.2∧0≤r.2.2.1∧r.2.2.1≤b.length
 |m,0,i,low,p,h,q,_,hj,_,_,_,_,_,_=>by omega
 |0,j+1,i,low,p,h,q,hi,_,h0,h1,h2,h3,hq,hg=>by
  rw[aN.bq]
  simp only[gV,gH,dV,eQ,eP,dq,dn,dR,gF,eG,eN,cR,cS,eO,cJ,ez,dW,eX,gJ,gW,eI,eM,dz,dx,di,cH,List.nil_append,List.cons_append]
  have h9:=ho.1
  exact Pu.Ok.no (by omega) (Pu.Ok.ret ⟨rfl,⟨by dsimp only;omega,hg⟩,h0,h1⟩)
 |m+1,j+1,i,low,p,h,q,hi,hj,h0,h1,h2,h3,hq,hg=>by
  rw[aN.bq]
  simp only[gV,gH,dV,eQ,eP,dq,dn,dR,gF,eG,eN,cR,cS,eO,cJ,ez,dW,eX,gJ,gW,eI,eM,dz,dx,di,cH,List.nil_append,List.cons_append]
  have hlt:i<o.length:=by omega
  have hx:=ho.2 _ (List.getElem_mem hlt)
  rw[←Pu.al hlt 0]at hx
  have h9:=ho.1
  (repeat (refine Pu.Ok.g (by first|omega|assumption|(simp only[List.length_append,List.length_cons,List.length_nil,List.length_set,List.length_take,List.length_drop,List.length_replicate]at*;omega)) ?_))
  (try simp only[Int.toNat_natCast]);(try simp (disch:=omega) only[Pu.w64])
  obtain⟨r,i1,h1',e1,a1,a2,a3,a4,a5⟩:=aM.is (k:=k) (n:=o.getD i 0+1) (h:=h) (b:=b) (by omega) hb h0 h1 (by omega)
  refine Pu.Ok.iu e1 (Pu.Ok.iu (gw.is (by omega)) ?_)
  dsimp only
  refine Pu.Ok.t (fun hz=>Pu.Ok.ret ⟨rfl,⟨by dsimp only;omega,hg⟩,a4,a5⟩) (fun hz=> ?_)
  obtain⟨r2,i2,h2',e2,b4,b5⟩:=bU.is (k:=k) (n:=3) (h:=h1') (b:=b) (by omega) hb a4 a5 (by omega)
  refine Pu.Ok.iu e2 (Pu.Ok.tb (fun _=>Pu.Ok.ret ⟨rfl,⟨by dsimp only;omega,hg⟩,b4,b5⟩) (fun _=> ?_))
  dsimp only
  rw[aN.ep]
  simp only[gV,gH,dV,eQ,eP,dq,dn,dR,gF,eG,eN,cR,cS,eO,cJ,ez,dW,eX,gJ,gW,eI,eM,dz,dx,di,cH,List.nil_append,List.cons_append]
  (repeat (refine Pu.Ok.g (by first|omega|assumption|(simp only[List.length_append,List.length_cons,List.length_nil,List.length_set,List.length_take,List.length_drop,List.length_replicate]at*;omega)) ?_))
  (try simp only[Int.toNat_natCast]);(try simp (disch:=omega) only[Pu.w64])
  exact aN.loop hk hb ho m j (i+1) (min low r) i2 h2' _ (by omega) (by omega) b4 b5 (by omega) (by omega) (by rw[List.length_append];simp;omega) (fun x hx=>by
   rcases List.mem_append.1 hx with h|h
   ·exact hg x h
   ·simp only[List.mem_singleton]at h;omega)
theorem aN.ok{k:Nat}{m i h:Int}{b:List Int}(hk:4194304+13≤k)(hb:b.length≤1048576)(hi:0≤i)(hi':i≤b.length)(hm:1≤m)(hm':m≤9):
  Pu.Ok (aN k m i h b) fun r=>Pu.oh 9 r.1.1∧Pu.oh 9 r.1.2∧0≤r.2.2.1∧r.2.2.1≤b.length:=by
 obtain⟨k,rfl⟩: ∃k',k=k'+1:=⟨k-1,by omega⟩
 rw[aN.eq]
 obtain⟨p,i1,h1,e1,hp,a4,a5⟩:=cm.is (k:=k) (m:=m) (h:=h) (b:=b) (by omega) hb hi hi' hm hm'
 refine Pu.Ok.iu e1 ?_
 have:=hp.1
 refine Pu.Ok.mono (aN.loop (by omega) hb hp p.length k 0 m i1 h1 [] (by omega) (by omega) a4 a5 hm hm' (by simp) (fun x hx=>by cases hx)) ?_
 rintro⟨⟨o,q⟩,_,i',h'⟩ ⟨e,c2,c3,c4⟩
 simp only at e
 subst e
 exact⟨hp,c2,c3,c4⟩
theorem aN.HR{k:Nat}{b o a c:List Int}(hk:4194304+12≤k)(hb:b.length≤1048576)(ho:Pu.bm o=true): ∀(m j i:Nat) (low p h:Int) (q:List Int),i+m=o.length→m<j→0≤p→p≤b.length→1≤low→low≤9→q.length=i→
  (∀t,t<i→1≤q.getD t 0∧q.getD t 0≤o.getD t 0∧low≤q.getD t 0)→(∀t,t+1<i→q.getD (t+1) 0≤q.getD t 0)→
  Pu.Ok (aN.L0 k j low i p h b a c o q) fun r=>r.1.1=o∧Pu.ct r.1.2 o=true∧0≤r.2.2.1∧r.2.2.1≤b.length:=by
 have fin: ∀{i:Nat} {low:Int} {q:List Int},i≤o.length→q.length=i→(∀t,t<i→1≤q.getD t 0∧q.getD t 0≤o.getD t 0∧low≤q.getD t 0)→(∀t,t+1<i→q.getD (t+1) 0≤q.getD t 0)→Pu.ct q o=true:=by
  intro i low q hi hq hg hd
  have hle: ∀t,q.getD t 0≤o.getD t 0:=fun t=>by
   rcases Nat.lt_or_ge t i with h|h
   ·exact(hg t h).2.1
   ·rw[Pu.aQ (by omega)];exact(Pu.kQ ho t).1
  refine Pu.mB ?_ ho hle
  refine Pu.kV q 9 0 (fun x hx=> ?_) (fun h=> ?_) (fun t ht=>hd t (by omega)) ?_
  ·obtain⟨t,ht,rfl⟩:=List.getElem_of_mem hx
   have:=(hg t (by omega)).1
   rwa [Pu.al ht 0]at this
  ·have:=(Pu.kQ ho 0).2
   have:=hle 0
   omega
  ·have:=(Pu.rA hle).1
   have:=(Pu.aY ho).2.1
   omega
 intro m
 induction m with
 |zero=>
  intro j i low p h q hi hj h0 h1 h2 h3 hq hg hd
  obtain⟨j,rfl⟩: ∃j',j=j'+1:=⟨j-1,by omega⟩
  rw[aN.bq]
  simp only[gV,gH,dV,eQ,eP,dq,dn,dR,gF,eG,eN,cR,cS,eO,cJ,ez,dW,eX,gJ,gW,eI,eM,dz,dx,di,cH,List.nil_append,List.cons_append]
  exact Pu.Ok.no (by omega) (Pu.Ok.ret ⟨rfl,fin (by omega) hq hg hd,h0,h1⟩)
 |succ m ih=>
  intro j i low p h q hi hj h0 h1 h2 h3 hq hg hd
  obtain⟨j,rfl⟩: ∃j',j=j'+1:=⟨j-1,by omega⟩
  have hlt:i<o.length:=by omega
  have hx:=(Pu.aY ho).1 _ (List.getElem_mem hlt)
  have h9:=(Pu.aY ho).2.2.1
  rw[←Pu.al hlt 0]at hx
  rw[aN.bq]
  simp only[gV,gH,dV,eQ,eP,dq,dn,dR,gF,eG,eN,cR,cS,eO,cJ,ez,dW,eX,gJ,gW,eI,eM,dz,dx,di,cH,List.nil_append,List.cons_append]
  (repeat (refine Pu.Ok.g (by first|omega|assumption|(simp only[List.length_append,List.length_cons,List.length_nil,List.length_set,List.length_take,List.length_drop,List.length_replicate]at*;omega)) ?_))
  (try simp only[Int.toNat_natCast]);(try simp (disch:=omega) only[Pu.w64])
  obtain⟨r,i1,h1',e1,a1,a2,a3,a4,a5⟩:=aM.is (k:=k) (n:=o.getD i 0+1) (h:=h) (b:=b) (by omega) hb h0 h1 (by omega)
  refine Pu.Ok.iu e1 (Pu.Ok.iu (gw.is (by omega)) ?_)
  dsimp only
  refine Pu.Ok.t (fun hz=>Pu.Ok.ret ⟨rfl,fin (by omega) hq hg hd,a4,a5⟩) (fun hz=> ?_)
  obtain⟨r2,i2,h2',e2,b4,b5⟩:=bU.is (k:=k) (n:=3) (h:=h1') (b:=b) (by omega) hb a4 a5 (by omega)
  refine Pu.Ok.iu e2 (Pu.Ok.tb (fun _=>Pu.Ok.ret ⟨rfl,fin (by omega) hq hg hd,b4,b5⟩) (fun _=> ?_))
  dsimp only
  rw[aN.ep]
  simp only[gV,gH,dV,eQ,eP,dq,dn,dR,gF,eG,eN,cR,cS,eO,cJ,ez,dW,eX,gJ,gW,eI,eM,dz,dx,di,cH,List.nil_append,List.cons_append]
  (repeat (refine Pu.Ok.g (by first|omega|assumption|(simp only[List.length_append,List.length_cons,List.length_nil,List.length_set,List.length_take,List.length_drop,List.length_replicate]at*;omega)) ?_))
  (try simp only[Int.toNat_natCast]);(try simp (disch:=omega) only[Pu.w64])
  have a3:=a3 (by omega)
  have hgt: ∀t,t<i→(q++ [min low r]).getD t 0=q.getD t 0:=fun t ht=>by
   simp only[List.getD_eq_getElem?_getD,List.getElem?_append_left (show t<q.length by omega)]
  have hgi:(q++ [min low r]).getD i 0=min low r:=by
   subst hq
   simp only[List.getD_eq_getElem?_getD,List.getElem?_append_right (Nat.le_refl _),Nat.sub_self]
   rfl
  refine ih j (i+1) (min low r) i2 h2' _ (by omega) (by omega) b4 b5 (by omega) (by omega) (by rw[List.length_append,List.length_singleton];omega) (fun t ht=> ?_) (fun t ht=> ?_)
  ·rcases Nat.lt_or_ge t i with h|h
   ·rw[hgt t h];have:=hg t h;omega
   ·have e:t=i:=by omega
    subst e
    rw[hgi];omega
  ·rcases Nat.lt_or_ge (t+1) i with h|h
   ·rw[hgt t (by omega),hgt (t+1) h];exact hd t h
   ·have e:t+1=i:=by omega
    rw[e,hgi,hgt t (by omega)]
    have:=hg t (by omega)
    omega
theorem aN.okI{k:Nat}{m i h:Int}{b:List Int}(hk:4194304+13≤k)(hb:b.length≤1048576)(hi:0≤i)(hi':i≤b.length)(hm:1≤m)(hm':m≤9):
  Pu.Ok (aN k m i h b) fun r=>Pu.ct r.1.2 r.1.1=true∧0≤r.2.2.1∧r.2.2.1≤b.length:=by
 obtain⟨k,rfl⟩: ∃k',k=k'+1:=⟨k-1,by omega⟩
 rw[aN.eq]
 obtain⟨p,i1,h1,e1,⟨_,hp,_⟩,a4,a5⟩:=cm.isP (k:=k) (m:=m) (h:=h) (b:=b) (by omega) hb hi hi' hm hm'
 have hl9:=(Pu.aY hp).2.2.1
 refine Pu.Ok.iu e1 ?_
 refine Pu.Ok.mono (aN.HR (by omega) hb hp p.length k 0 m i1 h1 [] (by omega) (by omega) a4 a5 hm hm' rfl (fun t ht=>by omega) (fun t ht=>by omega)) ?_
 rintro⟨⟨o,q⟩,_,i',h'⟩ ⟨e,c2,c3,c4⟩
 simp only at e
 subst e
 exact⟨c2,c3,c4⟩
theorem cz.is{k:Nat}{p:List Int}{i:Int}(hk:1≤k):cz k p i=some (Pu.atI p i):=by
 obtain⟨k,rfl⟩: ∃k',k=k'+1:=⟨k-1,by omega⟩
 rw[cz.eq,cz.fm]
 by_cases h1:i<0
 ·simp only[↓ak,sss,if_true,if_false,h1,Pu.mG h1]
 ·by_cases h2:(p.length:Int)≤i
  ·simp only[↓ak,sss,if_true,if_false,h1,h2,Pu.B7 h2]
  ·have h3:0≤i:=by omega
   have h4:i.toNat<p.length:=by omega
   simp only[↓ak,sss,if_true,if_false,h1,h2,h3,h4,Pu.atI]
theorem bI.is{k:Nat}{t:Pu.Tab}{r c:Int}(hk:2≤k)(hi:Pu.bm t.1=true)(h1: -1000000000≤c)(h2:c≤1000000000):bI k t r c=some (Pu.entry t r c):=by
 obtain⟨k,rfl⟩: ∃k',k=k'+1:=⟨k-1,by omega⟩
 have hb:=Pu.cQ hi r
 rw[bI.eq,bI.fm,cz.is (by omega)]
 unfold Pu.entry
 by_cases c1:r<0
 ·simp only[↓ak,sss,if_true,if_false,c1]
 ·by_cases c2:(t.2.length:Int)≤r
  ·simp only[↓ak,sss,if_true,if_false,c1,c2]
  ·have c3:0≤r:=by omega
   have c4:r.toNat<t.2.length:=by omega
   simp (disch:=omega) only[↓ak,sss,if_true,if_false,c1,c2,c3,c4]
   by_cases d1:c-Pu.atI t.1 r<0
   ·simp only[↓ak,sss,if_true,if_false,d1,Pu.mG d1]
   ·by_cases d2:((t.2.getD r.toNat []).length:Int)≤c-Pu.atI t.1 r
    ·simp only[↓ak,sss,if_true,if_false,d1,d2,Pu.B7 d2]
    ·have d3:0≤c-Pu.atI t.1 r:=by omega
     have d4:(c-Pu.atI t.1 r).toNat<(t.2.getD r.toNat []).length:=by omega
     rw[bI.ep]
     generalize c-Pu.atI t.1 r=z at*
     simp only[↓ak,sss,if_true,if_false,c3,c4,d1,d2,d3,d4,Pu.atI]
theorem kj.is{k:Nat}{a b:Int}(hk:1≤k):kj k a b=some (max a b):=by
 obtain⟨k,rfl⟩: ∃k',k=k'+1:=⟨k-1,by omega⟩
 rw[kj.eq]
 by_cases h:b<a
 ·simp only[↓ak,sss,if_true,if_false,h];congr 1;omega
 ·simp only[↓ak,sss,if_true,if_false,h];congr 1;omega
theorem kg.is{k:Nat}{b:Bool}(hk:1≤k):kg k b=some (if b=true then 1 else 0):=by
 obtain⟨k,rfl⟩: ∃k',k=k'+1:=⟨k-1,by omega⟩
 rw[kg.eq]
 cases b<;>rfl
theorem bI.ok{k:Nat}{t:Pu.Tab}{r c:Int}(hk:2≤k):Pu.Ok (bI k t r c) fun _=>True:=by
 obtain⟨k,rfl⟩: ∃k',k=k'+1:=⟨k-1,by omega⟩
 rw[bI.eq,bI.fm]
 simp only[gV,gH,dV,eQ,eP,dq,dn,dR,gF,eG,eN,cR,cS,eO,cJ,ez,dW,eX,gJ,gW,eI,eM,dz,dx,di,cH,List.nil_append,List.cons_append]
 refine Pu.Ok.t (fun _=>Pu.Ok.ret trivial) (fun c1=>Pu.Ok.t (fun _=>Pu.Ok.ret trivial) (fun c2=> ?_))
 refine Pu.Ok.iu (cz.is (by omega)) ?_
 generalize IntKind.i64.wrap (c-Pu.atI t.1 r)=z
 refine Pu.Ok.t (fun _=>Pu.Ok.ret trivial) (fun d1=> ?_)
 (repeat (refine Pu.Ok.g (by first|omega|assumption|(simp only[List.length_append,List.length_cons,List.length_nil,List.length_set,List.length_take,List.length_drop,List.length_replicate]at*;omega)) ?_))
 refine Pu.Ok.t (fun _=>Pu.Ok.ret trivial) (fun d2=> ?_)
 rw[bI.ep]
 simp only[gV,gH,dV,eQ,eP,dq,dn,dR,gF,eG,eN,cR,cS,eO,cJ,ez,dW,eX,gJ,gW,eI,eM,dz,dx,di,cH,List.nil_append,List.cons_append]
 (repeat (refine Pu.Ok.g (by first|omega|assumption|(simp only[List.length_append,List.length_cons,List.length_nil,List.length_set,List.length_take,List.length_drop,List.length_replicate]at*;omega)) ?_))
 exact Pu.Ok.ret trivial
theorem aS.inner{k k1:Nat}{b o g p1:List Int}{i:Nat}{c:List Int}{d:List (List Int)}{rs:List (List Int)}(hk:4194304≤k)(hb:b.length≤1048576)(ho:Pu.oh 9 o)(hi:i<o.length)(hrs:rs.length≤9)
  (key: ∀(p h:Int) (row:List Int),0≤p→p≤b.length→row.length≤9→Pu.Ok (aS.L0 k k1 ((i:Int)+1) p h o p1 b c d g (rs++ [row])) fun r=>r.1.1=g∧Pu.cj 9 9 r.1.2∧0≤r.2.2.1∧r.2.2.1≤b.length):
  ∀(m j:Nat) (x low p h:Int) (row:List Int),(9-x).toNat≤m→m<j→0≤p→p≤b.length→0≤x→(row.length:Int)≤x→row.length≤9→
  Pu.Ok (aS.L1 k k1 j i low x p h row o p1 b c d g rs) fun r=>r.1.1=g∧Pu.cj 9 9 r.1.2∧0≤r.2.2.1∧r.2.2.1≤b.length
 |m,0,x,low,p,h,row,_,hj,_,_,_,_,_=>by omega
 |m,j+1,x,low,p,h,row,hi,hj,h0,h1,h2,h3,h4=>by
  rw[aS.eA]
  simp only[gV,gH,dV,eQ,eP,dq,dn,dR,gF,eG,eN,cR,cS,eO,cJ,ez,dW,eX,gJ,gW,eI,eM,dz,dx,di,cH,List.nil_append,List.cons_append]
  (repeat (refine Pu.Ok.g (by first|omega|assumption|(simp only[List.length_append,List.length_cons,List.length_nil,List.length_set,List.length_take,List.length_drop,List.length_replicate]at*;omega)) ?_))
  have hlt:i<o.length:=by omega
  have hx:=ho.2 _ (List.getElem_mem hlt)
  rw[←Pu.al hlt 0]at hx
  have h9:=ho.1
  (try simp only[Int.toNat_natCast]);(try simp (disch:=omega) only[Pu.w64])
  refine Pu.Ok.t (fun hz=> ?_) (fun hz=> ?_)
  ·refine Pu.Ok.bnd (bI.ok (by omega)) fun r1 _=> ?_
   refine Pu.Ok.iu (kj.is (by omega)) ?_
   obtain⟨r2,i2,h2',e2,b4,b5⟩:=bU.is (k:=k) (n:=3) (h:=h) (b:=b) (by omega) hb h0 h1 (by omega)
   refine Pu.Ok.iu e2 (Pu.Ok.iu (kg.is (by omega)) ?_)
   obtain⟨r3,i3,h3',e3,a1,a2,a3,a4,a5⟩:=aM.is (k:=k) (n:=2) (h:=h2') (b:=b) (by omega) hb b4 b5 (by omega)
   refine Pu.Ok.iu e3 (Pu.Ok.iu (gw.is (by omega)) ?_)
   dsimp only
   (repeat (refine Pu.Ok.g (by first|omega|assumption|(simp only[List.length_append,List.length_cons,List.length_nil,List.length_set,List.length_take,List.length_drop,List.length_replicate]at*;omega)) ?_))
   (try simp only[Int.toNat_natCast]);(try simp (disch:=omega) only[Pu.w64])
   exact aS.inner hk hb ho hlt hrs key (m-1) j _ _ i3 h3' _ (by omega) (by omega) a4 a5 (by omega) (by rw[List.length_append];simp;omega) (by rw[List.length_append];simp;omega)
  ·(repeat (refine Pu.Ok.g (by first|omega|assumption|(simp only[List.length_append,List.length_cons,List.length_nil,List.length_set,List.length_take,List.length_drop,List.length_replicate]at*;omega)) ?_))
   exact key p h row h0 h1 h4
theorem aS.loop{k:Nat}{b o g p1:List Int}{c:List Int}{d:List (List Int)}(hk:4194304≤k)(hb:b.length≤1048576)(ho:Pu.oh 9 o)(hp: ∀x∈p1,1≤x∧x≤9): ∀(m j i:Nat) (p h:Int) (rs:List (List Int)),i+m=o.length→m<j→0≤p→p≤b.length→Pu.cj i 9 rs→
  Pu.Ok (aS.L0 k j i p h o p1 b c d g rs) fun r=>r.1.1=g∧Pu.cj 9 9 r.1.2∧0≤r.2.2.1∧r.2.2.1≤b.length
 |m,0,i,p,h,rs,_,hj,_,_,_=>by omega
 |0,j+1,i,p,h,rs,hi,hj,h0,h1,hr=>by
  rw[aS.bq]
  simp only[gV,gH,dV,eQ,eP,dq,dn,dR,gF,eG,eN,cR,cS,eO,cJ,ez,dW,eX,gJ,gW,eI,eM,dz,dx,di,cH,List.nil_append,List.cons_append]
  have:=ho.1
  exact Pu.Ok.no (by omega) (Pu.Ok.ret ⟨rfl,hr.mono (by omega) (by omega),h0,h1⟩)
 |m+1,j+1,i,p,h,rs,hi,hj,h0,h1,hr=>by
  rw[aS.bq]
  simp only[gV,gH,dV,eQ,eP,dq,dn,dR,gF,eG,eN,cR,cS,eO,cJ,ez,dW,eX,gJ,gW,eI,eM,dz,dx,di,cH,List.nil_append,List.cons_append]
  (repeat (refine Pu.Ok.g (by first|omega|assumption|(simp only[List.length_append,List.length_cons,List.length_nil,List.length_set,List.length_take,List.length_drop,List.length_replicate]at*;omega)) ?_))
  refine Pu.Ok.iu (cz.is (by omega)) ?_
  have h9:=ho.1
  have hz:0≤Pu.atI p1 i:=by
   rw[Pu.ca]
   by_cases hl:i<p1.length
   ·rw[Pu.al hl];have:=hp _ (List.getElem_mem hl);omega
   ·rw[Pu.aQ (by omega)];omega
  refine aS.inner hk hb ho (by omega) (by have:=hr.1;omega) ?_ 9 k _ _ p h [] (by omega) (by omega) h0 h1 hz (by simpa using hz) (by simp)
  intro p' h' row q0 q1 q2
  exact aS.loop hk hb ho hp m j (i+1) p' h' _ (by omega) (by omega) q0 q1 (hr.app q2)
theorem aS.ok{k:Nat}{i h:Int}{b o p:List Int}(hk:4194304+2≤k)(hb:b.length≤1048576)(hi:0≤i)(hi':i≤b.length)(ho:Pu.oh 9 o)(hp:Pu.oh 9 p):
  Pu.Ok (aS k i h o p b) fun r=>r.1.1=p∧Pu.cj 9 9 r.1.2∧0≤r.2.2.1∧r.2.2.1≤b.length:=by
 obtain⟨k,rfl⟩: ∃k',k=k'+1:=⟨k-1,by omega⟩
 rw[aS.eq]
 simp only[gV,gH,dV,eQ,eP,dq,dn,dR,gF,eG,eN,cR,cS,eO,cJ,ez,dW,eX,gJ,gW,eI,eM,dz,dx,di,cH,List.nil_append,List.cons_append]
 have:=hp.1
 (repeat (refine Pu.Ok.g (by first|omega|assumption|(simp only[List.length_append,List.length_cons,List.length_nil,List.length_set,List.length_take,List.length_drop,List.length_replicate]at*;omega)) ?_))
 exact aS.loop (by omega) hb ho hp.2 o.length k 0 i h [] (by omega) (by have:=ho.1;omega) hi hi' ⟨by simp,fun x hx=>by cases hx⟩
theorem jL.is{k:Nat}{x lo hi:Int}(hk:1≤k):jL k x lo hi=some (Pu.within x lo hi):=by
 obtain⟨k,rfl⟩: ∃k',k=k'+1:=⟨k-1,by omega⟩
 rw[jL.eq]
 by_cases h:lo≤x<;>simp[Pu.within,h]
theorem aO.loop{k:Nat}{p:List Int}(hk:4194304≤k)(hp:p.length≤1048576): ∀(m j i:Nat) (s v:Int),i+m=p.length→m<j→(i=0→v=9)→(0<i→v=p.getD (i-1) 0)→v≤9→0≤s→s≤9→
  aO.L0 k j s i p=some (Pu.gB (p.drop i) v s)
 |m,0,i,s,v,_,hj,_,_,_,_,_=>by omega
 |0,j+1,i,s,v,hi,_,_,_,_,_,_=>by
  rw[aO.bq]
  have e:i=p.length:=by omega
  subst e
  simp[Pu.gB]
 |m+1,j+1,i,s,v,hi,hj,h0,h1,hv,hs,hs9=>by
  rw[aO.bq]
  have hlt:i<p.length:=by omega
  have hj1: ∀x:Int,x=p.getD i 0→1≤x→x≤v→aO.J1 k j s i p=some (decide (s+x≤9)&&Pu.gB (p.drop (i+1)) x (s+x)):=by
   intro x hx hx1 hx2
   rw[aO.ep]
   simp (disch:=omega) only[↓ak,sss,if_true,if_false,hlt,←hx]
   by_cases c:9<s+x
   ·have: ¬s+x≤9:=by omega
    simp[c,this]
   ·have c':s+x≤9:=by omega
    have ih:=aO.loop hk hp m j (i+1) (s+x) x (by omega) (by omega) (by omega) (by simp[hx]) (by omega) (by omega) c'
    rw[Int.natCast_succ]at ih
    simp[c,c',ih]
  rw[Pu.drop_cons hlt 0]
  simp (disch:=omega) only[↓ak,sss,if_true,if_false,hlt,jL.is,Pu.gB]
  generalize hx:p.getD i 0=x at*
  unfold Pu.within
  by_cases c1:1≤x
  ·by_cases c2:x≤v
   ·have c3:x≤9:=by omega
    have hj:=hj1 x rfl c1 c2
    by_cases hi0:i=0
    ·have hpos: ¬(0:Int)<i:=by omega
     simp (disch:=omega) only[↓ak,sss,if_true,if_false,c1,c2,c3,hpos,hj]
    ·have hv':=h1 (by omega)
     have e:((i:Int)-1)=((i-1:Nat):Int):=by omega
     have hlt':i-1<p.length:=by omega
     have hge: ¬p.getD (i-1) 0<x:=by rw[←hv'];omega
     have hpos:(0:Int)<i:=by omega
     simp (disch:=omega) only[e,↓ak,sss,if_true,if_false,hlt',c1,c2,c3,hj,hpos,hge]
   ·simp only[c1,c2,↓ak,sss,if_true,if_false]
    by_cases c3:x≤9
    ·have hi0:0<i:=by
      rcases Nat.eq_zero_or_pos i with h|h
      ·have:=h0 h;omega
      ·exact h
     have hv':=h1 hi0
     have e:((i:Int)-1)=((i-1:Nat):Int):=by omega
     have hlt':i-1<p.length:=by omega
     have hge:p.getD (i-1) 0<x:=by rw[←hv'];omega
     have hpos:(0:Int)<i:=by omega
     simp (disch:=omega) only[e,↓ak,sss,if_true,if_false,hlt',c3,hpos,hge]
    ·simp only[c3,↓ak,sss,if_true,if_false]
  ·simp only[c1,↓ak,sss,if_true,if_false]
theorem aO.is{k:Nat}{p:List Int}(hk:4194304+1≤k)(hp:p.length≤1048576):aO k p=some (Pu.bm p):=by
 obtain⟨k,rfl⟩: ∃k',k=k'+1:=⟨k-1,by omega⟩
 rw[aO.eq]
 exact aO.loop (k:=k) (by omega) hp p.length k 0 0 9 (by omega) (by omega) (fun _=>rfl) (by omega) (by omega) (by omega) (by omega)
theorem bR.loop{k:Nat}{q p:List Int}(hq:q.length≤1048576)(hl:q.length≤p.length)(hk:q.length<k):bR.L1 k k 0 q p=some ((List.range' 0 q.length).all fun i=>decide (q.getD i 0≤p.getD i 0)):=by
 have h:=Pu.lO (fun j i=>bR.L1 k j (i:Int) q p) q.length (fun i=>decide (q.getD i 0≤p.getD i 0)) (some false) (some true)
  (fun j i hi=>by
   have hi2:i<p.length:=by omega
   rw[bR.eA]
   simp (disch:=omega) only[↓ak,sss,if_true,if_false,hi,hi2,Int.natCast_add,Int.natCast_one]
   by_cases c:q.getD i 0≤p.getD i 0
   ·have c': ¬p.getD i 0<q.getD i 0:=by omega
    simp only[c,c',↓ak,sss,if_true,if_false]
   ·have c':p.getD i 0<q.getD i 0:=by omega
    simp only[c,c',↓ak,sss,if_true,if_false])
  (fun j=>by
   rw[bR.eA]
   simp only[↓ak,sss,if_true,if_false,Nat.lt_irrefl]) q.length k 0 (by omega) hk
 simp only[Int.natCast_zero]at h
 rw[h]
 cases(List.range' 0 q.length).all fun i=>decide (q.getD i 0≤p.getD i 0)<;>simp
theorem bR.is{k:Nat}{q p:List Int}(hk:4194304+2≤k)(hq:q.length≤1048576)(hp:p.length≤1048576):bR k q p=some (Pu.ct q p):=by
 obtain⟨k,rfl⟩: ∃k',k=k'+1:=⟨k-1,by omega⟩
 rw[bR.eq,aO.is (by omega) hq,aX,bR.fm]
 unfold Pu.ct
 cases c1:Pu.bm q with
 |false=>simp only[↓ak,sss,if_true,if_false]
 |true=>
  simp only[↓ak,sss,if_true,if_false]
  rw[aO.is (by omega) hp,aX]
  cases c2:Pu.bm p with
  |false=>simp only[↓ak,sss,if_true,if_false]
  |true=>
   simp only[↓ak,sss,if_true,if_false]
   by_cases c3:p.length<q.length
   ·have c3': ¬q.length≤p.length:=by omega
    simp only[c3,c3',↓ak,sss,if_true,if_false]
   ·have c3':q.length≤p.length:=by omega
    simp only[c3,c3',↓ak,sss,if_true,if_false]
    exact bR.loop hq c3' (by omega)
theorem gA.is{k:Nat}{s:List Int×List Int}(hk:4194304+3≤k)(hq:s.1.length≤1048576)(hp:s.2.length≤1048576):gA k s=some (Pu.ct s.2 s.1):=by
 obtain⟨k,rfl⟩: ∃k',k=k'+1:=⟨k-1,by omega⟩
 rw[gA.eq,bR.is (by omega) hp hq]
 rfl
theorem bZ.loop{k:Nat}{t:Pu.Tab}{x3 x4:List Int}(hk:4194304+3≤k)(hi:Pu.bm t.1=true)(h2:t.2.length≤9)(hr: ∀x∈t.2,x.length≤1048576): ∀(m j i:Nat) (acc:List Int),i+m=t.2.length→m<j→acc.length=i→
  bZ.L1 k j i t.1 t.2 x3 x4 acc t.1=some (if Pu.ct t.1 (acc++Pu.fZ t.1 i (t.2.drop i))=true then((acc++Pu.fZ t.1 i (t.2.drop i),t.1),true)else(([],[]),false))
 |m,0,i,acc,_,hj,_=>by omega
 |0,j+1,i,acc,hm,_,hacc=>by
  rw[bZ.eA]
  have e:i=t.2.length:=by omega
  have h9:=(Pu.aY hi).2.2.1
  have hlt: ¬i<t.2.length:=by omega
  rw[gA.is (by omega) (by simp only;omega) (by simp only;omega),e]
  simp only[↓ak,sss,if_true,if_false,Nat.lt_irrefl,List.drop_length,Pu.fZ,List.append_nil]
  cases Pu.ct t.1 acc<;>simp
 |m+1,j+1,i,acc,hm,hj,hacc=>by
  rw[bZ.eA]
  have hlt:i<t.2.length:=by omega
  have hb:=Pu.cQ hi i
  have hrow:=hr t.2[i] (List.getElem_mem hlt)
  rw[←Pu.al hlt []]at hrow
  rw[cz.is (by omega)]
  have ih:=bZ.loop (x3:=x3) (x4:=x4) hk hi h2 hr m j (i+1) (acc++ [Pu.atI t.1 i+(t.2.getD i []).length]) (by omega) (by omega) (by simp[hacc])
  rw[Int.natCast_succ]at ih
  rw[Pu.drop_cons hlt []]
  have hl:(acc++ [Pu.atI t.1 i+((t.2.getD i []).length:Int)]).length≤1099511627776:=by simp;omega
  simp (disch:=omega) only[↓ak,sss,if_true,if_false,hlt,hl,ih,Pu.fZ]
  simp only[List.append_assoc,List.singleton_append,Pu.ca]
  rfl
theorem bZ.is{k:Nat}{t:Pu.Tab}(hk:4194304+4≤k)(h1:t.1.length≤1048576)(h2:t.2.length≤1048576)(hr: ∀x∈t.2,x.length≤1048576):bZ k t=some (Pu.shapeOf t):=by
 obtain⟨k,rfl⟩: ∃k',k=k'+1:=⟨k-1,by omega⟩
 rw[bZ.eq,aO.is (by omega) h1,bZ.fm]
 have hl:t.1.length≤1099511627776:=by omega
 simp only[↓ak,sss,if_true,if_false,List.nil_append,hl]
 unfold Pu.shapeOf
 cases c1:Pu.bm t.1 with
 |false=>
  have:Pu.dA t=false:=by unfold Pu.dA;rw[c1];rfl
  simp only[this,↓ak,sss,if_true,if_false]
 |true=>
  by_cases c2:t.2.length<t.1.length
  ·have:Pu.dA t=false:=by
    have: ¬t.1.length≤t.2.length:=by omega
    unfold Pu.dA;simp[this]
   simp only[this,c2,↓ak,sss,if_true,if_false]
  ·by_cases c3:9<t.2.length
   ·have:Pu.dA t=false:=by
     cases h:Pu.dA t with
     |false=>rfl
     |true=>have:=Pu.zE h;omega
    have c3':(9:Int)<t.2.length:=by omega
    simp only[this,c2,c3',↓ak,sss,if_true,if_false]
   ·have c3': ¬(9:Int)<t.2.length:=by omega
    have c2':t.1.length≤t.2.length:=by omega
    have hloop:=bZ.loop (k:=k) (t:=t) (x3:= []) (x4:= []) (by omega) c1 (by omega) hr t.2.length k 0 [] (by omega) (by omega) rfl
    rw[Int.natCast_zero]at hloop
    simp only[c2,c3',↓ak,sss,if_true,if_false]
    rw[hloop]
    have:Pu.dA t=Pu.ct t.1 (Pu.outer t):=by unfold Pu.dA;simp[c1,c2']
    rw[this]
    rfl
theorem aC.HZ{k k1 k2:Nat}{t:Pu.Tab}{r:Nat}{c x v:Int}{o n:List Int}(hk:3≤k)(hi:Pu.bm t.1=true)(h1:0≤c)(h2:c≤10000000)(hr:r≤1048576):
  aC.J2 k k1 k2 r c x v t.1 t.2 o n=if(Pu.within x 1 9&&(decide (v≤x)&&decide (Pu.entry t ((r:Int)-1) c<x)))=true then aC.L1 k k1 k2 r (c+1) t.1 t.2 o n else some false:=by
 have he:=bI.is (k:=k) (t:=t) (r:=(r:Int)-1) (c:=c) (by omega) hi (by omega) (by omega)
 rw[aC.mf,jL.is (by omega),aC.lQ]
 simp (disch:=omega) only[↓ak,sss,if_true,if_false,he]
 cases Pu.within x 1 9 with
 |false=>simp
 |true=>
  by_cases c1:v≤x
  ·have c1': ¬x<v:=by omega
   by_cases c2:Pu.entry t ((r:Int)-1) c<x
   ·have c2': ¬x≤Pu.entry t ((r:Int)-1) c:=by omega
    simp[c1,c1',c2,c2']
   ·have c2':x≤Pu.entry t ((r:Int)-1) c:=by omega
    simp[c1,c1',c2,c2']
  ·have c1':x<v:=by omega
   simp[c1,c1']
theorem aC.inner{k k1:Nat}{t:Pu.Tab}{r:Nat}{n:List Int}(hk:4194304≤k)(hi:Pu.bm t.1=true)(ht:t.2.length≤1048576)(hr: ∀x∈t.2,x.length≤1048576)(hlt:r<t.2.length):
  aC.L1 k k1 k r (t.1.getD r 0) t.1 t.2 (Pu.outer t) n=if((List.range' 0 (t.2.getD r []).length).all fun q=>Pu.fQ t r q)=true then aC.L0 k k1 ((r:Int)+1) t.1 t.2 (Pu.outer t) n else some false:=by
 have hx:=hr _ (List.getElem_mem hlt)
 rw[←Pu.al hlt []]at hx
 have hb:=Pu.cQ hi r
 rw[Pu.ca]at hb
 have hol:r<(Pu.outer t).length:=by unfold Pu.outer;rw[Pu.l7];exact hlt
 have ho:(Pu.outer t).getD r 0=t.1.getD r 0+((t.2.getD r []).length:Int):=by
  have:=Pu.fC t.1 t.2 0 r hlt
  rw[Nat.zero_add]at this
  exact this
 have h:=Pu.lO (fun j q=>aC.L1 k k1 j r (t.1.getD r 0+(q:Int)) t.1 t.2 (Pu.outer t) n) (t.2.getD r []).length (fun q=>Pu.fQ t r q) (some false) (aC.L0 k k1 ((r:Int)+1) t.1 t.2 (Pu.outer t) n)
  (fun j q hq=>by
   rw[aC.eA]
   have hc:t.1.getD r 0+(q:Int)<(Pu.outer t).getD r 0:=by rw[ho];omega
   have e1:=bI.is (k:=k) (t:=t) (r:=r) (c:=t.1.getD r 0+q) (by omega) hi (by omega) (by omega)
   have e2:=bI.is (k:=k) (t:=t) (r:=r) (c:=t.1.getD r 0+q-1) (by omega) hi (by omega) (by omega)
   rw[Pu.A9 hlt]at e1
   rw[Pu.BZ hlt]at e2
   have ej:=fun v=>aC.HZ (k:=k) (k1:=k1) (k2:=j) (t:=t) (r:=r) (c:=t.1.getD r 0+q) (x:=(t.2.getD r []).getD q 0) (v:=v) (o:=Pu.outer t) (n:=n) (by omega) hi (by omega) (by omega) (by omega)
   have en:t.1.getD r 0+(q:Int)+1=t.1.getD r 0+((q+1:Nat):Int):=by omega
   rw[en]at ej
   have key: ∀v:Int,v=(if q=0 then 0 else(t.2.getD r []).getD (q-1) 0)→(Pu.within ((t.2.getD r []).getD q 0) 1 9&&(decide (v≤(t.2.getD r []).getD q 0)&&decide (Pu.entry t ((r:Int)-1) (t.1.getD r 0+q)<(t.2.getD r []).getD q 0)))=Pu.fQ t r q:=by
    intro v hv
    unfold Pu.fQ
    cases hw:Pu.within ((t.2.getD r []).getD q 0) 1 9 with
    |false=>rfl
    |true=>
     have hw1:1≤(t.2.getD r []).getD q 0:=by
      simp only[Pu.within,Bool.and_eq_true,decide_eq_true_eq]at hw;exact hw.1
     simp only[Bool.true_and]
     congr 1
     ·by_cases e:q=0
      ·have:v≤(t.2.getD r []).getD q 0:=by rw[hv,if_pos e];omega
       simp[e,this]
       simpa[e]using this
      ·rw[hv,if_neg e];simp[e]
     ·by_cases e:r=0
      ·subst e
       rw[Pu.DG (by omega),decide_eq_true (show(0:Int)<(t.2.getD 0 []).getD q 0 by omega)]
       simp only[decide_true,Bool.true_or]
      ·simp[e]
   by_cases hc0:0<t.1.getD r 0+(q:Int)
   ·simp (disch:=omega) only[↓ak,sss,if_true,if_false,hol,hc,e1,hc0,e2,ej]
    rw[key _ rfl]
   ·simp (disch:=omega) only[↓ak,sss,if_true,if_false,hol,hc,e1,hc0,ej]
    rw[key 0 (by
           have:q=0:=by omega
           rw[if_pos this])])
  (fun j=>by
   rw[aC.eA]
   have hc: ¬t.1.getD r 0+((t.2.getD r []).length:Int)<(Pu.outer t).getD r 0:=by rw[ho];omega
   simp (disch:=omega) only[↓ak,sss,if_true,if_false,hol,hc]) (t.2.getD r []).length k 0 (by omega) (by omega)
 simp only[Int.natCast_zero,Int.add_zero]at h
 exact h
theorem aC.is{k:Nat}{t:Pu.Tab}(hk:4194304+5≤k)(h1:t.1.length≤1048576)(ht:t.2.length≤1048576)(hr: ∀x∈t.2,x.length≤1048576):aC k t=some (Pu.dM t):=by
 obtain⟨k,rfl⟩: ∃k',k=k'+1:=⟨k-1,by omega⟩
 rw[aC.eq,bZ.is (by omega) h1 ht hr,aX]
 unfold Pu.dM Pu.shapeOf
 cases hs:Pu.dA t with
 |false=>simp[hs]
 |true=>
  have hi:Pu.bm t.1=true:=by
   simp only[Pu.dA,Bool.and_eq_true]at hs;exact hs.1
  have hol:(Pu.outer t).length=t.2.length:=by unfold Pu.outer;rw[Pu.l7]
  have h:=Pu.lO (fun j r=>aC.L0 k j r t.1 t.2 (Pu.outer t) t.1) t.2.length (fun r=>(List.range' 0 (t.2.getD r []).length).all fun q=>Pu.fQ t r q) (some false) (some true)
   (fun j r hlt=>by
    rw[aC.bq,cz.is (by omega),Pu.ca]
    simp (disch:=omega) only[↓ak,sss,if_true,if_false,hol,hlt,aC.inner (k1:=j) (n:=t.1) (show 4194304≤k by omega) hi ht hr hlt,Int.natCast_add,Int.natCast_one])
   (fun j=>by
    rw[aC.bq]
    simp (disch:=omega) only[↓ak,sss,if_true,if_false,hol,Nat.lt_irrefl]) t.2.length k 0 (by omega) (by omega)
  simp only[Int.natCast_zero]at h
  simp only[if_true,↓ak,sss,if_true,if_false]
  rw[h]
  cases(List.range' 0 t.2.length).all fun r=>(List.range' 0 (t.2.getD r []).length).all fun q=>Pu.fQ t r q<;>simp
theorem fy.ok{k:Nat}{m i h:Int}{b:List Int}(hk:4194304+15≤k)(hb:b.length≤1048576)(hi:0≤i)(hi':i≤b.length)(hm:1≤m)(hm':m≤9):
  Pu.Ok (fy k m i h b) fun r=>ig 9 9 9 r.1∧0≤r.2.2.1∧r.2.2.1≤b.length:=by
 obtain⟨k,rfl⟩: ∃k',k=k'+1:=⟨k-1,by omega⟩
 rw[fy.eq]
 refine Pu.Ok.bnd (aN.ok (by omega) hb hi hi' hm hm') ?_
 rintro⟨⟨o,p⟩,_,i1,h1⟩ ⟨ho,hp,a4,a5⟩
 dsimp only at*
 refine Pu.Ok.bnd (aS.ok (by omega) hb a4 a5 ho hp) ?_
 rintro⟨⟨q,rs⟩,_,i2,h2⟩ ⟨e2,hr,b4,b5⟩
 simp only at e2
 subst e2
 have ht:ig 9 9 9 ((q,rs):Pu.Tab):=⟨hp.1,hr⟩
 obtain⟨c1,c2,c3⟩:=ht.tab (by omega) (by omega) (by omega)
 dsimp only
 refine Pu.Ok.iu (aC.is (by omega) c1 c2 c3) ?_
 refine Pu.Ok.tn (fun _=>Pu.Ok.ret ⟨⟨by simp,by simp,fun x hx=> ?_⟩,b4,b5⟩) (fun _=>Pu.Ok.ret ⟨ht,b4,b5⟩)
 simp only[List.mem_cons,List.not_mem_nil,or_false]at hx
 rcases hx with rfl|rfl<;>simp
theorem cZ.is{k:Nat}{l:List Int}{i h:Int}{b:List Int}(hk:3≤k)(hb:b.length≤1048576)(hi:0≤i)(hi':i≤b.length)(hl:0<l.length)(hl':l.length≤256):
  ∃r i' h',cZ k i h l b=some (r,((),(i',h')))∧r∈l∧0≤i'∧i'≤b.length:=by
 obtain⟨k,rfl⟩: ∃k',k=k'+1:=⟨k-1,by omega⟩
 rw[cZ.eq]
 obtain⟨r,i',h',e,h1,h2,h3,h4,h5⟩:=aM.is (k:=k) (n:=l.length) (h:=h) (b:=b) (by omega) hb hi hi' (by omega)
 have h3:=h3 (by omega)
 have hn:r.toNat<l.length:=by omega
 refine⟨l.getD r.toNat 0,i',h',?_,?_,h4,h5⟩
 ·simp only[↓ak,sss,if_true,if_false,e,h1,hn]
 ·rw[Pu.al hn 0];exact List.getElem_mem hn
theorem fA.ok{k:Nat}{m i h:Int}{b:List Int}(hk:4194304+16≤k)(hb:b.length≤1048576)(hi:0≤i)(hi':i≤b.length)(hm:1≤m)(hm':m≤9):
  Pu.Ok (fA k m i h b) fun r=>ig 10 9 10 r.1∧0≤r.2.2.1∧r.2.2.1≤b.length:=by
 obtain⟨k,rfl⟩: ∃k',k=k'+1:=⟨k-1,by omega⟩
 rw[fA.eq]
 refine Pu.Ok.bnd (fy.ok (by omega) hb hi hi' hm hm') ?_
 rintro⟨⟨q,rs⟩,_,i1,h1⟩ ⟨⟨hq,hr⟩,a4,a5⟩
 dsimp only at*
 have hr':Pu.cj 9 10 rs:=hr.mono (by omega) (by omega)
 simp only[gV,gH,dV,eQ,eP,dq,dn,dR,gF,eG,eN,cR,cS,eO,cJ,ez,dW,eX,gJ,gW,eI,eM,dz,dx,di,cH,List.nil_append,List.cons_append]
 refine Pu.Ok.t (fun _=>Pu.Ok.ret ⟨⟨by dsimp only;omega,hr'⟩,a4,a5⟩) (fun h0=> ?_)
 have hlen:=hr.1
 obtain⟨r,i2,h2,e2,b1,b2,b3,b4,b5⟩:=aM.is (k:=k) (n:=rs.length) (h:=h1) (b:=b) (by omega) hb a4 a5 (by omega)
 have b3:=b3 (by omega)
 obtain⟨r',i3,h3,e3,c1,c2,c3,c4,c5⟩:=aM.is (k:=k) (n:=16) (h:=h2) (b:=b) (by omega) hb b4 b5 (by omega)
 refine Pu.Ok.iu e2 ?_
 dsimp only
 refine Pu.Ok.iu e3 ?_
 dsimp only
 have hrow:=hr.at r.toNat
 refine Pu.Ok.t (fun _=> ?_) (fun _=>Pu.Ok.t (fun _=> ?_) (fun _=>Pu.Ok.t (fun _=> ?_) (fun _=>Pu.Ok.ret ⟨⟨by dsimp only;omega,hr'⟩,c4,c5⟩)))
 ·(repeat (refine Pu.Ok.g (by first|omega|assumption|(simp only[List.length_append,List.length_cons,List.length_nil,List.length_set,List.length_take,List.length_drop,List.length_replicate]at*;omega)) ?_))
  obtain⟨x,i4,h4,e4,d1,d4,d5⟩:=cZ.is (k:=k) (l:= [0,9,10,-1]) (h:=h3) (b:=b) (by omega) hb c4 c5 (by simp) (by simp)
  refine Pu.Ok.iu e4 ?_
  dsimp only
  (repeat (refine Pu.Ok.g (by first|omega|assumption|(simp only[List.length_append,List.length_cons,List.length_nil,List.length_set,List.length_take,List.length_drop,List.length_replicate]at*;omega)) ?_))
  refine Pu.Ok.g trivial (Pu.Ok.ret ⟨⟨by dsimp only;omega,hr'.set _ ?_⟩,d4,d5⟩)
  rw[List.length_append,List.length_singleton];omega
 ·(repeat (refine Pu.Ok.g (by first|omega|assumption|(simp only[List.length_append,List.length_cons,List.length_nil,List.length_set,List.length_take,List.length_drop,List.length_replicate]at*;omega)) ?_))
  refine Pu.Ok.t (fun hz=> ?_) (fun _=>Pu.Ok.ret ⟨⟨by dsimp only;omega,hr'⟩,c4,c5⟩)
  have hz':(0:Int).toNat<(rs.getD r.toNat []).length:=by
   show 0<_
   omega
  (repeat (refine Pu.Ok.g (by first|omega|assumption|(simp only[List.length_append,List.length_cons,List.length_nil,List.length_set,List.length_take,List.length_drop,List.length_replicate]at*;omega)) ?_))
  refine Pu.Ok.ret ⟨⟨by dsimp only;omega,hr'.set _ ?_⟩,c4,c5⟩
  rw[List.length_set];omega
 ·obtain⟨x,i4,h4,e4,d1,d4,d5⟩:=cZ.is (k:=k) (l:= [1,0,-1,9]) (h:=h3) (b:=b) (by omega) hb c4 c5 (by simp) (by simp)
  refine Pu.Ok.iu e4 ?_
  dsimp only
  (repeat (refine Pu.Ok.g (by first|omega|assumption|(simp only[List.length_append,List.length_cons,List.length_nil,List.length_set,List.length_take,List.length_drop,List.length_replicate]at*;omega)) ?_))
  refine Pu.Ok.ret ⟨⟨?_,hr'⟩,d4,d5⟩
  dsimp only
  rw[List.length_append,List.length_singleton];omega
theorem fw.ok{k:Nat}{i h:Int}{b:List Int}(hk:4194304+20≤k)(hb:b.length≤1048576)(hi:0≤i)(hi':i≤b.length):
  Pu.Ok (fw k i h b) fun r=>Pu.ct r.1.2 r.1.1=true∧0≤r.2.2.1∧r.2.2.1≤b.length:=by
 obtain⟨k,rfl⟩: ∃k',k=k'+1:=⟨k-1,by omega⟩
 rw[fw.eq]
 obtain⟨r,i1,h1,e1,a1,a2⟩:=bU.is (k:=k) (n:=3) (h:=h) (b:=b) (by omega) hb hi hi' (by omega)
 refine Pu.Ok.iu e1 (Pu.Ok.tb (fun _=> ?_) (fun _=> ?_))
 ·refine Pu.Ok.bnd (aN.okI (by omega) hb a1 a2 (by omega) (by omega)) ?_
  rintro⟨⟨o,q⟩,_,i',h'⟩ ⟨c1,c2,c3⟩
  exact Pu.Ok.ret ⟨c1,c2,c3⟩
 ·obtain⟨p,i2,h2,e2,⟨_,hp,_⟩,b4,b5⟩:=cm.isP (k:=k) (m:=6) (h:=h1) (b:=b) (by omega) hb a1 a2 (by omega) (by omega)
  refine Pu.Ok.iu e2 (Pu.Ok.ret ⟨Pu.mB rfl hp (fun t=> ?_),b4,b5⟩)
  show([]:List Int).getD t 0≤_
  exact(Pu.kQ hp t).1
theorem cE.loop{k:Nat}{w:List Int}(hw:w.length≤1048576)(hb: ∀x∈w,-1000000≤x∧x≤1000000): ∀(m j i:Nat) (s:Int),i+m=w.length→m<j→ -1000000*i≤s→s≤1000000*i→cE.L0 k j s i w=some (s+Pu.dg (w.drop i))
 |m,0,i,s,_,hj,_,_=>by omega
 |0,j+1,i,s,hm,_,_,_=>by
  rw[cE.bq]
  have e:i=w.length:=by omega
  subst e
  simp[Pu.dg]
 |m+1,j+1,i,s,hm,hj,hs1,hs2=>by
  rw[cE.bq]
  have hlt:i<w.length:=by omega
  have hx:=hb _ (List.getElem_mem hlt)
  rw[←Pu.al hlt 0]at hx
  have ih:=cE.loop (k:=k) hw hb m j (i+1) (s+w.getD i 0) (by omega) (by omega) (by omega) (by omega)
  rw[Int.natCast_succ]at ih
  rw[Pu.drop_cons hlt 0]
  simp (disch:=omega) only[↓ak,sss,if_true,if_false,hlt,ih,Pu.dg,Int.add_assoc]
theorem cE.is{k:Nat}{w:List Int}(hk:4194304+1≤k)(hw:w.length≤1048576)(hb: ∀x∈w,-1000000≤x∧x≤1000000):cE k w=some (Pu.dg w):=by
 obtain⟨k,rfl⟩: ∃k',k=k'+1:=⟨k-1,by omega⟩
 rw[cE.eq]
 have h:=cE.loop (k:=k) hw hb w.length k 0 0 (by omega) (by omega) (by omega) (by omega)
 rw[Int.natCast_zero]at h
 rw[h,Int.zero_add,List.drop_zero]
theorem cD.tail{k:Nat}{o p:List Int}{r:Int}(hk:4194304+1≤k)(hp:p.length≤1048576)(hb: ∀x∈p,x≤1000000000∧ -1000000000≤x)(h0:0≤r)(h1:r<p.length):
  cD.J1 k r p=some (if Pu.bm (p.set r.toNat (p.getD r.toNat 0+1))=true then(p.set r.toNat (p.getD r.toNat 0+1),true)else([],false)):=by
 rw[cD.ep]
 have hn:r.toNat<p.length:=by omega
 have hx:=hb _ (List.getElem_mem hn)
 rw[←Pu.al hn 0]at hx
 have ew:IntKind.i64.wrap (p.getD r.toNat 0+1)=p.getD r.toNat 0+1:=Pu.w64 (by omega) (by omega)
 have hi:=aO.is (k:=k) (p:=p.set r.toNat (p.getD r.toNat 0+1)) hk (by rw[List.length_set];exact hp)
 by_cases hq:Pu.bm (p.set r.toNat (p.getD r.toNat 0+1))=true
 ·simp only[↓ak,sss,if_true,if_false,h0,hn,ew,hi,hq]
 ·simp only[Bool.not_eq_true]at hq
  simp only[↓ak,sss,if_true,if_false,h0,hn,ew,hi,hq]
theorem cD.is{k:Nat}{p:List Int}{r:Int}(hk:4194304+3≤k)(hp:p.length≤1000000):cD k p r=some (Pu.gM p r):=by
 obtain⟨k,rfl⟩: ∃k',k=k'+1:=⟨k-1,by omega⟩
 rw[cD.eq,aO.is (by omega) (by omega),aX]
 unfold Pu.gM
 by_cases h1:Pu.bm p=true
 ·have hb: ∀x∈p,x≤1000000000∧ -1000000000≤x:=fun x hx=>by
   have:=(Pu.aY h1).1 x hx
   omega
  by_cases h2:r<0
  ·have h3: ¬0≤r:=by omega
   simp[h1,h2,h3]
  ·by_cases h3:(p.length:Int)<r
   ·have h4: ¬r≤p.length:=by omega
    simp[h1,h2,h3,h4]
   ·have h2':0≤r:=by omega
    have h3':r≤p.length:=by omega
    have hl:([]++p).length≤1099511627776:=by simp;omega
    rw[cD.fm]
    by_cases e:r=p.length
    ·have hr:r<(p++ [0]).length:=by rw[List.length_append];simp;omega
     have ht:=cD.tail (o:=p) (k:=k) (p:=p++ [0]) (r:=r) (by omega) (by rw[List.length_append];simp;omega) (fun x hx=>by
      rcases List.mem_append.1 hx with h|h
      ·exact hb x h
      ·simp at h;omega) h2' hr
     have hlim:(p++ [(0:Int)]).length≤1099511627776:=by rw[List.length_append];simp;omega
     have hlim':p.length≤1099511627776:=by omega
     have e':(r=(p.length:Int))=True:=eq_true e
     simp only[↓ak,sss,if_true,if_false,h1,h2,h3,e',hlim,hlim',List.nil_append]
     rw[ht];simp only[h2',h3',and_self,if_true]
    ·have ht:=cD.tail (o:=p) (k:=k) (p:=p) (r:=r) (by omega) (by omega) hb h2' (by omega)
     have hlim':p.length≤1099511627776:=by omega
     simp only[↓ak,sss,if_true,if_false,h1,h2,h3,e,hlim',List.nil_append]
     rw[ht];simp only[h2',h3',and_self,if_true]
 ·simp only[Bool.not_eq_true]at h1
  simp[h1]
theorem bS.ok{o:List Int}(ho:Pu.bm o=true): ∀(d k:Nat) (c:List (List Int)),4194304+10+d≤k→Pu.Ch c→Pu.ct (Pu.jf c) o=true→(c.length:Int)≤Pu.dg (Pu.jf c)+1→Pu.dg o=Pu.dg (Pu.jf c)+d→
  Pu.Ok (bS k o c) fun L=>1≤L.length∧L.length≤Pu.fct d∧ ∀x∈L,Pu.Ch x:=by
 intro d
 induction d with
 |zero=>
  intro k c hk hc hi hl hs
  obtain⟨k,rfl⟩: ∃k',k=k'+1:=⟨k-1,by omega⟩
  obtain⟨c1,c2,c3⟩:=hc
  obtain⟨hp,_⟩:=Pu.mA hi
  rw[bS.eq]
  have hz:IntKind.i64.wrap ((c.length:Int)-1)=((c.length-1:Nat):Int):=by rw[Pu.w64 (by omega) (by omega)];omega
  simp only[gV,gH,dV,eQ,eP,dq,dn,dR,gF,eG,eN,cR,cS,eO,cJ,ez,dW,eX,gJ,gW,eI,eM,dz,dx,di,cH,List.nil_append,List.cons_append]
  simp only[hz,Int.toNat_natCast]
  (repeat (refine Pu.Ok.g (by first|omega|assumption|(simp only[List.length_append,List.length_cons,List.length_nil,List.length_set,List.length_take,List.length_drop,List.length_replicate]at*;omega)) ?_))
  refine Pu.Ok.iu (cE.is (w:=Pu.jf c) (by omega) (by have:=(Pu.fL hp).1;omega) fun x hx=>by have:=(Pu.fL hp).2 x hx;omega) ?_
  refine Pu.Ok.iu (cE.is (w:=o) (by omega) (by have:=(Pu.fL ho).1;omega) fun x hx=>by have:=(Pu.fL ho).2 x hx;omega) ?_
  refine Pu.Ok.t (fun _=>Pu.Ok.ret ⟨by simp,by simp[Pu.fct],fun x hx=>by simp only[List.mem_singleton]at hx;subst hx;exact⟨c1,c2,c3⟩⟩) (fun hn=>absurd (by rw[hs];simp) hn)
 |succ d ih=>
  intro k c hk hc hi hl hs
  obtain⟨k,rfl⟩: ∃k',k=k'+1:=⟨k-1,by omega⟩
  have hc':=hc
  obtain⟨c1,c2,c3⟩:=hc
  obtain⟨hp,_⟩:=Pu.mA hi
  have hso:=(Pu.aY ho).2.1
  rw[bS.eq]
  have hz:IntKind.i64.wrap ((c.length:Int)-1)=((c.length-1:Nat):Int):=by rw[Pu.w64 (by omega) (by omega)];omega
  simp only[gV,gH,dV,eQ,eP,dq,dn,dR,gF,eG,eN,cR,cS,eO,cJ,ez,dW,eX,gJ,gW,eI,eM,dz,dx,di,cH,List.nil_append,List.cons_append]
  simp only[hz,Int.toNat_natCast]
  (repeat (refine Pu.Ok.g (by first|omega|assumption|(simp only[List.length_append,List.length_cons,List.length_nil,List.length_set,List.length_take,List.length_drop,List.length_replicate]at*;omega)) ?_))
  have hlp:=(Pu.fL hp).1
  refine Pu.Ok.iu (cE.is (w:=Pu.jf c) (by omega) (by omega) fun x hx=>by have:=(Pu.fL hp).2 x hx;omega) ?_
  refine Pu.Ok.iu (cE.is (w:=o) (by omega) (by have:=(Pu.fL ho).1;omega) fun x hx=>by have:=(Pu.fL ho).2 x hx;omega) ?_
  refine Pu.Ok.t (fun e=>by omega) (fun _=> ?_)
  obtain⟨ra,oa,a1,a2,a3⟩:=Pu.FM hi (by omega)
  have hT:=Pu.E4 (d:=d) (by have:=Pu.kQ hp 0;have:=(Pu.aY hp).2.2.2;omega)
  have hsucc:Pu.fct (d+1)=(d+1)*Pu.fct d:=rfl
  rw[hsucc]
  generalize Pu.fct d=T at*
  have hle:=Pu.qI hi
  obtain⟨F,hF⟩: ∃F:Nat→Int,F=fun r=>Pu.dg (o.take r)-Pu.dg ((Pu.jf c).take r):=⟨_,rfl⟩
  have hF1: ∀r,F (r+1)=F r+(o.getD r 0-(Pu.jf c).getD r 0):=fun r=>by
   subst hF
   simp only[Pu.xu]
   omega
  have hF0:F 0=0:=by subst hF;simp[Pu.dg]
  have hFe:F ((Pu.jf c).length+1)≤d+1:=by
   subst hF
   have h1:=(Pu.um o (fun x hx=>by have:=(Pu.aY ho).1 x hx;omega) ((Pu.jf c).length+1)).2
   have h2:(Pu.jf c).take ((Pu.jf c).length+1)=Pu.jf c:=List.take_of_length_le (by omega)
   simp only[h2]
   omega
  have hFp: ∀r,0≤F r:=fun r=>by
   induction r with
   |zero=>omega
   |succ r ih=>have:=hF1 r;have:=hle r;omega
  have loop: ∀(m j r:Nat) (out:List (List (List Int))),r+m=(Pu.jf c).length+1→m<j→(out.length:Int)≤F r*T→(∀x∈out,Pu.Ch x)→(r≤ra∨1≤out.length)→
    Pu.Ok (bS.L0 k j (c.length-1) r o c out) fun L=>1≤L.length∧L.length≤(d+1)*T∧ ∀x∈L,Pu.Ch x:=by
   intro m
   induction m with
   |zero=>
    intro j r out hr hj hout hg hne
    obtain⟨j,rfl⟩: ∃j',j=j'+1:=⟨j-1,by omega⟩
    rw[bS.bq]
    simp only[gV,gH,dV,eQ,eP,dq,dn,dR,gF,eG,eN,cR,cS,eO,cJ,ez,dW,eX,gJ,gW,eI,eM,dz,dx,di,cH,List.nil_append,List.cons_append]
    (repeat (refine Pu.Ok.g (by first|omega|assumption|(simp only[List.length_append,List.length_cons,List.length_nil,List.length_set,List.length_take,List.length_drop,List.length_replicate]at*;omega)) ?_))
    refine Pu.Ok.no (show¬(r:Int)≤((Pu.jf c).length:Nat) by omega) (Pu.Ok.ret ⟨by omega,?_,hg⟩)
    have e:r=(Pu.jf c).length+1:=by omega
    subst e
    have:F ((Pu.jf c).length+1)*T≤(d+1:Int)*T:=Int.mul_le_mul_of_nonneg_right hFe (by omega)
    have e2:(((d+1)*T:Nat):Int)=(d+1:Int)*T:=by simp
    omega
   |succ m ihm=>
    intro j r out hr hj hout hg hne
    obtain⟨j,rfl⟩: ∃j',j=j'+1:=⟨j-1,by omega⟩
    have hw:IntKind.i64.wrap ((r:Int)+1)=((r+1:Nat):Int):=Pu.w64 (by omega) (by omega)
    have hmono:F r*T≤F (r+1)*T:=Int.mul_le_mul_of_nonneg_right (by have:=hF1 r;have:=hle r;omega) (by omega)
    have next: ∀out',(out'.length:Int)≤F (r+1)*T→(∀x∈out',Pu.Ch x)→(r+1≤ra∨1≤out'.length)→Pu.Ok (bS.J1 k j (c.length-1) r o c out') fun L=>1≤L.length∧L.length≤(d+1)*T∧ ∀x∈L,Pu.Ch x:=by
     intro out' h1 h2 h3
     rw[bS.ep]
     simp only[gV,gH,dV,eQ,eP,dq,dn,dR,gF,eG,eN,cR,cS,eO,cJ,ez,dW,eX,gJ,gW,eI,eM,dz,dx,di,cH,List.nil_append,List.cons_append]
     rw[hw]
     exact ihm j (r+1) out' (by omega) (by omega) h1 h2 h3
    rw[bS.bq]
    simp only[gV,gH,dV,eQ,eP,dq,dn,dR,gF,eG,eN,cR,cS,eO,cJ,ez,dW,eX,gJ,gW,eI,eM,dz,dx,di,cH,List.nil_append,List.cons_append]
    (repeat (refine Pu.Ok.g (by first|omega|assumption|(simp only[List.length_append,List.length_cons,List.length_nil,List.length_set,List.length_take,List.length_drop,List.length_replicate]at*;omega)) ?_))
    refine Pu.Ok.t (fun _=> ?_) (fun hn=>absurd (show(r:Int)≤((Pu.jf c).length:Nat) by omega) hn)
    (repeat (refine Pu.Ok.g (by first|omega|assumption|(simp only[List.length_append,List.length_cons,List.length_nil,List.length_set,List.length_take,List.length_drop,List.length_replicate]at*;omega)) ?_))
    refine Pu.Ok.iu (cD.is (p:=Pu.jf c) (r:=r) (by omega) (by omega)) ?_
    cases hab:Pu.gM (Pu.jf c) r with
    |mk q b=>
    cases b with
    |false=>
     refine Pu.Ok.tb (fun h=>by cases h) (fun _=>next out (by omega) hg ?_)
     rcases hne with h|h
     ·left
      refine Nat.lt_of_le_of_ne h fun e=> ?_
      subst e
      rw[a2]at hab;cases hab
     ·exact .inr h
    |true=>
     refine Pu.Ok.tb (fun _=> ?_) (fun h=>by cases h)
     obtain⟨b1,b2,b3,b4,b5⟩:=Pu.lz hab
     have hq:=Pu.fL b5
     refine Pu.Ok.iu (bR.is (q:=q) (p:=o) (by omega) (by have:=hq.1;omega) (by have:=(Pu.fL ho).1;omega)) ?_
     cases hin:Pu.ct q o with
     |false=>
      refine Pu.Ok.tb (fun h=>by cases h) (fun _=>next out (by omega) hg ?_)
      rcases hne with h|h
      ·left
       refine Nat.lt_of_le_of_ne h fun e=> ?_
       subst e
       rw[a2]at hab
       injection hab with e1 _
       subst e1
       rw[a3]at hin;cases hin
      ·exact .inr h
     |true=>
      refine Pu.Ok.tb (fun _=> ?_) (fun h=>by cases h)
      have hsq:=Pu.sum_add hp hab
      have hql:=(Pu.aY b5).2.1
      simp only[List.nil_append]
      (repeat (refine Pu.Ok.g (by first|omega|assumption|(simp only[List.length_append,List.length_cons,List.length_nil,List.length_set,List.length_take,List.length_drop,List.length_replicate]at*;omega)) ?_))
      have hlast:=Pu.D1 c q
      refine Pu.Ok.bnd (ih k (c++ [q]) (by omega) ⟨by rw[List.length_append];omega,by rw[List.length_append,List.length_singleton];omega,fun x hx=> ?_⟩ (by rw[hlast];exact hin)
       (by rw[hlast,List.length_append,List.length_singleton];omega) (by rw[hlast];omega)) fun L hL=> ?_
      ·rcases List.mem_append.1 hx with h|h
       ·exact c3 x h
       ·simp only[List.mem_singleton]at h;subst h;exact hq
      obtain⟨l1,l2,l3⟩:=hL
      have hstep:F r*T+T≤F (r+1)*T:=by
       have h1:F r+1≤F (r+1):=by
        have h1:=hF1 r
        have h2:=Pu.qI hin r
        rw[b4,if_pos rfl]at h2
        omega
       have:=Int.mul_le_mul_of_nonneg_right h1 (show(0:Int)≤T by omega)
       rw[Int.add_mul,Int.one_mul]at this
       exact this
      have hbig:F r*T≤9*362880:=by
       have h1:F r≤9:=by
        subst hF
        have h1:=(Pu.um o (fun x hx=>by have:=(Pu.aY ho).1 x hx;omega) r).2
        have h2:=(Pu.um (Pu.jf c) (fun x hx=>by have:=(Pu.aY hp).1 x hx;omega) r).1
        show Pu.dg (o.take r)-Pu.dg ((Pu.jf c).take r)≤9
        omega
       exact Int.mul_le_mul h1 (by omega) (by omega) (by omega)
      have hlim:(out++L).length≤1099511627776:=by rw[List.length_append];omega
      refine Pu.Ok.g hlim (next (out++L) (by rw[List.length_append];omega) (fun x hx=> ?_) (.inr (by rw[List.length_append];omega)))
      rcases List.mem_append.1 hx with h|h
      ·exact hg x h
      ·exact l3 x h
  have h:=loop ((Pu.jf c).length+1) k 0 [] (by omega) (by omega) (by rw[hF0];simp) (fun x hx=>by cases hx) (.inl (by omega))
  exact h
theorem aZ.uI{k k1:Nat}{a r:Nat}{c:List (List Int)}{x6 x7:List Int}{y:List (List Int)}{rows:List (List Int)}{Q:List Int×List (List Int)→Prop}(hk:4194304+1≤k)(hc:c.length≤10)(hr9:r≤9)(hrows:rows.length≤9)
  (key: ∀row:List Int,row.length≤9→Pu.Ok (aZ.L0 k k1 a (((r+1:Nat):Int)) c x6 y x7 (rows++ [row])) Q):
  ∀(m j q:Nat) (row:List Int),q+m=max c.length 1→1≤q→m<j→row.length+1≤q→Pu.Ok (aZ.L1 k k1 j a r q c row x6 y x7 rows) Q
 |m,0,q,row,_,_,hj,_=>by omega
 |0,j+1,q,row,hq,h1,_,hl=>by
  rw[aZ.eA]
  simp only[gV,gH,dV,eQ,eP,dq,dn,dR,gF,eG,eN,cR,cS,eO,cJ,ez,dW,eX,gJ,gW,eI,eM,dz,dx,di,cH,List.nil_append,List.cons_append]
  have hw:IntKind.i64.wrap ((r:Int)+1)=((r+1:Nat):Int):=Pu.w64 (by omega) (by omega)
  refine Pu.Ok.no (by omega) ?_
  refine Pu.Ok.g (by rw[List.length_append];simp;omega) ?_
  rw[hw]
  exact key row (by omega)
 |m+1,j+1,q,row,hq,h1,hj,hl=>by
  have hqc:q<c.length:=by omega
  rw[aZ.eA]
  have hw:IntKind.i64.wrap ((q:Int)-1)=((q-1:Nat):Int):=by rw[Pu.w64 (by omega) (by omega)];omega
  have hw2:IntKind.i64.wrap ((q:Int)+1)=((q+1:Nat):Int):=Pu.w64 (by omega) (by omega)
  simp only[gV,gH,dV,eQ,eP,dq,dn,dR,gF,eG,eN,cR,cS,eO,cJ,ez,dW,eX,gJ,gW,eI,eM,dz,dx,di,cH,List.nil_append,List.cons_append]
  simp only[hw,Int.toNat_natCast]
  refine Pu.Ok.t (fun _=> ?_) (fun hn=>absurd (show(q:Int)<(c.length:Nat) by omega) hn)
  (repeat (refine Pu.Ok.g (by first|omega|assumption|(simp only[List.length_append,List.length_cons,List.length_nil,List.length_set,List.length_take,List.length_drop,List.length_replicate]at*;omega)) ?_))
  refine Pu.Ok.iu (cz.is (by omega)) ?_
  (repeat (refine Pu.Ok.g (by first|omega|assumption|(simp only[List.length_append,List.length_cons,List.length_nil,List.length_set,List.length_take,List.length_drop,List.length_replicate]at*;omega)) ?_))
  refine Pu.Ok.iu (cz.is (by omega)) ?_
  have next: ∀row':List Int,row'.length≤q→Pu.Ok (aZ.J2 k k1 j a r q c row' x6 y x7 rows) Q:=fun row' hr'=>by
   rw[aZ.mf]
   simp only[gV,gH,dV,eQ,eP,dq,dn,dR,gF,eG,eN,cR,cS,eO,cJ,ez,dW,eX,gJ,gW,eI,eM,dz,dx,di,cH,List.nil_append,List.cons_append]
   rw[hw2]
   exact aZ.uI hk hc hr9 hrows key m j (q+1) row' (by omega) (by omega) (by omega) (by omega)
  refine Pu.Ok.t (fun _=> ?_) (fun _=>next row (by omega))
  refine Pu.Ok.g (by rw[List.length_append];simp;omega) (next _ (by rw[List.length_append];simp;omega))
theorem aZ.ok{k:Nat}{c:List (List Int)}(hk:4194304+3≤k)(hc:Pu.Ch c):Pu.Ok (aZ k c) fun t=>Pu.ig 9 9 9 t:=by
 obtain⟨k,rfl⟩: ∃k',k=k'+1:=⟨k-1,by omega⟩
 obtain⟨c1,c2,c3⟩:=hc
 have h0:(c.getD 0 []).length≤9:=by rw[Pu.al c1 []];exact(c3 _ (List.getElem_mem c1)).1
 have hlast:(c.getD (c.length-1) []).length≤9:=by rw[Pu.al (show c.length-1<c.length by omega) []];exact(c3 _ (List.getElem_mem _)).1
 rw[aZ.eq]
 have hz:IntKind.i64.wrap ((c.length:Int)-1)=((c.length-1:Nat):Int):=by rw[Pu.w64 (by omega) (by omega)];omega
 have z0:(0:Int).toNat=0:=rfl
 simp only[gV,gH,dV,eQ,eP,dq,dn,dR,gF,eG,eN,cR,cS,eO,cJ,ez,dW,eX,gJ,gW,eI,eM,dz,dx,di,cH,List.nil_append,List.cons_append]
 simp only[hz,Int.toNat_natCast,z0,List.nil_append]
 (repeat (refine Pu.Ok.g (by first|omega|assumption|(simp only[List.length_append,List.length_cons,List.length_nil,List.length_set,List.length_take,List.length_drop,List.length_replicate]at*;omega)) ?_))
 have loop: ∀(m j r:Nat) (rows:List (List Int)),r+m=(c.getD (c.length-1) []).length→m<j→rows.length=r→(∀x∈rows,x.length≤9)→
   Pu.Ok (aZ.L0 k j (c.length-1) r c [] [] (c.getD 0 []) rows) fun t=>Pu.ig 9 9 9 t:=by
  intro m
  induction m with
  |zero=>
   intro j r rows hr hj hl hg
   obtain⟨j,rfl⟩: ∃j',j=j'+1:=⟨j-1,by omega⟩
   rw[aZ.bq]
   simp only[gV,gH,dV,eQ,eP,dq,dn,dR,gF,eG,eN,cR,cS,eO,cJ,ez,dW,eX,gJ,gW,eI,eM,dz,dx,di,cH,List.nil_append,List.cons_append]
   (repeat (refine Pu.Ok.g (by first|omega|assumption|(simp only[List.length_append,List.length_cons,List.length_nil,List.length_set,List.length_take,List.length_drop,List.length_replicate]at*;omega)) ?_))
   exact Pu.Ok.no (by omega) (Pu.Ok.ret ⟨h0,by show rows.length≤9;omega,hg⟩)
  |succ m ih=>
   intro j r rows hr hj hl hg
   obtain⟨j,rfl⟩: ∃j',j=j'+1:=⟨j-1,by omega⟩
   rw[aZ.bq]
   simp only[gV,gH,dV,eQ,eP,dq,dn,dR,gF,eG,eN,cR,cS,eO,cJ,ez,dW,eX,gJ,gW,eI,eM,dz,dx,di,cH,List.nil_append,List.cons_append]
   (repeat (refine Pu.Ok.g (by first|omega|assumption|(simp only[List.length_append,List.length_cons,List.length_nil,List.length_set,List.length_take,List.length_drop,List.length_replicate]at*;omega)) ?_))
   refine aZ.uI (by omega) c2 (by omega) (by omega) (fun row hrow=> ?_) (max c.length 1-1) k 1 [] (by omega) (by omega) (by omega) (by simp)
   exact ih j (r+1) (rows++ [row]) (by omega) (by omega) (by rw[List.length_append,List.length_singleton];omega) (fun x hx=>by
    rcases List.mem_append.1 hx with h|h
    ·exact hg x h
    ·simp only[List.mem_singleton]at h;subst h;exact hrow)
 exact loop (c.getD (c.length-1) []).length k 0 [] (by omega) (by omega) rfl (fun x hx=>by cases hx)
theorem cW.loop{k:Nat}{sep:ByteArray}{ws:List ByteArray}(hs:sep.size≤10)(hw: ∀w∈ws,w.size≤10000)(hn:ws.length≤10000): ∀(m j i:Nat) (acc:List Int),i+m=ws.length→m<j→acc.length≤i*10010→ ∃r,cW.L0 k j sep i ws acc=some r
 |m,0,i,acc,_,hj,_=>by omega
 |0,j+1,i,acc,hi,_,_=>by
  rw[cW.bq,Pu.zi]
  have hlt': ¬(i:Int)<D.ofN (D.len ws):=by show¬(i:Int)<(ws.length:Int);omega
  rw[if_neg hlt']
  exact⟨_,rfl⟩
 |m+1,j+1,i,acc,hi,hj,ha=>by
  rw[cW.bq,Pu.zi]
  have hlt':(i:Int)<D.ofN (D.len ws):=by show(i:Int)<(ws.length:Int);omega
  rw[if_pos hlt',Pu.zi]
  have li: ∀s:ByteArray,(D.ints s).length=s.size:=fun s=>by
   show(s.data.toList.map _).length=_
   rw[List.length_map];rfl
  have key: ∀acc':List Int,acc'.length≤i*10010+10→ ∃r,cW.J1 k j sep i ws acc'=some r:=by
   intro acc' ha'
   rw[cW.ep]
   have hi':i<ws.length:=by omega
   have t1:D.le 0 (i:Int)=true:=decide_eq_true (by omega)
   have t2:D.ltN (D.nat (i:Int)) (D.len ws)=true:=decide_eq_true (by show(i:Int).toNat<ws.length;omega)
   have hx:(D.rd ws (D.nat (i:Int)) (⟨#[]⟩:ByteArray)).size≤10000:=by
    show(ws.getD (i:Int).toNat _).size≤_
    rw[Int.toNat_natCast,Pu.al hi' _]
    exact hw _ (List.getElem_mem hi')
   have hlen:(D.app acc' (D.ints (D.rd ws (D.nat (i:Int)) (⟨#[]⟩:ByteArray)))).length≤(i+1)*10010:=by
    show(acc'++_).length≤_
    rw[List.length_append,li];omega
   have t3:D.leN (D.len (D.app acc' (D.ints (D.rd ws (D.nat (i:Int)) (⟨#[]⟩:ByteArray))))) 1099511627776=true:=decide_eq_true (by
    show(D.app acc' (D.ints (D.rd ws (D.nat (i:Int)) (⟨#[]⟩:ByteArray)))).length≤_
    omega)
   rw[ak,if_pos t1,ak,if_pos t2,ak,if_pos t2,ak,if_pos t3]
   have ew:D.wrap .i64 (D.add (i:Int) 1)=((i+1:Nat):Int):=by
    show IntKind.i64.wrap ((i:Int)+1)=_
    rw[Pu.w64 (by omega) (by omega)];omega
   rw[ew]
   exact cW.loop hs hw hn m j (i+1) _ (by omega) (by omega) hlen
  split
  ·have hl:(D.app acc (D.ints sep)).length≤i*10010+10:=by
    show(acc++_).length≤_
    rw[List.length_append,li];omega
   have t3:D.leN (D.len (D.app acc (D.ints sep))) 1099511627776=true:=decide_eq_true (by
    show(D.app acc (D.ints sep)).length≤_
    omega)
   rw[ak,if_pos t3]
   exact key _ hl
  ·exact key acc (Nat.le_add_right_of_le ha)
theorem cW.is{k:Nat}{sep:ByteArray}{ws:List ByteArray}(hk:100000≤k)(hs:sep.size≤10)(hw: ∀w∈ws,w.size≤10000)(hn:ws.length≤10000): ∃r,cW k ws sep=some r:=by
 obtain⟨k,rfl⟩: ∃k',k=k'+1:=⟨k-1,by omega⟩
 rw[cW.eq]
 have h:=cW.loop (k:=k) (sep:=sep) hs hw hn ws.length k 0 [] (by omega) (by omega) (by simp)
 rw[Int.natCast_zero]at h
 exact h
theorem bH.loop{k:Nat}: ∀(m j:Nat) (n:Int) (b:Bool) (s:ByteArray),n.natAbs<10^m→ -9223372036854775808≤n→n≤9223372036854775807→m<j→s.size+m≤1000→ ∃r,bH.L0 k j n b s=some r∧r.size≤s.size+m+1
 |m,0,n,b,s,_,_,_,hj,_=>by omega
 |0,j+1,n,b,s,hn,_,_,_,hs=>by
  rw[bH.bq]
  have e:n=0:=by
   have:n.natAbs<1:=by simpa using hn
   omega
  subst e
  have hl:D.leN (D.addN (D.lenS (⟨#[45]⟩:ByteArray)) (D.lenS s)) 1099511627776=true:=decide_eq_true (by show 1+s.size≤_;omega)
  have t0: ¬D.no (D.eq (0:Int) 0)=true:=by decide
  rw[ak,if_neg t0]
  cases b with
  |false=>exact⟨s,rfl,by omega⟩
  |true=>
   refine⟨(⟨#[45]⟩:ByteArray)++s,?_,?_⟩
   ·rw[ak,if_pos rfl,ak,if_pos hl];rfl
   ·rw[ByteArray.size_append];show 1+s.size≤_;omega
 |m+1,j+1,n,b,s,hn,h1,h2,hj,hs=>by
  rw[bH.bq]
  have t10:D.no (D.eq (10:Int) 0)=true:=by decide
  have key: ∀x,∃r,bH.J1 k j n b s x=some r∧r.size≤s.size+(m+1)+1:=by
   intro x
   rw[bH.ep]
   have hl:D.leN (D.addN (D.lenS (D.ofInts ((D.wrap .u8 (D.wrap .i64 (D.add 48 x)))::([]:List Int)))) (D.lenS s)) 1099511627776=true:=decide_eq_true (by show 1+s.size≤_;omega)
   rw[ak,if_pos hl,ak,if_pos t10]
   have ha:(n.tdiv 10).natAbs=n.natAbs/10:=by rw[Int.natAbs_tdiv];rfl
   have ew:D.wrap .i64 (D.quo n 10)=n.tdiv 10:=by
    show IntKind.i64.wrap (n.tdiv 10)=_
    exact Pu.w64 (by omega) (by omega)
   rw[ew]
   have hsz:(D.catS (D.ofInts ((D.wrap .u8 (D.wrap .i64 (D.add 48 x)))::([]:List Int))) s).size=1+s.size:=by
    show(_++s).size=_
    rw[ByteArray.size_append];rfl
   obtain⟨r,e,hr⟩:=bH.loop (k:=k) m j (n.tdiv 10) b (D.catS (D.ofInts ((D.wrap .u8 (D.wrap .i64 (D.add 48 x)))::([]:List Int))) s) (by rw[ha];rw[Nat.pow_succ]at hn;omega) (by omega) (by omega) (by omega) (by omega)
   exact⟨r,e,by omega⟩
  by_cases h0:n=0
  ·subst h0
   have t0: ¬D.no (D.eq (0:Int) 0)=true:=by decide
   have hl:D.leN (D.addN (D.lenS (⟨#[45]⟩:ByteArray)) (D.lenS s)) 1099511627776=true:=decide_eq_true (by show 1+s.size≤_;omega)
   rw[ak,if_neg t0]
   cases b with
   |false=>exact⟨s,rfl,by omega⟩
   |true=>
    refine⟨(⟨#[45]⟩:ByteArray)++s,?_,?_⟩
    ·rw[ak,if_pos rfl,ak,if_pos hl];rfl
    ·rw[ByteArray.size_append];show 1+s.size≤_;omega
  ·have t0:D.no (D.eq n 0)=true:=by
    show(!decide (n=0))=true
    simp[h0]
   rw[ak,if_pos t0,ak,if_pos t10,ak]
   split
   ·exact key _
   ·exact key _
theorem bH.is{k:Nat}{n:Int}(hk:1000≤k)(h1: -9223372036854775808≤n)(h2:n≤9223372036854775807): ∃r,bH k n=some r∧r.size≤30:=by
 obtain⟨k,rfl⟩: ∃k',k=k'+1:=⟨k-1,by omega⟩
 rw[bH.eq,ak]
 split
 ·exact⟨_,rfl,by decide⟩
 ·obtain⟨r,e,hr⟩:=bH.loop (k:=k) 20 k n (D.lt n 0) (⟨#[]⟩:ByteArray) (by omega) h1 h2 (by omega) (by show 0+20≤1000;omega)
  refine⟨r,e,?_⟩
  have:r.size≤0+20+1:=hr
  omega
theorem zX{t:Pu.Tab}(h:Pu.dM t=true){i q:Nat}(hi:i<t.2.length)(hq:q<(t.2.getD i []).length):1≤(t.2.getD i []).getD q 0∧(t.2.getD i []).getD q 0≤9:=by
 simp only[Pu.dM,Bool.and_eq_true]at h
 have h1:=Pu.dm.1 h.2 i hi
 have h2:=Pu.dm.1 h1 q hq
 simp only[Pu.fQ,Pu.within,Bool.and_eq_true,decide_eq_true_eq]at h2
 exact h2.1
theorem aD.F8{k k1:Nat}{i:Nat}{ws:List ByteArray}{t:Pu.Tab}{Q:ByteArray→Prop}(hk:1000≤k)(ht:Pu.dM t=true)(hr:Pu.cj 9 10 t.2)(hi:i<t.2.length)(hw:ws.length≤9)
  (key: ∀s:ByteArray,s.size≤10000→Pu.Ok (aD.L0 k k1 ((i:Int)+1) (ws++ [s]) t.1 t.2) Q):
  ∀(m j q:Nat) (s:ByteArray),q+m=(t.2.getD i []).length→m<j→s.size≤10+q*30→Pu.Ok (aD.L2 k k1 j i s q ws t.1 t.2) Q
 |m,0,q,s,_,hj,_=>by omega
 |0,j+1,q,s,hq,_,hs=>by
  rw[aD.qX]
  simp only[gV,gH,dV,eQ,eP,dq,dn,dR,gF,eG,eN,cR,cS,eO,cJ,ez,dW,eX,gJ,gW,eI,eM,dz,dx,di,cH,List.nil_append,List.cons_append]
  (try simp only[Int.toNat_natCast]);(try simp (disch:=omega) only[Pu.w64])
  have:=hr.at i
  have:=hr.1
  (repeat (refine Pu.Ok.g (by first|omega|assumption|(simp only[List.length_append,List.length_cons,List.length_nil,List.length_set,List.length_take,List.length_drop,List.length_replicate]at*;omega)) ?_))
  refine Pu.Ok.no (by omega) ?_
  (repeat (refine Pu.Ok.g (by first|omega|assumption|(simp only[List.length_append,List.length_cons,List.length_nil,List.length_set,List.length_take,List.length_drop,List.length_replicate]at*;omega)) ?_))
  (try simp only[Int.toNat_natCast]);(try simp (disch:=omega) only[Pu.w64])
  exact key s (by omega)
 |m+1,j+1,q,s,hq,hj,hs=>by
  rw[aD.qX]
  simp only[gV,gH,dV,eQ,eP,dq,dn,dR,gF,eG,eN,cR,cS,eO,cJ,ez,dW,eX,gJ,gW,eI,eM,dz,dx,di,cH,List.nil_append,List.cons_append]
  (try simp only[Int.toNat_natCast]);(try simp (disch:=omega) only[Pu.w64])
  have:=hr.at i
  have:=hr.1
  have he:=zX ht hi (show q<_ by omega)
  (repeat (refine Pu.Ok.g (by first|omega|assumption|(simp only[List.length_append,List.length_cons,List.length_nil,List.length_set,List.length_take,List.length_drop,List.length_replicate]at*;omega)) ?_))
  obtain⟨r,e,h1⟩:=bH.is (k:=k) (n:=(t.2.getD i []).getD q 0) (by omega) (by omega) (by omega)
  refine Pu.Ok.iu e ?_
  (repeat (refine Pu.Ok.g (by first|omega|assumption|(simp only[List.length_append,List.length_cons,List.length_nil,List.length_set,List.length_take,List.length_drop,List.length_replicate]at*;omega)) ?_))
  (try simp only[Int.toNat_natCast]);(try simp (disch:=omega) only[Pu.w64])
  exact aD.F8 hk ht hr hi hw key m j (q+1) _ (by omega) (by omega) (by rw[ByteArray.size_append];omega)
theorem aD.uI{k k1:Nat}{i:Nat}{ws:List ByteArray}{t:Pu.Tab}{Q:ByteArray→Prop}(hk:1000≤k)(ht:Pu.dM t=true)(hr:Pu.cj 9 10 t.2)(hi:i<t.2.length)(hw:ws.length≤9)
  (key: ∀s:ByteArray,s.size≤10000→Pu.Ok (aD.L0 k k1 ((i:Int)+1) (ws++ [s]) t.1 t.2) Q):
  ∀(m j q:Nat) (s:ByteArray),10≤q+m→m<j→s.size≤q→q≤9→Pu.Ok (aD.L1 k k1 j i s q ws t.1 t.2) Q
 |m,0,q,s,_,hj,_,_=>by omega
 |m,j+1,q,s,hq,hj,hs,h9=>by
  rw[aD.eA]
  simp only[gV,gH,dV,eQ,eP,dq,dn,dR,gF,eG,eN,cR,cS,eO,cJ,ez,dW,eX,gJ,gW,eI,eM,dz,dx,di,cH,List.nil_append,List.cons_append]
  refine Pu.Ok.iu (cz.is (by omega)) ?_
  have hi1:Pu.bm t.1=true:=by
   have:=Pu.mJ ht
   simp only[Pu.dA,Bool.and_eq_true]at this
   exact this.1
  have hb:=Pu.cQ hi1 i
  have hx:=hr.at i
  refine Pu.Ok.t (fun hlt=> ?_) (fun _=> ?_)
  ·have hz:s.size+(⟨#[46]⟩:ByteArray).size≤1099511627776:=by
    show s.size+1≤_
    omega
   (repeat (refine Pu.Ok.g (by first|omega|assumption|(simp only[List.length_append,List.length_cons,List.length_nil,List.length_set,List.length_take,List.length_drop,List.length_replicate]at*;omega)) ?_))
   (try simp only[Int.toNat_natCast]);(try simp (disch:=omega) only[Pu.w64])
   exact aD.uI hk ht hr hi hw key (m-1) j (q+1) _ (by omega) (by omega) (by rw[ByteArray.size_append];show s.size+1≤_;omega) (by omega)
  ·exact aD.F8 hk ht hr hi hw key (t.2.getD i []).length k 0 s (by omega) (by omega) (by omega)
theorem aD.CK{k:Nat}{t:Pu.Tab}(hk:100000≤k)(ht:Pu.dM t=true)(hr:Pu.cj 9 10 t.2):
  ∀(m j i:Nat) (ws:List ByteArray),i+m=t.2.length→m<j→ws.length=i→(∀w∈ws,w.size≤10000)→Pu.Ok (aD.L0 k j i ws t.1 t.2) fun _=>True
 |m,0,i,ws,_,hj,_,_=>by omega
 |0,j+1,i,ws,hi,_,hl,hw=>by
  rw[aD.bq]
  simp only[gV,gH,dV,eQ,eP,dq,dn,dR,gF,eG,eN,cR,cS,eO,cJ,ez,dW,eX,gJ,gW,eI,eM,dz,dx,di,cH,List.nil_append,List.cons_append]
  have:=hr.1
  refine Pu.Ok.no (by omega) ?_
  obtain⟨r,e⟩:=cW.is (k:=k) (sep:=(⟨#[47]⟩:ByteArray)) (ws:=ws) hk (by decide) hw (by omega)
  exact Pu.Ok.iu e (Pu.Ok.ret trivial)
 |m+1,j+1,i,ws,hi,hj,hl,hw=>by
  rw[aD.bq]
  simp only[gV,gH,dV,eQ,eP,dq,dn,dR,gF,eG,eN,cR,cS,eO,cJ,ez,dW,eX,gJ,gW,eI,eM,dz,dx,di,cH,List.nil_append,List.cons_append]
  have:=hr.1
  (repeat (refine Pu.Ok.g (by first|omega|assumption|(simp only[List.length_append,List.length_cons,List.length_nil,List.length_set,List.length_take,List.length_drop,List.length_replicate]at*;omega)) ?_))
  refine aD.uI (by omega) ht hr (by omega) (by omega) (fun s hs=> ?_) 10 k 0 _ (by omega) (by omega) (by show 0≤0;omega) (by omega)
  exact aD.CK hk ht hr m j (i+1) _ (by omega) (by omega) (by rw[List.length_append,List.length_singleton];omega) (fun w hw'=>by
   rcases List.mem_append.1 hw' with h|h
   ·exact hw w h
   ·simp only[List.mem_singleton]at h;subst h;exact hs)
theorem aD.ok{k:Nat}{t:Pu.Tab}(hk:4194304+6≤k)(ht:ig 10 9 10 t):Pu.Ok (aD k t) fun _=>True:=by
 obtain⟨k,rfl⟩: ∃k',k=k'+1:=⟨k-1,by omega⟩
 obtain⟨c1,c2,c3⟩:=ht.tab (by omega) (by omega) (by omega)
 rw[aD.eq]
 refine Pu.Ok.iu (aC.is (by omega) c1 c2 c3) ?_
 simp only[gV,gH,dV,eQ,eP,dq,dn,dR,gF,eG,eN,cR,cS,eO,cJ,ez,dW,eX,gJ,gW,eI,eM,dz,dx,di,cH,List.nil_append,List.cons_append]
 refine Pu.Ok.tn (fun _=>Pu.Ok.ret trivial) (fun hb=>Pu.Ok.t (fun _=>Pu.Ok.ret trivial) (fun _=> ?_))
 exact aD.CK (t:=t) (by omega) hb ht.2 t.2.length k 0 [] (by omega) (by have:=ht.2.1;omega) rfl (fun w hw=>by cases hw)
theorem an.F5{k k1 a:Nat}{r n3:Int}{x2:Int}{x4:Bool}{x5:Int}{x6 x7:Nat}{out:List Pu.Tab}{all:List (List (List Int))}{t:Pu.Tab}{Q:List Pu.Tab→Prop}(ha:a≤out.length)(hl:out.length≤400000)(hr:0≤r)(hr':r≤400000)(hout: ∀x∈out,Pu.ig 9 9 9 x)(ht:Pu.ig 9 9 9 t)
  (key: ∀out':List Pu.Tab,out'.length=out.length+1→(∀x∈out',Pu.ig 9 9 9 x)→Pu.Ok (an.L0 k k1 (r+1) out' all) Q):
  Pu.Ok (an.J3 k k1 a r x2 n3 x4 x5 x6 x7 out all t.1 t.2) Q:=by
 rw[an.lQ]
 have hw:IntKind.i64.wrap (r+1)=r+1:=Pu.w64 (by omega) (by omega)
 simp only[gV,gH,dV,eQ,eP,dq,dn,dR,gF,eG,eN,cR,cS,eO,cJ,ez,dW,eX,gJ,gW,eI,eM,dz,dx,di,cH,List.nil_append,List.cons_append]
 simp only[Int.toNat_natCast,hw]
 have l1:(List.take (out.length-a) (List.drop a out)).length≤1099511627776:=by rw[List.length_take];omega
 have l2:a≤(List.take a out).length:=by rw[List.length_take];omega
 have l3:(List.take a (List.take a out)).length≤a:=by rw[List.length_take];omega
 have l4:(List.take (out.length-a) (List.drop a out)).length≤out.length:=by rw[List.length_take,List.length_drop];omega
 refine Pu.Ok.g (by omega) (Pu.Ok.g (by omega) (Pu.Ok.g l1 (Pu.Ok.g (by omega) (Pu.Ok.g l2 (Pu.Ok.g ?_ (Pu.Ok.g ?_ ?_))))))
 ·rw[List.length_append];simp only[List.length_cons,List.length_nil];omega
 ·rw[List.length_append,List.length_append];simp only[List.length_cons,List.length_nil];omega
 refine key _ ?_ ?_
 ·simp only[List.length_append,List.length_take,List.length_drop,List.length_cons,List.length_nil]
  omega
 ·intro x hx
  rcases List.mem_append.1 hx with h|h
  ·rcases List.mem_append.1 h with h|h
   ·exact hout x (List.mem_of_mem_take (List.mem_of_mem_take h))
   ·simp only[List.mem_singleton]at h;subst h;exact ht
  ·exact hout x (List.mem_of_mem_drop (List.mem_of_mem_take h))
theorem an.uI{k k1:Nat}{r n3:Int}{x2:Int}{x4:Bool}{x5:Int}{x6 x7:Nat}{out:List Pu.Tab}{all:List (List (List Int))}{t:Pu.Tab}{Q:List Pu.Tab→Prop}(hk:4194304+10≤k)(hl:out.length≤400000)(hr:0≤r)(hr':r≤400000)(hout: ∀x∈out,Pu.ig 9 9 9 x)(ht:Pu.ig 9 9 9 t)
  (key: ∀out':List Pu.Tab,out'.length=out.length+1→(∀x∈out',Pu.ig 9 9 9 x)→Pu.Ok (an.L0 k k1 (r+1) out' all) Q):
  ∀(a j:Nat),a<j→a≤out.length→Pu.Ok (an.L1 k k1 j a r x2 n3 x4 x5 x6 x7 out all t.1 t.2) Q
 |a,0,hj,_=>by omega
 |0,j+1,_,ha=>by
  rw[an.eA]
  simp only[gV,gH,dV,eQ,eP,dq,dn,dR,gF,eG,eN,cR,cS,eO,cJ,ez,dW,eX,gJ,gW,eI,eM,dz,dx,di,cH,List.nil_append,List.cons_append]
  exact Pu.Ok.no (by omega) (an.F5 (a:=0) ha hl hr hr' hout ht key)
 |a+1,j+1,hj,ha=>by
  rw[an.eA]
  have hw:IntKind.i64.wrap (((a+1:Nat):Int)-1)=(a:Int):=by rw[Pu.w64 (by omega) (by omega)];omega
  simp only[gV,gH,dV,eQ,eP,dq,dn,dR,gF,eG,eN,cR,cS,eO,cJ,ez,dW,eX,gJ,gW,eI,eM,dz,dx,di,cH,List.nil_append,List.cons_append]
  simp only[hw,Int.toNat_natCast]
  (repeat (refine Pu.Ok.g (by first|omega|assumption|(simp only[List.length_append,List.length_cons,List.length_nil,List.length_set,List.length_take,List.length_drop,List.length_replicate]at*;omega)) ?_))
  have hx:Pu.ig 9 9 9 (out.getD a ([],[])):=by rw[Pu.al (show a<out.length by omega)];exact hout _ (List.getElem_mem _)
  have up: ∀{t:Pu.Tab},Pu.ig 9 9 9 t→Pu.ig 10 9 10 t:=fun h=>⟨by have:=h.1;omega,h.2.1,fun r hr=>by have:=h.2.2 r hr;omega⟩
  refine Pu.Ok.bnd (aD.ok (by omega) (up hx)) fun r3 _=>Pu.Ok.bnd (aD.ok (by omega) (up ht)) fun r4 _=> ?_
  refine Pu.Ok.tn (fun _=> ?_) (fun _=>an.F5 ha hl hr hr' hout ht key)
  rw[an.mf]
  simp only[gV,gH,dV,eQ,eP,dq,dn,dR,gF,eG,eN,cR,cS,eO,cJ,ez,dW,eX,gJ,gW,eI,eM,dz,dx,di,cH,List.nil_append,List.cons_append]
  rw[hw]
  exact an.uI hk hl hr hr' hout ht key a j (by omega) (by omega)
theorem an.ok{k:Nat}{s:List Int×List Int}(hk:4194304+40≤k)(hs:Pu.ct s.2 s.1=true):Pu.Ok (an k s) fun L=>1≤L.length∧L.length≤362880∧ ∀t∈L,Pu.ig 9 9 9 t:=by
 obtain⟨k,rfl⟩: ∃k',k=k'+2:=⟨k-2,by omega⟩
 obtain⟨hp,ho⟩:=Pu.mA hs
 have h1:=(Pu.fL hp).1
 have h2:=(Pu.fL ho).1
 rw[an.eq]
 refine Pu.Ok.iu (gA.is (s:=s) (by omega) (by omega) (by omega)) ?_
 rw[hs]
 refine Pu.Ok.tn (fun h=>by cases h) (fun _=> ?_)
 simp only[gV,gH,dV,eQ,eP,dq,dn,dR,gF,eG,eN,cR,cS,eO,cJ,ez,dW,eX,gJ,gW,eI,eM,dz,dx,di,cH,List.nil_append,List.cons_append]
 refine Pu.Ok.g (by omega) ?_
 have hle:=(Pu.rA (Pu.qI hs)).1
 have hso:=(Pu.aY ho).2.1
 have hsp:=(Pu.aY hp).2.2.2
 obtain⟨d,hd⟩: ∃d:Nat,Pu.dg s.1=Pu.dg s.2+d:=⟨(Pu.dg s.1-Pu.dg s.2).toNat,by omega⟩
 refine Pu.Ok.bnd (bS.ok ho d (k+1) [s.2] (by omega) ⟨by simp,by simp,fun x hx=>by simp only[List.mem_singleton]at hx;subst hx;exact Pu.fL hp⟩ hs (by show(1:Int)≤Pu.dg s.2+1;omega) hd) fun L hL=> ?_
 obtain⟨l1,l2,l3⟩:=hL
 have hd9:d≤9:=by
  have:=(Pu.aY hp).2.2.2
  omega
 have hf:=Pu.E4 hd9
 have loop: ∀(m j r:Nat) (out:List Pu.Tab),r+m=L.length→m<j→out.length=r→(∀x∈out,Pu.ig 9 9 9 x)→Pu.Ok (an.L0 k j r out L) fun L=>1≤L.length∧L.length≤362880∧ ∀t∈L,Pu.ig 9 9 9 t:=by
  intro m
  induction m with
  |zero=>
   intro j r out hr hj hl hg
   obtain⟨j,rfl⟩: ∃j',j=j'+1:=⟨j-1,by omega⟩
   rw[an.bq]
   simp only[gV,gH,dV,eQ,eP,dq,dn,dR,gF,eG,eN,cR,cS,eO,cJ,ez,dW,eX,gJ,gW,eI,eM,dz,dx,di,cH,List.nil_append,List.cons_append]
   exact Pu.Ok.no (by omega) (Pu.Ok.ret ⟨by omega,by omega,hg⟩)
  |succ m ih=>
   intro j r out hr hj hl hg
   obtain⟨j,rfl⟩: ∃j',j=j'+1:=⟨j-1,by omega⟩
   rw[an.bq]
   simp only[gV,gH,dV,eQ,eP,dq,dn,dR,gF,eG,eN,cR,cS,eO,cJ,ez,dW,eX,gJ,gW,eI,eM,dz,dx,di,cH,List.nil_append,List.cons_append]
   simp only[Int.toNat_natCast]
   refine Pu.Ok.g (by omega) (Pu.Ok.g (by omega) (Pu.Ok.g (by omega) (Pu.Ok.g (by omega) (Pu.Ok.g (by omega) ?_))))
   have hc:Pu.Ch (L.getD r []):=by rw[Pu.al (show r<L.length by omega)];exact l3 _ (List.getElem_mem _)
   refine Pu.Ok.bnd (aZ.ok (by omega) hc) fun t ht=> ?_
   refine an.uI (t:=t) (by omega) (by omega) (by omega) (by omega) hg ht (fun out' h1 h2=> ?_) out.length k (by omega) (by omega)
   exact ih j (r+1) out' (by omega) (by omega) (by omega) h2
 exact loop L.length (k+1) 0 [] (by omega) (by omega) rfl (fun x hx=>by cases hx)
theorem dI.pick{k:Nat}{s:List Int×List Int}{i h:Int}{b:List Int}(hk:4194304+60≤k)(hb:b.length≤1048576)(hi:0≤i)(hi':i≤b.length)(hs:Pu.ct s.2 s.1=true):
  Pu.Ok (D.bnd (an k s) fun r1=>D.bnd (aM k (r1.length:Nat) i h b) fun r2=>D.test (decide (0≤r2.1)) (D.test (decide (r2.1.toNat<r1.length)) (D.test (decide (r2.1.toNat<r1.length)) (D.test (decide (r2.1.toNat<r1.length)) (D.test (decide (r2.1.toNat<r1.length))
   (some (((r1.getD r2.1.toNat ([],[])).1,(r1.getD r2.1.toNat ([],[])).2),((),(r2.2.2.1,r2.2.2.2)))) none) none) none) none) none)
   fun r=>Pu.ig 9 9 9 r.1∧0≤r.2.2.1∧r.2.2.1≤b.length:=by
 refine Pu.Ok.bnd (an.ok (by omega) hs) fun L hL=> ?_
 obtain⟨l1,l2,l3⟩:=hL
 obtain⟨r,i',h',e,a,c,d,d'⟩:=aM.isB (k:=k) (n:=(L.length:Nat)) (h:=h) (b:=b) (by omega) hb hi hi' (by omega)
 have c:=c (by omega)
 refine Pu.Ok.iu e ?_
 dsimp only
 have hr:r.toNat<L.length:=by omega
 refine Pu.Ok.g a (Pu.Ok.g hr (Pu.Ok.g hr (Pu.Ok.g hr (Pu.Ok.g hr (Pu.Ok.ret ⟨?_,d,d'⟩)))))
 have:=l3 _ (List.getElem_mem hr)
 rw[←Pu.al hr ([],[])]at this
 exact this
theorem dI.ok{k:Nat}{i h:Int}{b:List Int}(hk:4194304+70≤k)(hb:b.length≤1048576)(hi:0≤i)(hi':i≤b.length):
  Pu.Ok (dI k i h b) fun r=>Pu.ig 9 9 9 r.1∧0≤r.2.2.1∧r.2.2.1≤b.length:=by
 obtain⟨k,rfl⟩: ∃k',k=k'+1:=⟨k-1,by omega⟩
 rw[dI.eq]
 refine Pu.Ok.bnd (fw.ok (by omega) hb hi hi') ?_
 rintro⟨⟨o,q⟩,_,i',h'⟩ ⟨c1,c2,c3⟩
 exact dI.pick (s:=(o,q)) (by omega) hb c2 c3 c1
theorem fM.ok{k:Nat}{i h:Int}{b:List Int}(hk:4194304+80≤k)(hb:b.length≤1048576)(hi:0≤i)(hi':i≤b.length):
  Pu.Ok (fM k i h b) fun r=>Pu.ig 10 9 10 r.1∧0≤r.2.2.1∧r.2.2.1≤b.length:=by
 obtain⟨k,rfl⟩: ∃k',k=k'+1:=⟨k-1,by omega⟩
 rw[fM.eq]
 obtain⟨r,i1,h1,e1,a1,a2⟩:=bU.is (k:=k) (n:=10) (h:=h) (b:=b) (by omega) hb hi hi' (by omega)
 refine Pu.Ok.iu e1 (Pu.Ok.tb (fun _=> ?_) (fun _=> ?_))
 ·refine Pu.Ok.bnd (fA.ok (by omega) hb a1 a2 (by omega) (by omega)) ?_
  rintro⟨⟨o,q⟩,_,i',h'⟩ ⟨c1,c2,c3⟩
  exact Pu.Ok.ret ⟨c1,c2,c3⟩
 ·refine Pu.Ok.bnd (dI.ok (by omega) hb a1 a2) ?_
  rintro⟨⟨o,q⟩,_,i',h'⟩ ⟨c1,c2,c3⟩
  exact Pu.Ok.ret ⟨⟨by have:=c1.1;dsimp only at*;omega,c1.2.1,fun r hr=>by have:=c1.2.2 r hr;omega⟩,c2,c3⟩
theorem bX.ok{k:Nat}{i h:Int}{b:List Int}(hk:4194304+90≤k)(hb:b.length≤1048576)(hi:0≤i)(hi':i≤b.length):
  Pu.Ok (bX k i h b) fun r=>Pu.ig 10 9 10 r.1∧0≤r.2.2.1∧r.2.2.1≤b.length:=by
 obtain⟨k,rfl⟩: ∃k',k=k'+1:=⟨k-1,by omega⟩
 rw[bX.eq]
 have pick: ∀{p:List Int} {i h:Int},Pu.bm p=true→0≤i→i≤b.length→_:=fun{p i h} hp h0 h1=>dI.pick (k:=k) (s:=(p,[])) (i:=i) (h:=h) (b:=b) (by omega) hb h0 h1 (Pu.mB rfl hp fun t=>by show([]:List Int).getD t 0≤_;exact(Pu.kQ hp t).1)
 have up: ∀{r:Pu.Tab×Unit×Int×Int},(Pu.ig 9 9 9 r.1∧0≤r.2.2.1∧r.2.2.1≤b.length)→Pu.ig 10 9 10 r.1∧0≤r.2.2.1∧r.2.2.1≤b.length:=fun h=>⟨⟨by have:=h.1.1;omega,h.1.2.1,fun r hr=>by have:=h.1.2.2 r hr;omega⟩,h.2⟩
 obtain⟨r,i1,h1,e1,a1,a2⟩:=bU.is (k:=k) (n:=10) (h:=h) (b:=b) (by omega) hb hi hi' (by omega)
 refine Pu.Ok.iu e1 (Pu.Ok.tb (fun _=> ?_) (fun _=> ?_))
 ·refine Pu.Ok.bnd (fM.ok (by omega) hb a1 a2) ?_
  rintro⟨⟨o,q⟩,_,i',h'⟩ ⟨c1,c2,c3⟩
  exact Pu.Ok.ret ⟨c1,c2,c3⟩
 ·obtain⟨p,i2,h2,e2,⟨_,hp,_⟩,b4,b5⟩:=cm.isP (k:=k) (m:=6) (h:=h1) (b:=b) (by omega) hb a1 a2 (by omega) (by omega)
  refine Pu.Ok.iu e2 ?_
  dsimp only
  obtain⟨r3,i3,h3,e3,d1,d2⟩:=bU.is (k:=k) (n:=3) (h:=h2) (b:=b) (by omega) hb b4 b5 (by omega)
  refine Pu.Ok.iu e3 (Pu.Ok.tb (fun _=> ?_) (fun _=> ?_))
  ·obtain⟨r4,i4,h4,e4,f1,f2,f3,f4,f5⟩:=aM.is (k:=k) (n:=5) (h:=h3) (b:=b) (by omega) hb d1 d2 (by omega)
   have f3:=f3 (by omega)
   refine Pu.Ok.iu e4 ?_
   simp only[gV,gH,dV,eQ,eP,dq,dn,dR,gF,eG,eN,cR,cS,eO,cJ,ez,dW,eX,gJ,gW,eI,eM,dz,dx,di,cH,List.nil_append,List.cons_append]
   have hr:r4.toNat<5:=by omega
   refine Pu.Ok.g f1 (Pu.Ok.g hr (Pu.Ok.g hr ?_))
   rw[bX.fm]
   refine Pu.Ok.g hr ?_
   refine Pu.Ok.mono (pick (p:= [[2,2],[3,3],[2,2,2],[4],[1,1,1]].getD r4.toNat []) ?_ f4 f5) fun r h=>up h
   have: ∀n,n<5→Pu.bm ([[2,2],[3,3],[2,2,2],[4],[1,1,1]].getD n [])=true:=by decide
   exact this _ hr
  ·rw[bX.ep]
   exact Pu.Ok.mono (pick hp d1 d2) fun r h=>up h
theorem a7.CK{k:Nat}{b x3:List Int}{x4:List (List Int)}(hk:4194304+100≤k)(hb:b.length≤1048576): ∀(m j i:Nat) (h:Int),i+m=b.length→m<j→Pu.Ok (a7.L0 k j h i b x3 x4) fun r=>Pu.ig 10 9 10 r:=by
 have fin: ∀h,Pu.Ok (a7.J2 k h b x3 x4) fun r=>Pu.ig 10 9 10 r:=fun h=>by
  rw[a7.mf]
  refine Pu.Ok.bnd (bX.ok (by omega) hb (by omega) (by omega)) ?_
  rintro⟨⟨o,q⟩,_,i',h'⟩ ⟨c1,c2,c3⟩
  exact Pu.Ok.ret c1
 intro m
 induction m with
 |zero=>
  intro j i h hi hj
  obtain⟨j,rfl⟩: ∃j',j=j'+1:=⟨j-1,by omega⟩
  rw[a7.bq]
  simp only[gV,gH,dV,eQ,eP,dq,dn,dR,gF,eG,eN,cR,cS,eO,cJ,ez,dW,eX,gJ,gW,eI,eM,dz,dx,di,cH,List.nil_append,List.cons_append]
  exact Pu.Ok.no (by omega) (fin h)
 |succ m ih=>
  intro j i h hi hj
  obtain⟨j,rfl⟩: ∃j',j=j'+1:=⟨j-1,by omega⟩
  have hw:IntKind.i64.wrap ((i:Int)+1)=((i+1:Nat):Int):=Pu.w64 (by omega) (by omega)
  rw[a7.bq]
  simp only[gV,gH,dV,eQ,eP,dq,dn,dR,gF,eG,eN,cR,cS,eO,cJ,ez,dW,eX,gJ,gW,eI,eM,dz,dx,di,cH,List.nil_append,List.cons_append]
  refine Pu.Ok.g (by omega) (Pu.Ok.t (fun _=> ?_) (fun _=>fin h))
  rw[a7.ep]
  simp only[gV,gH,dV,eQ,eP,dq,dn,dR,gF,eG,eN,cR,cS,eO,cJ,ez,dW,eX,gJ,gW,eI,eM,dz,dx,di,cH,List.nil_append,List.cons_append]
  rw[hw]
  refine Pu.Ok.g (by omega) (Pu.Ok.g (by omega) (Pu.Ok.g (by omega) ?_))
  exact ih j (i+1) _ (by omega) (by omega)
theorem a7.ok{k:Nat}{b:List Int}(hk:4194304+110≤k)(hb:b.length≤1048576):Pu.Ok (a7 k b) fun r=>Pu.ig 10 9 10 r:=by
 obtain⟨k,rfl⟩: ∃k',k=k'+2:=⟨k-2,by omega⟩
 rw[a7.eq]
 exact a7.CK (by omega) hb b.length k 0 _ (by omega) (by omega)
theorem cY.is{k:Nat}{x lo hi:Int}(hk:1≤k):cY k x lo hi=some (Pu.within x lo hi):=by
 obtain⟨k,rfl⟩: ∃k',k=k'+1:=⟨k-1,by omega⟩
 rw[cY.eq]
 by_cases h:lo≤x<;>simp[Pu.within,h]
theorem aP.loop{k:Nat}{p:List Int}(hk:4194304≤k)(hp:p.length≤1048576): ∀(m j i:Nat) (s v:Int),i+m=p.length→m<j→(i=0→v=9)→(0<i→v=p.getD (i-1) 0)→v≤9→0≤s→s≤9→
  aP.L0 k j s p.length i p=some (Pu.gB (p.drop i) v s)
 |m,0,i,s,v,_,hj,_,_,_,_,_=>by omega
 |0,j+1,i,s,v,hi,_,_,_,_,_,_=>by
  rw[aP.bq]
  have e:i=p.length:=by omega
  subst e
  simp[Pu.gB]
 |m+1,j+1,i,s,v,hi,hj,h0,h1,hv,hs,hs9=>by
  rw[aP.bq]
  have hlt:i<p.length:=by omega
  have hj1: ∀x:Int,x=p.getD i 0→1≤x→x≤v→aP.J1 k j s x p.length i p=some (decide (s+x≤9)&&Pu.gB (p.drop (i+1)) x (s+x)):=by
   intro x hx hx1 hx2
   rw[aP.ep]
   simp (disch:=omega) only[↓ak,sss,if_true,if_false]
   by_cases c:9<s+x
   ·have: ¬s+x≤9:=by omega
    simp[c,this]
   ·have c':s+x≤9:=by omega
    have ih:=aP.loop hk hp m j (i+1) (s+x) x (by omega) (by omega) (by omega) (by simp[hx]) (by omega) (by omega) c'
    rw[Int.natCast_succ]at ih
    simp[c,c',ih]
  rw[Pu.drop_cons hlt 0]
  simp (disch:=omega) only[↓ak,sss,if_true,if_false,hlt,cY.is,Pu.gB]
  generalize hx:p.getD i 0=x at*
  unfold Pu.within
  by_cases c1:1≤x
  ·by_cases c2:x≤v
   ·have c3:x≤9:=by omega
    have hj:=hj1 x rfl c1 c2
    by_cases hi0:i=0
    ·have hpos: ¬(0:Int)<i:=by omega
     simp (disch:=omega) only[↓ak,sss,if_true,if_false,c1,c2,c3,hpos,hj]
    ·have hv':=h1 (by omega)
     have e:((i:Int)-1)=((i-1:Nat):Int):=by omega
     have hlt':i-1<p.length:=by omega
     have hge: ¬p.getD (i-1) 0<x:=by rw[←hv'];omega
     have hpos:(0:Int)<i:=by omega
     simp (disch:=omega) only[e,↓ak,sss,if_true,if_false,hlt',c1,c2,c3,hj,hpos,hge]
   ·simp only[c1,c2,↓ak,sss,if_true,if_false]
    by_cases c3:x≤9
    ·have hi0:0<i:=by
      rcases Nat.eq_zero_or_pos i with h|h
      ·have:=h0 h;omega
      ·exact h
     have hv':=h1 hi0
     have e:((i:Int)-1)=((i-1:Nat):Int):=by omega
     have hlt':i-1<p.length:=by omega
     have hge:p.getD (i-1) 0<x:=by rw[←hv'];omega
     have hpos:(0:Int)<i:=by omega
     simp (disch:=omega) only[e,↓ak,sss,if_true,if_false,hlt',c3,hpos,hge]
    ·simp only[c3,↓ak,sss,if_true,if_false]
  ·simp only[c1,↓ak,sss,if_true,if_false]
theorem aP.is{k:Nat}{p:List Int}(hk:4194304+1≤k)(hp:p.length≤1048576):aP k p=some (Pu.bm p):=by
 obtain⟨k,rfl⟩: ∃k',k=k'+1:=⟨k-1,by omega⟩
 rw[aP.eq]
 exact aP.loop (k:=k) (by omega) hp p.length k 0 0 9 (by omega) (by omega) (fun _=>rfl) (by omega) (by omega) (by omega) (by omega)
theorem bg.is{k:Nat}{a:List Int}(hk:1≤k)(ha:a.length≤1099511627776):bg k a=some a:=by
 obtain⟨k,rfl⟩: ∃k',k=k'+1:=⟨k-1,by omega⟩
 rw[bg.eq]
 by_cases h:a.length=0
 ·have:a= []:=List.eq_nil_of_length_eq_zero h
  subst this
  simp[Gr,DU]
 ·simp[h,ha]
theorem eH.is{k:Nat}{p:List Int}{i:Int}(hk:2≤k)(hp:p.length≤1048576):eH k p i=some (Pu.atI p i):=by
 obtain⟨k,rfl⟩: ∃k',k=k'+1:=⟨k-1,by omega⟩
 rw[eH.eq,cY.is (by omega)]
 unfold Pu.within
 by_cases h1:0≤i
 ·have h0: ¬i<0:=by omega
  by_cases h2:i≤(p.length:Int)-1
  ·have h4:i.toNat<p.length:=by omega
   simp (disch:=omega) only[↓ak,sss,if_true,if_false,h0,h1,h2,h4,Pu.atI]
  ·simp (disch:=omega) only[↓ak,sss,if_true,if_false,h1,h2,Pu.B7 (p:=p) (i:=i) (by omega)]
 ·simp (disch:=omega) only[↓ak,sss,if_true,if_false,h1,Pu.mG (p:=p) (i:=i) (by omega)]
theorem bY.loop{k:Nat}{q p:List Int}(hq:q.length≤1048576)(hp:p.length≤1048576)(hk:4194304+2≤k):bY.L1 k k q.length 0 p q=some ((List.range' 0 q.length).all fun i=>decide (q.getD i 0≤p.getD i 0)):=by
 have h:=Pu.lO (fun j i=>bY.L1 k j q.length (i:Int) p q) q.length (fun i=>decide (q.getD i 0≤p.getD i 0)) (some false) (some true)
  (fun j i hi=>by
   rw[bY.eA,eH.is (by omega) hp,Pu.ca]
   simp (disch:=omega) only[↓ak,sss,if_true,if_false,hi,Int.natCast_add,Int.natCast_one]
   by_cases c:q.getD i 0≤p.getD i 0
   ·have c': ¬p.getD i 0<q.getD i 0:=by omega
    simp only[c,c',↓ak,sss,if_true,if_false]
   ·have c':p.getD i 0<q.getD i 0:=by omega
    simp only[c,c',↓ak,sss,if_true,if_false])
  (fun j=>by
   rw[bY.eA]
   simp only[↓ak,sss,if_true,if_false,Nat.lt_irrefl]) q.length k 0 (by omega) (by omega)
 simp only[Int.natCast_zero]at h
 rw[h]
 cases(List.range' 0 q.length).all fun i=>decide (q.getD i 0≤p.getD i 0)<;>simp
theorem bY.is{k:Nat}{q p:List Int}(hk:4194304+3≤k)(hq:q.length≤1048576)(hp:p.length≤1048576):bY k q p=some (Pu.ct q p):=by
 obtain⟨k,rfl⟩: ∃k',k=k'+1:=⟨k-1,by omega⟩
 rw[bY.eq,aP.is (by omega) hq,aX,bY.fm,Pu.nx]
 cases c1:Pu.bm q with
 |false=>simp only[↓ak,sss,if_true,if_false]
 |true=>
  simp only[↓ak,sss,if_true,if_false]
  rw[aP.is (by omega) hp,aX]
  cases c2:Pu.bm p with
  |false=>simp only[↓ak,sss,if_true,if_false]
  |true=>
   simp only[↓ak,sss,if_true,if_false]
   exact bY.loop hq hp (by omega)
theorem iT.is{k:Nat}{s:List Int×List Int}(hk:4194304+4≤k)(hq:s.1.length≤1048576)(hp:s.2.length≤1048576):iT k s=some (Pu.ct s.2 s.1):=by
 obtain⟨k,rfl⟩: ∃k',k=k'+1:=⟨k-1,by omega⟩
 rw[iT.eq,bY.is (by omega) hp hq]
 rfl
theorem b7.loop{k:Nat}{t:Pu.Tab}{x3 x4:List Int}(hk:4194304+4≤k)(hi:Pu.bm t.1=true)(h2:t.2.length≤1048576)(hr: ∀x∈t.2,x.length≤1048576): ∀(m j i:Nat) (acc:List Int),i+m=t.2.length→m<j→acc.length=i→
  b7.L1 k j t.2.length i t.2 t.1 x3 x4 acc t.1=some (if Pu.ct t.1 (acc++Pu.fZ t.1 i (t.2.drop i))=true then((acc++Pu.fZ t.1 i (t.2.drop i),t.1),true)else(([],[]),false))
 |m,0,i,acc,_,hj,_=>by omega
 |0,j+1,i,acc,hm,_,hacc=>by
  rw[b7.eA]
  have e:i=t.2.length:=by omega
  have h9:=(Pu.aY hi).2.2.1
  have hlt: ¬i<t.2.length:=by omega
  rw[iT.is (by omega) (by simp only;omega) (by simp only;omega),e]
  simp only[↓ak,sss,if_true,if_false,Nat.lt_irrefl,List.drop_length,Pu.fZ,List.append_nil]
  cases Pu.ct t.1 acc<;>simp
 |m+1,j+1,i,acc,hm,hj,hacc=>by
  rw[b7.eA]
  have hlt:i<t.2.length:=by omega
  have hb:=Pu.cQ hi i
  have h9:=(Pu.aY hi).2.2.1
  have hrow:=hr t.2[i] (List.getElem_mem hlt)
  rw[←Pu.al hlt []]at hrow
  rw[eH.is (by omega) (by omega)]
  have ih:=b7.loop (x3:=x3) (x4:=x4) hk hi h2 hr m j (i+1) (acc++ [Pu.atI t.1 i+(t.2.getD i []).length]) (by omega) (by omega) (by simp[hacc])
  rw[Int.natCast_succ]at ih
  rw[Pu.drop_cons hlt []]
  have hl:(acc++ [Pu.atI t.1 i+((t.2.getD i []).length:Int)]).length≤1099511627776:=by simp;omega
  simp (disch:=omega) only[↓ak,sss,if_true,if_false,hlt,hl,ih,Pu.fZ]
  simp only[List.append_assoc,List.singleton_append,Pu.ca]
  rfl
theorem b7.is{k:Nat}{t:Pu.Tab}(hk:4194304+5≤k)(h1:t.1.length≤1048576)(h2:t.2.length≤1048576)(hr: ∀x∈t.2,x.length≤1048576):b7 k t=some (Pu.shapeOf t):=by
 obtain⟨k,rfl⟩: ∃k',k=k'+1:=⟨k-1,by omega⟩
 rw[b7.eq,aP.is (by omega) h1,b7.fm,bg.is (by omega) (by omega)]
 simp only[↓ak,sss,if_true,if_false]
 unfold Pu.shapeOf
 cases c1:Pu.bm t.1 with
 |false=>
  have:Pu.dA t=false:=by unfold Pu.dA;rw[c1];rfl
  simp only[this,↓ak,sss,if_true,if_false]
 |true=>
  by_cases c2:t.2.length<t.1.length
  ·have:Pu.dA t=false:=by
    have: ¬t.1.length≤t.2.length:=by omega
    unfold Pu.dA;simp[this]
   simp only[this,c2,↓ak,sss,if_true,if_false]
  ·have c2':t.1.length≤t.2.length:=by omega
   have hloop:=b7.loop (k:=k) (t:=t) (x3:= []) (x4:= []) (by omega) c1 h2 hr t.2.length k 0 [] (by omega) (by omega) rfl
   rw[Int.natCast_zero]at hloop
   simp only[c2,↓ak,sss,if_true,if_false]
   rw[hloop]
   have:Pu.dA t=Pu.ct t.1 (Pu.outer t):=by unfold Pu.dA;simp[c1,c2']
   rw[this]
   rfl
theorem dT.is{k:Nat}{t:Pu.Tab}{r c:Int}(hk:3≤k)(hi:Pu.bm t.1=true)(ht:t.2.length≤1048576)(hr: ∀x∈t.2,x.length≤1048576)(h1: -1000000000≤c)(h2:c≤1000000000):dT k t r c=some (Pu.entry t r c):=by
 obtain⟨k,rfl⟩: ∃k',k=k'+1:=⟨k-1,by omega⟩
 have hb:=Pu.cQ hi r
 have h9:=(Pu.aY hi).2.2.1
 rw[dT.eq,cY.is (by omega)]
 unfold Pu.entry Pu.within
 by_cases c1:r<0
 ·have c1': ¬0≤r:=by omega
  simp (disch:=omega) only[↓ak,sss,if_true,if_false,c1,c1']
 ·have c3:0≤r:=by omega
  by_cases c2:(t.2.length:Int)≤r
  ·have c2': ¬r≤(t.2.length:Int)-1:=by omega
   simp (disch:=omega) only[↓ak,sss,if_true,if_false,c1,c3,c2,c2']
  ·have c2':r≤(t.2.length:Int)-1:=by omega
   have c4:r.toNat<t.2.length:=by omega
   have hx:=hr _ (List.getElem_mem c4)
   rw[←Pu.al c4 []]at hx
   simp (disch:=omega) only[↓ak,sss,if_true,if_false,c1,c2,c2',c3,c4,eH.is]
theorem aG.inner{k k1:Nat}{t:Pu.Tab}{r:Nat}(hk:4194304≤k)(hi:Pu.bm t.1=true)(ht:t.2.length≤1048576)(hr: ∀x∈t.2,x.length≤1048576)(hlt:r<t.2.length)(n:Int):
  aG.L1 k k1 k r r n r r (t.2.getD r []).length 0 t.2 t.1=if((List.range' 0 (t.2.getD r []).length).all fun q=>Pu.fQ t r q)=true then aG.L0 k k1 n ((r:Int)+1) t.2 t.1 else some false:=by
 have hx:=hr _ (List.getElem_mem hlt)
 rw[←Pu.al hlt []]at hx
 have hb:=Pu.cQ hi r
 have h9:=(Pu.aY hi).2.2.1
 have h:=Pu.lO (fun j q=>aG.L1 k k1 j r r n r r (t.2.getD r []).length (q:Int) t.2 t.1) (t.2.getD r []).length (fun q=>Pu.fQ t r q) (some false) (aG.L0 k k1 n ((r:Int)+1) t.2 t.1)
  (fun j q hq=>by
   have e3:=dT.is (k:=k) (t:=t) (r:=(r:Int)-1) (c:=t.1.getD r 0+q) (by omega) hi ht hr (by rw[Pu.ca]at hb;omega) (by rw[Pu.ca]at hb;omega)
   have ea:=eH.is (k:=k) (p:=t.1) (i:=r) (by omega) (by omega)
   rw[Pu.ca]at ea
   rw[Pu.ca]at hb
   rw[aG.eA]
   simp (maxSteps:=10000000) (disch:=omega) only[↓ak,sss,if_true,if_false,hlt,hq,cY.is,ea,e3,aG.mf,Int.natCast_add,Int.natCast_one]
   unfold Pu.fQ
   generalize hx0:(t.2.getD r []).getD q 0=x at*
   cases Pu.within x 1 9 with
   |false=>simp
   |true=>
    have up:(if(0:Int)<r then(if x≤Pu.entry t ((r:Int)-1) (t.1.getD r 0+q)then some false else aG.L1 k k1 j r r n r r (t.2.getD r []).length ((q:Int)+1) t.2 t.1)else aG.L1 k k1 j r r n r r (t.2.getD r []).length ((q:Int)+1) t.2 t.1)=
      if(decide (r=0)||decide (Pu.entry t ((r:Int)-1) (t.1.getD r 0+q)<x))=true then aG.L1 k k1 j r r n r r (t.2.getD r []).length ((q:Int)+1) t.2 t.1 else some false:=by
     by_cases e:r=0
     ·subst e;simp
     ·have e':(0:Int)<r:=by omega
      by_cases c:x≤Pu.entry t ((r:Int)-1) (t.1.getD r 0+q)
      ·have c': ¬Pu.entry t ((r:Int)-1) (t.1.getD r 0+q)<x:=by omega
       simp only[e',c,c',e,if_true,if_false,decide_false,Bool.or_false,Bool.false_eq_true]
      ·have c':Pu.entry t ((r:Int)-1) (t.1.getD r 0+q)<x:=by omega
       simp only[e',c,c',e,if_true,if_false,decide_true,decide_false,Bool.false_or]
    by_cases e:q=0
    ·have e': ¬(0:Int)<q:=by omega
     simp only[e',e,↓ak,sss,if_true,if_false,Bool.true_or]
     rw[e]at up
     exact up
    ·have e':(0:Int)<q:=by omega
     have eq:(q:Int)-1=((q-1:Nat):Int):=by omega
     have hq':q-1<(t.2.getD r []).length:=by omega
     simp (disch:=omega) only[e',e,↓ak,sss,if_true,if_false,eq,hq',Bool.false_or]
     by_cases c:x<(t.2.getD r []).getD (q-1) 0
     ·have c': ¬(t.2.getD r []).getD (q-1) 0≤x:=by omega
      simp only[c,c',↓ak,sss,if_true,if_false]
     ·have c':(t.2.getD r []).getD (q-1) 0≤x:=by omega
      simp only[c,c',↓ak,sss,if_true,if_false]
      exact up)
  (fun j=>by
   rw[aG.eA]
   simp (maxSteps:=10000000) (disch:=omega) only[↓ak,sss,if_true,if_false,Nat.lt_irrefl]) (t.2.getD r []).length k 0 (by omega) (by omega)
 simp only[Int.natCast_zero]at h
 exact h
theorem aG.is{k:Nat}{t:Pu.Tab}(hk:4194304+6≤k)(h1:t.1.length≤1048576)(ht:t.2.length≤1048576)(hr: ∀x∈t.2,x.length≤1048576):aG k t=some (Pu.dM t):=by
 obtain⟨k,rfl⟩: ∃k',k=k'+1:=⟨k-1,by omega⟩
 rw[aG.eq,b7.is (by omega) h1 ht hr,aX]
 unfold Pu.dM Pu.shapeOf
 cases hs:Pu.dA t with
 |false=>simp[hs]
 |true=>
  have hi:Pu.bm t.1=true:=by
   simp only[Pu.dA,Bool.and_eq_true]at hs;exact hs.1
  have h:=Pu.lO (fun j r=>aG.L0 k j t.2.length r t.2 t.1) t.2.length (fun r=>(List.range' 0 (t.2.getD r []).length).all fun q=>Pu.fQ t r q) (some false) (some true)
   (fun j r hlt=>by
    rw[aG.bq]
    simp (disch:=omega) only[↓ak,sss,if_true,if_false,hlt,aG.inner (k1:=j) (show 4194304≤k by omega) hi ht hr hlt,Int.natCast_add,Int.natCast_one])
   (fun j=>by
    rw[aG.bq]
    simp (disch:=omega) only[↓ak,sss,if_true,if_false,Nat.lt_irrefl]) t.2.length k 0 (by omega) (by omega)
  simp only[Int.natCast_zero]at h
  simp only[if_true,↓ak,sss,if_true,if_false]
  rw[h]
  cases(List.range' 0 t.2.length).all fun r=>(List.range' 0 (t.2.getD r []).length).all fun q=>Pu.fQ t r q<;>simp
theorem iR.is{k:Nat}{t:Pu.Tab}(hk:4194304+7≤k)(h1:t.1.length≤1048576)(ht:t.2.length≤1048576)(hr: ∀x∈t.2,x.length≤1048576):iR k t=some (Pu.aL t):=by
 obtain⟨k,rfl⟩: ∃k',k=k'+1:=⟨k-1,by omega⟩
 rw[iR.eq,aG.is (by omega) h1 ht hr,aX]
 unfold Pu.aL
 by_cases h:t.1.length=0<;>simp[h]
theorem ai.app{k:Nat}{a:List (List Int)}(ha:a.length≤1048576)(hf:a.flatten.length≤1099511627776): ∀(m j i:Nat),i+m=a.length→m<j→
  ai.L4 k j a.length i (a.take i).flatten a=some a.flatten
 |m,0,i,_,hj=>by omega
 |0,j+1,i,hm,_=>by
  rw[ai.zP]
  have e:i=a.length:=by omega
  subst e
  simp
 |m+1,j+1,i,hm,hj=>by
  rw[ai.zP]
  have hlt:i<a.length:=by omega
  have ih:=ai.app (k:=k) ha hf m j (i+1) (by omega) (by omega)
  rw[Int.natCast_succ,Pu.take_succ hlt []]at ih
  have hl:((a.take i).flatten++a.getD i []).length≤1099511627776:=by
   refine Nat.le_trans ?_ hf
   have e:a.flatten=(a.take i).flatten++(a.drop i).flatten:=by rw[←List.flatten_append,List.take_append_drop]
   rw[e,Pu.drop_cons hlt []]
   simp only[List.flatten_cons,List.length_append]
   omega
  simp only[List.flatten_append,List.flatten_cons,List.flatten_nil,List.append_nil]at ih
  simp (disch:=omega) only[↓ak,sss,if_true,if_false,hlt,hl,ih]
theorem ai.tail{k:Nat}{a:List (List Int)}{y:List Int}(hk:4194304≤k)(ha:a.length≤1048576)(hf:a.flatten.length≤1099511627776):ai.L3 k (HAdd.hAdd k 1) 0 0 a.length 0 y a=some a.flatten:=by
 rw[ai.CE]
 by_cases h0:a.length=0
 ·have:a= []:=List.eq_nil_of_length_eq_zero h0
  subst this
  simp
 ·have hlt:0<a.length:=by omega
  have h:=ai.app (k:=k) ha hf (a.length-1) k 1 (by omega) (by omega)
  have e:(a.take 1).flatten=a.getD 0 []:=by rw[Pu.take_succ hlt []];simp
  rw[e]at h
  have hl:(a.getD 0 []).length≤1099511627776:=by
   refine Nat.le_trans ?_ hf
   have e2:a.flatten=(a.take 1).flatten++(a.drop 1).flatten:=by rw[←List.flatten_append,List.take_append_drop]
   rw[e2,e]
   simp
  have hlt':(0:Int)<a.length:=by omega
  simp (disch:=omega) only[↓ak,sss,if_true,if_false,hlt,hlt',hl,List.take_zero,List.nil_append,Int.toNat_zero,Int.zero_add]
  simpa using h
theorem ai.loop{k:Nat}{a:List (List Int)}(hk:4194304≤k)(ha:a.length≤1048576)(hf:a.flatten.length≤1099511627776): ∀(m j i:Nat),i+m=a.length→m<j→
  ai.L0 k j (a.take i).flatten.length a.length i a=some a.flatten
 |m,0,i,_,hj=>by omega
 |0,j+1,i,hm,_=>by
  rw[ai.bq,ai.mf]
  have e:i=a.length:=by omega
  subst e
  rw[List.take_length]
  have hn: ¬((a.flatten.length:Nat):Int)<0:=by omega
  simp (disch:=omega) only[↓ak,sss,if_true,if_false,Nat.lt_irrefl,hn,Int.sub_zero,Int.sub_self]
  by_cases h0:a.flatten.length=0
  ·have h0': ¬(0:Int)<(a.flatten.length:Nat):=by omega
   have h:=ai.app (k:=k) ha hf a.length (k+1) 0 (by omega) (by omega)
   simp only[h0',↓ak,sss,if_true,if_false]
   simpa using h
  ·have h0':(0:Int)<(a.flatten.length:Nat):=by omega
   have h1:(1:Int)≤(a.flatten.length:Nat):=by omega
   simp (disch:=omega) only[h0',h1,hf,↓ak,sss,if_true,if_false,Int.toNat_zero,Nat.le_refl,Int.le_refl,List.length_replicate,Nat.zero_le,cH,Nat.sub_self]
   exact ai.tail hk ha hf
 |m+1,j+1,i,hm,hj=>by
  rw[ai.bq]
  have hlt:i<a.length:=by omega
  have ih:=ai.loop (k:=k) hk ha hf m j (i+1) (by omega) (by omega)
  rw[Int.natCast_succ,Pu.take_succ hlt []]at ih
  have hl:((a.take i).flatten++a.getD i []).length≤1099511627776:=by
   refine Nat.le_trans ?_ hf
   have e:a.flatten=(a.take i).flatten++(a.drop i).flatten:=by rw[←List.flatten_append,List.take_append_drop]
   rw[e,Pu.drop_cons hlt []]
   simp only[List.flatten_cons,List.length_append]
   omega
  simp only[List.flatten_append,List.flatten_cons,List.flatten_nil,List.append_nil,List.length_append,Int.natCast_add]at ih hl
  have hn: ¬(((a.take i).flatten.length:Int)+(a.getD i []).length<0):=by omega
  simp (disch:=omega) only[↓ak,sss,if_true,if_false,hlt,hn,ai.ep,ih]
theorem ai.is{k:Nat}{a:List (List Int)}(hk:4194304+2≤k)(ha:a.length≤1048576)(hf:a.flatten.length≤1099511627776):ai k a=some a.flatten:=by
 obtain⟨k,rfl⟩: ∃k',k=k'+2:=⟨k-2,by omega⟩
 rw[ai.eq]
 exact ai.loop (k:=k) (by omega) ha hf a.length (k+1) 0 (by omega) (by omega)
theorem bN.is{k:Nat}{r:List Int}{x:Int}(hk:4194304+1≤k)(hr:r.length≤1048577):bN k r x=some (Pu.yK (fun y=>decide (x=y)) r):=by
 obtain⟨k,rfl⟩: ∃k',k=k'+1:=⟨k-1,by omega⟩
 rw[bN.eq]
 have h:=Pu.wa r 0 (fun y=>decide (x=y)) (fun j i=>bN.L0 k j x r.length i r) (fun i=>some (i:Int)) (some (-1))
  (fun j i hi=>by
   rw[bN.bq]
   by_cases c:x=r.getD i 0
   ·simp (disch:=omega) only[↓ak,sss,if_true,if_false,hi,←c]
   ·simp (disch:=omega) only[↓ak,sss,if_true,if_false,hi,c,Int.natCast_add,Int.natCast_one])
  (fun j=>by
   rw[bN.bq]
   simp only[↓ak,sss,if_true,if_false,Nat.lt_irrefl]) r.length k 0 (by omega) (by omega) (by omega)
 simp only[Int.natCast_zero]at h
 simp only[dn,dq]
 rw[h]
 unfold Pu.yK
 split<;>rfl
theorem bK.is{k:Nat}{r:List Int}{x:Int}(hk:4194304+2≤k)(hr:r.length≤1048577):bK k r x=some (Pu.has r x):=by
 obtain⟨k,rfl⟩: ∃k',k=k'+1:=⟨k-1,by omega⟩
 rw[bK.eq,bN.is (by omega) hr,aX,gH,Pu.D5]
 rfl
theorem dF.is{k:Nat}{l:List Int}(hk:4194304+3≤k)(hl:l.length≤1048576):dF k l=some (Pu.jN l):=by
 obtain⟨k,rfl⟩: ∃k',k=k'+1:=⟨k-1,by omega⟩
 rw[dF.eq]
 have h:=Pu.lO (fun j i=>dF.L0 k j ((i:Int)+1) l) l.length (fun i=>Pu.has l ((i:Int)+1)) (some false) (some true)
  (fun j i hi=>by
   rw[dF.bq,bK.is (by omega) (by omega)]
   have c:(i:Int)+1≤l.length:=by omega
   cases hh:Pu.has l ((i:Int)+1)<;>simp (disch:=omega) only[↓ak,sss,if_true,if_false,c,hh,Int.natCast_add,Int.natCast_one])
  (fun j=>by
   rw[dF.bq]
   have c: ¬(l.length:Int)+1≤l.length:=by omega
   simp only[↓ak,sss,if_true,if_false,c]) l.length k 0 (by omega) (by omega)
 simp only[Int.natCast_zero,Int.zero_add]at h
 rw[h]
 unfold Pu.jN
 cases(List.range' 0 l.length).all fun i=>Pu.has l ((i:Int)+1)<;>simp
theorem dH.is{k:Nat}{t:Pu.Tab}(hk:4194304+7≤k)(h1:t.1.length≤1048576)(ht:t.2.length≤1048576)(hr: ∀x∈t.2,x.length≤1048576):dH k t=some (Pu.cw t):=by
 obtain⟨k,rfl⟩: ∃k',k=k'+1:=⟨k-1,by omega⟩
 rw[dH.eq,aG.is (by omega) h1 ht hr,aX]
 unfold Pu.cw
 cases hi:Pu.dM t with
 |false=>simp
 |true=>
  have h9:=Pu.Ar hi
  simp only[↓ak,sss,if_true,if_false]
  rw[ai.is (by omega) ht (by omega),aX,dF.is (by omega) (by omega)]
  rfl
theorem cd.is{k:Nat}{t:Pu.Tab}(hk:4194304+10≤k)(h1:t.1.length≤1048576)(ht:t.2.length≤1048576)(hr: ∀x∈t.2,x.length≤1048576):cd k t=some (Pu.aL t&&Pu.cw t):=by
 obtain⟨k,rfl⟩: ∃k',k=k'+1:=⟨k-1,by omega⟩
 rw[cd.eq,show((t.1,t.2):Pu.Tab)=t from rfl,iR.is (by omega) h1 ht hr,dH.is (by omega) h1 ht hr,aX,aX]
 cases Pu.aL t<;>simp
theorem bL.loop{k:Nat}{rs:List (List Int)}(h9:Pu.cj 1048576 1048576 rs): ∀(m j:Nat) (w:List Int),m≤rs.length→m<j→w.length+Pu.kC (rs.take m)≤1099511627776→bL.L0 k j ((m:Int)-1) rs w=some (w++(rs.take m).reverse.flatten)
 |m,0,w,_,hj,_=>by omega
 |0,j+1,w,_,_,_=>by
  rw[bL.bq]
  have hn: ¬(0:Int)≤((0:Nat):Int)-1:=by omega
  simp only[↓ak,sss,if_true,if_false,hn]
  simp
 |m+1,j+1,w,hm,hj,hs=>by
  rw[bL.bq]
  have e:(((m+1:Nat):Int)-1)=(m:Int):=by omega
  have hlt:m<rs.length:=by omega
  have ht:=Pu.take_succ hlt []
  have hsz: ∀(a b:List (List Int)),Pu.kC (a++b)=Pu.kC a+Pu.kC b:=by
   intro a b
   induction a with
   |nil=>simp[Pu.kC]
   |cons x a ih=>simp only[List.cons_append,Pu.kC,ih];omega
  rw[ht,hsz]at hs
  simp only[Pu.kC]at hs
  have hl:(w++rs.getD m []).length≤1099511627776:=by rw[List.length_append];omega
  have h0:(0:Int)≤(m:Int):=by omega
  have ih:=bL.loop (k:=k) h9 m j (w++rs.getD m []) (by omega) (by omega) (by rw[List.length_append];omega)
  have hb:=h9.1
  rw[e]
  simp (disch:=omega) only[↓ak,sss,if_true,if_false,h0,hlt,hl,ih]
  rw[ht,List.reverse_append,List.flatten_append]
  simp
theorem bL.is{k:Nat}{t:Pu.Tab}(hk:4194304+10≤k)(h1:t.1.length≤1048576)(ht:t.2.length≤1048576)(hr: ∀x∈t.2,x.length≤1048576):bL k t=some (if Pu.dM t=true then t.2.reverse.flatten else []):=by
 obtain⟨k,rfl⟩: ∃k',k=k'+1:=⟨k-1,by omega⟩
 rw[bL.eq,show((t.1,t.2):Pu.Tab)=t from rfl,aG.is (by omega) h1 ht hr,aX]
 cases hb:Pu.dM t with
 |false=>simp
 |true=>
  have hs:=Pu.xT ht hr
  have hl:=bL.loop (k:=k) (rs:=t.2) ⟨ht,hr⟩ t.2.length k [] (Nat.le_refl _) (by omega) (by rw[List.take_length];simpa using hs)
  rw[List.take_length]at hl
  simp (disch:=omega) only[↓ak,sss,if_true,if_false,hl,List.nil_append]
theorem bB.loop{k:Nat}{t:Pu.Tab}{x3 x4:List Int}{x5:List (List Int)}(hk:1≤k)(ht:t.2.length≤1048576)(hr: ∀x∈t.2,x.length≤1048576): ∀(m j i:Nat),i+m=t.2.length→m<j→
  bB.L0 k j t.2.length i t.2 x3 x5 x4 (t.2.take i)=some (x4,t.2)
 |m,0,i,_,hj=>by omega
 |0,j+1,i,hm,_=>by
  rw[bB.bq]
  have e:i=t.2.length:=by omega
  subst e
  simp
 |m+1,j+1,i,hm,hj=>by
  rw[bB.bq]
  have hlt:i<t.2.length:=by omega
  have hx:=hr _ (List.getElem_mem hlt)
  rw[←Pu.al hlt []]at hx
  have ih:=bB.loop (k:=k) (x3:=x3) (x4:=x4) (x5:=x5) hk ht hr m j (i+1) (by omega) (by omega)
  rw[Int.natCast_succ,Pu.take_succ hlt []]at ih
  have hl:(t.2.take i++ [t.2.getD i []]).length≤1099511627776:=by simp;omega
  simp (disch:=omega) only[↓ak,sss,if_true,if_false,hlt,hl,bg.is,ih]
theorem bB.is{k:Nat}{t:Pu.Tab}(hk:4194304+1≤k)(h1:t.1.length≤1048576)(ht:t.2.length≤1048576)(hr: ∀x∈t.2,x.length≤1048576):bB k t=some t:=by
 obtain⟨k,rfl⟩: ∃k',k=k'+1:=⟨k-1,by omega⟩
 rw[bB.eq,bg.is (by omega) (by omega)]
 have h:=bB.loop (k:=k) (t:=t) (x3:= []) (x4:=t.1) (x5:= []) (by omega) ht hr t.2.length k 0 (by omega) (by omega)
 rw[Int.natCast_zero,List.take_zero]at h
 exact h
theorem bV.loop{k:Nat}{p:List Int}(hk:2≤k)(hp:p.length≤1000000): ∀(m j i:Nat) (acc:List Int),i+m=p.length→m<j→acc.length≤i→bV.L0 k j p.length i p acc=some (acc++Pu.ni p m i)
 |m,0,i,acc,_,hj,_=>by omega
 |0,j+1,i,acc,hi,_,ha=>by
  rw[bV.bq]
  have hn: ¬((i:Int)<(p.length:Int)):=by omega
  simp only[↓ak,sss,if_true,if_false,hn,Pu.ni,List.append_nil]
 |m+1,j+1,i,acc,hi,hj,ha=>by
  rw[bV.bq]
  have h1:i<p.length:=by omega
  have e:(i:Int)+1=((i+1:Nat):Int):=by omega
  have ih:=fun acc h=>bV.loop hk hp m j (i+1) acc (by omega) (by omega) h
  have hl:(acc++ [(i:Int)]).length≤1099511627776:=by rw[List.length_append,List.length_singleton];omega
  have h2:=ih (acc++ [(i:Int)]) (by rw[List.length_append,List.length_singleton];omega)
  have h3:=ih acc (by omega)
  have ea:eH k p ((i:Int)+1)=some (p.getD (i+1) 0):=by rw[eH.is (by omega) (by omega),e,Pu.ca]
  rw[←e]at h2 h3
  unfold Pu.ni
  by_cases c:p.getD (i+1) 0<p.getD i 0
  ·simp (disch:=omega) only[↓ak,sss,if_true,if_false,h1,ea,c,hl,bV.ep,h2,List.append_assoc,List.cons_append,List.nil_append]
  ·simp (disch:=omega) only[↓ak,sss,if_true,if_false,h1,ea,c,bV.ep,h3]
theorem bV.is{k:Nat}{p:List Int}(hk:4194304+3≤k)(hp:p.length≤1000000):bV k p=some (Pu.nF p):=by
 obtain⟨k,rfl⟩: ∃k',k=k'+1:=⟨k-1,by omega⟩
 rw[bV.eq,aP.is (by omega) (by omega),aX]
 unfold Pu.nF
 have h:=bV.loop (k:=k) (p:=p) (by omega) hp p.length k 0 [] (by omega) (by omega) (by simp)
 rw[Int.natCast_zero,List.nil_append]at h
 cases hb:Pu.bm p with
 |true=>simp only[↓ak,sss,if_true,if_false,h]
 |false=>simp only[↓ak,sss,if_true,if_false]
theorem aW.stay{k j:Nat}{x0:Int}{x1:Bool}{x2:Int}{x3 x4:Bool}{x5:Int}{x6:Nat}{x7 x8:Int}{x9:Nat}{y x11 x12 x13:List Int}(hl:y.length≤9)(h0:0<y.length)(h: ¬y.getD (y.length-1) 0=0):
  aW.L0 k (j+1) x0 x1 x2 x3 x4 x5 x6 x7 x8 x9 y x11 x12 x13=some (y,true):=by
 rw[aW.bq]
 have p0:(0:Int)<y.length:=by omega
 have p1:(0:Int)≤(y.length:Int)-1:=by omega
 have p2:((y.length:Int)-1).toNat=y.length-1:=by omega
 have p3:y.length-1<y.length:=by omega
 have p4:y.take y.length=y:=List.take_of_length_le (Nat.le_refl _)
 simp (disch:=omega) only[↓ak,sss,if_true,if_false,p0,p1,p2,p3,p4,h,Int.le_refl,Nat.le_refl]
theorem aW.inner{k j:Nat}{n:Nat}{x2:Int}{x3:Bool}{x4:Int}{x5 x6:Bool}{x7:Int}{x8:Nat}{x9 x10:Int}{x11:Nat}{y x13 x14 x15:List Int}(hn:n≤9)(hl:y.length=n+1)(h:0<n→ ¬y.getD (n-1) 0=0):
  aW.L2 k (j+1) 0 n x2 x3 x4 x5 x6 x7 x8 x9 x10 x11 y x13 x14 x15=some (y.take n,true):=by
 rw[aW.qX]
 have e:(y.take n).take n=y.take n:=by rw[List.take_take,Nat.min_self]
 by_cases c:0<n
 ·have p0:(0:Int)<n:=by omega
  have p1:(0:Int)≤(n:Int)-1:=by omega
  have p2:((n:Int)-1).toNat=n-1:=by omega
  have p3:n-1<n:=by omega
  have p4:n-1<y.length:=by omega
  have h':=h c
  simp (disch:=omega) only[↓ak,sss,if_true,if_false,di,Nat.zero_add,p0,p1,p2,p3,p4,h',Int.le_refl,Nat.le_refl,List.drop_zero,e]
 ·have:n=0:=by omega
  subst this
  simp (disch:=omega) only[↓ak,sss,if_true,if_false,di,Nat.zero_add,Int.natCast_zero,Int.lt_irrefl,Int.le_refl,Nat.le_refl,List.drop_zero,Int.toNat_zero,List.take_zero]
theorem aW.cut{k j:Nat}{n:Nat}{x0:Int}{x1:Bool}{x2:Int}{x3 x4:Bool}{x5:Int}{x6:Nat}{x7 x8:Int}{x9:Nat}{y x11 x12 x13:List Int}(hn:n≤9)(hl:y.length=n+1)(h0:y.getD n 0=0)(h:0<n→ ¬y.getD (n-1) 0=0):
  aW.L0 k (j+1+1) x0 x1 x2 x3 x4 x5 x6 x7 x8 x9 y x11 x12 x13=some (y.take n,true):=by
 rw[aW.bq,aW.ep]
 have p0:(0:Int)<((n+1:Nat):Int):=by omega
 have p2:((n+1:Nat):Int)-1=(n:Int):=by omega
 have p3:n<n+1:=by omega
 have p4:n≤n+1:=by omega
 have hi:=fun x2 x3 x4 x5 x6 x7 x8 x9 x10 x11 x13 x14 x15=>aW.inner (k:=k) (j:=j) (n:=n) (x2:=x2) (x3:=x3) (x4:=x4) (x5:=x5) (x6:=x6) (x7:=x7) (x8:=x8) (x9:=x9) (x10:=x10) (x11:=x11) (y:=y) (x13:=x13) (x14:=x14) (x15:=x15) hn hl h
 simp (disch:=omega) only[↓ak,sss,if_true,if_false,hl,p0,p2,p3,p4,h0,cH,Nat.sub_zero,hi]
theorem aW.is{k:Nat}{p:List Int}{n:Nat}(hk:4194304+8≤k)(hp:Pu.bm p=true)(hn:n<p.length)(hc:p.getD (n+1) 0<p.getD n 0):aW k p n=some (Pu.aB p n,true):=by
 obtain⟨k,rfl⟩: ∃k',k=k'+3:=⟨k-3,by omega⟩
 have h9:=(Pu.aY hp).2.2.1
 have hb:=Pu.cQ hp n
 rw[Pu.ca]at hb
 have h1: ∀i,i<p.length→1≤p.getD i 0:=fun i hi=>by
  rw[Pu.al hi]
  exact((Pu.aY hp).1 _ (List.getElem_mem hi)).1
 have hco:=bV.is (k:=k+2) (p:=p) (by omega) (by omega)
 have hct:=bK.is (k:=k+2) (x:=(n:Int)) (r:=Pu.nF p) (by omega) (by have:=Pu.u6 p;omega)
 rw[Pu.vh hp hn hc]at hct
 have hcl:=bg.is (k:=k+2) (a:=p) (by omega) (by omega)
 have hyl:(p.set n (p.getD n 0-1)).length=p.length:=List.length_set
 have key: ∀x0 x1 x2 x3 x4 x5 x6 x7 x8 x9 x11 x12 x13,aW.L0 k (k+1) x0 x1 x2 x3 x4 x5 x6 x7 x8 x9 (p.set n (p.getD n 0-1)) x11 x12 x13=some (Pu.aB p n,true):=by
  intro x0 x1 x2 x3 x4 x5 x6 x7 x8 x9 x11 x12 x13
  unfold Pu.aB
  by_cases h:p.getD n 0-1=0
  ·have hl:=Pu.oG hp hc h
   rw[if_pos h]
   obtain⟨k',rfl⟩: ∃k',k=k'+1:=⟨k-1,by omega⟩
   rw[aW.cut (n:=n) (by omega) (by omega) (by rw[Pu.al (by omega),List.getElem_set_self,h]) (fun h0=>by
    rw[Pu.getD_set_ne (by omega)]
    have:=h1 (n-1) (by omega)
    omega),List.take_set_of_le (Nat.le_refl n)]
  ·rw[if_neg h,aW.stay (by omega) (by omega)]
   rw[hyl]
   by_cases e:p.length-1=n
   ·rw[e,Pu.al (by omega),List.getElem_set_self];exact h
   ·rw[Pu.getD_set_ne (Ne.symm e)]
    have:=h1 (p.length-1) (by omega)
    omega
 rw[aW.eq]
 simp (disch:=omega) only[↓ak,sss,if_true,if_false,hco,hct,hcl,hn,key]
theorem bG.loop{k:Nat}{t:Pu.Tab}(hk:4194304+2≤k)(hi:Pu.bm t.1=true)(ht:Pu.cj 1048576 1048576 t.2): ∀(m j i:Nat),i+m=t.2.length→m<j→
  bG.L0 k j t.2.length i ((Pu.bP t).take i) t.2 t.1=some (Pu.bP t)
 |m,0,i,_,hj=>by omega
 |0,j+1,i,hm,_=>by
  rw[bG.bq]
  have e:i=t.2.length:=by omega
  subst e
  rw[←Pu.fV t,List.take_length]
  simp only[↓ak,sss,if_true,if_false,Nat.lt_irrefl]
 |m+1,j+1,i,hm,hj=>by
  rw[bG.bq]
  have hlt:i<t.2.length:=by omega
  have hg:i<(Pu.bP t).length:=by rw[Pu.fV];exact hlt
  have hl:=ht.1
  have h9:=(Pu.aY hi).2.2.1
  have hb:=Pu.cQ hi i
  rw[Pu.ca]at hb
  have hrow:=ht.at i
  have ha:=eH.is (k:=k) (p:=t.1) (i:=(i:Int)) (by omega) (by omega)
  rw[Pu.ca]at ha
  have ih:=bG.loop (k:=k) (t:=t) hk hi ht m j (i+1) (by omega) (by omega)
  rw[Int.natCast_succ,Pu.take_succ hg [],Pu.sg hlt]at ih
  have hc:=ai.is (k:=k) (a:= [List.replicate (t.1.getD i 0).toNat 0,t.2.getD i []]) hk (by simp) (by simp only[List.flatten_cons,List.flatten_nil,List.append_nil,List.length_append,List.length_replicate];omega)
  simp only[List.flatten_cons,List.flatten_nil,List.append_nil]at hc
  have hn:(t.1.getD i 0).toNat≤1099511627776:=by omega
  have hb1:=hb.1
  have hln:((Pu.bP t).take i++ [List.replicate (t.1.getD i 0).toNat 0++t.2.getD i []]).length≤1099511627776:=by
   rw[List.length_append,List.length_take,Pu.fV];simp;omega
  simp (disch:=omega) only[↓ak,sss,if_true,if_false,hlt,ha,hb1,Int.le_refl,hn,hc,hln,ih]
theorem bG.is{k:Nat}{t:Pu.Tab}(hk:4194304+3≤k)(hi:Pu.bm t.1=true)(ht:Pu.cj 1048576 1048576 t.2):bG k t=some (Pu.bP t):=by
 obtain⟨k,rfl⟩: ∃k',k=k'+1:=⟨k-1,by omega⟩
 rw[bG.eq]
 have hl:=ht.1
 have h:=bG.loop (k:=k) (t:=t) (by omega) hi ht t.2.length k 0 (by omega) (by omega)
 rw[Int.natCast_zero,List.take_zero]at h
 exact h
theorem fg.is{k:Nat}{a:List (List Int)}{i c:Int}(hk:3≤k)(ha:Pu.cj 1048576 1048576 a):fg k a i c=some (Pu.pJ a i c):=by
 obtain⟨k,rfl⟩: ∃k',k=k'+1:=⟨k-1,by omega⟩
 have hl:=ha.1
 rw[fg.eq]
 by_cases h0:i<0
 ·have h1: ¬0≤i:=by omega
  rw[Pu.xY h0]
  simp (disch:=omega) only[↓ak,sss,if_true,if_false,cY.is,Pu.within,h1]
 ·have h1:0≤i:=by omega
  by_cases h2:i≤(a.length:Int)-1
  ·have h3:i.toNat<a.length:=by omega
   have he:=eH.is (k:=k) (p:=a.getD i.toNat []) (i:=c) (by omega) (ha.at _)
   unfold Pu.pJ
   simp (disch:=omega) only[↓ak,sss,if_true,if_false,cY.is,Pu.within,h0,h1,h2,h3,he]
  ·rw[Pu.EZ (by omega)]
   simp (disch:=omega) only[↓ak,sss,if_true,if_false,cY.is,Pu.within,h1,h2]
theorem aw.loop{k:Nat}{q x4:List Int}{x5:List (List Int)}(hk:4≤k): ∀(m j:Nat) (g:List (List Int)) (i c:Nat),Pu.cj 9 9 g→i<g.length→c<(g.getD i []).length→m<j→
  Pu.cel (Pu.bT m g i c).1 (Pu.bT m g i c).2.1 ((Pu.bT m g i c).2.2+1)=0→Pu.cel (Pu.bT m g i c).1 ((Pu.bT m g i c).2.1+1) (Pu.bT m g i c).2.2=0→
  aw.L1 k j i c q g x4 x5=aw.J2 k (Pu.bT m g i c).2.1 (Pu.bT m g i c).2.2 q (Pu.bT m g i c).1 x4 x5
 |m,0,g,i,c,_,_,_,hj,_,_=>by omega
 |0,j+1,g,i,c,hg,hi,hc,_,s1,s2=>by
  have hl:=hg.1
  have hw:=hg.at i
  have e5:=fg.is (k:=k+1) (a:=g) (i:=i) (c:=(c:Int)+1) (by omega) (hg.mono (by omega) (by omega))
  have e6:=fg.is (k:=k+1) (a:=g) (i:=(i:Int)+1) (c:=c) (by omega) (hg.mono (by omega) (by omega))
  rw[show(c:Int)+1=((c+1:Nat):Int) by omega,Pu.mN]at e5
  rw[show(i:Int)+1=((i+1:Nat):Int) by omega,Pu.mN]at e6
  have s1:(g.getD i []).getD (c+1) 0=0:=s1
  have s2:(g.getD (i+1) []).getD c 0=0:=s2
  rw[s1]at e5
  rw[s2]at e6
  rw[Int.natCast_succ]at e5 e6
  rw[aw.eA]
  simp (disch:=omega) only[↓ak,sss,if_true,if_false,e5,e6,Pu.bT]
 |m+1,j+1,g,i,c,hg,hi,hc,hj,s1,s2=>by
  have hl:=hg.1
  have hw:=hg.at i
  have e5:=fg.is (k:=k+1) (a:=g) (i:=i) (c:=(c:Int)+1) (by omega) (hg.mono (by omega) (by omega))
  have e6:=fg.is (k:=k+1) (a:=g) (i:=(i:Int)+1) (c:=c) (by omega) (hg.mono (by omega) (by omega))
  rw[show(c:Int)+1=((c+1:Nat):Int) by omega,Pu.mN,Int.natCast_succ,show(g.getD i []).getD (c+1) 0=Pu.cel g i (c+1)from rfl]at e5
  rw[show(i:Int)+1=((i+1:Nat):Int) by omega,Pu.mN,Int.natCast_succ,show(g.getD (i+1) []).getD c 0=Pu.cel g (i+1) c from rfl]at e6
  have hs: ∀v,Pu.cj 9 9 (Pu.fb g i c v):=fun v=>hg.set i (by rw[List.length_set];exact hw)
  have es: ∀v,g.set i ((g.getD i []).set c v)=Pu.fb g i c v:=fun _=>rfl
  rw[aw.eA]
  unfold Pu.bT at s1 s2⊢
  by_cases c1:Pu.cel g i (c+1)=0∧Pu.cel g (i+1) c=0
  ·rw[if_pos c1]at s1 s2⊢
   rw[c1.1]at e5
   rw[c1.2]at e6
   simp (disch:=omega) only[↓ak,sss,if_true,if_false,e5,e6]
  ·rw[if_neg c1]at s1 s2⊢
   by_cases c2:Pu.cel g i (c+1)=0∨(0<Pu.cel g (i+1) c∧Pu.cel g (i+1) c≤Pu.cel g i (c+1))
   ·rw[if_pos c2]at s1 s2⊢
    have hb:Pu.cel g (i+1) c≠0:=fun e=>by
     rcases c2 with c2|c2
     ·exact c1 ⟨c2,e⟩
     ·omega
    obtain⟨b1,b2⟩:=Pu.nX hb
    have ih:=aw.loop (q:=q) (x4:=x4) (x5:=x5) hk m j (Pu.fb g i c (Pu.cel g (i+1) c)) (i+1) c (hs _) (by rw[Pu.dy];exact b1) (by rw[Pu.bp];exact b2) (by omega) s1 s2
    rw[Int.natCast_succ]at ih
    by_cases c3:Pu.cel g i (c+1)=0
    ·rw[c3]at e5
     simp (disch:=omega) only[↓ak,sss,if_true,if_false,e5,e6,hb,hi,hc,es,aw.lQ,ih]
    ·have c4:0<Pu.cel g (i+1) c∧Pu.cel g (i+1) c≤Pu.cel g i (c+1):=c2.resolve_left c3
     simp (disch:=omega) only[↓ak,sss,if_true,if_false,e5,e6,c3,c4.1,c4.2,hi,hc,es,aw.lQ,ih]
   ·rw[if_neg c2]at s1 s2⊢
    have c3: ¬Pu.cel g i (c+1)=0:=fun e=>c2 (.inl e)
    obtain⟨b1,b2⟩:=Pu.nX c3
    have ih:=aw.loop (q:=q) (x4:=x4) (x5:=x5) hk m j (Pu.fb g i c (Pu.cel g i (c+1))) i (c+1) (hs _) (by rw[Pu.dy];exact b1) (by rw[Pu.bp];exact b2) (by omega) s1 s2
    rw[Int.natCast_succ]at ih
    by_cases c4:0<Pu.cel g (i+1) c
    ·have c5: ¬Pu.cel g (i+1) c≤Pu.cel g i (c+1):=fun e=>c2 (.inr ⟨c4,e⟩)
     simp (disch:=omega) only[↓ak,sss,if_true,if_false,e5,e6,c3,c4,c5,hi,hc,es,aw.lQ,ih]
    ·simp (disch:=omega) only[↓ak,sss,if_true,if_false,e5,e6,c3,c4,hi,hc,es,aw.lQ,ih]
theorem aw.rows{k:Nat}{q:List Int}{G:List (List Int)}{N:Nat}{x2 x3 x4 x5:Int}{x6:Nat}{x7:Int}{x8:Nat}{x11:List Int}{x12:List (List Int)}{x14:List Int}{x15:List (List Int)}(hk:4≤k)(hG:Pu.cj 9 9 G)(hq:q.length≤9)(hN:N≤G.length)
  (h1: ∀r,r<N→0<(G.getD r []).length∧0≤q.getD r 0∧q.getD r 0≤(G.getD r []).length) (h2: ∀r,N≤r→(G.getD r []).length=0): ∀(m j i:Nat),i+m=G.length→m<j→
  aw.L4 k j G.length i x2 x3 x4 x5 x6 x7 x8 q G x11 x12 ((Pu.cI q G N).take i) x14 x15=some ((q,Pu.cI q G N),(x2,true))
 |m,0,i,_,hj=>by omega
 |0,j+1,i,hm,_=>by
  rw[aw.zP]
  have e:i=G.length:=by omega
  subst e
  rw[List.take_of_length_le (by rw[Pu.eR];exact hN)]
  simp only[↓ak,sss,if_true,if_false,Nat.lt_irrefl]
 |m+1,j+1,i,hm,hj=>by
  have hl:=hG.1
  have hw:=hG.at i
  have hi:i<G.length:=by omega
  have ih:=aw.rows (k:=k) (x2:=x2) (x3:=x3) (x4:=x4) (x5:=x5) (x6:=x6) (x7:=x7) (x8:=x8) (x11:=x11) (x12:=x12) (x14:=x14) (x15:=x15) hk hG hq hN h1 h2 m j (i+1) (by omega) (by omega)
  rw[Int.natCast_succ]at ih
  rw[aw.zP]
  by_cases c:i<N
  ·obtain⟨a1,a2,a3⟩:=h1 i c
   rw[Pu.take_succ (by rw[Pu.eR];exact c) [],Pu.jb c]at ih
   have ha:=eH.is (k:=k) (p:=q) (i:=(i:Int)) (by omega) (by omega)
   rw[Pu.ca]at ha
   have et:(G.getD i []).drop (q.getD i 0).toNat=((G.getD i []).drop (q.getD i 0).toNat).take ((G.getD i []).length-(q.getD i 0).toNat):=(List.take_of_length_le (by rw[List.length_drop];exact Nat.le_refl _)).symm
   have hcl:=bg.is (k:=k) (a:=(G.getD i []).drop (q.getD i 0).toNat) (by omega) (by rw[List.length_drop];omega)
   have hln:((Pu.cI q G N).take i++ [(G.getD i []).drop (q.getD i 0).toNat]).length≤1099511627776:=by
    rw[List.length_append,List.length_take,List.length_singleton];omega
   have a4:(0:Int)<(G.getD i []).length:=by omega
   have a5:(q.getD i 0).toNat≤(G.getD i []).length:=by omega
   simp (disch:=omega) only[↓ak,sss,if_true,if_false,hi,a2,a4,a5,ha,cH,←et,hcl,hln,aw.Cs,ih]
  ·have a4: ¬(0:Int)<(G.getD i []).length:=by have:=h2 i (by omega);omega
   have e1:(Pu.cI q G N).take (i+1)=(Pu.cI q G N).take i:=by
    rw[List.take_of_length_le (by rw[Pu.eR];omega),List.take_of_length_le (by rw[Pu.eR];omega)]
   rw[e1]at ih
   simp (disch:=omega) only[↓ak,sss,if_true,if_false,hi,a4,aw.Cs,ih]
theorem aw.is{k:Nat}{t:Pu.Tab}{n:Nat}(hk:4194304+20≤k)(h:Pu.dM t=true)(hn:n<t.1.length)(hc:t.1.getD (n+1) 0<t.1.getD n 0):aw k t n=some ((Pu.iD t n).1,((Pu.iD t n).2:Int),true):=by
 obtain⟨k,rfl⟩: ∃k',k=k'+2:=⟨k-2,by omega⟩
 obtain⟨z1,z2⟩:=Pu.uw h
 obtain⟨hp,ho,hl,_⟩:=Pu.iB h
 have hit:=aG.is (k:=k+1) (t:=t) (by omega) (by omega) (by have:=z2.1;omega) (fun r hr=>by have:=z2.2 r hr;omega)
 rw[h]at hit
 have hco:=bV.is (k:=k+1) (p:=t.1) (by omega) (by omega)
 have hct:=bK.is (k:=k+1) (x:=(n:Int)) (r:=Pu.nF t.1) (by omega) (by have:=Pu.u6 t.1;omega)
 rw[Pu.vh hp hn hc]at hct
 have hrb:=aW.is (k:=k+1) (p:=t.1) (n:=n) (by omega) hp hn hc
 have hgr:=bG.is (k:=k+1) (t:=t) (by omega) hp (z2.mono (by omega) (by omega))
 have hb:=Pu.cQ hp n
 rw[Pu.ca]at hb
 have hpos:1≤t.1.getD n 0:=by
  rw[Pu.al hn]
  exact((Pu.aY hp).1 _ (List.getElem_mem hn)).1
 obtain⟨E,s1,s2⟩:=Pu.EG h hn hc
 have hst:=Pu.qx h hn hc
 have a2:=aw.loop (k:=k) (q:=Pu.aB t.1 n) (x4:= []) (x5:= []) (by omega) 18 (k+1) (Pu.bP t) n (t.1.getD n 0-1).toNat ⟨by rw[Pu.fV];exact z2.1,fun r hr=>by
  obtain⟨q,hq,rfl⟩:=List.getElem_of_mem hr
  have a:=Pu.jY hp q
  have b:=(Pu.cQ ho q).2
  rw[Pu.ca]at b
  rw[Pu.al hq]at a
  omega⟩ hst.hi hst.hc (by omega) s1 s2
 rw[show(((t.1.getD n 0-1).toNat:Nat):Int)=t.1.getD n 0-1 by omega]at a2
 have hS:Pu.bT 18 (Pu.bP t) n (t.1.getD n 0-1).toNat=Pu.gP t n:=rfl
 rw[hS]at a2
 rw[aw.eq,aw.fm,show((t.1,t.2):Pu.Tab)=t from rfl]
 unfold Pu.iD
 generalize Pu.gP t n=S at*
 obtain⟨g,i,c⟩:=S
 simp only at E a2⊢
 have hdl:=Pu.lP (Pu.outer t) i
 have hql:=Pu.lP t.1 n
 have hol:=Pu.bD t
 have hgl:=E.len
 have hcl:(Pu.lT g i c).length=g.length:=Pu.mE g i c
 have hi:=E.sl.hi
 have hcc:=E.sl.hc
 have hR:=fun x3 x4 x5 x6 x7 x8 x11 x12 x14 x15=>aw.rows (k:=k) (q:=Pu.aB t.1 n) (G:=Pu.lT g i c) (N:=(Pu.aB (Pu.outer t) i).length) (x2:=(i:Int)) (x3:=x3) (x4:=x4) (x5:=x5) (x6:=x6) (x7:=x7) (x8:=x8) (x11:=x11) (x12:=x12) (x14:=x14) (x15:=x15) (by omega) E.rows (by omega) (by omega)
  (fun r hr=>by
   have a:=E.cutl r
   have b:=Pu.vT ho E.hi E.cor hr
   have d:=E.ins r
   exact⟨by omega,E.sl.q0 r,by omega⟩)
  (fun r hr=>by
   have a:=E.cutl r
   rw[Pu.aQ hr]at a
   omega) (Pu.lT g i c).length k 0 (by omega) (by have:=E.rows.1;omega)
 simp only[Int.natCast_zero,List.take_zero]at hR
 have ec:g.set i ((g.getD i []).take c)=Pu.lT g i c:=rfl
 have hcc':c≤(g.getD i []).length:=by omega
 rw[aw.mf]at a2
 simp (disch:=omega) only[↓ak,sss,if_true,if_false,hi,hcc',cH,Nat.sub_zero,List.drop_zero,ec,hR,beq_self_eq_true]at a2
 simp (disch:=omega) only[↓ak,sss,if_true,if_false,hit,hco,hct,hrb,hgr,hn,a2]
theorem fz.is{k:Nat}{t:Pu.Tab}(hk:4194304+30≤k)(h:Pu.aL t=true)(h0:0<t.2.length):fz k t=some ((Pu.aE t).1,((Pu.aE t).2:Int)):=by
 obtain⟨k,rfl⟩: ∃k',k=k'+1:=⟨k-1,by omega⟩
 have hz:=Pu.fN h
 have hi1:=Pu.cy h
 have hr:=Pu.gm h h0
 have hcp:=bB.is (k:=k) (t:=t) (by omega) (by rw[hi1];simp) (by have:=hz.1;omega) (fun r hr=>by have:=hz.2 r hr;omega)
 have hs:=aw.is (k:=k) (t:=Pu.eY t) (n:=0) (by omega) (Pu.oI h h0) (by simp[Pu.eY]) (by simp[Pu.eY])
 rw[Int.natCast_zero]at hs
 have e2:((t.2.getD 0 []).drop 1).take ((t.2.getD 0 []).length-1)=(t.2.getD 0 []).drop 1:=List.take_of_length_le (by rw[List.length_drop];omega)
 rw[fz.eq,show((t.1,t.2):Pu.Tab)=t from rfl,hcp,aX]
 have hg:1≤(t.2.getD 0 []).length:=hr
 simp only[↓ak,sss,if_true,if_false,cH,Int.toNat_zero,Int.toNat_one,h0,hg,e2,show(0:Int)≤0 from Int.le_refl _,show(0:Int)≤1 by omega]
 rw[show((1:: [],t.2.set 0 ((t.2.getD 0 []).drop 1)):Pu.Tab)=Pu.eY t from rfl,hs]
 rfl
theorem aq.inner{k k1:Nat}{d:Int}{n:Nat}{inn:List Int}(hd: -1≤d∧d≤1){i:Nat}(hi9:i<1000){len:Nat}(hl9:len≤1000): ∀(m j q:Nat) (rs:List (List Int)),q+m=len→(rs.getD i []).length=len→m<j→i<rs.length→(∀p,q≤p→ -100≤(rs.getD i []).getD p 0∧(rs.getD i []).getD p 0≤100)→
  aq.L1 k k1 j d i n i len q rs inn=aq.L0 k k1 d n ((i+1:Nat):Int) (rs.set i (Pu.jd d q (rs.getD i []))) inn
 |m,0,q,rs,_,_,hj,_,_=>by omega
 |0,j+1,q,rs,hq,hl,_,hi,_=>by
  rw[aq.eA]
  have hn: ¬(q:Int)<(len:Int):=by omega
  have e:q=(rs.getD i []).length:=by omega
  rw[e,Pu.uW,Pu.al hi,List.set_getElem_self,←Pu.al hi [],←e]
  simp (disch:=omega) only[↓ak,sss,if_true,if_false,hn]
  rw[Int.natCast_succ]
 |m+1,j+1,q,rs,hq,hl,hj,hi,hb=>by
  rw[aq.eA]
  have hn:(q:Int)<(len:Int):=by omega
  have hql:q<(rs.getD i []).length:=by omega
  have hbq:=hb q (Nat.le_refl _)
  have er:(rs.set i ((rs.getD i []).set q ((rs.getD i []).getD q 0+d))).getD i []=(rs.getD i []).set q ((rs.getD i []).getD q 0+d):=by
   rw[Pu.al (by rw[List.length_set];exact hi),List.getElem_set_self]
  have ih:=aq.inner (k:=k) (k1:=k1) (n:=n) (inn:=inn) hd hi9 hl9 m j (q+1) (rs.set i ((rs.getD i []).set q ((rs.getD i []).getD q 0+d))) (by omega) (by rw[er,List.length_set];exact hl) (by omega) (by rw[List.length_set];exact hi) (fun p hp=>by
   rw[er,Pu.getD_set_ne (by omega)]
   exact hb p (by omega))
  rw[er,List.set_set,Pu.sR hql]at ih
  rw[←ih,Int.natCast_succ]
  simp (disch:=omega) only[↓ak,sss,if_true,if_false,hn,hi,hql]
theorem aq.outer{k:Nat}{d:Int}{inn:List Int}(hk:4194304≤k)(hd: -1≤d∧d≤1): ∀(m j i:Nat) (rs:List (List Int)),i+m=rs.length→m<j→Pu.cj 999 1000 rs→Pu.Small (rs.drop i)→
  aq.L0 k j d rs.length i rs inn=some ((),(inn,Pu.jK d i rs))
 |m,0,i,rs,_,hj,_,_=>by omega
 |0,j+1,i,rs,hm,_,_,_=>by
  rw[aq.bq]
  have e:i=rs.length:=by omega
  subst e
  have hn: ¬(rs.length:Int)<rs.length:=by omega
  simp only[↓ak,sss,if_true,if_false,hn,Pu.qW]
 |m+1,j+1,i,rs,hm,hj,hr,hs=>by
  rw[aq.bq]
  have hi:i<rs.length:=by omega
  have hn:(i:Int)<rs.length:=by omega
  have h9:=hr.at i
  have h99:=hr.1
  have hg: ∀p,-100≤(rs.getD i []).getD p 0∧(rs.getD i []).getD p 0≤100:=fun p=>by
   have:=hs 0 p
   rw[Pu.gZ]at this
   exact this
  have hin:=aq.inner (k:=k) (k1:=j) (n:=rs.length) (inn:=inn) hd (i:=i) (by omega) (len:=(rs.getD i []).length) h9 (rs.getD i []).length k 0 rs (by omega) rfl (by omega) hi (fun p _=>hg p)
  have ih:=aq.outer (inn:=inn) hk hd m j (i+1) (rs.set i (Pu.jd d 0 (rs.getD i []))) (by rw[List.length_set];omega) (by omega) (hr.set i (by rw[Pu.uO];exact h9)) (fun a p=>by
   have:=hs (a+1) p
   rw[Pu.gZ]at this⊢
   rw[Pu.getD_set_ne (by omega)]
   rw[show i+1+a=i+(a+1) by omega]
   exact this)
  rw[List.length_set,Pu.qq hi]at ih
  rw[ih]at hin
  rw[Int.natCast_zero]at hin
  simp (disch:=omega) only[↓ak,sss,if_true,if_false,hn,hi,hin]
theorem aq.is{k:Nat}{d:Int}{inn:List Int}{rs:List (List Int)}(hk:4194304+2≤k)(hd: -1≤d∧d≤1)(hr:Pu.cj 999 1000 rs)(hs:Pu.Small rs):aq k d inn rs=some ((),(inn,Pu.bO d rs)):=by
 obtain⟨k,rfl⟩: ∃k',k=k'+1:=⟨k-1,by omega⟩
 have h99:=hr.1
 have h:=aq.outer (k:=k) (inn:=inn) (by omega) hd rs.length k 0 rs (by omega) (by omega) hr hs
 rw[Int.natCast_zero]at h
 rw[aq.eq]
 simp only[↓ak,sss,if_true,if_false,h,Pu.jK,List.take_zero,List.drop_zero,List.nil_append]
theorem cu.tail{k:Nat}{x2:List Int}{x3:List (List Int)}{inn:List Int}{n i:Nat}{rs:List (List Int)}(hi:i<rs.length)(hr:Pu.cj 10 9 rs):
  cu.J0 k n i x2 x3 inn rs=some ((inn,rs.set i (rs.getD i []++ [(n:Int)])),true):=by
 rw[cu.fm]
 have h9:=hr.at i
 have hl:(rs.getD i []++ [(n:Int)]).length≤1099511627776:=by rw[List.length_append];simp only[List.length_cons,List.length_nil];omega
 simp (disch:=omega) only[↓ak,sss,if_true,if_false,hi,hl]
theorem cu.is{k:Nat}{t:Pu.Tab}(hk:4194304+50≤k)(h1:t.1.length≤1048576)(ht:t.2.length≤1048576)(hr: ∀x∈t.2,x.length≤1048576):cu k t=some (Pu.bF t):=by
 obtain⟨k,rfl⟩: ∃k',k=k'+1:=⟨k-1,by omega⟩
 rw[cu.eq,show((t.1,t.2):Pu.Tab)=t from rfl,cd.is (by omega) h1 ht hr,aX]
 unfold Pu.bF
 cases hp:Pu.aL t with
 |false=>simp
 |true=>
  cases hb:Pu.cw t with
  |false=>simp
  |true=>
   have h9:=Pu.jm hp
   have hit:Pu.dM t=true:=by
    have:=hp
    simp only[Pu.aL,Bool.and_eq_true]at this
    exact this.1
   have hnum:=bL.is (k:=k) (t:=t) (by omega) h1 ht hr
   rw[if_pos hit]at hnum
   have hrl:t.2.reverse.flatten.length=t.2.flatten.length:=by simp[List.length_flatten,List.map_reverse,List.sum_reverse]
   by_cases c:t.2.flatten.length=0
   ·have hc:(t.2.flatten.length:Int)=0:=by omega
    rw[if_pos ⟨rfl,rfl⟩,if_pos c]
    simp only[↓ak,sss,if_true,if_false,hnum,hrl,hc]
   ·have hc: ¬(t.2.flatten.length:Int)=0:=by omega
    have h0:=Pu.fW (t:=t) (by omega)
    have htk:=fz.is (k:=k) (by omega) hp h0
    obtain⟨w1,w2⟩:=Pu.m9 hp h0
    have hpl:=(Pu.cX hp h0).1
    have hin:=Pu.cy hpl
    have hsm:Pu.Small (Pu.aE t).1.2:=by
     have:=hpl
     simp only[Pu.aL,Bool.and_eq_true]at this
     exact Pu.u5 this.1
    have hpr:=Pu.fN hpl
    have hsh:=aq.is (k:=k) (d:= -1) (inn:= []) (rs:=(Pu.aE t).1.2) (by omega) (by omega) (hpr.mono (by omega) (by omega)) hsm
    have hsl:(Pu.bO (-1) (Pu.aE t).1.2).length=(Pu.aE t).1.2.length:=Pu.gn _ _
    have htl:=cu.tail (k:=k) (x2:=([]:List Int)) (x3:=([]:List (List Int))) (inn:= []) (n:=t.2.flatten.length) (i:=(Pu.aE t).2) (rs:=Pu.bO (-1) (Pu.dS (Pu.aE t))) (by rw[Pu.gn];exact w1) (Pu.rW w2 _)
    rw[if_pos ⟨rfl,rfl⟩,if_neg c]
    have hlr:=w2.1
    unfold Pu.dS at htl hlr⊢
    by_cases e:(Pu.aE t).2=(Pu.aE t).1.2.length
    ·have e':((Pu.aE t).2:Int)=(Pu.aE t).1.2.length:=by omega
     rw[if_pos e]at htl hlr⊢
     have hap:Pu.bO (-1) ((Pu.aE t).1.2++ [[]])=Pu.bO (-1) (Pu.aE t).1.2++ [[]]:=by simp[Pu.bO]
     rw[hap]at htl⊢
     have hl:(Pu.bO (-1) (Pu.aE t).1.2++ [[]]).length≤1099511627776:=by rw[List.length_append,hsl];simp;have:=hpr.1;omega
     simp only[↓ak,sss,if_true,if_false,hnum,hrl,hc,htk,hin,hsh,hsl,hl]
     rw[if_pos e',htl]
    ·have e': ¬((Pu.aE t).2:Int)=(Pu.aE t).1.2.length:=by omega
     rw[if_neg e]at htl hlr⊢
     simp only[↓ak,sss,if_true,if_false,hnum,hrl,hc,htk,hin,hsh,hsl,e',htl]
theorem dX.is{k:Nat}{t:Pu.Tab}(hk:4194304+6≤k)(h1:t.1.length≤1048576)(ht:t.2.length≤1048576)(hr: ∀x∈t.2,x.length≤1048576):dX k t=some (Pu.aL t):=by
 obtain⟨k,rfl⟩: ∃k',k=k'+1:=⟨k-1,by omega⟩
 rw[dX.eq,aC.is (by omega) h1 ht hr,aX]
 unfold Pu.aL
 cases Pu.dM t<;>simp
theorem cb.loop{k:Nat}{t:Pu.Tab}{x2:List Int}(ht:t.2.length≤1048576)(hf:t.2.flatten.length≤1099511627776): ∀(m j i:Nat),i+m=t.2.length→m<j→
  cb.L0 k j i (t.2.take i).flatten x2 t.2=some t.2.flatten
 |m,0,i,_,hj=>by omega
 |0,j+1,i,hm,_=>by
  rw[cb.bq]
  have e:i=t.2.length:=by omega
  subst e
  simp
 |m+1,j+1,i,hm,hj=>by
  rw[cb.bq]
  have hlt:i<t.2.length:=by omega
  have ih:=cb.loop (k:=k) (x2:=x2) ht hf m j (i+1) (by omega) (by omega)
  rw[Int.natCast_succ,Pu.take_succ hlt []]at ih
  have hl:((t.2.take i).flatten++t.2.getD i []).length≤1099511627776:=by
   refine Nat.le_trans ?_ hf
   have e:t.2.flatten=(t.2.take i).flatten++(t.2.drop i).flatten:=by rw[←List.flatten_append,List.take_append_drop]
   rw[e,Pu.drop_cons hlt []]
   simp only[List.flatten_cons,List.length_append]
   omega
  simp only[List.flatten_append,List.flatten_cons,List.flatten_nil,List.append_nil]at ih
  simp (disch:=omega) only[↓ak,sss,if_true,if_false,hlt,hl,ih]
theorem cb.is{k:Nat}{t:Pu.Tab}(hk:4194304+1≤k)(ht:t.2.length≤1048576)(hf:t.2.flatten.length≤1099511627776):cb k t=some t.2.flatten:=by
 obtain⟨k,rfl⟩: ∃k',k=k'+1:=⟨k-1,by omega⟩
 rw[cb.eq]
 exact cb.loop (k:=k) ht hf t.2.length k 0 (by omega) (by omega)
theorem a9.loop{k:Nat}{l:List Int}(h1: ∀x∈l,1≤x∧x≤9)(hl:l.length≤9): ∀(m j i:Nat) (seen:List Bool),i+m=l.length→m<j→seen.length=10→(∀v:Nat,v<10→seen.getD v false=Pu.has (l.take i) v)→
  a9.L0 k j i l seen=some (Pu.mC l.length (l.take i) (l.drop i))
 |m,0,i,seen,_,hj,_,_=>by omega
 |0,j+1,i,seen,hm,_,_,_=>by
  rw[a9.bq]
  have e:i=l.length:=by omega
  subst e
  simp[Pu.mC]
 |m+1,j+1,i,seen,hm,hj,hs,hv=>by
  rw[a9.bq]
  have hlt:i<l.length:=by omega
  have hx:=h1 _ (List.getElem_mem hlt)
  rw[←Pu.al hlt 0]at hx
  rw[Pu.drop_cons hlt 0]
  simp only[Pu.mC]
  have hx10:(l.getD i 0).toNat<seen.length:=by omega
  have hx0:(0:Int)≤l.getD i 0:=by omega
  have hvx:=hv (l.getD i 0).toNat (by omega)
  have ex:(((l.getD i 0).toNat:Nat):Int)=l.getD i 0:=by omega
  rw[ex]at hvx
  by_cases c:l.getD i 0≤l.length
  ·have c': ¬(l.length:Int)<l.getD i 0:=by omega
   cases hh:Pu.has (l.take i) (l.getD i 0)with
   |true=>
    rw[hh]at hvx
    simp (disch:=omega) only[↓ak,sss,if_true,if_false,hlt,c,c',hx0,hx10,hvx]
   |false=>
    rw[hh]at hvx
    have ih:=a9.loop (k:=k) h1 hl m j (i+1) (seen.set (l.getD i 0).toNat true) (by omega) (by omega) (by simpa using hs) (fun v hv10=>by
     rw[Pu.take_succ hlt 0]
     by_cases e:v=(l.getD i 0).toNat
     ·subst e
      have:Pu.has (l.take i++ [l.getD i 0]) (((l.getD i 0).toNat:Nat):Int)=true:=by rw[Pu.mr,ex];exact List.mem_append.2 (.inr (List.mem_singleton.2 rfl))
      rw[this,Pu.al (by rw[List.length_set];omega),List.getElem_set_self]
     ·have e1:(seen.set (l.getD i 0).toNat true).getD v false=seen.getD v false:=by
       rw[Pu.al (by rw[List.length_set];omega),List.getElem_set_ne (by omega)]
       exact(Pu.al (by omega) false).symm
      rw[e1,hv v hv10]
      have hne: ¬(v:Int)=l.getD i 0:=by omega
      unfold Pu.has
      rw[List.any_append]
      simp only[List.any_cons,List.any_nil,hne,decide_false,Bool.or_false])
    rw[Int.natCast_succ,Pu.take_succ hlt 0]at ih
    simp (disch:=omega) only[↓ak,sss,if_true,if_false,hlt,c,c',hx0,hx10,hvx,a9.ep,ih]
  ·have c':(l.length:Int)<l.getD i 0:=by omega
   simp (disch:=omega) only[↓ak,sss,if_true,if_false,hlt,c,c']
theorem a9.is{k:Nat}{t:Pu.Tab}(hk:4194304+6≤k)(h1:t.1.length≤1048576)(ht:t.2.length≤1048576)(hr: ∀x∈t.2,x.length≤1048576):a9 k t=some (Pu.cw t):=by
 obtain⟨k,rfl⟩: ∃k',k=k'+1:=⟨k-1,by omega⟩
 rw[a9.eq,aC.is (by omega) h1 ht hr,aX]
 unfold Pu.cw
 cases hi:Pu.dM t with
 |false=>simp
 |true=>
  have h9:=Pu.Ar hi
  have he:=Pu.nJ hi
  simp only[↓ak,sss,if_true,if_false]
  rw[cb.is (by omega) ht (by omega),aX]
  have h:=a9.loop (k:=k) (l:=t.2.flatten) he h9 t.2.flatten.length k 0 (List.replicate 10 false) (by omega) (by omega) (by simp) (fun v hv=>by
   rw[Pu.al (by simpa using hv),List.getElem_replicate];rfl)
  rw[Int.natCast_zero]at h
  rw[if_pos (by omega),if_pos (by omega),if_pos (by decide)]
  show a9.L0 k k 0 t.2.flatten (List.replicate 10 false)=_
  rw[h,List.take_zero,List.drop_zero,Pu.Bx fun x hx=>(he x hx).1]
theorem cN.loop{k:Nat}{t:Pu.Tab}{x3 x4:List Int}{x5:List (List Int)}(ht:t.2.length≤1048576)(hr: ∀x∈t.2,x.length≤1048576): ∀(m j i:Nat),i+m=t.2.length→m<j→
  cN.L0 k j i t.1 t.2 x3 x5 x4 (t.2.take i)=some (x4,t.2)
 |m,0,i,_,hj=>by omega
 |0,j+1,i,hm,_=>by
  rw[cN.bq]
  have e:i=t.2.length:=by omega
  subst e
  simp
 |m+1,j+1,i,hm,hj=>by
  rw[cN.bq]
  have hlt:i<t.2.length:=by omega
  have hx:=hr _ (List.getElem_mem hlt)
  rw[←Pu.al hlt []]at hx
  have ih:=cN.loop (k:=k) (x3:=x3) (x4:=x4) (x5:=x5) ht hr m j (i+1) (by omega) (by omega)
  rw[Int.natCast_succ,Pu.take_succ hlt []]at ih
  have hl:(t.2.take i++ [t.2.getD i []]).length≤1099511627776:=by simp;omega
  have hx':(t.2.getD i []).length≤1099511627776:=by omega
  simp (disch:=omega) only[↓ak,sss,if_true,if_false,hlt,hl,hx',List.nil_append,ih]
theorem cN.is{k:Nat}{t:Pu.Tab}(hk:4194304+1≤k)(h1:t.1.length≤1048576)(ht:t.2.length≤1048576)(hr: ∀x∈t.2,x.length≤1048576):cN k t=some t:=by
 obtain⟨k,rfl⟩: ∃k',k=k'+1:=⟨k-1,by omega⟩
 rw[cN.eq]
 have h:=cN.loop (k:=k) (t:=t) (x3:= []) (x4:=t.1) (x5:= []) ht hr t.2.length k 0 (by omega) (by omega)
 rw[Int.natCast_zero,List.take_zero]at h
 have hl:t.1.length≤1099511627776:=by omega
 simp only[↓ak,sss,if_true,if_false,List.nil_append,hl,h]
theorem cK.is{k:Nat}{p:List Int}{n:Nat}(hk:4194304+3≤k)(hp:Pu.bm p=true)(hn:n<p.length)(hc:p.getD (n+1) 0<p.getD n 0):cK k p n=some (Pu.aB p n,true):=by
 obtain⟨k,rfl⟩: ∃k',k=k'+1:=⟨k-1,by omega⟩
 have h9:=(Pu.aY hp).2.2.1
 have ha:=cz.is (k:=k) (p:=p) (i:=(n:Int)+1) (by omega)
 have e:(n:Int)+1=((n+1:Nat):Int):=by omega
 rw[e,Pu.ca]at ha
 have hb:=Pu.cQ hp n
 rw[Pu.ca]at hb
 have h1: ¬(n:Int)<0:=by omega
 have h2: ¬(p.length:Int)≤n:=by omega
 have h3: ¬p.getD n 0=p.getD (n+1) 0:=by omega
 have h4:n≤p.length:=by omega
 have h5:p.length≤1099511627776:=by omega
 have hset:(p.set n (p.getD n 0-1)).getD n 0=p.getD n 0-1:=by
  rw[Pu.al (by rw[List.length_set];exact hn),List.getElem_set_self]
 have hpt:=aO.is (k:=k) (p:=p) (by omega) (by omega)
 rw[cK.eq,hpt,aX,hp]
 unfold Pu.aB
 by_cases c:p.getD n 0-1=0
 ·simp (disch:=omega) only[↓ak,sss,if_true,if_false,h1,h2,h3,h4,h5,hn,cK.fm,e,ha,List.nil_append,List.length_set,hset,c,cH,Nat.sub_zero,List.drop_zero,if_true]
  rw[c]at hset
  simp (disch:=omega) only[↓ak,sss,if_true,if_false,hset,h4,Nat.sub_zero,List.drop_zero,List.take_set_of_le (Nat.le_refl n)]
 ·simp (disch:=omega) only[↓ak,sss,if_true,if_false,h1,h2,h3,h4,h5,hn,cK.fm,e,ha,List.nil_append,List.length_set,hset,c,if_false]
theorem bJ.row{k k1:Nat}{t:Pu.Tab}{r:Nat}{acc:List (List Int)}(hk:3≤k)(hi:Pu.bm t.1=true)(hr:r≤10)(ha:acc.length≤20): ∀(m j i:Nat),i+m=11→m<j→
  bJ.L1 k k1 j r i acc ((Pu.lF t r).take i++List.replicate (11-i) 0) t.1 t.2=bJ.L0 k k1 ((r+1:Nat):Int) (acc++ [Pu.lF t r]) t.1 t.2
 |m,0,i,_,hj=>by omega
 |0,j+1,i,hm,_=>by
  rw[bJ.eA]
  have e:i=11:=by omega
  subst e
  have hn: ¬((11:Nat):Int)≤10:=by omega
  have hl:(acc++ [(Pu.lF t r).take 11++List.replicate (11-11) 0]).length≤1099511627776:=by rw[List.length_append,List.length_singleton];omega
  have et:(Pu.lF t r).take 11++List.replicate (11-11) 0=Pu.lF t r:=by
   rw[Nat.sub_self,List.replicate_zero,List.append_nil]
   exact List.take_of_length_le (by rw[Pu.lg];omega)
  rw[et]at hl⊢
  simp (disch:=omega) only[↓ak,sss,if_true,if_false,hn,hl,Int.natCast_add,Int.natCast_one]
 |m+1,j+1,i,hm,hj=>by
  rw[bJ.eA]
  have ih:=bJ.row (k:=k) (k1:=k1) (t:=t) (r:=r) (acc:=acc) hk hi hr ha m j (i+1) (by omega) (by omega)
  have hf:=Pu.Dx (xs:=Pu.lF t r) (i:=i) (by rw[Pu.lg];omega) 0 0
  rw[Pu.lg,Pu.vW (by omega)]at hf
  rw[←hf]at ih
  have he:=bI.is (k:=k) (t:=t) (r:=(r:Int)) (c:=(i:Int)) (by omega) hi (by omega) (by omega)
  have h1:(i:Int)≤10:=by omega
  have hlen:((Pu.lF t r).take i++List.replicate (11-i) 0).length=11:=by
   rw[List.length_append,List.length_take,List.length_replicate,Pu.lg];omega
  have h2:i<11:=by omega
  have e1:((i+1:Nat):Int)=(i:Int)+1:=by omega
  rw[e1]at ih
  rw[show((t.1,t.2):Pu.Tab)=t from rfl]
  simp (disch:=omega) only[↓ak,sss,if_true,if_false,h1,he,hlen,h2,ih]
theorem bJ.loop{k:Nat}{t:Pu.Tab}(hk:20≤k)(hi:Pu.bm t.1=true): ∀(m j i:Nat),i+m=11→m<j→
  bJ.L0 k j i ((Pu.od t).take i) t.1 t.2=some (Pu.od t)
 |m,0,i,_,hj=>by omega
 |0,j+1,i,hm,_=>by
  rw[bJ.bq]
  have e:i=11:=by omega
  subst e
  have hn: ¬((11:Nat):Int)≤10:=by omega
  have et:(Pu.od t).take 11=Pu.od t:=List.take_of_length_le (by rw[Pu.td];omega)
  rw[et]
  simp only[↓ak,sss,if_true,if_false,hn]
 |m+1,j+1,i,hm,hj=>by
  rw[bJ.bq]
  have ih:=bJ.loop (k:=k) (t:=t) hk hi m j (i+1) (by omega) (by omega)
  rw[Pu.take_succ (by rw[Pu.td];omega) [],Pu.yV (by omega)]at ih
  have hr:=bJ.row (k:=k) (k1:=j) (t:=t) (r:=i) (acc:=(Pu.od t).take i) (by omega) hi (by omega) (by rw[List.length_take,Pu.td];omega) 11 k 0 (by omega) (by omega)
  rw[ih,List.take_zero,List.nil_append,Nat.sub_zero,Int.natCast_zero]at hr
  have h1:(i:Int)≤10:=by omega
  have h2:Int.toNat 11=11:=rfl
  have h3:(0:Int)≤11:=by omega
  have h4:(11:Nat)≤1099511627776:=by omega
  simp (disch:=omega) only[↓ak,sss,if_true,if_false,h1,h2,h3,h4,Int.le_refl,hr]
theorem bJ.is{k:Nat}{t:Pu.Tab}(hk:30≤k)(hi:Pu.bm t.1=true):bJ k t=some (Pu.od t):=by
 obtain⟨k,rfl⟩: ∃k',k=k'+1:=⟨k-1,by omega⟩
 rw[bJ.eq]
 have h:=bJ.loop (k:=k) (t:=t) (by omega) hi 11 k 0 (by omega) (by omega)
 rw[Int.natCast_zero,List.take_zero]at h
 exact h
theorem ba.row{k k1:Nat}{g R:List (List Int)}{q o x6:List Int}{x7:List (List Int)}{x8:List Int}{acc:List (List Int)}{r:Nat}(hro:r<o.length)(hrg:r<g.length)(ha:acc.length≤20)(h0:0≤q.getD r 0)(h9:o.getD r 0≤20)(hl:o.getD r 0=q.getD r 0+(R.getD r []).length)
  (hx: ∀x,x<(R.getD r []).length→(q.getD r 0).toNat+x<(g.getD r []).length∧Pu.cel g r ((q.getD r 0).toNat+x)=(R.getD r []).getD x 0) (hr:(r:Int)≤20): ∀(m j x:Nat),x+m=(R.getD r []).length→m<j→
  ba.L1 k k1 j r (((q.getD r 0).toNat+x:Nat):Int) g q o ((R.getD r []).take x) x6 x7 x8 acc=ba.L0 k k1 ((r+1:Nat):Int) g q o x6 x7 x8 (acc++ [R.getD r []])
 |m,0,x,_,hj=>by omega
 |0,j+1,x,hm,_=>by
  rw[ba.eA]
  have e:x=(R.getD r []).length:=by omega
  subst e
  rw[List.take_length]
  have hn: ¬(((q.getD r 0).toNat+(R.getD r []).length:Nat):Int)<o.getD r 0:=by omega
  generalize(q.getD r 0).toNat+(R.getD r []).length=y at*
  have hln:(acc++ [R.getD r []]).length≤1099511627776:=by rw[List.length_append,List.length_singleton];omega
  simp (disch:=omega) only[↓ak,sss,if_true,if_false,hro,hn,hln,Int.natCast_add,Int.natCast_one]
 |m+1,j+1,x,hm,hj=>by
  rw[ba.eA]
  have hlt:x<(R.getD r []).length:=by omega
  obtain⟨b1,b2⟩:=hx x hlt
  have ih:=ba.row (k:=k) (k1:=k1) (q:=q) (x6:=x6) (x7:=x7) (x8:=x8) hro hrg ha h0 h9 hl hx hr m j (x+1) (by omega) (by omega)
  rw[Pu.take_succ hlt 0,←b2]at ih
  have hc:(((q.getD r 0).toNat+x:Nat):Int)<o.getD r 0:=by omega
  have e1:(((q.getD r 0).toNat+(x+1):Nat):Int)=(((q.getD r 0).toNat+x:Nat):Int)+1:=by omega
  rw[e1]at ih
  have hln:((R.getD r []).take x++ [Pu.cel g r ((q.getD r 0).toNat+x)]).length≤1099511627776:=by
   rw[List.length_append,List.length_take,List.length_singleton];omega
  have ec:(g.getD r []).getD ((q.getD r 0).toNat+x) 0=Pu.cel g r ((q.getD r 0).toNat+x):=rfl
  generalize hy:(q.getD r 0).toNat+x=y at*
  simp (maxSteps:=10000000) (disch:=omega) only[↓ak,sss,if_true,if_false,hro,hrg,hc,b1,ec,hln,ih]
theorem ba.loop{k:Nat}{g R:List (List Int)}{q o x4:List Int}{x5:List (List Int)}{x6:List Int}(hk:40≤k)(hol:o.length≤9)(hg:o.length≤g.length)(hR:R.length=o.length)
  (h: ∀r,r<o.length→0≤q.getD r 0∧o.getD r 0≤20∧o.getD r 0=q.getD r 0+(R.getD r []).length∧ ∀x,x<(R.getD r []).length→(q.getD r 0).toNat+x<(g.getD r []).length∧Pu.cel g r ((q.getD r 0).toNat+x)=(R.getD r []).getD x 0): ∀(m j i:Nat),i+m=o.length→m<j→
  ba.L0 k j i g q o x4 x5 x6 (R.take i)=some (x6,R)
 |m,0,i,_,hj=>by omega
 |0,j+1,i,hm,_=>by
  rw[ba.bq]
  have e:i=o.length:=by omega
  subst e
  rw[List.take_of_length_le (by omega)]
  simp only[↓ak,sss,if_true,if_false,Nat.lt_irrefl]
 |m+1,j+1,i,hm,hj=>by
  rw[ba.bq]
  have hi:i<o.length:=by omega
  obtain⟨a1,a2,a3,a4⟩:=h i hi
  have ih:=ba.loop (q:=q) (x4:=x4) (x5:=x5) (x6:=x6) hk hol hg hR h m j (i+1) (by omega) (by omega)
  rw[Pu.take_succ (by omega) []]at ih
  have hr:=ba.row (k:=k) (k1:=j) (q:=q) (x6:=x4) (x7:=x5) (x8:=x6) (acc:=R.take i) hi (by omega) (by rw[List.length_take];omega) a1 a2 a3 a4 (by omega) (R.getD i []).length k 0 (by omega) (by omega)
  rw[ih,List.take_zero,Nat.add_zero,show(((q.getD i 0).toNat:Nat):Int)=q.getD i 0 by omega]at hr
  have ha:=cz.is (k:=k) (p:=q) (i:=(i:Int)) (by omega)
  rw[Pu.ca]at ha
  simp (disch:=omega) only[↓ak,sss,if_true,if_false,hi,ha,hr]
theorem ba.is{k:Nat}{g R:List (List Int)}{q o:List Int}(hk:50≤k)(hq:q.length≤9)(hol:o.length≤9)(hg:o.length≤g.length)(hR:R.length=o.length)
  (h: ∀r,r<o.length→0≤q.getD r 0∧o.getD r 0≤20∧o.getD r 0=q.getD r 0+(R.getD r []).length∧ ∀x,x<(R.getD r []).length→(q.getD r 0).toNat+x<(g.getD r []).length∧Pu.cel g r ((q.getD r 0).toNat+x)=(R.getD r []).getD x 0):
  ba k g q o=some (q,R):=by
 obtain⟨k,rfl⟩: ∃k',k=k'+1:=⟨k-1,by omega⟩
 rw[ba.eq]
 have hl:=ba.loop (k:=k) (q:=q) (x4:= []) (x5:= []) (x6:=q) (by omega) hol hg hR h o.length k 0 (by omega) (by omega)
 rw[Int.natCast_zero,List.take_zero]at hl
 have hln:q.length≤1099511627776:=by omega
 simp only[↓ak,sss,if_true,if_false,List.nil_append,hln,hl]
theorem aU.loop{k:Nat}{Q q x4 x6 x7:List Int}{x5:List (List Int)}(hk:4≤k): ∀(m j:Nat) (s g:List (List Int)) (i c:Nat),Pu.Sq s g i c→Pu.Sl Q g i c→g.length≤9→(∀r,(g.getD r []).length≤9)→m<j→
  Pu.cel (Pu.bT m g i c).1 (Pu.bT m g i c).2.1 ((Pu.bT m g i c).2.2+1)=0→Pu.cel (Pu.bT m g i c).1 ((Pu.bT m g i c).2.1+1) (Pu.bT m g i c).2.2=0→
  ∃s',Pu.Sq s' (Pu.bT m g i c).1 (Pu.bT m g i c).2.1 (Pu.bT m g i c).2.2∧aU.L0 k j i c q s x4 x5 x6 x7=aU.J2 k (Pu.bT m g i c).2.1 q s' x4 x5 x6 x7
 |m,0,s,g,i,c,_,_,_,_,hj,_,_=>by omega
 |0,j+1,s,g,i,c,hs,hg,hl,hw,_,s1,s2=>by
  have hi:=hg.hi
  have hc:=hg.hc
  have hwi:=hw i
  refine⟨s,hs,?_⟩
  have q1:=hs.row i (by omega)
  have q2:=hs.row (i+1) (by omega)
  have q0:=hs.len
  have r1:(s.getD i []).getD (c+1) 0=0:=(hs.at_ i (c+1) (by omega) (by omega) (by omega)).trans s1
  have r2:(s.getD (i+1) []).getD c 0=0:=(hs.at_ (i+1) c (by omega) (by omega) (by omega)).trans s2
  have e1:(c:Int)+1=((c+1:Nat):Int):=by omega
  have e2:(i:Int)+1=((i+1:Nat):Int):=by omega
  have g1:i<11:=by omega
  have g2:c+1<11:=by omega
  have g3:i+1<11:=by omega
  have g4:c<11:=by omega
  rw[aU.bq]
  simp (maxSteps:=10000000) (disch:=omega) only[↓ak,sss,if_true,if_false,e1,e2,q0,q1,q2,g1,g2,g3,g4,r1,r2,Int.lt_irrefl,Pu.bT]
 |m+1,j+1,s,g,i,c,hs,hg,hl,hw,hj,s1,s2=>by
  have hi:=hg.hi
  have hc:=hg.hc
  have hwi:=hw i
  have q1:=hs.row i (by omega)
  have q2:=hs.row (i+1) (by omega)
  have q0:=hs.len
  have r1:(s.getD i []).getD (c+1) 0=Pu.cel g i (c+1):=hs.at_ i (c+1) (by omega) (by omega) (by omega)
  have r2:(s.getD (i+1) []).getD c 0=Pu.cel g (i+1) c:=hs.at_ (i+1) c (by omega) (by omega) (by omega)
  have p1:=hg.pos i (c+1)
  have p2:=hg.pos (i+1) c
  have e1:(c:Int)+1=((c+1:Nat):Int):=by omega
  have e2:(i:Int)+1=((i+1:Nat):Int):=by omega
  have g1:i<11:=by omega
  have g2:c+1<11:=by omega
  have g3:i+1<11:=by omega
  have g4:c<11:=by omega
  have es: ∀v,s.set i ((s.getD i []).set c v)=Pu.fb s i c v:=fun _=>rfl
  have es1: ∀v,(Pu.fb s i c v).set (i+1) (((Pu.fb s i c v).getD (i+1) []).set c 0)=Pu.fb (Pu.fb s i c v) (i+1) c 0:=fun _=>rfl
  have es2: ∀v,(Pu.fb s i c v).set i (((Pu.fb s i c v).getD i []).set (c+1) 0)=Pu.fb (Pu.fb s i c v) i (c+1) 0:=fun _=>rfl
  have z0: ∀v,(Pu.fb s i c v).length=11:=fun v=>by rw[Pu.dy];exact q0
  have z1: ∀v,((Pu.fb s i c v).getD i []).length=11:=fun v=>by rw[Pu.bp];exact q1
  have z2: ∀v,((Pu.fb s i c v).getD (i+1) []).length=11:=fun v=>by rw[Pu.bp];exact q2
  unfold Pu.bT at s1 s2⊢
  by_cases c1:Pu.cel g i (c+1)=0∧Pu.cel g (i+1) c=0
  ·rw[if_pos c1]at s1 s2⊢
   refine⟨s,hs,?_⟩
   rw[aU.bq]
   simp (maxSteps:=10000000) (disch:=omega) only[↓ak,sss,if_true,if_false,e1,e2,q0,q1,q2,g1,g2,g3,g4,r1,r2,c1.1,c1.2,Int.lt_irrefl]
  ·rw[if_neg c1]at s1 s2⊢
   by_cases c2:Pu.cel g i (c+1)=0∨(0<Pu.cel g (i+1) c∧Pu.cel g (i+1) c≤Pu.cel g i (c+1))
   ·rw[if_pos c2]at s1 s2⊢
    have hb:Pu.cel g (i+1) c≠0:=fun e=>by
     rcases c2 with c2|c2
     ·exact c1 ⟨c2,e⟩
     ·omega
    have hb':0<Pu.cel g (i+1) c:=by omega
    obtain⟨s',a1,a2⟩:=aU.loop (Q:=Q) (q:=q) (x4:=x4) (x6:=x6) (x7:=x7) (x5:=x5) hk m j _ _ (i+1) c (hs.step (i':=i+1) (c':=c) hi hc g1 g4 g3 g4 (by omega) (Pu.cel g (i+1) c)) (hg.down hb c2) (by rw[Pu.dy];exact hl) (fun r=>by rw[Pu.bp];exact hw r) (by omega) s1 s2
    refine⟨s',a1,?_⟩
    rw[←a2,aU.bq,aU.ep]
    by_cases c3:Pu.cel g i (c+1)=0
    ·simp (maxSteps:=10000000) (disch:=omega) only[↓ak,sss,if_true,if_false,e1,e2,q0,q1,q2,g1,g2,g3,g4,r1,r2,c3,hb',Int.lt_irrefl,es,aU.lQ,z0,z1,z2,es1]
    ·have c4:Pu.cel g (i+1) c≤Pu.cel g i (c+1):=(c2.resolve_left c3).2
     have c5:0<Pu.cel g i (c+1):=by omega
     simp (maxSteps:=10000000) (disch:=omega) only[↓ak,sss,if_true,if_false,e1,e2,q0,q1,q2,g1,g2,g3,g4,r1,r2,c3,c4,c5,hb',es,aU.lQ,z0,z1,z2,es1]
   ·rw[if_neg c2]at s1 s2⊢
    have c3: ¬Pu.cel g i (c+1)=0:=fun e=>c2 (.inl e)
    have c5:0<Pu.cel g i (c+1):=by omega
    obtain⟨s',a1,a2⟩:=aU.loop (Q:=Q) (q:=q) (x4:=x4) (x6:=x6) (x7:=x7) (x5:=x5) hk m j _ _ i (c+1) (hs.step (i':=i) (c':=c+1) hi hc g1 g4 g1 g2 (by omega) (Pu.cel g i (c+1))) (hg.right c3 (fun e=>c2 (.inr e))) (by rw[Pu.dy];exact hl) (fun r=>by rw[Pu.bp];exact hw r) (by omega) s1 s2
    refine⟨s',a1,?_⟩
    rw[←a2,aU.bq,aU.ep]
    by_cases c4:0<Pu.cel g (i+1) c
    ·have c6: ¬Pu.cel g (i+1) c≤Pu.cel g i (c+1):=fun e=>c2 (.inr ⟨c4,e⟩)
     simp (maxSteps:=10000000) (disch:=omega) only[↓ak,sss,if_true,if_false,e1,e2,q0,q1,q2,g1,g2,g3,g4,r1,r2,c3,c4,c5,c6,es,aU.lQ,z0,z1,z2,es2]
    ·simp (maxSteps:=10000000) (disch:=omega) only[↓ak,sss,if_true,if_false,e1,e2,q0,q1,q2,g1,g2,g3,g4,r1,r2,c3,c4,c5,es,aU.lQ,z0,z1,z2,es2]
theorem aU.is{k:Nat}{t:Pu.Tab}{n:Nat}(hk:4194304+8≤k)(h:Pu.dM t=true)(hn:n<t.1.length)(hc:t.1.getD (n+1) 0<t.1.getD n 0):aU k t n=some ((Pu.iD t n).1,((Pu.iD t n).2:Int)):=by
 obtain⟨k,rfl⟩: ∃k',k=k'+1:=⟨k-1,by omega⟩
 obtain⟨z1,z2⟩:=Pu.uw h
 obtain⟨hp,ho,hl,_⟩:=Pu.iB h
 have hs:Pu.shapeOf t=((Pu.outer t,t.1),true):=by unfold Pu.shapeOf;rw[if_pos (Pu.mJ h)]
 have hsh:=bZ.is (k:=k) (t:=t) (by omega) (by omega) (by have:=z2.1;omega) (fun r hr=>by have:=z2.2 r hr;omega)
 rw[hs]at hsh
 have hrb:=cK.is (k:=k) (p:=t.1) (n:=n) (by omega) hp hn hc
 have hgr:=bJ.is (k:=k) (t:=t) (by omega) hp
 have hb:=Pu.cQ hp n
 rw[Pu.ca]at hb
 have hpos:1≤t.1.getD n 0:=by
  rw[Pu.al hn]
  exact((Pu.aY hp).1 _ (List.getElem_mem hn)).1
 obtain⟨E,s1,s2⟩:=Pu.EG h hn hc
 have hst:=Pu.qx h hn hc
 obtain⟨s',a1,a2⟩:=aU.loop (k:=k) (q:=Pu.aB t.1 n) (x4:= []) (x6:=Pu.outer t) (x7:=t.1) (x5:= []) (by omega) 18 k (Pu.od t) (Pu.bP t) n (t.1.getD n 0-1).toNat (Pu.EO h hn) hst (by rw[Pu.fV];exact z2.1) (fun r=>by
  have a:=Pu.jY hp r
  have b:=(Pu.cQ ho r).2
  rw[Pu.ca]at b
  omega) (by omega) s1 s2
 rw[show(((t.1.getD n 0-1).toNat:Nat):Int)=t.1.getD n 0-1 by omega]at a2
 have hS:Pu.bT 18 (Pu.bP t) n (t.1.getD n 0-1).toNat=Pu.gP t n:=rfl
 rw[hS]at a1 a2
 rw[aU.eq,show((t.1,t.2):Pu.Tab)=t from rfl]
 unfold Pu.iD
 generalize Pu.gP t n=S at*
 obtain⟨g,i,c⟩:=S
 simp only at E a1 a2⊢
 have ho9:=(Pu.aY ho).2.2.1
 have hdl:=Pu.lP (Pu.outer t) i
 have hql:=Pu.lP t.1 n
 have hrb2:=cK.is (k:=k) (p:=Pu.outer t) (n:=i) (by omega) ho E.hi E.cor
 have htb:=ba.is (k:=k) (g:=s') (R:=Pu.cI (Pu.aB t.1 n) (Pu.lT g i c) (Pu.aB (Pu.outer t) i).length) (q:=Pu.aB t.1 n) (o:=Pu.aB (Pu.outer t) i) (by omega) (by omega) (by omega) (by rw[a1.len];omega) (by rw[Pu.eR]) (fun r hr=>by
  have hq:=E.sl.q0 r
  have ho20:(Pu.aB (Pu.outer t) i).getD r 0≤20:=by
   have a:=E.cutl r
   have b:=E.rows.at r
   omega
  refine⟨hq,ho20,E.zh hr,fun x hx=> ?_⟩
  obtain⟨c1,c2,c3,c4⟩:=E.cell hr hx
  have b:=E.rows.at r
  have a:=E.cutl r
  have hx11:((Pu.aB t.1 n).getD r 0).toNat+x<11:=by omega
  have hr11:r<11:=by omega
  refine⟨by rw[a1.row r hr11];exact hx11,?_⟩
  rw[c4]
  exact a1.at_ r _ hr11 hx11 c3)
 rw[aU.mf,hrb2,aX,htb,aX]at a2
 simp (disch:=omega) only[↓ak,sss,if_true,if_false,hsh,hrb,hgr,hn,a2]
theorem iS.is{k:Nat}{t:Pu.Tab}(hk:4194304+30≤k)(h:Pu.aL t=true)(h0:0<t.2.length):iS k t=some ((Pu.aE t).1,((Pu.aE t).2:Int)):=by
 obtain⟨k,rfl⟩: ∃k',k=k'+1:=⟨k-1,by omega⟩
 have hz:=Pu.fN h
 have hi1:=Pu.cy h
 have hr:=Pu.gm h h0
 have hcp:=cN.is (k:=k) (t:=t) (by omega) (by rw[hi1];simp) (by have:=hz.1;omega) (fun r hr=>by have:=hz.2 r hr;omega)
 have hs:=aU.is (k:=k) (t:=Pu.eY t) (n:=0) (by omega) (Pu.oI h h0) (by simp[Pu.eY]) (by simp[Pu.eY])
 rw[Int.natCast_zero]at hs
 have e2:((t.2.getD 0 []).drop 1).take ((t.2.getD 0 []).length-1)=(t.2.getD 0 []).drop 1:=List.take_of_length_le (by rw[List.length_drop];omega)
 rw[iS.eq,show((t.1,t.2):Pu.Tab)=t from rfl,hcp,aX]
 have hg:1≤(t.2.getD 0 []).length:=hr
 simp only[↓ak,sss,if_true,if_false,cH,Int.toNat_zero,Int.toNat_one,h0,hg,e2,show(0:Int)≤0 from Int.le_refl _,show(0:Int)≤1 by omega]
 rw[show((1:: [],t.2.set 0 ((t.2.getD 0 []).drop 1)):Pu.Tab)=Pu.eY t from rfl,hs]
 rfl
theorem aR.inner{k k1:Nat}{x2:List Int}{x3:List (List Int)}{inn:List Int}{i:Nat}(hi9:i<1000){len:Nat}(hl9:len≤1000): ∀(m j q:Nat) (rs:List (List Int)),q+m=len→(rs.getD i []).length=len→m<j→i<rs.length→(∀p,q≤p→ -100≤(rs.getD i []).getD p 0∧(rs.getD i []).getD p 0≤101)→
  aR.L3 k k1 j i q x2 x3 inn rs=aR.L2 k k1 ((i+1:Nat):Int) x2 x3 inn (rs.set i (Pu.jd (-1) q (rs.getD i [])))
 |m,0,q,rs,_,_,hj,_,_=>by omega
 |0,j+1,q,rs,hq,hl,_,hi,_=>by
  rw[aR.CE]
  have hn: ¬(q:Int)<(rs.getD i []).length:=by omega
  have e:q=(rs.getD i []).length:=by omega
  rw[show Pu.jd (-1) q (rs.getD i [])=rs.getD i [] by rw[e,Pu.uW],Pu.al hi,List.set_getElem_self]
  simp (disch:=omega) only[↓ak,sss,if_true,if_false,hn,hi]
  rw[Int.natCast_succ]
 |m+1,j+1,q,rs,hq,hl,hj,hi,hb=>by
  rw[aR.CE]
  have hn:(q:Int)<(rs.getD i []).length:=by omega
  have hql:q<(rs.getD i []).length:=by omega
  have hbq:=hb q (Nat.le_refl _)
  have er:(rs.set i ((rs.getD i []).set q ((rs.getD i []).getD q 0+ -1))).getD i []=(rs.getD i []).set q ((rs.getD i []).getD q 0+ -1):=by
   rw[Pu.al (by rw[List.length_set];exact hi),List.getElem_set_self]
  have ih:=aR.inner (k:=k) (k1:=k1) (x2:=x2) (x3:=x3) (inn:=inn) hi9 hl9 m j (q+1) (rs.set i ((rs.getD i []).set q ((rs.getD i []).getD q 0+ -1))) (by omega) (by rw[er,List.length_set];exact hl) (by omega) (by rw[List.length_set];exact hi) (fun p hp=>by
   rw[er,Pu.getD_set_ne (by omega)]
   exact hb p (by omega))
  rw[er,List.set_set,Pu.sR hql]at ih
  rw[←ih,Int.natCast_succ,show(rs.getD i []).getD q 0+ -1=(rs.getD i []).getD q 0-1 from rfl]
  simp (disch:=omega) only[↓ak,sss,if_true,if_false,hn,hi,hql]
theorem aR.outer{k:Nat}{x2:List Int}{x3:List (List Int)}{inn:List Int}(hk:4194304≤k): ∀(m j i:Nat) (rs:List (List Int)),i+m=rs.length→m<j→Pu.cj 999 1000 rs→(∀a p,-100≤((rs.drop i).getD a []).getD p 0∧((rs.drop i).getD a []).getD p 0≤101)→
  aR.L2 k j i x2 x3 inn rs=some ((inn,Pu.jK (-1) i rs),true)
 |m,0,i,rs,_,hj,_,_=>by omega
 |0,j+1,i,rs,hm,_,_,_=>by
  rw[aR.qX]
  have e:i=rs.length:=by omega
  subst e
  have hn: ¬(rs.length:Int)<rs.length:=by omega
  simp only[↓ak,sss,if_true,if_false,hn,Pu.qW]
 |m+1,j+1,i,rs,hm,hj,hr,hs=>by
  rw[aR.qX]
  have hi:i<rs.length:=by omega
  have hn:(i:Int)<rs.length:=by omega
  have h9:=hr.at i
  have h99:=hr.1
  have hg: ∀p,-100≤(rs.getD i []).getD p 0∧(rs.getD i []).getD p 0≤101:=fun p=>by
   have:=hs 0 p
   rw[Pu.gZ]at this
   exact this
  have hin:=aR.inner (k:=k) (k1:=j) (x2:=x2) (x3:=x3) (inn:=inn) (i:=i) (by omega) (len:=(rs.getD i []).length) h9 (rs.getD i []).length k 0 rs (by omega) rfl (by omega) hi (fun p _=>hg p)
  have ih:=aR.outer (x2:=x2) (x3:=x3) (inn:=inn) hk m j (i+1) (rs.set i (Pu.jd (-1) 0 (rs.getD i []))) (by rw[List.length_set];omega) (by omega) (hr.set i (by rw[Pu.uO];exact h9)) (fun a p=>by
   have:=hs (a+1) p
   rw[Pu.gZ]at this⊢
   rw[Pu.getD_set_ne (by omega)]
   rw[show i+1+a=i+(a+1) by omega]
   exact this)
  rw[Pu.qq hi]at ih
  rw[ih]at hin
  rw[Int.natCast_zero]at hin
  simp (disch:=omega) only[↓ak,sss,if_true,if_false,hn,hin]
theorem aR.tail{k:Nat}{x2:List Int}{x3:List (List Int)}{inn:List Int}{n i:Nat}{rs:List (List Int)}(hk:4194304+2≤k)(hn:n≤9)(hi:i<rs.length)(hr:Pu.cj 10 9 rs)(hs:Pu.Small rs):
  aR.J1 k n i x2 x3 inn rs=some ((inn,Pu.bO (-1) (rs.set i (rs.getD i []++ [(n:Int)+1]))),true):=by
 rw[aR.ep]
 have h9:=hr.at i
 have h99:=hr.1
 have hl:(rs.getD i []++ [(n:Int)+1]).length≤1099511627776:=by rw[List.length_append];simp only[List.length_cons,List.length_nil];omega
 have ho:=aR.outer (k:=k) (x2:=x2) (x3:=x3) (inn:=inn) (by omega) rs.length k 0 (rs.set i (rs.getD i []++ [(n:Int)+1])) (by rw[List.length_set];omega) (by omega) ((hr.mono (n':=999) (m':=1000) (by omega) (by omega)).set i (by rw[List.length_append];simp only[List.length_cons,List.length_nil];omega)) (fun a p=>by
  rw[List.drop_zero]
  by_cases e:a=i
  ·subst e
   have er:(rs.set a (rs.getD a []++ [(n:Int)+1])).getD a []=rs.getD a []++ [(n:Int)+1]:=by
    rw[Pu.al (by rw[List.length_set];exact hi),List.getElem_set_self]
   rw[er]
   by_cases hp:p<(rs.getD a []).length
   ·rw[Pu.al (xs:=_++_) (by rw[List.length_append];omega),List.getElem_append_left hp,←Pu.al hp 0]
    have:=hs a p
    omega
   ·simp only[List.getD_eq_getElem?_getD (l:=_++_),List.getElem?_append_right (Nat.le_of_not_lt hp)]
    cases p-(rs.getD a []).length with
    |zero=>simp;omega
    |succ q=>simp
  ·rw[Pu.getD_set_ne (Ne.symm e)]
   have:=hs a p
   omega)
 rw[Int.natCast_zero]at ho
 simp only[Pu.jK,List.take_zero,List.drop_zero,List.nil_append]at ho
 simp (disch:=omega) only[↓ak,sss,if_true,if_false,hi,hl,ho]
theorem aR.is{k:Nat}{t:Pu.Tab}(hk:4194304+50≤k)(h1:t.1.length≤1048576)(ht:t.2.length≤1048576)(hr: ∀x∈t.2,x.length≤1048576):aR k t=some (Pu.bF t):=by
 obtain⟨k,rfl⟩: ∃k',k=k'+1:=⟨k-1,by omega⟩
 rw[aR.eq,show((t.1,t.2):Pu.Tab)=t from rfl,dX.is (by omega) h1 ht hr,a9.is (by omega) h1 ht hr,aX,aX]
 unfold Pu.bF
 cases hp:Pu.aL t with
 |false=>simp
 |true=>
  cases hb:Pu.cw t with
  |false=>simp
  |true=>
   have h9:=Pu.jm hp
   have hnum:=cb.is (k:=k) (t:=t) (by omega) ht (by omega)
   by_cases c:t.2.flatten.length=0
   ·have hc:(t.2.flatten.length:Int)=0:=by omega
    rw[if_pos ⟨rfl,rfl⟩,if_pos c]
    simp only[↓ak,sss,if_true,if_false,aR.fm,hnum,hc]
   ·have hc: ¬(t.2.flatten.length:Int)=0:=by omega
    have h0:=Pu.fW (t:=t) (by omega)
    have htk:=iS.is (k:=k) (by omega) hp h0
    obtain⟨w1,w2⟩:=Pu.m9 hp h0
    have w3:=Pu.xy hp h0
    have hin:=Pu.cy (Pu.cX hp h0).1
    have htl:=aR.tail (k:=k) (x2:=([]:List Int)) (x3:=([]:List (List Int))) (inn:= []) (by omega) h9 w1 w2 w3
    rw[Pu.Aa _ w1]at htl
    rw[if_pos ⟨rfl,rfl⟩,if_neg c]
    have hle:=Pu.sk hp h0
    have hlr:=w2.1
    unfold Pu.dS at htl hlr⊢
    by_cases e:(Pu.aE t).2=(Pu.aE t).1.2.length
    ·have e':((Pu.aE t).2:Int)=(Pu.aE t).1.2.length:=by omega
     rw[if_pos e]at htl hlr⊢
     have hl:((Pu.aE t).1.2++ [[]]).length≤1099511627776:=by omega
     simp only[↓ak,sss,if_true,if_false,aR.fm,hnum,hc,htk,hin,hl]
     rw[if_pos e',htl]
    ·have e': ¬((Pu.aE t).2:Int)=(Pu.aE t).1.2.length:=by omega
     rw[if_neg e]at htl hlr⊢
     simp only[↓ak,sss,if_true,if_false,aR.fm,hnum,hc,htk,hin,e',htl]
theorem dO.is{k:Nat}{n:Int}{r:List Int}(hk:4194304+3≤k)(hr:r.length≤1048577):dO k n r=some (Pu.has r n,n):=by
 obtain⟨k,rfl⟩: ∃k',k=k'+1:=⟨k-1,by omega⟩
 rw[dO.eq,bK.is (by omega) hr]
 rfl
theorem au.is{k:Nat}{r:List (List Int)}{n:Int}(hk:4194304+4≤k)(hl:r.length≤1048577)(hr: ∀x∈r,x.length≤1048577):au k n r=some (Pu.yK (fun x=>Pu.has x n) r,n):=by
 obtain⟨k,rfl⟩: ∃k',k=k'+1:=⟨k-1,by omega⟩
 rw[au.eq]
 have h:=Pu.wa r [] (fun x=>Pu.has x n) (fun j i=>au.L0 k j r.length i r n) (fun i=>some ((i:Int),n)) (some (-1,n))
  (fun j i hi=>by
   have hx:=hr _ (List.getElem_mem hi)
   rw[←Pu.al hi []]at hx
   rw[au.bq]
   have e1:=dO.is (k:=k) (n:=n) (by omega) hx
   cases c:Pu.has (r.getD i []) n<;>simp (disch:=omega) only[↓ak,sss,if_true,if_false,hi,e1,c,Int.natCast_add,Int.natCast_one])
  (fun j=>by
   rw[au.bq]
   simp only[↓ak,sss,if_true,if_false,Nat.lt_irrefl]) r.length k 0 (by omega) (by omega) (by omega)
 simp only[Int.natCast_zero]at h
 simp only[dn,dq]
 rw[h]
 unfold Pu.yK
 split<;>rfl
theorem gr.is{k:Nat}{t:Pu.Tab}{n:Int}(hk:4194304+8≤k)(h1:t.1.length≤1048576)(ht:t.2.length≤1048576)(hr: ∀x∈t.2,x.length≤1048576):gr k t n=some (if Pu.cw t=true then Pu.rowOf t n else-1):=by
 obtain⟨k,rfl⟩: ∃k',k=k'+1:=⟨k-1,by omega⟩
 rw[gr.eq,dH.is (by omega) h1 ht hr,aX,au.is (by omega) (by omega) (fun x hx=>by have:=hr x hx;omega)]
 cases Pu.cw t<;>simp[Pu.rowOf]
theorem cq.tail{k:Nat}{o p:List Int}{r:Int}(hk:4194304+1≤k)(hp:p.length≤1048576)(hb: ∀x∈p,x≤1000000000∧ -1000000000≤x)(h0:0≤r)(h1:r<p.length):
  cq.J1 k r p=some (if Pu.bm (p.set r.toNat (p.getD r.toNat 0+1))=true then(p.set r.toNat (p.getD r.toNat 0+1),true)else([],false)):=by
 rw[cq.ep]
 have hn:r.toNat<p.length:=by omega
 have hx:=hb _ (List.getElem_mem hn)
 rw[←Pu.al hn 0]at hx
 have ew:IntKind.i64.wrap (p.getD r.toNat 0+1)=p.getD r.toNat 0+1:=Pu.w64 (by omega) (by omega)
 have hi:=aP.is (k:=k) (p:=p.set r.toNat (p.getD r.toNat 0+1)) hk (by rw[List.length_set];exact hp)
 by_cases hq:Pu.bm (p.set r.toNat (p.getD r.toNat 0+1))=true
 ·simp only[↓ak,sss,if_true,if_false,h0,hn,ew,hi,hq]
 ·simp only[Bool.not_eq_true]at hq
  simp only[↓ak,sss,if_true,if_false,h0,hn,ew,hi,hq]
theorem cq.is{k:Nat}{p:List Int}{r:Int}(hk:4194304+3≤k)(hp:p.length≤1000000):cq k p r=some (Pu.gM p r):=by
 obtain⟨k,rfl⟩: ∃k',k=k'+1:=⟨k-1,by omega⟩
 rw[cq.eq,aP.is (by omega) (by omega),aX]
 unfold Pu.gM
 by_cases h1:Pu.bm p=true
 ·have hb: ∀x∈p,x≤1000000000∧ -1000000000≤x:=fun x hx=>by
   have:=(Pu.aY h1).1 x hx
   omega
  rw[dq,dn,cY.is (by omega),aX]
  by_cases h2:0≤r∧r≤p.length
  ·obtain⟨h2,h3⟩:=h2
   rw[cq.fm,bg.is (by omega) (by omega),aX]
   by_cases e:r=p.length
   ·have hr:r<(p++ [0]).length:=by rw[List.length_append];simp;omega
    have ht:=cq.tail (o:=p) (k:=k) (p:=p++ [0]) (r:=r) (by omega) (by rw[List.length_append];simp;omega) (fun x hx=>by
     rcases List.mem_append.1 hx with h|h
     ·exact hb x h
     ·simp at h;omega) h2 hr
    have hlim:(p++ [(0:Int)]).length≤1099511627776:=by rw[List.length_append];simp;omega
    have e':(r=(p.length:Int))=True:=eq_true e
    have hw:Pu.within r 0 p.length=true:=by simp[Pu.within,h2,h3]
    simp only[↓ak,sss,if_true,if_false,h1,hw,e',hlim]
    rw[ht];simp only[h2,h3,and_self,if_true]
   ·have ht:=cq.tail (o:=p) (k:=k) (p:=p) (r:=r) (by omega) (by omega) hb h2 (by omega)
    have hw:Pu.within r 0 p.length=true:=by simp[Pu.within,h2,h3]
    simp only[↓ak,sss,if_true,if_false,h1,hw,e]
    rw[ht];simp only[h2,h3,and_self,if_true]
  ·simp only[↓ak,sss,if_true,if_false,h1,Pu.within]
   by_cases h3:0≤r
   ·have h4: ¬r≤p.length:=fun h=>h2 ⟨h3,h⟩
    simp[h1,h3,h4]
   ·simp[h1,h3]
 ·simp only[Bool.not_eq_true]at h1
  simp[h1]
theorem ao.loop{k:Nat}{x3:List Int}{x4:List (List Int)}{x5:List Int}{x6:List (List Int)}(hk:4≤k): ∀(m j:Nat) (g:List (List Int)) (i c:Nat),Pu.cj 10 10 g→(∀r x,0≤Pu.cel g r x)→i<g.length→c<(g.getD i []).length→m<j→
  Pu.leftOf (Pu.fE m g i c).1 (Pu.fE m g i c).2.1 (Pu.fE m g i c).2.2=0→Pu.l6 (Pu.fE m g i c).1 (Pu.fE m g i c).2.1 (Pu.fE m g i c).2.2=0→
  ao.L2 k j i c g x3 x4 x5 x6=ao.J3 k (Pu.fE m g i c).2.1 (Pu.fE m g i c).2.2 (Pu.fE m g i c).1 x3 x4 x5 x6
 |m,0,g,i,c,_,_,_,_,hj,_,_=>by omega
 |0,j+1,g,i,c,hg,hpos,hi,hc,_,s1,s2=>by
  have hl:=hg.1
  have hw:=hg.at i
  have e5:=fg.is (k:=k+1) (a:=g) (i:=i) (c:=(c:Int)-1) (by omega) (hg.mono (by omega) (by omega))
  have e6:=fg.is (k:=k+1) (a:=g) (i:=(i:Int)-1) (c:=c) (by omega) (hg.mono (by omega) (by omega))
  have s1:Pu.leftOf g i c=0:=s1
  have s2:Pu.l6 g i c=0:=s2
  rw[Pu.yl,s1]at e5
  rw[Pu.Ct,s2]at e6
  rw[ao.qX]
  simp (disch:=omega) only[↓ak,sss,if_true,if_false,e5,e6,Pu.fE]
 |m+1,j+1,g,i,c,hg,hpos,hi,hc,hj,s1,s2=>by
  have hl:=hg.1
  have hw:=hg.at i
  have e5:=fg.is (k:=k+1) (a:=g) (i:=i) (c:=(c:Int)-1) (by omega) (hg.mono (by omega) (by omega))
  have e6:=fg.is (k:=k+1) (a:=g) (i:=(i:Int)-1) (c:=c) (by omega) (hg.mono (by omega) (by omega))
  rw[Pu.yl]at e5
  rw[Pu.Ct]at e6
  have hs: ∀v,Pu.cj 10 10 (Pu.fb g i c v):=fun v=>hg.set i (by rw[List.length_set];exact hw)
  have es: ∀v,g.set i ((g.getD i []).set c v)=Pu.fb g i c v:=fun _=>rfl
  have pl:0≤Pu.leftOf g i c:=Pu.EJ (V:=fun v=>0≤v) (Int.le_refl 0) hpos i c
  have pu:0≤Pu.l6 g i c:=Pu.Gh (V:=fun v=>0≤v) (Int.le_refl 0) hpos i c
  rw[ao.qX]
  unfold Pu.fE at s1 s2⊢
  by_cases c1:Pu.leftOf g i c=0∧Pu.l6 g i c=0
  ·rw[if_pos c1]at s1 s2⊢
   rw[c1.1]at e5
   rw[c1.2]at e6
   simp (disch:=omega) only[↓ak,sss,if_true,if_false,e5,e6]
  ·rw[if_neg c1]at s1 s2⊢
   by_cases c2:Pu.leftOf g i c≤Pu.l6 g i c
   ·rw[if_pos c2]at s1 s2⊢
    have hb:Pu.l6 g i c≠0:=fun e=>c1 ⟨by omega,e⟩
    obtain⟨b0,b1,b2⟩:=Pu.Hn hb
    have ih:=ao.loop (x3:=x3) (x4:=x4) (x5:=x5) (x6:=x6) hk m j (Pu.fb g i c (Pu.l6 g i c)) (i-1) c (hs _) (Pu.CU hpos i c pu) (by rw[Pu.dy];exact b1) (by rw[Pu.bp];exact b2) (by omega) s1 s2
    rw[show((i-1:Nat):Int)=(i:Int)-1 by omega]at ih
    by_cases c3:Pu.leftOf g i c=0
    ·simp (disch:=omega) only[↓ak,sss,if_true,if_false,e5,e6,c3,hb,c2,hi,hc,es,ao.ET,pu,ih]
    ·simp (disch:=omega) only[↓ak,sss,if_true,if_false,e5,e6,c3,c2,hi,hc,es,ao.ET,ih]
   ·rw[if_neg c2]at s1 s2⊢
    have c3: ¬Pu.leftOf g i c=0:=fun e=>c2 (by omega)
    obtain⟨b0,b1,b2⟩:=Pu.FK c3
    have ih:=ao.loop (x3:=x3) (x4:=x4) (x5:=x5) (x6:=x6) hk m j (Pu.fb g i c (Pu.leftOf g i c)) i (c-1) (hs _) (Pu.CU hpos i c pl) (by rw[Pu.dy];exact b1) (by rw[Pu.bp];exact b2) (by omega) s1 s2
    rw[show((c-1:Nat):Int)=(c:Int)-1 by omega]at ih
    simp (disch:=omega) only[↓ak,sss,if_true,if_false,e5,e6,c3,c2,hi,hc,es,ao.ET,ih]
theorem ao.rows{k:Nat}{q:List Int}{G:List (List Int)}{x2:Int}{x5:List Int}{x6:List (List Int)}{x8:List Int}{x9:List (List Int)}(hk:4≤k)(hG:Pu.cj 10 10 G)(hq:q.length≤100)
  (h1: ∀r,r<G.length→0<(G.getD r []).length→0≤q.getD r 0∧q.getD r 0≤(G.getD r []).length): ∀(m j i:Nat) (acc:List (List Int)),i+m=G.length→m<j→acc.length≤i→
  ao.L6 k j G.length i x2 q G x5 x6 acc x8 x9=some ((q,acc++Pu.k9 q i (G.drop i)),(x2,true))
 |m,0,i,acc,_,hj,_=>by omega
 |0,j+1,i,acc,hm,_,_=>by
  rw[ao.F2]
  have e:i=G.length:=by omega
  subst e
  simp only[↓ak,sss,if_true,if_false,Nat.lt_irrefl,List.drop_length,Pu.k9,List.append_nil]
 |m+1,j+1,i,acc,hm,hj,ha=>by
  have hl:=hG.1
  have hw:=hG.at i
  have hi:i<G.length:=by omega
  rw[ao.F2,Pu.drop_cons hi []]
  unfold Pu.k9
  by_cases c:0<(G.getD i []).length
  ·obtain⟨a2,a3⟩:=h1 i hi c
   have ih:=ao.rows (x2:=x2) (x5:=x5) (x6:=x6) (x8:=x8) (x9:=x9) hk hG hq h1 m j (i+1) (acc++ [(G.getD i []).drop (q.getD i 0).toNat]) (by omega) (by omega) (by rw[List.length_append,List.length_singleton];omega)
   rw[Int.natCast_succ]at ih
   have hat:=eH.is (k:=k) (p:=q) (i:=(i:Int)) (by omega) (by omega)
   rw[Pu.ca]at hat
   have et:(G.getD i []).drop (q.getD i 0).toNat=((G.getD i []).drop (q.getD i 0).toNat).take ((G.getD i []).length-(q.getD i 0).toNat):=(List.take_of_length_le (by rw[List.length_drop];exact Nat.le_refl _)).symm
   have hcl:=bg.is (k:=k) (a:=(G.getD i []).drop (q.getD i 0).toNat) (by omega) (by rw[List.length_drop];omega)
   have hln:(acc++ [(G.getD i []).drop (q.getD i 0).toNat]).length≤1099511627776:=by
    rw[List.length_append,List.length_singleton];omega
   have a4:(0:Int)<(G.getD i []).length:=by omega
   have a5:(q.getD i 0).toNat≤(G.getD i []).length:=by omega
   rw[if_pos c]
   simp (disch:=omega) only[↓ak,sss,if_true,if_false,hi,a2,a4,a5,hat,cH,←et,hcl,hln,ao.F7,ih,List.append_assoc,List.cons_append,List.nil_append]
  ·have a4: ¬(0:Int)<(G.getD i []).length:=by omega
   have ih:=ao.rows (x2:=x2) (x5:=x5) (x6:=x6) (x8:=x8) (x9:=x9) hk hG hq h1 m j (i+1) acc (by omega) (by omega) (by omega)
   rw[Int.natCast_succ]at ih
   rw[if_neg c]
   simp (disch:=omega) only[↓ak,sss,if_true,if_false,hi,a4,ao.F7,ih]
theorem ao.is{k:Nat}{t:Pu.Tab}{n i c:Nat}{p q:List Int}{g:List (List Int)}(hk:4194304+30≤k)(h:Pu.dM t=true)(hp:Pu.gM (Pu.outer t) n=(p,true))(hpos: ∀r x,0≤Pu.cel (Pu.eU t n) r x)
  (hs:Pu.fE 18 (Pu.eU t n) n (p.getD n 0-1).toNat=(g,(i,c))) (h1:Pu.leftOf g i c=0) (h2:Pu.l6 g i c=0) (hg:Pu.cj 10 10 g) (hq:Pu.gM t.1 i=(q,true)) (hc:q.getD i 0=c+1)
  (hin: ∀r,r<g.length→0<(g.getD r []).length→0≤q.getD r 0∧q.getD r 0≤(g.getD r []).length):ao k t n=some ((q,Pu.k9 q 0 g),((i:Int),true)):=by
 obtain⟨k,rfl⟩: ∃k',k=k'+2:=⟨k-2,by omega⟩
 obtain⟨z1,z2⟩:=Pu.uw h
 obtain⟨hp1,ho,hl,_⟩:=Pu.iB h
 have zl:=z2.1
 have hit:=aG.is (k:=k+1) (t:=t) (by omega) (by omega) (by omega) (fun r hr=>by have:=z2.2 r hr;omega)
 rw[h]at hit
 have hsh:=b7.is (k:=k+1) (t:=t) (by omega) (by omega) (by omega) (fun r hr=>by have:=z2.2 r hr;omega)
 have hso:Pu.shapeOf t=((Pu.outer t,t.1),true):=by unfold Pu.shapeOf;rw[if_pos (Pu.mJ h)]
 rw[hso]at hsh
 have hol:=Pu.bD t
 have hab:=cq.is (k:=k+1) (p:=Pu.outer t) (r:=(n:Int)) (by omega) (by omega)
 rw[hp]at hab
 have hab2:=cq.is (k:=k+1) (p:=t.1) (r:=(i:Int)) (by omega) (by omega)
 rw[hq]at hab2
 have hgr:=bG.is (k:=k+1) (t:=t) (by omega) hp1 (z2.mono (by omega) (by omega))
 obtain⟨b1,b2,b3,b4,b5⟩:=Pu.lz hp
 obtain⟨d1,d2,d3,d4,d5⟩:=Pu.lz hq
 rw[hol]at b1 b3
 have hpn:=b4 n
 rw[if_pos rfl]at hpn
 have hon:=Pu.jY hp1 n
 have hrn:=Pu.y7 b1 n
 rw[if_pos rfl]at hrn
 have hoL:=Pu.Fp (t:=t) (n:=n)
 have hnL:n<(Pu.eU t n).length:=by rw[hoL];split<;>omega
 have hrl: ∀r,((Pu.bP t).getD r []).length≤9:=fun r=>by
  have a:=Pu.jY hp1 r
  have b:=(Pu.cQ ho r).2
  rw[Pu.ca]at b
  omega
 have hR:Pu.cj 10 10 (Pu.eU t n):=by
  refine⟨by rw[hoL];split<;>omega,fun r hr=> ?_⟩
  obtain⟨y,hy,rfl⟩:=List.getElem_of_mem hr
  rw[←Pu.al hy [],Pu.y7 b1]
  have:=hrl y
  have:=hrl n
  split
  ·rw[List.length_append,List.length_singleton];omega
  ·omega
 have hcc:(p.getD n 0-1).toNat<((Pu.eU t n).getD n []).length:=by
  rw[hrn,List.length_append,List.length_singleton];omega
 have a2:=ao.loop (k:=k) (x3:=t.1) (x4:=t.2) (x5:= []) (x6:= []) (by omega) 18 (k+1) (Pu.eU t n) n (p.getD n 0-1).toNat hR hpos hnL hcc (by omega) (by rw[hs];exact h1) (by rw[hs];exact h2)
 rw[hs,show(((p.getD n 0-1).toNat:Nat):Int)=p.getD n 0-1 by omega]at a2
 simp only at a2
 have hrw:=ao.rows (k:=k) (q:=q) (G:=g) (x2:=(i:Int)) (x5:= []) (x6:= []) (x8:= []) (x9:= []) (by omega) hg (by omega) hin g.length k 0 [] (by omega) (by have:=hg.1;omega) (by simp)
 rw[Int.natCast_zero,List.drop_zero,List.nil_append]at hrw
 have hp9:p.getD n 0≤9:=by
  have:=(Pu.cQ b5 n).2
  rw[Pu.ca]at this
  exact this
 have hJ3:ao.J3 k i c g t.1 t.2 [] []=some ((q,Pu.k9 q 0 g),((i:Int),true)):=by
  have hc9:(c:Int)+1≤9:=by
   have:=(Pu.cQ d5 i).2
   rw[Pu.ca]at this
   omega
  rw[ao.lQ]
  simp (disch:=omega) only[↓ak,sss,if_true,if_false,hab2,d2,hc,ao.Cs,hrw]
 rw[hJ3]at a2
 have hJ1: ∀G0:List (List Int),G0=(if n=t.2.length then Pu.bP t++ [[]]else Pu.bP t)→ao.J1 k n p G0 t.1 t.2 [] []=some ((q,Pu.k9 q 0 g),((i:Int),true)):=by
  intro G0 hG0
  have hnG:n<G0.length:=by
   have:(Pu.eU t n).length=G0.length:=by unfold Pu.eU;rw[List.length_set,←hG0]
   omega
  have hset:G0.set n (G0.getD n []++ [0])=Pu.eU t n:=by unfold Pu.eU;rw[←hG0]
  have hap:(G0.getD n []++ [0]).length≤1099511627776:=by
   have:=hR.at n
   have hgg:(Pu.eU t n).getD n []=G0.getD n []++ [0]:=by
    rw[←hset,Pu.al (by rw[List.length_set];exact hnG),List.getElem_set_self]
   rw[hgg]at this
   omega
  rw[ao.ep]
  simp (disch:=omega) only[↓ak,sss,if_true,if_false,hnG,hap,hset,b2,a2]
 have hgl:=Pu.fV t
 rw[ao.eq,show((t.1,t.2):Pu.Tab)=t from rfl,hsh,aX,hab,aX,hit,aX]
 have e2: ∀(x:Option (Pu.Tab×(Int×Bool))) y,D.test (!true) y x=x:=fun _ _=>rfl
 rw[show D.no true= !true from rfl,e2,e2,ao.fm,show((t.1,t.2):Pu.Tab)=t from rfl,hgr,aX]
 by_cases e:n=t.2.length
 ·have e':(n:Int)=(t.2.length:Int):=by omega
  have hap:(Pu.bP t++ [[]]).length≤1099511627776:=by rw[List.length_append,List.length_singleton];omega
  have:=hJ1 (Pu.bP t++ [[]]) (by rw[if_pos e])
  simp only[↓ak,sss,if_true,if_false,hgl,hap,this]
  rw[if_pos e']
 ·have e': ¬(n:Int)=(t.2.length:Int):=by omega
  have:=hJ1 (Pu.bP t) (by rw[if_neg e])
  simp only[↓ak,sss,if_true,if_false,hgl,e',this]
theorem bM.tail{k:Nat}{u:Pu.Tab}(hk:4194304+40≤k)(h:Pu.Good u): ∃r4,ao k (Pu.eF u) ((Pu.aE u).2:Int)=some r4∧ ∃r5,aq k 1 r4.1.1 r4.1.2=some r5∧0<r5.2.2.length∧(1::r5.2.2.getD 0 []).length≤1099511627776∧r5.2.2.set 0 (1::r5.2.2.getD 0 [])=u.2:=by
 obtain⟨hp,hs,hn⟩:=h
 have h0:=Pu.fW (t:=u) (by omega)
 obtain⟨g,g1,g2⟩:=Pu.tP hp hs h0
 obtain⟨s1,s2,s3,s4⟩:=Pu.cX hp h0
 obtain⟨c1,c2,c3⟩:=Pu.DE ⟨hp,hs,hn⟩ g2
 have hD:=Pu.Aw hp hs h0
 have hD':=hD
 simp only[Pu.aL,Bool.and_eq_true]at hD'
 have hout:=Pu.uH hp h0
 have hadd:=Pu.Ep (Pu.gu hp) (show(Pu.aE u).2<(Pu.outer u).length by rw[Pu.bD];exact s3) s4
 rw[←hout]at hadd
 have hle:=Pu.sk hp h0
 have hDl:(Pu.eF u).2.length=(Pu.aE u).1.2.length:=Pu.gn _ _
 have hg9:Pu.cj 9 9 g:=by
  have:=Pu.fN hp
  refine⟨by rw[c2];exact this.1,fun r hr=> ?_⟩
  obtain⟨y,hy,rfl⟩:=List.getElem_of_mem hr
  rw[←Pu.al hy [],g2.row,Pu.mM hp h0]
  exact this.at y
 have hpos: ∀r x,0≤Pu.cel (Pu.eU (Pu.eF u) (Pu.aE u).2) r x:=by
  intro r x
  have hgr:Pu.bP (Pu.eF u)=(Pu.eF u).2:=Pu.rK rfl
  have hcel: ∀r x,0≤((Pu.eF u).2.getD r []).getD x 0:=fun r x=>by
   by_cases hr:r<(Pu.eF u).2.length
   ·by_cases hx:x<((Pu.eF u).2.getD r []).length
    ·have:=(Pu.g9 hD).1 r x hr hx
     unfold Pu.cel at this
     omega
    ·rw[Pu.aQ (by omega)];omega
   ·rw[Pu.aQ (xs:=(Pu.eF u).2) (by omega)];simp
  unfold Pu.cel
  rw[Pu.y7 (by omega),hgr]
  split
  ·by_cases hx:x<((Pu.eF u).2.getD (Pu.aE u).2 []).length
   ·rw[Pu.lx hx];exact hcel _ _
   ·rw[Pu.mI (by omega)]
    cases x-((Pu.eF u).2.getD (Pu.aE u).2 []).length<;>simp
  ·exact hcel _ _
 have hso:=ao.is (k:=k) (t:=Pu.eF u) (n:=(Pu.aE u).2) (i:=0) (c:=0) (p:=Pu.outer u) (q:= [1]) (g:=g) (by omega) hD'.1 hadd hpos g1 rfl rfl (hg9.mono (by omega) (by omega)) rfl rfl (fun r hr hr2=>by
  rw[Pu.nz]
  split<;>omega)
 have hsm2:Pu.cj 9 9 (Pu.k9 [1] 0 g):=by
  have key: ∀(rs:List (List Int)) (i:Nat),Pu.cj 9 9 rs→Pu.cj 9 9 (Pu.k9 [1] i rs)∧(Pu.k9 [1] i rs).length≤rs.length:=by
   intro rs
   induction rs with
   |nil=>intro i _;exact⟨⟨by simp[Pu.k9],fun r hr=>by simp[Pu.k9]at hr⟩,Nat.le_refl _⟩
   |cons x xs ih=>
    intro i hr
    have hl:=hr.1
    simp only[List.length_cons]at hl
    obtain⟨b,c⟩:=ih (i+1) ⟨by omega,fun r hm=>hr.2 r (List.mem_cons_of_mem _ hm)⟩
    unfold Pu.k9
    split
    ·refine⟨⟨by simp only[List.length_cons];omega,fun r hm=> ?_⟩,by simp only[List.length_cons];omega⟩
     rcases List.mem_cons.1 hm with rfl|hm
     ·have:=hr.2 x (List.mem_cons_self ..)
      rw[List.length_drop];omega
     ·exact b.2 r hm
    ·exact⟨b,by simp only[List.length_cons];omega⟩
  exact(key g 0 hg9).1
 have hpu:=hp
 simp only[Pu.aL,Bool.and_eq_true]at hpu
 have hnum: ∀r x,0≤(u.2.getD r []).getD x 0∧(u.2.getD r []).getD x 0≤9:=fun r x=>by
  by_cases hr:r<u.2.length
  ·by_cases hx:x<(u.2.getD r []).length
   ·have:=(Pu.g9 hp).1 r x hr hx
    unfold Pu.cel at this
    omega
   ·rw[Pu.aQ (by omega)];omega
  ·rw[Pu.aQ (xs:=u.2) (by omega)];simp
 have hlen3:=congrArg List.length c3
 rw[List.length_set,Pu.gn]at hlen3
 have hsm1:Pu.Small (Pu.k9 [1] 0 g):=by
  intro r x
  by_cases hx:x<((Pu.k9 [1] 0 g).getD r []).length
  ·have hm:=Pu.zd (d:=1) hx
   rw[←Pu.kv]at hm
   by_cases e:r=0
   ·subst e
    have hrow:u.2.getD 0 []=1::(Pu.bO 1 (Pu.k9 [1] 0 g)).getD 0 []:=by
     rw[←c3,Pu.al (by rw[List.length_set,Pu.gn];omega),List.getElem_set_self]
    have h1:=hnum 0 (x+1)
    rw[hrow,show(1::(Pu.bO 1 (Pu.k9 [1] 0 g)).getD 0 []).getD (x+1) 0=((Pu.bO 1 (Pu.k9 [1] 0 g)).getD 0 []).getD x 0 from rfl]at h1
    constructor<;>omega
   ·have h1:=hnum r x
    rw[←c3,Pu.getD_set_ne (Ne.symm e)]at h1
    constructor<;>omega
  ·rw[Pu.aQ (by omega)];omega
 have hsm:Pu.Small (Pu.k9 [1] 0 g)∧Pu.cj 9 9 (Pu.k9 [1] 0 g):=⟨hsm1,hsm2⟩
 have hsh:=aq.is (k:=k) (d:=1) (inn:= [1]) (rs:=Pu.k9 [1] 0 g) (by omega) (by omega) (hsm.2.mono (by omega) (by omega)) hsm.1
 have hl9:=(Pu.rW hsm.2 1).at 0
 refine⟨_,hso,_,hsh,?_,by simp only[List.length_cons];omega,c3⟩
 have:=congrArg List.length c3
 rw[List.length_set]at this
 simp only
 omega
theorem bM.HN{k:Nat}{u:Pu.Tab}(hk:4194304+50≤k)(h:Pu.Good u):bM k (Pu.prom u)=some (u,true):=by
 obtain⟨k,rfl⟩: ∃k',k=k'+1:=⟨k-1,by omega⟩
 have hP:=h.prom
 obtain⟨hp,hs,hn⟩:=h
 have h0:=Pu.fW (t:=u) (by omega)
 have hok:=Pu.o5 (t:=u)
 have h9:=Pu.jm hP.pl
 have hPin:(Pu.prom u).1= []:=Pu.nk
 have hfl:(Pu.prom u).2.flatten.length=u.2.flatten.length:=Pu.kK hp hs hn
 have hipl:=cd.is (k:=k) (t:=Pu.prom u) (by omega) hok.1 hok.2.1 hok.2.2
 rw[hP.pl,hP.st]at hipl
 have hrw:=bL.is (k:=k) (t:=Pu.prom u) (by omega) hok.1 hok.2.1 hok.2.2
 have hit:=hP.pl
 simp only[Pu.aL,Bool.and_eq_true]at hit
 rw[if_pos hit.1]at hrw
 have hrl:(Pu.prom u).2.reverse.flatten.length=u.2.flatten.length:=by rw[←hfl];simp[List.length_flatten,List.map_reverse,List.sum_reverse]
 have hown:=bB.is (k:=k) (t:=Pu.prom u) (by omega) hok.1 hok.2.1 hok.2.2
 have hroe:=gr.is (k:=k) (t:=Pu.prom u) (n:=(u.2.flatten.length:Int)) (by omega) hok.1 hok.2.1 hok.2.2
 rw[if_pos hP.st,Pu.xD ⟨hp,hs,hn⟩]at hroe
 obtain⟨s1,s2,s3,s4⟩:=Pu.cX hp h0
 have hlen:(Pu.prom u).2.length=u.2.length:=Pu.ju hp hs hn
 have hi:(Pu.aE u).2<(Pu.prom u).2.length:=by omega
 have hcut:=Pu.zG ⟨hp,hs,hn⟩
 have hcut2:=Pu.yN ⟨hp,hs,hn⟩
 have hrlen:((Pu.prom u).2.getD (Pu.aE u).2 []).length=(u.2.getD (Pu.aE u).2 []).length:=Pu.jJ hp hs hn _
 have hrp:=Pu.gm hp s3
 have hr9:=(Pu.fN hP.pl).at (Pu.aE u).2
 obtain⟨r4,t1,r5,t2,t3,t4,t5⟩:=bM.tail (k:=k) (by omega) ⟨hp,hs,hn⟩
 have hrows:=Pu.mR hp h0 (Pu.aE u).2
 rw[if_pos rfl]at hrows
 have hnz: ¬(u.2.flatten.length:Int)=0:=by omega
 have e1:(((Pu.prom u).2.getD (Pu.aE u).2 []).length:Int)-1=((((Pu.prom u).2.getD (Pu.aE u).2 []).length-1:Nat):Int):=by omega
 have g1:((Pu.prom u).2.getD (Pu.aE u).2 []).length-1≤((Pu.prom u).2.getD (Pu.aE u).2 []).length:=by omega
 have hsl:(Pu.bO (-1) (Pu.dS (Pu.aE u))).length=(Pu.prom u).2.length:=by rw[Pu.gn,Pu.pC hp h0,hlen]
 have hsr:((Pu.bO (-1) (Pu.dS (Pu.aE u))).getD (Pu.aE u).2 []).length=((Pu.aE u).1.2.getD (Pu.aE u).2 []).length:=by rw[Pu.kv,List.length_map,Pu.nC]
 have hi2:(Pu.aE u).2≤(Pu.prom u).2.length:=by omega
 have hu1:=Pu.cy hp
 have ho1:(1:Int)::([]:List Int)= [1]:=rfl
 have hfin: ∀w:List Int×List (List Int),w=Pu.eF u→(D.bnd (ao k w ((Pu.aE u).2:Int)) fun r6=>D.bnd (aq k 1 r6.1.1 r6.1.2) fun r7=>D.test (D.le 0 0) (D.test (D.ltN (D.nat 0) (D.len r7.2.2)) (D.test (D.ltN (D.nat 0) (D.len r7.2.2)) (D.test (D.ltN (D.nat 0) (D.len r7.2.2)) (D.test (D.leN (D.len (D.app (1::([]:List Int)) (D.rd r7.2.2 (D.nat 0) []))) 1099511627776) (D.test (D.le 0 0) (D.test (D.ltN (D.nat 0) (D.len r7.2.2)) (D.test (D.ltN (D.nat 0) (D.len r7.2.2)) (some ((([]:List Int),(D.set r7.2.2 (D.nat 0) (D.app (1::([]:List Int)) (D.rd r7.2.2 (D.nat 0) [])))),true)) none) none) none) none) none) none) none) none)=some (u,true):=by
  intro w hw
  subst hw
  rw[t1,aX,t2,aX]
  have h00:(0:Int)≤0:=Int.le_refl _
  simp only[↓ak,sss,if_true,if_false,Int.toNat_zero,h00,t3,List.cons_append,List.nil_append,t4,t5]
  rw[show(([]:List Int),u.2)=u from Prod.ext hu1.symm rfl]
 have ew:IntKind.i64.wrap ((((Pu.prom u).2.getD (Pu.aE u).2 []).length:Int)-1)=((((Pu.prom u).2.getD (Pu.aE u).2 []).length-1:Nat):Int):=by rw[e1];exact Pu.w64 (by omega) (by omega)
 suffices hO:Pu.Ok (bM (k+1) (Pu.prom u)) (fun y=>y=(u,true)) by
  obtain⟨y,e,rfl⟩:=hO
  exact e
 rw[bM.eq,show(((Pu.prom u).1,(Pu.prom u).2):Pu.Tab)=Pu.prom u from rfl,hipl,aX,hrw,aX]
 refine Pu.Ok.tn (fun h=>by cases h) fun _=> ?_
 simp only[dn,dq,hrl]
 refine Pu.Ok.no hnz (Pu.Ok.iu hown (Pu.Ok.iu hroe ?_))
 simp only[dR,dq,dn,gF,dW,cJ,Int.toNat_natCast,ew,cR,cS,cH,eG,List.drop_zero,Nat.sub_zero,hcut,hsl,hsr]
 repeat (refine Pu.Ok.g (by first|omega|exact rfl) ?_)
 by_cases c:((Pu.aE u).1.2.getD (Pu.aE u).2 []).length=0
 ·have c':(((Pu.aE u).1.2.getD (Pu.aE u).2 []).length:Int)=0:=by omega
  rw[if_pos c]at hcut2
  refine Pu.Ok.g c' (Pu.Ok.g (by omega) (Pu.Ok.g hi2 ?_))
  rw[bM.fm]
  refine⟨_,hfin _ ?_,rfl⟩
  simp only[cR,cS,List.drop_zero]
  exact Prod.ext hPin hcut2
 ·have c': ¬(((Pu.aE u).1.2.getD (Pu.aE u).2 []).length:Int)=0:=by omega
  rw[if_neg c]at hcut2
  refine Pu.Ok.no c' ?_
  rw[bM.ep]
  exact⟨_,hfin _ (Prod.ext hPin hcut2),rfl⟩
theorem bM.no{k:Nat}{t:Pu.Tab}(hk:4194304+50≤k)(ht:Pu.jQ t)(h:(Pu.aL t&&Pu.cw t)=false):bM k t=some (([],[]),false):=by
 obtain⟨k,rfl⟩: ∃k',k=k'+1:=⟨k-1,by omega⟩
 rw[bM.eq,show((t.1,t.2):Pu.Tab)=t from rfl,cd.is (by omega) ht.1 ht.2.1 ht.2.2,h,aX]
 rfl
theorem bM.zero{k:Nat}{t:Pu.Tab}(hk:4194304+50≤k)(hp:Pu.aL t=true)(hs:Pu.cw t=true)(hn:t.2.flatten.length=0):bM k t=some (([],[]),true):=by
 obtain⟨k,rfl⟩: ∃k',k=k'+1:=⟨k-1,by omega⟩
 have ht:=Pu.tV hp hn
 subst ht
 have hrw:=bL.is (k:=k) (t:=([],[])) (by omega) (by simp) (by simp) (fun x hx=>by simp at hx)
 have e:(if Pu.dM ([],[])=true then(([]:List (List Int)).reverse.flatten)else [])=([]:List Int):=by split<;>rfl
 rw[show(([],[]):Pu.Tab).2= []from rfl,e]at hrw
 rw[bM.eq,show(((([],[]):Pu.Tab).1,(([],[]):Pu.Tab).2):Pu.Tab)=([],[])from rfl,cd.is (by omega) (by simp) (by simp) (fun x hx=>by simp at hx),hp,hs,aX,hrw,aX]
 rfl
theorem bc.loop{k:Nat}{a b:List Int}(hl:a.length=b.length)(ha:a.length≤1048576): ∀(m j i:Nat),i+m=a.length→m<j→bc.L0 k j a.length i a b=some (decide (a.drop i=b.drop i))
 |m,0,i,_,hj=>by omega
 |0,j+1,i,hi,_=>by
  rw[bc.bq]
  have e:i=a.length:=by omega
  subst e
  simp[hl]
 |m+1,j+1,i,hi,hj=>by
  rw[bc.bq]
  have h1:i<a.length:=by omega
  have h2:i<b.length:=by omega
  have ih:=bc.loop (k:=k) hl ha m j (i+1) (by omega) (by omega)
  rw[Int.natCast_succ]at ih
  rw[Pu.drop_cons h1 0,Pu.drop_cons h2 0]
  by_cases e:a.getD i 0=b.getD i 0<;>simp (disch:=omega) only[↓ak,sss,if_true,if_false,h1,h2,ih,e,List.cons.injEq,true_and,false_and]
theorem bc.is{k:Nat}{a b:List Int}(hk:4194304+1≤k)(ha:a.length≤1048576):bc k a b=some (decide (a=b)):=by
 obtain⟨k,rfl⟩: ∃k',k=k'+1:=⟨k-1,by omega⟩
 rw[bc.eq]
 by_cases hl:a.length=b.length
 ·have h:=bc.loop (k:=k) hl ha a.length k 0 (by omega) (by omega)
  rw[Int.natCast_zero]at h
  simp only[List.drop_zero]at h
  have hl':(a.length:Int)=b.length:=by omega
  have e:D.eq (a.length:Int) (b.length:Int)=true:=decide_eq_true hl'
  simp only[dn,dq,e,gJ,Bool.not_true,ak,Bool.false_eq_true,if_false,h]
 ·have hne:a≠b:=fun e=>hl (by rw[e])
  have hl': ¬(a.length:Int)=b.length:=by omega
  simp[hl',hne]
theorem ah.loop{k:Nat}{a b:List (List Int)}(hk:4194304+1≤k)(hl:a.length=b.length)(ha:a.length≤1048576)(hr: ∀x∈a,x.length≤1048576): ∀(m j i:Nat),i+m=a.length→m<j→ah.L0 k j a.length i b a=some (decide (a.drop i=b.drop i),())
 |m,0,i,_,hj=>by omega
 |0,j+1,i,hi,_=>by
  rw[ah.bq]
  have e:i=a.length:=by omega
  subst e
  simp[hl]
 |m+1,j+1,i,hi,hj=>by
  rw[ah.bq]
  have h1:i<a.length:=by omega
  have h2:i<b.length:=by omega
  have ih:=ah.loop hk hl ha hr m j (i+1) (by omega) (by omega)
  rw[Int.natCast_succ]at ih
  have hs:=bc.is (k:=k) (a:=a.getD i []) (b:=b.getD i []) hk (by rw[Pu.al h1];exact hr _ (List.getElem_mem h1))
  rw[Pu.drop_cons h1 [],Pu.drop_cons h2 []]
  simp (disch:=omega) only[↓ak,sss,if_true,if_false,h1,h2,hs,ih]
  generalize a.getD i []=u
  generalize b.getD i []=v
  by_cases e:u=v<;>simp[e]
theorem ah.is{k:Nat}{a b:List (List Int)}(hk:4194304+2≤k)(ha:a.length≤1048576)(hr: ∀x∈a,x.length≤1048576):ah k a b=some (decide (a=b),()):=by
 obtain⟨k,rfl⟩: ∃k',k=k'+1:=⟨k-1,by omega⟩
 rw[ah.eq]
 by_cases hl:a.length=b.length
 ·have h:=ah.loop (k:=k) (by omega) hl ha hr a.length k 0 (by omega) (by omega)
  rw[Int.natCast_zero]at h
  simp only[List.drop_zero]at h
  have hl':(a.length:Int)=b.length:=by omega
  have e:D.eq (a.length:Int) (b.length:Int)=true:=decide_eq_true hl'
  simp only[dn,dq,e,gJ,Bool.not_true,ak,Bool.false_eq_true,if_false,h]
 ·have hne:a≠b:=fun e=>hl (by rw[e])
  have hl': ¬(a.length:Int)=b.length:=by omega
  simp[hl',hne]
theorem fq.is{k:Nat}{a b:Pu.Tab}(hk:4194304+3≤k)(h:Pu.jQ a):fq k a b=some (decide (a=b)):=by
 obtain⟨k,rfl⟩: ∃k',k=k'+1:=⟨k-1,by omega⟩
 obtain⟨a1,a2⟩:=a
 obtain⟨b1,b2⟩:=b
 rw[fq.eq,bc.is (by omega) h.1,ah.is (by omega) h.2.1 h.2.2]
 by_cases e:a1=b1<;>simp[e]
theorem bh.loop{k:Nat}{t:Pu.Tab}(hk:4194304+100≤k)(ht:Pu.jQ t): ∀(m j:Nat) (cur:Pu.Tab) (acc:List Pu.Tab),Pu.jQ cur→acc.length+m≤1000000000→m<j→(∃d,1≤d∧d≤m∧Pu.iter d cur=t)→bh.L0 k j (acc++ [cur]) t.1 t.2=some (Pu.jO m t cur (acc++ [cur]))
 |m,0,cur,acc,_,_,hj,_=>by omega
 |0,j+1,cur,acc,_,_,_,hd=>by obtain⟨d,h1,h2,_⟩:=hd;omega
 |m+1,j+1,cur,acc,hc,hl,hj,hd=>by
  have hp:=cu.is (k:=k) (t:=cur) (by omega) hc.1 hc.2.1 hc.2.2
  have hpo:=Pu.o5 (t:=cur)
  have he:=fq.is (k:=k) (a:=Pu.prom cur) (b:=t) (by omega) hpo
  have hlen:(acc++ [cur]).length=acc.length+1:=by simp
  have hget:(acc++ [cur]).getD acc.length ([],[])=cur:=by simp
  have hlt:acc.length<acc.length+1:=by omega
  have e1:((acc.length+1:Nat):Int)-1=(acc.length:Int):=by omega
  have hap:(acc++ [cur]++ [Pu.prom cur]).length≤1099511627776:=by simp;omega
  rw[bh.bq]
  unfold Pu.jO
  have e2:(((Pu.bF cur).1.1,(Pu.bF cur).1.2):Pu.Tab)=Pu.prom cur:=rfl
  have e3:((cur.1,cur.2):Pu.Tab)=cur:=rfl
  have e4:((t.1,t.2):Pu.Tab)=t:=rfl
  simp (disch:=omega) only[↓ak,sss,if_true,if_false,hlen,e1,hget,hlt,hp,e2,e3,e4,he]
  by_cases c:Pu.prom cur=t
  ·rw[if_pos c,if_pos c]
  ·have ih:=bh.loop hk ht m j (Pu.prom cur) (acc++ [cur]) hpo (by rw[hlen];omega) (by omega) (by
    obtain⟨d,h1,h2,h3⟩:=hd
    cases d with
    |zero=>omega
    |succ d=>
     have h3:Pu.iter d (Pu.prom cur)=t:=h3
     refine⟨d,?_,by omega,h3⟩
     cases d with
     |zero=>exact absurd h3 c
     |succ d=>omega)
   rw[if_neg c,if_neg c,if_pos hap,ih]
theorem bh.is{k m:Nat}{t:Pu.Tab}(hk:4194304+110+m≤k)(ht:Pu.jQ t)(hm:m≤1000000000)(hd:(Pu.aL t&&Pu.cw t)=true→ ∃d,1≤d∧d≤m∧Pu.iter d t=t):bh k t=some (if(Pu.aL t&&Pu.cw t)=true then Pu.jO m t t [t]else []):=by
 obtain⟨k,rfl⟩: ∃k',k=k'+1:=⟨k-1,by omega⟩
 rw[bh.eq,show((t.1,t.2):Pu.Tab)=t from rfl,cd.is (by omega) ht.1 ht.2.1 ht.2.2,aX]
 cases c:(Pu.aL t&&Pu.cw t)with
 |false=>simp
 |true=>
  have hc:=bB.is (k:=k) (t:=t) (by omega) ht.1 ht.2.1 ht.2.2
  have hl:=bh.loop (k:=k) (by omega) ht m k t [] ht (by simpa using hm) (by omega) (hd c)
  rw[List.nil_append]at hl
  simp only[↓ak,sss,if_true,if_false,hc]
  exact hl
theorem dw.is{k m:Nat}{t:Pu.Tab}(hk:4194304+120+m≤k)(ht:Pu.jQ t)(hm:m≤1000000000)(hd:(Pu.aL t&&Pu.cw t)=true→ ∃d,1≤d∧d≤m∧Pu.iter d t=t):dw k t=some (((if(Pu.aL t&&Pu.cw t)=true then Pu.jO m t t [t]else []).length:Nat):Int):=by
 obtain⟨k,rfl⟩: ∃k',k=k'+1:=⟨k-1,by omega⟩
 rw[dw.eq,show((t.1,t.2):Pu.Tab)=t from rfl,bh.is (m:=m) (by omega) ht hm hd,aX,dn,dq]
theorem cO.loop{k:Nat}{a b:List Int}(hl:a.length=b.length)(ha:a.length≤1048576): ∀(m j i:Nat),i+m=a.length→m<j→cO.L0 k j i a b=some (decide (a.drop i=b.drop i))
 |m,0,i,_,hj=>by omega
 |0,j+1,i,hi,_=>by
  rw[cO.bq]
  have e:i=a.length:=by omega
  subst e
  simp[hl]
 |m+1,j+1,i,hi,hj=>by
  rw[cO.bq]
  have h1:i<a.length:=by omega
  have h2:i<b.length:=by omega
  have ih:=cO.loop (k:=k) hl ha m j (i+1) (by omega) (by omega)
  rw[Int.natCast_succ]at ih
  rw[Pu.drop_cons h1 0,Pu.drop_cons h2 0]
  by_cases e:a.getD i 0=b.getD i 0<;>simp (disch:=omega) only[ak,gV,gH,dV,dq,dn,dR,gF,cJ,ez,gJ,gW,Pu.w64,Int.toNat_natCast,decide_eq_true_eq,Int.ofNat_lt,h1,h2,if_true,Int.natCast_nonneg,decide_true,ih,e,List.cons.injEq,true_and,false_and,decide_false,Bool.not_true,Bool.not_false,if_false,Bool.false_eq_true]
theorem cO.is{k:Nat}{a b:List Int}(hk:4194304+1≤k)(ha:a.length≤1048576):cO k a b=some (decide (a=b)):=by
 obtain⟨k,rfl⟩: ∃k',k=k'+1:=⟨k-1,by omega⟩
 rw[cO.eq]
 by_cases hl:a.length=b.length
 ·have h:=cO.loop (k:=k) hl ha a.length k 0 (by omega) (by omega)
  rw[Int.natCast_zero]at h
  simp only[List.drop_zero]at h
  have hl':(a.length:Int)=b.length:=by omega
  simp only[ak,gJ,gW,dn,dq,hl',decide_true,Bool.not_true,Bool.false_eq_true,if_false,h]
 ·have hne:a≠b:=fun e=>hl (by rw[e])
  have hl': ¬(a.length:Int)=b.length:=by omega
  simp[hl',hne]
theorem aK.loop{k:Nat}{p q:List Int}{a b:List (List Int)}(hk:4194304+1≤k)(hl:a.length=b.length)(ha:a.length≤1048576)(hr: ∀x∈a,x.length≤1048576): ∀(m j i:Nat),i+m=a.length→m<j→aK.L1 k j i p a q b=some (decide (a.drop i=b.drop i))
 |m,0,i,_,hj=>by omega
 |0,j+1,i,hi,_=>by
  rw[aK.eA]
  have e:i=a.length:=by omega
  subst e
  simp[hl]
 |m+1,j+1,i,hi,hj=>by
  rw[aK.eA]
  have h1:i<a.length:=by omega
  have h2:i<b.length:=by omega
  have ih:=aK.loop (k:=k) (p:=p) (q:=q) hk hl ha hr m j (i+1) (by omega) (by omega)
  rw[Int.natCast_succ]at ih
  have hx:(a.getD i []).length≤1048576:=by rw[Pu.al h1 []];exact hr _ (List.getElem_mem h1)
  have hs:=cO.is (k:=k) (b:=b.getD i []) hk hx
  rw[Pu.drop_cons h1 [],Pu.drop_cons h2 []]
  by_cases e:a.getD i []=b.getD i []
  ·rw[e]at hs
   simp (disch:=omega) only[↓ak,sss,if_true,if_false,h1,h2,hs,ih,e,List.cons.injEq,true_and,false_and,eq_self]
  ·simp (disch:=omega) only[↓ak,sss,if_true,if_false,h1,h2,hs,ih,e,List.cons.injEq,true_and,false_and]
theorem aK.is{k:Nat}{a b:List Int×List (List Int)}(hk:4194304+2≤k)(h1:a.1.length≤1048576)(ha:a.2.length≤1048576)(hr: ∀x∈a.2,x.length≤1048576):aK k a b=some (decide (a=b)):=by
 obtain⟨k,rfl⟩: ∃k',k=k'+1:=⟨k-1,by omega⟩
 obtain⟨a1,a2⟩:=a
 obtain⟨b1,b2⟩:=b
 have hs:=cO.is (k:=k) (a:=a1) (b:=b1) (by omega) h1
 rw[aK.eq,hs,aX,aK.fm]
 by_cases e1:a1=b1
 ·subst e1
  by_cases hl:a2.length=b2.length
  ·have h:=aK.loop (k:=k) (p:=a1) (q:=a1) (a:=a2) (b:=b2) (by omega) hl ha hr a2.length k 0 (by omega) (by simp only at ha;omega)
   rw[Int.natCast_zero]at h
   simp only[List.drop_zero]at h
   have hl':(a2.length:Int)=b2.length:=by omega
   simp only[↓ak,sss,if_true,if_false,hl',h,Prod.mk.injEq,true_and,eq_self]
  ·have hne:a2≠b2:=fun e=>hl (by rw[e])
   have hl': ¬(a2.length:Int)=b2.length:=by omega
   simp[hl',hne]
 ·simp[e1]
theorem ck.loop{k:Nat}{t:Pu.Tab}(hk:4194304+100≤k)(ht:Pu.jQ t): ∀(m j:Nat) (cur:Pu.Tab) (acc:List Pu.Tab),Pu.jQ cur→acc.length+m≤1000000000→m<j→(∃d,1≤d∧d≤m∧Pu.iter d cur=t)→ck.L0 k j (acc++ [cur]) t.1 t.2=some (Pu.jO m t cur (acc++ [cur]))
 |m,0,cur,acc,_,_,hj,_=>by omega
 |0,j+1,cur,acc,_,_,_,hd=>by obtain⟨d,h1,h2,_⟩:=hd;omega
 |m+1,j+1,cur,acc,hc,hl,hj,hd=>by
  have hp:=aR.is (k:=k) (t:=cur) (by omega) hc.1 hc.2.1 hc.2.2
  have hpo:=Pu.o5 (t:=cur)
  have he:=aK.is (k:=k) (a:=Pu.prom cur) (b:=t) (by omega) hpo.1 hpo.2.1 hpo.2.2
  have hlen:(acc++ [cur]).length=acc.length+1:=by simp
  have hget:(acc++ [cur]).getD acc.length ([],[])=cur:=by simp
  have hlt:acc.length<acc.length+1:=by omega
  have e1:((acc.length+1:Nat):Int)-1=(acc.length:Int):=by omega
  have hap:(acc++ [cur]++ [Pu.prom cur]).length≤1099511627776:=by simp;omega
  rw[ck.bq]
  unfold Pu.jO
  have e2:(((Pu.bF cur).1.1,(Pu.bF cur).1.2):Pu.Tab)=Pu.prom cur:=rfl
  have e3:((cur.1,cur.2):Pu.Tab)=cur:=rfl
  have e4:((t.1,t.2):Pu.Tab)=t:=rfl
  simp (disch:=omega) only[↓ak,sss,if_true,if_false,hlen,e1,hget,hlt,hp,e2,e3,e4,he]
  by_cases c:Pu.prom cur=t
  ·rw[if_pos c,if_pos c]
  ·have ih:=ck.loop hk ht m j (Pu.prom cur) (acc++ [cur]) hpo (by rw[hlen];omega) (by omega) (by
    obtain⟨d,h1,h2,h3⟩:=hd
    cases d with
    |zero=>omega
    |succ d=>
     have h3:Pu.iter d (Pu.prom cur)=t:=h3
     refine⟨d,?_,by omega,h3⟩
     cases d with
     |zero=>exact absurd h3 c
     |succ d=>omega)
   rw[if_neg c,if_neg c,if_pos hap,ih]
theorem ck.is{k m:Nat}{t:Pu.Tab}(hk:4194304+110+m≤k)(ht:Pu.jQ t)(hm:m≤1000000000)(hd: ∃d,1≤d∧d≤m∧Pu.iter d t=t):ck k t=some (Pu.jO m t t [t]):=by
 obtain⟨k,rfl⟩: ∃k',k=k'+1:=⟨k-1,by omega⟩
 have hc:=cN.is (k:=k) (t:=t) (by omega) ht.1 ht.2.1 ht.2.2
 have hl:=ck.loop (k:=k) (by omega) ht m k t [] ht (by simpa using hm) (by omega) hd
 rw[ck.eq,show((t.1,t.2):Pu.Tab)=t from rfl,hc,aX]
 exact hl
theorem b9.is{k m:Nat}{t:Pu.Tab}(hk:4194304+120+m≤k)(ht:Pu.jQ t)(hm:m≤1000000000)(hd:(Pu.aL t&&Pu.cw t)=true→ ∃d,1≤d∧d≤m∧Pu.iter d t=t):b9 k t=some (((if(Pu.aL t&&Pu.cw t)=true then Pu.jO m t t [t]else []).length:Nat):Int):=by
 obtain⟨k,rfl⟩: ∃k',k=k'+1:=⟨k-1,by omega⟩
 rw[b9.eq,show((t.1,t.2):Pu.Tab)=t from rfl,dX.is (by omega) ht.1 ht.2.1 ht.2.2,a9.is (by omega) ht.1 ht.2.1 ht.2.2,aX,aX]
 cases hp:Pu.aL t with
 |false=>simp
 |true=>
  cases hb:Pu.cw t with
  |false=>simp
  |true=>
   have ho:=ck.is (k:=k) (m:=m) (by omega) ht hm (hd (by rw[hp,hb];rfl))
   simp only[↓ak,sss,if_true,if_false,b9.fm,ho]
theorem dv.is{k m:Nat}{t:Pu.Tab}(hk:4194304+120+m≤k)(ht:Pu.jQ t)(hm:m≤1000000000)(hd:(Pu.aL t&&Pu.cw t)=true→ ∃d,1≤d∧d≤m∧Pu.iter d t=t):dv k t=some (if(Pu.aL t&&Pu.cw t)=true then Pu.jO m t t [t]else []):=by
 obtain⟨k,rfl⟩: ∃k',k=k'+1:=⟨k-1,by omega⟩
 rw[dv.eq,show((t.1,t.2):Pu.Tab)=t from rfl,dX.is (by omega) ht.1 ht.2.1 ht.2.2,a9.is (by omega) ht.1 ht.2.1 ht.2.2,aX,aX]
 cases hp:Pu.aL t with
 |false=>simp
 |true=>
  cases hb:Pu.cw t with
  |false=>simp
  |true=>
   have ho:=ck.is (k:=k) (m:=m) (by omega) ht hm (hd (by rw[hp,hb];rfl))
   simp only[↓ak,sss,if_true,if_false,ho]
theorem bz.loop{k:Nat}{L:List Pu.Tab}(hk:4194304+10≤k)(hl:L.length≤1000000001)(hL: ∀t∈L,Pu.jQ t): ∀(m j i:Nat),i+m=L.length→m<j→bz.L0 k j i L L=some true
 |m,0,i,_,hj=>by omega
 |0,j+1,i,hi,_=>by
  rw[bz.bq]
  simp only[gV,dn,dq]
  exact Pu.tX (by omega) rfl
 |m+1,j+1,i,hi,hj=>by
  have hlt:i<L.length:=by omega
  have hw:IntKind.i64.wrap ((i:Int)+1)=((i+1:Nat):Int):=Pu.w64 (by omega) (by omega)
  have ht:Pu.jQ (L.getD i ([],[])):=by rw[Pu.al hlt];exact hL _ (List.getElem_mem hlt)
  have he:=aK.is (k:=k) (a:=L.getD i ([],[])) (b:=L.getD i ([],[])) (by omega) ht.1 ht.2.1 ht.2.2
  rw[decide_eq_true rfl]at he
  have ih:=bz.loop hk hl hL m j (i+1) (by omega) (by omega)
  rw[bz.bq]
  simp only[gV,gH,dV,dn,dq,dR,gF,ez,cJ,hw,Int.toNat_natCast]
  have h0:(0:Int)≤(i:Int):=by omega
  have h1:(i:Int)<(L.length:Nat):=by omega
  exact Pu.tG h1 (Pu.tG h0 (Pu.tG hlt (Pu.tG hlt (Pu.tG h0 (Pu.tG hlt (Pu.tG hlt (Pu.tG hlt (Pu.tG hlt (Pu.tG hlt (Pu.tG hlt (Pu.bE he (Pu.tN ih))))))))))))
theorem bz.self{k:Nat}{L:List Pu.Tab}(hk:4194304+11≤k)(hlk:L.length+1<k)(hl:L.length≤1000000001)(hL: ∀t∈L,Pu.jQ t):bz k L L=some true:=by
 obtain⟨k,rfl⟩: ∃k',k=k'+1:=⟨k-1,by omega⟩
 rw[bz.eq]
 exact Pu.tE rfl (bz.loop (by omega) hl hL L.length k 0 (by omega) (by omega))
theorem bt.loop{k:Nat}{t:Pu.Tab}(hk:4194304+8≤k)(h1:t.1.length≤1048576)(ht:t.2.length≤1048576)(hr: ∀x∈t.2,x.length≤1048576)(hb:Pu.dM t=true): ∀(m j:Nat) (w:List Int),m≤t.2.length→m<j→w.length+Pu.kC (t.2.take m)≤1099511627776→bt.L0 k j ((m:Int)-1) w t.1 t.2=some (w++(t.2.take m).reverse.flatten)
 |m,0,w,_,hj,_=>by omega
 |0,j+1,w,_,_,_=>by
  rw[bt.bq]
  have hn: ¬(0:Int)≤((0:Nat):Int)-1:=by omega
  simp only[↓ak,sss,if_true,if_false,hn]
  simp
 |m+1,j+1,w,hm,hj,hs=>by
  rw[bt.bq,show((t.1,t.2):Pu.Tab)=t from rfl,bt.ep]
  have e:(((m+1:Nat):Int)-1)=(m:Int):=by omega
  have hlt:m<t.2.length:=by omega
  have htk:=Pu.take_succ hlt []
  have hsz: ∀(a b:List (List Int)),Pu.kC (a++b)=Pu.kC a+Pu.kC b:=by
   intro a b
   induction a with
   |nil=>simp[Pu.kC]
   |cons x a ih=>simp only[List.cons_append,Pu.kC,ih];omega
  rw[htk,hsz]at hs
  simp only[Pu.kC]at hs
  have hl:(w++t.2.getD m []).length≤1099511627776:=by rw[List.length_append];omega
  have h0:(0:Int)≤(m:Int):=by omega
  have ih:=bt.loop hk h1 ht hr hb m j (w++t.2.getD m []) (by omega) (by omega) (by rw[List.length_append];omega)
  have hit:=aC.is (k:=k) (t:=t) (by omega) h1 ht hr
  rw[hb]at hit
  rw[e]
  simp (disch:=omega) only[↓ak,sss,if_true,if_false,h0,hlt,hl,hit,ih]
  rw[htk,List.reverse_append,List.flatten_append]
  simp
theorem bt.is{k:Nat}{t:Pu.Tab}(hk:4194304+10≤k)(h1:t.1.length≤1048576)(ht:t.2.length≤1048576)(hr: ∀x∈t.2,x.length≤1048576):bt k t=some (if Pu.dM t=true then t.2.reverse.flatten else []):=by
 obtain⟨k,rfl⟩: ∃k',k=k'+1:=⟨k-1,by omega⟩
 rw[bt.eq]
 have ew:D.wrap .i64 (D.sub (D.ofN (D.len t.2)) 1)=(t.2.length:Int)-1:=by
  show IntKind.i64.wrap ((t.2.length:Int)-1)=_
  rw[Pu.w64 (by omega) (by omega)]
 rw[ew]
 cases hb:Pu.dM t with
 |false=>
  have hit:=aC.is (k:=k) (t:=t) (by omega) h1 ht hr
  rw[hb]at hit
  obtain⟨j,rfl⟩: ∃j,k=j+1:=⟨k-1,by omega⟩
  rw[bt.bq,show((t.1,t.2):Pu.Tab)=t from rfl]
  by_cases c:(0:Int)≤(t.2.length:Int)-1
  ·exact Pu.tG c (Pu.bE hit rfl)
  ·exact Pu.tX c rfl
 |true=>
  have hs:=Pu.xT ht hr
  have hl:=bt.loop (k:=k) (t:=t) (by omega) h1 ht hr hb t.2.length k [] (Nat.le_refl _) (by omega) (by rw[List.take_length];simpa using hs)
  rw[List.take_length]at hl
  rw[hl,List.nil_append,if_pos rfl]
theorem aH.GO{k:Nat}{t a d:Pu.Tab}:aH.J0 k false 0 t.1 t.2 a.1 a.2 d.1 d.2=some true:=by
 rw[aH.fm]
 exact Pu.tM rfl
theorem aH.Hy{k n:Nat}{t:Pu.Tab}(hk:4194304+60≤k)(hn:n≤1000000001)(hp:Pu.aL t=true)(hs:Pu.cw t=true)(hn1:1≤n)(h1:Pu.iter n t=t)(hl: ∀d,1≤d→d<n→Pu.iter d t≠t):aH.J2 k n t.1 t.2=some true:=by
 have ht:Pu.jQ t:=by
  have hr:=Pu.fN hp
  exact⟨by rw[Pu.cy hp];simp,by have:=hr.1;omega,fun r hm=>by have:=hr.2 r hm;omega⟩
 have hr:=Pu.fN hp
 have h9:=hr.1
 have hrw:=bt.is (k:=k+1) (t:=t) (by omega) ht.1 ht.2.1 ht.2.2
 rw[if_pos (by unfold Pu.aL at hp;simp only[Bool.and_eq_true]at hp;exact hp.1)]at hrw
 rw[aH.mf]
 refine Pu.bE hrw ?_
 have hlen:t.2.reverse.flatten.length=t.2.flatten.length:=by
  rw[List.length_flatten,List.length_flatten,List.map_reverse,List.sum_reverse]
 have J3: ∀b:Bool,(b=true→t.2.flatten.length % n=0)→aH.J3 k n ((t.2.reverse.flatten.length:Nat):Int) b=some true:=fun b hb=>by
  rw[aH.lQ]
  cases b with
  |false=>exact Pu.tM rfl
  |true=>
   refine Pu.tN (Pu.tG (by omega) ?_)
   have hne: ¬(n:Int)=0:=by omega
   refine Eq.trans (b:=some (decide (Int.tmod ((t.2.reverse.flatten.length:Nat):Int) n=0))) ?_ ?_
   ·show(if(!decide ((n:Int)=0))=true then _ else _)=_
    rw[if_pos (by simp only[decide_eq_false hne,Bool.not_false])]
    rfl
   ·rw[hlen]
    have:=hb rfl
    rw[decide_eq_true]
    rw[←Int.ofNat_tmod,this]
    rfl
 have hz:IntKind.i64.wrap ((t.2.length:Int)-1)=(t.2.length:Int)-1:=Pu.w64 (by omega) (by omega)
 by_cases h0:0<t.2.length
 ·refine Pu.tG (show(0:Int)<(t.2.length:Nat) by omega) ?_
  simp only[gH,dV,dR,dq,dn,dW,cJ,gF,hz]
  have e0:(0:Int).toNat=0:=rfl
  have e1:((t.2.length:Int)-1).toNat=t.2.length-1:=by omega
  rw[e0,e1]
  have l1:t.2.length-1<t.2.length:=by omega
  refine Pu.tG (by omega) (Pu.tG h0 (Pu.tG h0 (Pu.tG h0 (Pu.tG (by omega) (Pu.tG l1 (Pu.tG l1 (Pu.tG l1 (J3 _ fun hb=> ?_))))))))
  have hb:(((t.2.getD 0 []).length:Nat):Int)=(((t.2.getD (t.2.length-1) []).length:Nat):Int):=of_decide_eq_true hb
  exact Pu.xB hn1 h1 hl (Pu.Dw hp hs h0 (by omega))
 ·exact Pu.tX (show¬(0:Int)<(t.2.length:Nat) by omega) (J3 false fun h=>by cases h)
theorem aH.at{k m:Nat}{p:List Int}(hk:4194304+200+m≤k)(hm:m=1000000000):aH (k+2) p=some true:=by
 rw[aH.eq]
 refine Pu.bE (nm.is (by omega)) ?_
 cases hb:decide ((1048576:Int)<p.length)with
 |true=>exact Pu.tY rfl
 |false=>
  have hb':p.length≤1048576:=by have:=of_decide_eq_false hb;omega
  obtain⟨t,e1,ht⟩:=a7.ok (k:=k+1) (b:=p) (by omega) hb'
  obtain⟨t1,t2,t3⟩:=ht.tab (by omega) (by omega) (by omega)
  have hT:Pu.jQ t:=⟨t1,t2,t3⟩
  refine Pu.tF (Pu.bE e1 ?_)
  have hpr:=Pu.o5 (t:=t)
  have f1:=cu.is (k:=k+1) (t:=t) (by omega) t1 t2 t3
  have f2:=aR.is (k:=k+1) (t:=t) (by omega) t1 t2 t3
  have hpl:=dX.is (k:=k) (t:=t) (by omega) t1 t2 t3
  have hst:=a9.is (k:=k) (t:=t) (by omega) t1 t2 t3
  have hd:(Pu.aL t&&Pu.cw t)=true→ ∃d,1≤d∧d≤m∧Pu.iter d t=t:=fun h=>by
   simp only[Bool.and_eq_true]at h
   rw[hm];exact Pu.Ei h.1 h.2
  have o1:=dw.is (k:=k+1) (t:=t) (by omega) hT (by omega) hd
  have o2:=bh.is (k:=k+1) (t:=t) (by omega) hT (by omega) hd
  have o3:=b9.is (k:=k+1) (t:=t) (by omega) hT (by omega) hd
  have o4:=dv.is (k:=k+1) (t:=t) (by omega) hT (by omega) hd
  have q1:=aK.is (k:=k+1) (a:=(Pu.bF t).1) (b:=(Pu.bF t).1) (by omega) hpr.1 hpr.2.1 hpr.2.2
  rw[decide_eq_true rfl]at q1
  have q0:=aK.is (k:=k+1) (a:=([],[])) (b:=([],[])) (by omega) (by simp) (by simp) (fun x hx=>by simp at hx)
  rw[decide_eq_true rfl]at q0
  refine Pu.bE f1 (Pu.bE f2 ?_)
  cases hbb:(Pu.aL t&&Pu.cw t)with
  |false=>
   have d1:=bM.no (k:=k+1) (t:=t) (by omega) hT hbb
   rw[hbb]at o1 o2 o3 o4
   simp only[Bool.false_eq_true,if_false]at o1 o2 o3 o4
   have s1:=bz.self (k:=k+1) (L:= []) (by omega) (by simp;omega) (by simp) (fun t h=>by cases h)
   have hp2:(Pu.bF t).2=false:=by
    unfold Pu.bF
    rw[if_neg (fun h=>by rw[h.1,h.2]at hbb;cases hbb)]
   refine Pu.bE d1 ?_
   have hJ0:aH.J0 k (Pu.bF t).2 ((([]:List Pu.Tab).length:Nat):Int) t.1 t.2 (Pu.bF t).1.1 (Pu.bF t).1.2 [] []=some true:=by
    rw[hp2];exact aH.GO (d:=([],[]))
   cases hp:Pu.aL t with
   |false=>
    rw[hp]at hpl
    exact Pu.bE hpl (Pu.tM (Pu.bE o1 (Pu.bE o2 (Pu.tB (Pu.bE q1 (Pu.tN (Pu.tB (Pu.bE q0 (Pu.tN (Pu.bE o3 (Pu.tE rfl (Pu.tE rfl (Pu.bE o4 (Pu.bE s1 (Pu.tN hJ0)))))))))))))))
   |true=>
    rw[hp]at hpl hbb
    rw[Bool.true_and]at hbb
    rw[hbb]at hst
    exact Pu.bE hpl (Pu.tN (Pu.bE hst (Pu.tM (Pu.bE o1 (Pu.bE o2 (Pu.tB (Pu.bE q1 (Pu.tN (Pu.tB (Pu.bE q0 (Pu.tN (Pu.bE o3 (Pu.tE rfl (Pu.tE rfl (Pu.bE o4 (Pu.bE s1 (Pu.tN hJ0)))))))))))))))))
  |true=>
   have hd':=hd hbb
   have hb2:=hbb
   simp only[Bool.and_eq_true]at hb2
   obtain⟨hp,hs⟩:=hb2
   rw[hbb]at o1 o2 o3 o4
   simp only[if_true]at o1 o2 o3 o4
   rw[hp]at hpl
   rw[hs]at hst
   have ho:=ck.is (k:=k) (m:=m) (by omega) hT (by omega) hd'
   obtain⟨l,u,e2,e3,e4⟩:=Pu.D3 hp hs hd'
   obtain⟨n,n1,n2,n3,n4⟩:=Pu.vd m 0 t [t] rfl (fun d a b=>by omega) (by
    obtain⟨d,a,b,c⟩:=hd'
    exact⟨d,by omega,by omega,c⟩)
   have n1:(Pu.jO m t t [t]).length=n:=n1
   have hll:=Pu.xS m t t [t]
   have hsm:=Pu.Ey (t:=t) m t [t] (fun x hx=>by
    simp only[List.mem_singleton]at hx;subst hx
    have hr:=Pu.fN hp
    exact⟨Pu.cy hp,by have:=hr.1;omega,fun r h=>by have:=hr.2 r h;omega⟩)
   rw[n1]at hll
   simp only[List.length_singleton]at hll
   generalize hO:Pu.jO m t t [t]=O at*
   have s1:=bz.self (k:=k+1) (L:=O) (by omega) (by omega) (by omega) (fun x hx=>(hsm x hx).ok)
   have hul:O.length=l.length+1:=by rw[e2];simp
   have d1:bM (k+1) t=some (u,true):=by
    rcases e4 with⟨g1,g2⟩|⟨g1,g2⟩
    ·rw[←g2];exact bM.HN (by omega) g1
    ·rw[g2];exact bM.zero (by omega) hp hs g1
   have hlast:O.getD l.length ([],[])=u:=by rw[e2];simp
   have hz:IntKind.i64.wrap ((O.length:Int)-1)=(l.length:Int):=by rw[Pu.w64 (by omega) (by omega)];omega
   have hp2:(Pu.bF t).2=true:=by
    unfold Pu.bF
    rw[if_pos ⟨hp,hs⟩]
    split<;>rfl
   have qu:=aK.is (k:=k+1) (a:=u) (b:=u) (by omega) e3.1 e3.2.1 e3.2.2
   rw[decide_eq_true rfl]at qu
   have qt:=aK.is (k:=k+1) (a:=t) (b:=t) (by omega) t1 t2 t3
   rw[decide_eq_true rfl]at qt
   have hJ0: ∀b:Bool,b=true→aH.J0 k b ((O.length:Nat):Int) t.1 t.2 (Pu.bF t).1.1 (Pu.bF t).1.2 u.1 u.2=some true:=by
    intro b hb1
    subst hb1
    rw[aH.fm]
    have hi:=dH.is (k:=k+1) (t:=(Pu.bF t).1) (by omega) hpr.1 hpr.2.1 hpr.2.2
    have g1:bM (k+1) (Pu.bF t).1=some (t,true)∧cu (k+1) u=some (t,true)∧Pu.cw (Pu.bF t).1=true:=by
     have hup:=cu.is (k:=k+1) (t:=u) (by omega) e3.1 e3.2.1 e3.2.2
     rcases e4 with⟨g1,g2⟩|⟨g1,g2⟩
     ·have hne:t.2.flatten.length≠0:=by
       rw[←g2];exact g1.prom.ne
      have hg:Pu.Good t:=⟨hp,hs,hne⟩
      refine⟨bM.HN (by omega) hg,?_,hg.prom.st⟩
      rw[hup]
      have:(Pu.bF u).2=true:=by
       unfold Pu.bF
       rw[if_pos ⟨g1.pl,g1.st⟩]
       split<;>rfl
      rw[show Pu.bF u=((Pu.bF u).1,(Pu.bF u).2)from rfl,this,show(Pu.bF u).1=t from g2]
     ·have ht0:=Pu.tV hp g1
      have hpe:(Pu.bF t)=(([],[]),true):=by
       unfold Pu.bF
       rw[if_pos ⟨hp,hs⟩,if_pos g1]
      rw[hpe]
      have hz:=bM.zero (k:=k+1) (by omega) hp hs g1
      subst g2
      refine⟨?_,?_,?_⟩
      ·rw[ht0]at hz⊢;exact hz
      ·rw[hup,←ht0,hpe,←ht0]
      ·rw[←ht0];exact hs
    obtain⟨g1,g2,g3⟩:=g1
    rw[g3]at hi
    refine Pu.tN (Pu.bE g1 (Pu.bE g2 (Pu.tN (Pu.tN (Pu.bE hi (Pu.tN (Pu.bE qt (Pu.tN (Pu.bE qt (Pu.tN ?_))))))))))
    rw[n1]
    exact aH.Hy (by omega) (by omega) hp hs n2 n3 n4
   refine Pu.bE d1 (Pu.bE hpl (Pu.tN (Pu.bE hst (Pu.tN ?_))))
   rw[aH.ep]
   refine Pu.bE ho ?_
   simp only[gH,dV,dR,dq,dn,dW,cJ,gF,hz,Int.toNat_natCast,hlast]
   have hlt:l.length<O.length:=by omega
   have hJ0:=hJ0 _ hp2
   exact Pu.tG (by omega) (Pu.tG hlt (Pu.tG hlt (Pu.bE o1 (Pu.bE o2 (Pu.tB (Pu.bE q1 (Pu.tN (Pu.tB (Pu.tG hlt (Pu.tG hlt (Pu.bE qu (Pu.tN (Pu.bE o3 (Pu.tE rfl (Pu.tE rfl (Pu.bE o4 (Pu.bE s1 (Pu.tN hJ0))))))))))))))))))
theorem aH.is{p:List Int}(h1:p.length≤maxLen): ∃k,aH k p=some true:=⟨_,aH.at (Nat.le_refl _) rfl⟩
end Go.Am.Seat
