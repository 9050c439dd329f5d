/- What the functions make of data, as plain words; each holds for all data within the bounds that it names. -/
import Derived.Test.YtlfpegcoaebmkaaGreatEqsFnEvacuated
import Derived.Test.YtlfpegcoaebmkaaGreatPu
set_option linter.unusedSimpArgs false
set_option linter.unusedVariables false
set_option linter.unnecessarySimpa false
set_option linter.unusedSectionVars false
open List renaming length_append → Mb, mem_append → Md, getD_eq_getElem?_getD → Mk, length_set → Ml, length_take → NJ, length_cons → Nr, getElem_mem → Ns, nil_append → N1, mem_singleton → Nt, length_singleton → Ox, cons_append → Mp, getElem?_append_left → Mq, getElem?_append_right → Mr, length_drop → NK, length_replicate → Oy, length_nil → NL, append_assoc → NM, mem_cons → MH, getElem_set_self → NN, map_cons → MP, append_nil → MR, range' → Ln, all_eq_true → Nw, replicate → LH, take_of_length_le → Oz, flatten_cons → OA, getElem_of_mem → Nx, length_map → N2, drop_zero → Ny, eq_nil_of_length_eq_zero → N3, flatten_append → OD, drop_of_length_le → OE, singleton_append → OG, map_append → NP, take_append_drop → NQ, take_zero → O8, take_length → O9, take_set_of_le → NS, take → M8, length → M9, mem_or_eq_of_mem_set → OO, reverse_append → OQ, findIdx_le_length → OT, drop_length → Pa, flatten_nil → Pb, length_reverse → Pc, map_nil → Pd, mem_of_mem_take → Pe, all_cons → L9, not_mem_nil → M1
open Bool renaming and_eq_true → Nc, false_eq_true → NC, true_and → Nf, not_true → Lj, false_or → L8, or_false → MB, true_or → ML, not_eq_true → M3
open Nat renaming le_refl → Ng, lt_or_ge → Nh, zero_add → Ni, le_of_not_lt → Oa, zero_le → NF, le_trans → Ob, lt_irrefl → Pf, add_zero → NG, le_antisymm → OZ, sub_self → O0, sub_zero → Oc, eq_zero_or_pos → Pg, lt_of_le_of_ne → L6
open Int renaming natCast_zero → Ph, toNat_natCast → O4, natCast_nonneg → Pj, natCast_succ → Pk, le_refl → O5, natCast_add → Pl, natCast_one → Pm, mul_le_mul_of_nonneg_right → Pn, toNat_zero → Ls, lt_irrefl → LA, add_zero → LP, zero_add → LQ, tmod_lt_of_pos → MN, add_sub_cancel → MO, tmod_nonneg → Nd
namespace Go.Am.Seat
open Go Go.Am Go.Am.Pu
attribute [local instance] D.real
set_option linter.unusedSimpArgs false
set_option linter.unusedVariables false
set_option maxRecDepth 4000
theorem nx.is{k:Nat}{p:LI}(hk:1≤k):nx k p=some (decide ((1048576:Int)<p.length)):=by
 obtain⟨k,rfl⟩: ∃k',k=k'+1:=⟨k-1,by omega⟩
 rw[nx.eq]
 rfl
theorem cL.is{k:Nat}{i h:Int}{b:LI}(hk:1≤k)(hb:b.length≤1048576)(hi:0≤i)(hi':i≤b.length):
  ∃r i' h',cL k i h b=some (r,((),(i',h')))∧0≤r∧r≤255∧0≤i'∧i'≤b.length:=by
 obtain⟨k,rfl⟩: ∃k',k=k'+1:=⟨k-1,by omega⟩
 rw[cL.eq]
 have e33:(0:Int)≤33:=by decide
 have e45:(0:Int)≤45:=by decide
 by_cases hlt:i<b.length
 ·have hn:i.toNat<b.length:=by omega
  have ew:IntKind.i64.wrap (i+1)=i+1:=w64 (by omega) (by omega)
  refine⟨_,i+1,_,by simp only[↓al,sss,if_true,if_false,e33,e45,hlt,hi,hn,ew];rfl,(Pu.Aw _).1,(Pu.Aw _).2,?_,?_⟩
  ·omega
  ·omega
 ·exact⟨_,_,_,by simp only[↓al,sss,if_true,if_false,e33,e45,hlt];rfl,(Pu.Aw _).1,(Pu.Aw _).2,hi,hi'⟩
theorem aD.is{k:Nat}{n i h:Int}{b:LI}(hk:2≤k)(hb:b.length≤1048576)(hi:0≤i)(hi':i≤b.length)(hn:n≤256):
  ∃r i' h',aD k n i h b=some (r,((),(i',h')))∧0≤r∧(n≤0→r=0)∧(0<n→r<n)∧0≤i'∧i'≤b.length:=by
 obtain⟨k,rfl⟩: ∃k',k=k'+1:=⟨k-1,by omega⟩
 rw[aD.eq]
 by_cases h0:n≤0
 ·exact⟨0,i,h,by simp only[↓al,sss,if_true,if_false,h0],by omega,fun _=>rfl,fun h=>by omega,hi,hi'⟩
 ·obtain⟨r,i',h',e,h1,h2,h3,h4⟩:=cL.is (k:=k) (h:=h) (b:=b) (by omega) hb hi hi'
  have hne: ¬n=0:=by omega
  refine⟨r.tmod n,i',h',by simp only[↓al,sss,if_true,if_false,h0,hn,e,hne];rfl,Nd _ h1,fun h=>by omega,fun _=>MN _ (by omega),h3,h4⟩
theorem aD.isB{k:Nat}{n i h:Int}{b:LI}(hk:2≤k)(hb:b.length≤1048576)(hi:0≤i)(hi':i≤b.length)(hn:n≤1000000):
  ∃r i' h',aD k n i h b=some (r,((),(i',h')))∧0≤r∧(0<n→r<n)∧0≤i'∧i'≤b.length:=by
 by_cases h256:n≤256
 ·obtain⟨r,i',h',e,a,_,c,d⟩:=aD.is (k:=k) (n:=n) (h:=h) (b:=b) hk hb hi hi' h256
  exact⟨r,i',h',e,a,c,d⟩
 ·obtain⟨k,rfl⟩: ∃k',k=k'+1:=⟨k-1,by omega⟩
  rw[aD.eq]
  obtain⟨x,i1,h1,e1,x1,x2,x3,x4⟩:=cL.is (k:=k) (h:=h) (b:=b) (by omega) hb hi hi'
  obtain⟨y,i2,h2,e2,y1,y2,y3,y4⟩:=cL.is (k:=k) (h:=h1) (b:=b) (by omega) hb x3 x4
  obtain⟨z,i3,h3,e3,z1,z2,z3,z4⟩:=cL.is (k:=k) (h:=h2) (b:=b) (by omega) hb y3 y4
  obtain⟨w,i4,h4,e4,w1,w2,w3,w4⟩:=cL.is (k:=k) (h:=h3) (b:=b) (by omega) hb z3 z4
  have hne: ¬n=0:=by omega
  have h0: ¬n≤0:=by omega
  refine⟨(x*16777216+y*65536+z*256+w).tmod n,i4,h4,?_,Nd _ (by omega),fun _=>MN _ (by omega),w3,w4⟩
  have q1:IntKind.i64.wrap (x*16777216)=x*16777216:=w64 (by omega) (by omega)
  have q2:IntKind.i64.wrap (y*65536)=y*65536:=w64 (by omega) (by omega)
  have q3:IntKind.i64.wrap (z*256)=z*256:=w64 (by omega) (by omega)
  have q4:IntKind.i64.wrap (x*16777216+y*65536)=x*16777216+y*65536:=w64 (by omega) (by omega)
  have q5:IntKind.i64.wrap (x*16777216+y*65536+z*256)=x*16777216+y*65536+z*256:=w64 (by omega) (by omega)
  have q6:IntKind.i64.wrap (x*16777216+y*65536+z*256+w)=x*16777216+y*65536+z*256+w:=w64 (by omega) (by omega)
  simp only[eZ,↓al,sss,if_true,if_false,h0,h256,e1,e2,e3,e4,hne,q1,q2,q3,q4,q5,q6]
  rfl
theorem bP.is{k:Nat}{n i h:Int}{b:LI}(hk:3≤k)(hb:b.length≤1048576)(hi:0≤i)(hi':i≤b.length)(hn:n≤256):
  ∃r i' h',bP k n i h b=some (r,((),(i',h')))∧0≤i'∧i'≤b.length:=by
 obtain⟨k,rfl⟩: ∃k',k=k'+1:=⟨k-1,by omega⟩
 rw[bP.eq]
 obtain⟨r,i',h',e,h1,h2,h3,h4,h5⟩:=aD.is (k:=k) (h:=h) (b:=b) (by omega) hb hi hi' hn
 rw[e]
 exact⟨_,_,_,rfl,h4,h5⟩
theorem gZ.is{k:Nat}{a b:Int}(hk:1≤k):gZ k a b=some (min a b):=by
 obtain⟨k,rfl⟩: ∃k',k=k'+1:=⟨k-1,by omega⟩
 rw[gZ.eq]
 by_cases h:a<b
 ·simp only[↓al,sss,if_true,if_false,h];congr 1;omega
 ·simp only[↓al,sss,if_true,if_false,h];congr 1;omega
theorem cH.inner{k k1:Nat}{n p:Int}{r:LJ}(hr: ∀x∈r,x.length≤1000)(hp:1≤p∧p≤1000)(hlen:r.length≤1000): ∀(m j i:Nat) (acc:LJ),i+m=r.length→m<j→acc.length+m≤100000→
  cH.L1 k k1 j n p i acc r=cH.L0 k k1 n (p-1) (acc++(r.drop i).map (p:: ·))
 |m,0,i,acc,_,hj,_=>by omega
 |0,j+1,i,acc,hi,_,_=>by
  rw[cH.dX]
  have e:i=r.length:=by omega
  subst e
  have ew:IntKind.i64.wrap (p-1)=p-1:=w64 (by omega) (by omega)
  simp[ew]
 |m+1,j+1,i,acc,hi,hj,ha=>by
  rw[cH.dX]
  have hlt:i<r.length:=by omega
  have hx:(r.getD i []).length≤1000:=by rw[Pu.an hlt []];exact hr _ (Ns hlt)
  have ih:=cH.inner (k:=k) (k1:=k1) (n:=n) hr hp hlen m j (i+1) (acc++ [p::r.getD i []]) (by omega) (by omega) (by rw[Mb];simp;omega)
  rw[Pk]at ih
  rw[Pu.drop_cons hlt []]
  have l1:(p::r.getD i []).length≤1099511627776:=by rw[Nr];omega
  have l2:(acc++ [p::r.getD i []]).length≤1099511627776:=by rw[Mb];simp;omega
  simp (disch:=omega) only[↓al,sss,if_true,if_false,hlt,l1,l2,Mp,N1,ih,MP,NM]
theorem cH.isP(n:Nat): ∀(k:Nat) (m:Int),n≤9→4194304+n+2≤k→1≤m→m≤1000→
  ∃L,cH k n m=some L∧1≤L.length∧L.length≤Pu.Al n∧ ∀x∈L,Pu.Gm n m x:=by
 induction n using Nat.strongRecOn with
 |ind n IH=>
 intro k m hn hk hm hm'
 obtain⟨k,rfl⟩: ∃k',k=k'+1:=⟨k-1,by omega⟩
 rw[cH.eq]
 by_cases h0:n=0
 ·subst h0
  refine⟨[[]],by simp,by simp,by simp[Pu.Al],fun x hx=> ?_⟩
  simp only[Nt]at hx
  subst hx
  exact⟨⟨by simp,fun y hy=>by cases hy⟩,fun s _ _=>rfl,rfl⟩
 ·have hne: ¬(n:Int)=0:=by omega
  simp only[↓al,sss,if_true,if_false,hne]
  rw[gZ.is (by omega),bX]
  have loop: ∀(p j:Nat) (acc:LJ),p≤n→(p:Int)≤m→p<j→acc.length+Pu.CK n p≤512→(∀x∈acc,Pu.Gm n m x)→
    ∃L,cH.L0 k j n p acc=some L∧acc.length+min p 1≤L.length∧L.length≤acc.length+Pu.CK n p∧ ∀x∈L,Pu.Gm n m x:=by
   intro p
   induction p with
   |zero=>
    intro j acc _ _ hj ha hg
    obtain⟨j,rfl⟩: ∃j',j=j'+1:=⟨j-1,by omega⟩
    rw[cH.aT]
    exact⟨acc,by simp,by simp,by simp,hg⟩
   |succ p ihp=>
    intro j acc hp hpm hj ha hg
    obtain⟨j,rfl⟩: ∃j',j=j'+1:=⟨j-1,by omega⟩
    rw[cH.aT]
    have ew:IntKind.i64.wrap ((n:Int)-((p+1:Nat):Int))=((n-(p+1):Nat):Int):=by
     rw[w64 (by omega) (by omega)];omega
    obtain⟨R,hR,r1,r2,r3⟩:=IH (n-(p+1)) (by omega) k ((p+1:Nat):Int) (by omega) (by omega) (by omega) (by omega)
    have h1:(1:Int)≤((p+1:Nat):Int):=by omega
    have ha':acc.length+(Pu.Al (n-(p+1))+Pu.CK n p)≤512:=ha
    have hin:=cH.inner (k:=k) (k1:=j) (n:=n) (p:=((p+1:Nat):Int)) (r:=R) (fun x hx=>by have:=(r3 x hx).1.1;omega) ⟨h1,by omega⟩ (by omega) R.length k 0 acc (by omega) (by omega) (by omega)
    rw[Ph,Ny,show((p+1:Nat):Int)-1=(p:Int) by omega]at hin
    simp only[↓al,sss,if_true,if_false,h1,ew,hR]
    rw[hin]
    obtain⟨L,hL,l1,l2,l3⟩:=ihp j (acc++R.map (((p+1:Nat):Int):: ·)) (by omega) (by omega) (by omega) (by rw[Mb,N2];omega) (fun x hx=>by
     rcases Md.1 hx with h|h
     ·exact hg x h
     ·obtain⟨y,hy,rfl⟩:=List.mem_map.1 h
      obtain⟨⟨q1,q2⟩,q3,q4⟩:=r3 y hy
      refine⟨⟨by rw[Nr];omega,fun z hz=> ?_⟩,fun s hs hs9=> ?_,?_⟩
      ·rcases MH.1 hz with rfl|hz
       ·omega
       ·exact q2 z hz
      ·simp only[Pu.g9,Nc,decide_eq_true_eq]
       exact⟨by omega,hpm,by omega,q3 _ (by omega) (by omega)⟩
      ·simp only[Pu.dD,q4];omega)
    rw[Mb,N2]at l1 l2
    refine⟨L,hL,by omega,?_,l3⟩
    show L.length≤acc.length+(Pu.Al (n-(p+1))+Pu.CK n p)
    omega
  have hS:=fun p hp=>Pu.Hy (n:=n) (p:=p) hn (by omega) hp
  have hB:=Pu.Ew hn
  obtain⟨p,hp⟩: ∃p:Nat,min (n:Int) m=p:=⟨(min (n:Int) m).toNat,by omega⟩
  rw[hp]
  obtain⟨L,hL,l1,l2,l3⟩:=loop p k [] (by omega) (by omega) (by omega) (by have:=hS p (by omega);simp;omega) (fun x hx=>by cases hx)
  have:=hS p (by omega)
  simp only[NL,Ni]at l1 l2
  exact⟨L,hL,by omega,by omega,l3⟩
theorem ch.isP{k:Nat}{m i h:Int}{b:LI}(hk:4194304+12≤k)(hb:b.length≤1048576)(hi:0≤i)(hi':i≤b.length)(hm:1≤m)(hm':m≤9):
  ∃p i' h',ch k m i h b=some (p,((),(i',h')))∧(Pu.oL 9 p∧Pu.bK p=true∧Pu.dD p≤m)∧0≤i'∧i'≤b.length:=by
 obtain⟨k,rfl⟩: ∃k',k=k'+1:=⟨k-1,by omega⟩
 rw[ch.eq]
 have ew:IntKind.i64.wrap (m+1)=m+1:=w64 (by omega) (by omega)
 obtain⟨r,i1,h1,e1,a1,a2,a3,a4,a5⟩:=aD.is (k:=k) (n:=m+1) (h:=h) (b:=b) (by omega) hb hi hi' (by omega)
 have a3:=a3 (by omega)
 obtain⟨n,rfl⟩: ∃n:Nat,r=n:=⟨r.toNat,by omega⟩
 obtain⟨L,eL,c1,c2,c3⟩:=cH.isP n k m (by omega) (by omega) hm (by omega)
 have:=Pu.Ew (n:=n) (by omega)
 obtain⟨q,i2,h2,e2,b1,b2,b3,b4,b5⟩:=aD.is (k:=k) (n:=L.length) (h:=h1) (b:=b) (by omega) hb a4 a5 (by omega)
 have b3:=b3 (by omega)
 have hn:q.toNat<L.length:=by omega
 refine⟨L.getD q.toNat [],i2,h2,?_,?_,b4,b5⟩
 ·simp only[↓al,sss,if_true,if_false,ew,e1,eL,e2,b1,hn]
 ·rw[Pu.an hn []]
  obtain⟨⟨d1,d2⟩,d3,d4⟩:=c3 _ (Ns hn)
  exact⟨⟨by omega,d2⟩,Pu.Ct _ hm' (d3 0 (by omega) (by omega)),by omega⟩
theorem ch.is{k:Nat}{m i h:Int}{b:LI}(hk:4194304+12≤k)(hb:b.length≤1048576)(hi:0≤i)(hi':i≤b.length)(hm:1≤m)(hm':m≤9):
  ∃p i' h',ch k m i h b=some (p,((),(i',h')))∧Pu.oL 9 p∧0≤i'∧i'≤b.length:=by
 obtain⟨p,i',h',a,c,d⟩:=ch.isP (k:=k) (h:=h) hk hb hi hi' hm hm'
 exact⟨p,i',h',a,c.1,d⟩
theorem aN.loop{k:Nat}{b o a c:LI}(hk:4194304+12≤k)(hb:b.length≤1048576)(ho:Pu.oL 9 o): ∀(m j i:Nat) (low p h:Int) (q:LI),i+m=o.length→m<j→0≤p→p≤b.length→1≤low→low≤9→q.length≤i→(∀x∈q,1≤x∧x≤9)→
  Pu.Ok (aN.L0 k j low i p h b a c o q) fun r=>r.1.1=o∧Pu.oL 9 r.1.2∧0≤r.2.2.1∧r.2.2.1≤b.length
 |m,0,i,low,p,h,q,_,hj,_,_,_,_,_,_=>by omega
 |0,j+1,i,low,p,h,q,hi,_,h0,h1,h2,h3,hq,hg=>by
  rw[aN.aT]
  simp only[g7,gF,eC,eQ,eU,cM,dg,dB,fM,ep,dI,dj,di,eV,cn,dA,dS,eZ,gA,gO,eR,eT,dw,dx,dh,cQ,N1,Mp]
  have h9:=ho.1
  exact Pu.Ok.no (by omega) (Pu.Ok.ret ⟨rfl,⟨by dsimp only;omega,hg⟩,h0,h1⟩)
 |m+1,j+1,i,low,p,h,q,hi,hj,h0,h1,h2,h3,hq,hg=>by
  rw[aN.aT]
  simp only[g7,gF,eC,eQ,eU,cM,dg,dB,fM,ep,dI,dj,di,eV,cn,dA,dS,eZ,gA,gO,eR,eT,dw,dx,dh,cQ,N1,Mp]
  have hlt:i<o.length:=by omega
  have hx:=ho.2 _ (Ns hlt)
  rw[←Pu.an hlt 0]at hx
  have h9:=ho.1
  (repeat (refine Pu.Ok.g (by first|omega|assumption|(simp only[Mb,Nr,NL,Ml,NJ,NK,Oy]at*;omega)) ?_))
  (try simp only[O4]);(try simp (disch:=omega) only[w64])
  obtain⟨r,i1,h1',e1,a1,a2,a3,a4,a5⟩:=aD.is (k:=k) (n:=o.getD i 0+1) (h:=h) (b:=b) (by omega) hb h0 h1 (by omega)
  refine Pu.Ok.iM e1 (Pu.Ok.iM (gZ.is (by omega)) ?_)
  dsimp only
  refine Pu.Ok.t (fun hz=>Pu.Ok.ret ⟨rfl,⟨by dsimp only;omega,hg⟩,a4,a5⟩) (fun hz=> ?_)
  obtain⟨r2,i2,h2',e2,b4,b5⟩:=bP.is (k:=k) (n:=3) (h:=h1') (b:=b) (by omega) hb a4 a5 (by omega)
  refine Pu.Ok.iM e2 (Pu.Ok.tb (fun _=>Pu.Ok.ret ⟨rfl,⟨by dsimp only;omega,hg⟩,b4,b5⟩) (fun _=> ?_))
  dsimp only
  rw[aN.eM]
  simp only[g7,gF,eC,eQ,eU,cM,dg,dB,fM,ep,dI,dj,di,eV,cn,dA,dS,eZ,gA,gO,eR,eT,dw,dx,dh,cQ,N1,Mp]
  (repeat (refine Pu.Ok.g (by first|omega|assumption|(simp only[Mb,Nr,NL,Ml,NJ,NK,Oy]at*;omega)) ?_))
  (try simp only[O4]);(try simp (disch:=omega) only[w64])
  exact aN.loop hk hb ho m j (i+1) (min low r) i2 h2' _ (by omega) (by omega) b4 b5 (by omega) (by omega) (by rw[Mb];simp;omega) (fun x hx=>by
   rcases Md.1 hx with h|h
   ·exact hg x h
   ·simp only[Nt]at h;omega)
theorem aN.ok{k:Nat}{m i h:Int}{b:LI}(hk:4194304+13≤k)(hb:b.length≤1048576)(hi:0≤i)(hi':i≤b.length)(hm:1≤m)(hm':m≤9):
  Pu.Ok (aN k m i h b) fun r=>Pu.oL 9 r.1.1∧Pu.oL 9 r.1.2∧0≤r.2.2.1∧r.2.2.1≤b.length:=by
 obtain⟨k,rfl⟩: ∃k',k=k'+1:=⟨k-1,by omega⟩
 rw[aN.eq]
 obtain⟨p,i1,h1,e1,hp,a4,a5⟩:=ch.is (k:=k) (m:=m) (h:=h) (b:=b) (by omega) hb hi hi' hm hm'
 refine Pu.Ok.iM e1 ?_
 have:=hp.1
 refine Pu.Ok.mono (aN.loop (by omega) hb hp p.length k 0 m i1 h1 [] (by omega) (by omega) a4 a5 hm hm' (by simp) (fun x hx=>by cases hx)) ?_
 rintro⟨⟨o,q⟩,_,i',h'⟩ ⟨e,c2,c3,c4⟩
 simp only at e
 subst e
 exact⟨hp,c2,c3,c4⟩
theorem aN.Jv{k:Nat}{b o a c:LI}(hk:4194304+12≤k)(hb:b.length≤1048576)(ho:Pu.bK o=true): ∀(m j i:Nat) (low p h:Int) (q:LI),i+m=o.length→m<j→0≤p→p≤b.length→1≤low→low≤9→q.length=i→
  (∀t,t<i→1≤q.getD t 0∧q.getD t 0≤o.getD t 0∧low≤q.getD t 0)→(∀t,t+1<i→q.getD (t+1) 0≤q.getD t 0)→
  Pu.Ok (aN.L0 k j low i p h b a c o q) fun r=>r.1.1=o∧Pu.cN r.1.2 o=true∧0≤r.2.2.1∧r.2.2.1≤b.length:=by
 have fin: ∀{i:Nat} {low:Int} {q:LI},i≤o.length→q.length=i→(∀t,t<i→1≤q.getD t 0∧q.getD t 0≤o.getD t 0∧low≤q.getD t 0)→(∀t,t+1<i→q.getD (t+1) 0≤q.getD t 0)→Pu.cN q o=true:=by
  intro i low q hi hq hg hd
  have hle: ∀t,q.getD t 0≤o.getD t 0:=fun t=>by
   rcases Nh t i with h|h
   ·exact(hg t h).2.1
   ·rw[Pu.bL (by omega)];exact(Pu.lu ho t).1
  refine Pu.ng ?_ ho hle
  refine Pu.ly q 9 0 (fun x hx=> ?_) (fun h=> ?_) (fun t ht=>hd t (by omega)) ?_
  ·obtain⟨t,ht,rfl⟩:=Nx hx
   have:=(hg t (by omega)).1
   rwa [Pu.an ht 0]at this
  ·have:=(Pu.lu ho 0).2
   have:=hle 0
   omega
  ·have:=(Pu.su hle).1
   have:=(Pu.ba ho).2.1
   omega
 intro m
 induction m with
 |zero=>
  intro j i low p h q hi hj h0 h1 h2 h3 hq hg hd
  obtain⟨j,rfl⟩: ∃j',j=j'+1:=⟨j-1,by omega⟩
  rw[aN.aT]
  simp only[g7,gF,eC,eQ,eU,cM,dg,dB,fM,ep,dI,dj,di,eV,cn,dA,dS,eZ,gA,gO,eR,eT,dw,dx,dh,cQ,N1,Mp]
  exact Pu.Ok.no (by omega) (Pu.Ok.ret ⟨rfl,fin (by omega) hq hg hd,h0,h1⟩)
 |succ m ih=>
  intro j i low p h q hi hj h0 h1 h2 h3 hq hg hd
  obtain⟨j,rfl⟩: ∃j',j=j'+1:=⟨j-1,by omega⟩
  have hlt:i<o.length:=by omega
  have hx:=(Pu.ba ho).1 _ (Ns hlt)
  have h9:=(Pu.ba ho).2.2.1
  rw[←Pu.an hlt 0]at hx
  rw[aN.aT]
  simp only[g7,gF,eC,eQ,eU,cM,dg,dB,fM,ep,dI,dj,di,eV,cn,dA,dS,eZ,gA,gO,eR,eT,dw,dx,dh,cQ,N1,Mp]
  (repeat (refine Pu.Ok.g (by first|omega|assumption|(simp only[Mb,Nr,NL,Ml,NJ,NK,Oy]at*;omega)) ?_))
  (try simp only[O4]);(try simp (disch:=omega) only[w64])
  obtain⟨r,i1,h1',e1,a1,a2,a3,a4,a5⟩:=aD.is (k:=k) (n:=o.getD i 0+1) (h:=h) (b:=b) (by omega) hb h0 h1 (by omega)
  refine Pu.Ok.iM e1 (Pu.Ok.iM (gZ.is (by omega)) ?_)
  dsimp only
  refine Pu.Ok.t (fun hz=>Pu.Ok.ret ⟨rfl,fin (by omega) hq hg hd,a4,a5⟩) (fun hz=> ?_)
  obtain⟨r2,i2,h2',e2,b4,b5⟩:=bP.is (k:=k) (n:=3) (h:=h1') (b:=b) (by omega) hb a4 a5 (by omega)
  refine Pu.Ok.iM e2 (Pu.Ok.tb (fun _=>Pu.Ok.ret ⟨rfl,fin (by omega) hq hg hd,b4,b5⟩) (fun _=> ?_))
  dsimp only
  rw[aN.eM]
  simp only[g7,gF,eC,eQ,eU,cM,dg,dB,fM,ep,dI,dj,di,eV,cn,dA,dS,eZ,gA,gO,eR,eT,dw,dx,dh,cQ,N1,Mp]
  (repeat (refine Pu.Ok.g (by first|omega|assumption|(simp only[Mb,Nr,NL,Ml,NJ,NK,Oy]at*;omega)) ?_))
  (try simp only[O4]);(try simp (disch:=omega) only[w64])
  have a3:=a3 (by omega)
  have hgt: ∀t,t<i→(q++ [min low r]).getD t 0=q.getD t 0:=fun t ht=>by
   simp only[Mk,Mq (show t<q.length by omega)]
  have hgi:(q++ [min low r]).getD i 0=min low r:=by
   subst hq
   simp only[Mk,Mr (Ng _),O0]
   rfl
  refine ih j (i+1) (min low r) i2 h2' _ (by omega) (by omega) b4 b5 (by omega) (by omega) (by rw[Mb,Ox];omega) (fun t ht=> ?_) (fun t ht=> ?_)
  ·rcases Nh t i with h|h
   ·rw[hgt t h];have:=hg t h;omega
   ·have e:t=i:=by omega
    subst e
    rw[hgi];omega
  ·rcases Nh (t+1) i with h|h
   ·rw[hgt t (by omega),hgt (t+1) h];exact hd t h
   ·have e:t+1=i:=by omega
    rw[e,hgi,hgt t (by omega)]
    have:=hg t (by omega)
    omega
theorem aN.okI{k:Nat}{m i h:Int}{b:LI}(hk:4194304+13≤k)(hb:b.length≤1048576)(hi:0≤i)(hi':i≤b.length)(hm:1≤m)(hm':m≤9):
  Pu.Ok (aN k m i h b) fun r=>Pu.cN r.1.2 r.1.1=true∧0≤r.2.2.1∧r.2.2.1≤b.length:=by
 obtain⟨k,rfl⟩: ∃k',k=k'+1:=⟨k-1,by omega⟩
 rw[aN.eq]
 obtain⟨p,i1,h1,e1,⟨_,hp,_⟩,a4,a5⟩:=ch.isP (k:=k) (m:=m) (h:=h) (b:=b) (by omega) hb hi hi' hm hm'
 have hl9:=(Pu.ba hp).2.2.1
 refine Pu.Ok.iM e1 ?_
 refine Pu.Ok.mono (aN.Jv (by omega) hb hp p.length k 0 m i1 h1 [] (by omega) (by omega) a4 a5 hm hm' rfl (fun t ht=>by omega) (fun t ht=>by omega)) ?_
 rintro⟨⟨o,q⟩,_,i',h'⟩ ⟨e,c2,c3,c4⟩
 simp only at e
 subst e
 exact⟨c2,c3,c4⟩
theorem cS.is{k:Nat}{p:LI}{i:Int}(hk:1≤k):cS k p i=some (Pu.atI p i):=by
 obtain⟨k,rfl⟩: ∃k',k=k'+1:=⟨k-1,by omega⟩
 rw[cS.eq,cS.iy]
 by_cases h1:i<0
 ·simp only[↓al,sss,if_true,if_false,h1,Pu.od h1]
 ·by_cases h2:(p.length:Int)≤i
  ·simp only[↓al,sss,if_true,if_false,h1,h2,Pu.Ds h2]
  ·have h3:0≤i:=by omega
   have h4:i.toNat<p.length:=by omega
   simp only[↓al,sss,if_true,if_false,h1,h2,h3,h4,Pu.atI]
theorem bS.is{k:Nat}{t:Pu.Tab}{r c:Int}(hk:2≤k)(hi:Pu.bK t.1=true)(h1: -1000000000≤c)(h2:c≤1000000000):bS k t r c=some (Pu.entry t r c):=by
 obtain⟨k,rfl⟩: ∃k',k=k'+1:=⟨k-1,by omega⟩
 have hb:=Pu.dR hi r
 rw[bS.eq,bS.iy,cS.is (by omega)]
 unfold Pu.entry
 by_cases c1:r<0
 ·simp only[↓al,sss,if_true,if_false,c1]
 ·by_cases c2:(t.2.length:Int)≤r
  ·simp only[↓al,sss,if_true,if_false,c1,c2]
  ·have c3:0≤r:=by omega
   have c4:r.toNat<t.2.length:=by omega
   simp (disch:=omega) only[↓al,sss,if_true,if_false,c1,c2,c3,c4]
   by_cases d1:c-Pu.atI t.1 r<0
   ·simp only[↓al,sss,if_true,if_false,d1,Pu.od d1]
   ·by_cases d2:((t.2.getD r.toNat []).length:Int)≤c-Pu.atI t.1 r
    ·simp only[↓al,sss,if_true,if_false,d1,d2,Pu.Ds d2]
    ·have d3:0≤c-Pu.atI t.1 r:=by omega
     have d4:(c-Pu.atI t.1 r).toNat<(t.2.getD r.toNat []).length:=by omega
     rw[bS.eM]
     generalize c-Pu.atI t.1 r=z at*
     simp only[↓al,sss,if_true,if_false,c3,c4,d1,d2,d3,d4,Pu.atI]
theorem kT.is{k:Nat}{a b:Int}(hk:1≤k):kT k a b=some (max a b):=by
 obtain⟨k,rfl⟩: ∃k',k=k'+1:=⟨k-1,by omega⟩
 rw[kT.eq]
 by_cases h:b<a
 ·simp only[↓al,sss,if_true,if_false,h];congr 1;omega
 ·simp only[↓al,sss,if_true,if_false,h];congr 1;omega
theorem gl.is{k:Nat}{b:Bool}(hk:1≤k):gl k b=some (if b=true then 1 else 0):=by
 obtain⟨k,rfl⟩: ∃k',k=k'+1:=⟨k-1,by omega⟩
 rw[gl.eq]
 cases b<;>rfl
theorem bS.ok{k:Nat}{t:Pu.Tab}{r c:Int}(hk:2≤k):Pu.Ok (bS k t r c) fun _=>True:=by
 obtain⟨k,rfl⟩: ∃k',k=k'+1:=⟨k-1,by omega⟩
 rw[bS.eq,bS.iy]
 simp only[g7,gF,eC,eQ,eU,cM,dg,dB,fM,ep,dI,dj,di,eV,cn,dA,dS,eZ,gA,gO,eR,eT,dw,dx,dh,cQ,N1,Mp]
 refine Pu.Ok.t (fun _=>Pu.Ok.ret trivial) (fun c1=>Pu.Ok.t (fun _=>Pu.Ok.ret trivial) (fun c2=> ?_))
 refine Pu.Ok.iM (cS.is (by omega)) ?_
 generalize IntKind.i64.wrap (c-Pu.atI t.1 r)=z
 refine Pu.Ok.t (fun _=>Pu.Ok.ret trivial) (fun d1=> ?_)
 (repeat (refine Pu.Ok.g (by first|omega|assumption|(simp only[Mb,Nr,NL,Ml,NJ,NK,Oy]at*;omega)) ?_))
 refine Pu.Ok.t (fun _=>Pu.Ok.ret trivial) (fun d2=> ?_)
 rw[bS.eM]
 simp only[g7,gF,eC,eQ,eU,cM,dg,dB,fM,ep,dI,dj,di,eV,cn,dA,dS,eZ,gA,gO,eR,eT,dw,dx,dh,cQ,N1,Mp]
 (repeat (refine Pu.Ok.g (by first|omega|assumption|(simp only[Mb,Nr,NL,Ml,NJ,NK,Oy]at*;omega)) ?_))
 exact Pu.Ok.ret trivial
theorem aP.inner{k k1:Nat}{b o g p1:LI}{i:Nat}{c:LI}{d:LJ}{rs:LJ}(hk:4194304≤k)(hb:b.length≤1048576)(ho:Pu.oL 9 o)(hi:i<o.length)(hrs:rs.length≤9)
  (key: ∀(p h:Int) (row:LI),0≤p→p≤b.length→row.length≤9→Pu.Ok (aP.L0 k k1 ((i:Int)+1) p h o p1 b c d g (rs++ [row])) fun r=>r.1.1=g∧Pu.dG 9 9 r.1.2∧0≤r.2.2.1∧r.2.2.1≤b.length):
  ∀(m j:Nat) (x low p h:Int) (row:LI),(9-x).toNat≤m→m<j→0≤p→p≤b.length→0≤x→(row.length:Int)≤x→row.length≤9→
  Pu.Ok (aP.L1 k k1 j i low x p h row o p1 b c d g rs) fun r=>r.1.1=g∧Pu.dG 9 9 r.1.2∧0≤r.2.2.1∧r.2.2.1≤b.length
 |m,0,x,low,p,h,row,_,hj,_,_,_,_,_=>by omega
 |m,j+1,x,low,p,h,row,hi,hj,h0,h1,h2,h3,h4=>by
  rw[aP.dX]
  simp only[g7,gF,eC,eQ,eU,cM,dg,dB,fM,ep,dI,dj,di,eV,cn,dA,dS,eZ,gA,gO,eR,eT,dw,dx,dh,cQ,N1,Mp]
  (repeat (refine Pu.Ok.g (by first|omega|assumption|(simp only[Mb,Nr,NL,Ml,NJ,NK,Oy]at*;omega)) ?_))
  have hlt:i<o.length:=by omega
  have hx:=ho.2 _ (Ns hlt)
  rw[←Pu.an hlt 0]at hx
  have h9:=ho.1
  (try simp only[O4]);(try simp (disch:=omega) only[w64])
  refine Pu.Ok.t (fun hz=> ?_) (fun hz=> ?_)
  ·refine Pu.Ok.bnd (bS.ok (by omega)) fun r1 _=> ?_
   refine Pu.Ok.iM (kT.is (by omega)) ?_
   obtain⟨r2,i2,h2',e2,b4,b5⟩:=bP.is (k:=k) (n:=3) (h:=h) (b:=b) (by omega) hb h0 h1 (by omega)
   refine Pu.Ok.iM e2 (Pu.Ok.iM (gl.is (by omega)) ?_)
   obtain⟨r3,i3,h3',e3,a1,a2,a3,a4,a5⟩:=aD.is (k:=k) (n:=2) (h:=h2') (b:=b) (by omega) hb b4 b5 (by omega)
   refine Pu.Ok.iM e3 (Pu.Ok.iM (gZ.is (by omega)) ?_)
   dsimp only
   (repeat (refine Pu.Ok.g (by first|omega|assumption|(simp only[Mb,Nr,NL,Ml,NJ,NK,Oy]at*;omega)) ?_))
   (try simp only[O4]);(try simp (disch:=omega) only[w64])
   exact aP.inner hk hb ho hlt hrs key (m-1) j _ _ i3 h3' _ (by omega) (by omega) a4 a5 (by omega) (by rw[Mb];simp;omega) (by rw[Mb];simp;omega)
  ·(repeat (refine Pu.Ok.g (by first|omega|assumption|(simp only[Mb,Nr,NL,Ml,NJ,NK,Oy]at*;omega)) ?_))
   exact key p h row h0 h1 h4
theorem aP.loop{k:Nat}{b o g p1:LI}{c:LI}{d:LJ}(hk:4194304≤k)(hb:b.length≤1048576)(ho:Pu.oL 9 o)(hp: ∀x∈p1,1≤x∧x≤9): ∀(m j i:Nat) (p h:Int) (rs:LJ),i+m=o.length→m<j→0≤p→p≤b.length→Pu.dG i 9 rs→
  Pu.Ok (aP.L0 k j i p h o p1 b c d g rs) fun r=>r.1.1=g∧Pu.dG 9 9 r.1.2∧0≤r.2.2.1∧r.2.2.1≤b.length
 |m,0,i,p,h,rs,_,hj,_,_,_=>by omega
 |0,j+1,i,p,h,rs,hi,hj,h0,h1,hr=>by
  rw[aP.aT]
  simp only[g7,gF,eC,eQ,eU,cM,dg,dB,fM,ep,dI,dj,di,eV,cn,dA,dS,eZ,gA,gO,eR,eT,dw,dx,dh,cQ,N1,Mp]
  have:=ho.1
  exact Pu.Ok.no (by omega) (Pu.Ok.ret ⟨rfl,hr.mono (by omega) (by omega),h0,h1⟩)
 |m+1,j+1,i,p,h,rs,hi,hj,h0,h1,hr=>by
  rw[aP.aT]
  simp only[g7,gF,eC,eQ,eU,cM,dg,dB,fM,ep,dI,dj,di,eV,cn,dA,dS,eZ,gA,gO,eR,eT,dw,dx,dh,cQ,N1,Mp]
  (repeat (refine Pu.Ok.g (by first|omega|assumption|(simp only[Mb,Nr,NL,Ml,NJ,NK,Oy]at*;omega)) ?_))
  refine Pu.Ok.iM (cS.is (by omega)) ?_
  have h9:=ho.1
  have hz:0≤Pu.atI p1 i:=by
   rw[Pu.cG]
   by_cases hl:i<p1.length
   ·rw[Pu.an hl];have:=hp _ (Ns hl);omega
   ·rw[Pu.bL (by omega)];omega
  refine aP.inner hk hb ho (by omega) (by have:=hr.1;omega) ?_ 9 k _ _ p h [] (by omega) (by omega) h0 h1 hz (by simpa using hz) (by simp)
  intro p' h' row q0 q1 q2
  exact aP.loop hk hb ho hp m j (i+1) p' h' _ (by omega) (by omega) q0 q1 (hr.app q2)
theorem aP.ok{k:Nat}{i h:Int}{b o p:LI}(hk:4194304+2≤k)(hb:b.length≤1048576)(hi:0≤i)(hi':i≤b.length)(ho:Pu.oL 9 o)(hp:Pu.oL 9 p):
  Pu.Ok (aP k i h o p b) fun r=>r.1.1=p∧Pu.dG 9 9 r.1.2∧0≤r.2.2.1∧r.2.2.1≤b.length:=by
 obtain⟨k,rfl⟩: ∃k',k=k'+1:=⟨k-1,by omega⟩
 rw[aP.eq]
 simp only[g7,gF,eC,eQ,eU,cM,dg,dB,fM,ep,dI,dj,di,eV,cn,dA,dS,eZ,gA,gO,eR,eT,dw,dx,dh,cQ,N1,Mp]
 have:=hp.1
 (repeat (refine Pu.Ok.g (by first|omega|assumption|(simp only[Mb,Nr,NL,Ml,NJ,NK,Oy]at*;omega)) ?_))
 exact aP.loop (by omega) hb ho hp.2 o.length k 0 i h [] (by omega) (by have:=ho.1;omega) hi hi' ⟨by simp,fun x hx=>by cases hx⟩
theorem im.is{k:Nat}{x lo hi:Int}(hk:1≤k):im k x lo hi=some (Pu.within x lo hi):=by
 obtain⟨k,rfl⟩: ∃k',k=k'+1:=⟨k-1,by omega⟩
 rw[im.eq]
 by_cases h:lo≤x<;>simp[Pu.within,h]
theorem aQ.loop{k:Nat}{p:LI}(hk:4194304≤k)(hp:p.length≤1048576): ∀(m j i:Nat) (s v:Int),i+m=p.length→m<j→(i=0→v=9)→(0<i→v=p.getD (i-1) 0)→v≤9→0≤s→s≤9→
  aQ.L0 k j s i p=some (Pu.g9 (p.drop i) v s)
 |m,0,i,s,v,_,hj,_,_,_,_,_=>by omega
 |0,j+1,i,s,v,hi,_,_,_,_,_,_=>by
  rw[aQ.aT]
  have e:i=p.length:=by omega
  subst e
  simp[Pu.g9]
 |m+1,j+1,i,s,v,hi,hj,h0,h1,hv,hs,hs9=>by
  rw[aQ.aT]
  have hlt:i<p.length:=by omega
  have hj1: ∀x:Int,x=p.getD i 0→1≤x→x≤v→aQ.J1 k j s i p=some (decide (s+x≤9)&&Pu.g9 (p.drop (i+1)) x (s+x)):=by
   intro x hx hx1 hx2
   rw[aQ.eM]
   simp (disch:=omega) only[↓al,sss,if_true,if_false,hlt,←hx]
   by_cases c:9<s+x
   ·have: ¬s+x≤9:=by omega
    simp[c,this]
   ·have c':s+x≤9:=by omega
    have ih:=aQ.loop hk hp m j (i+1) (s+x) x (by omega) (by omega) (by omega) (by simp[hx]) (by omega) (by omega) c'
    rw[Pk]at ih
    simp[c,c',ih]
  rw[Pu.drop_cons hlt 0]
  simp (disch:=omega) only[↓al,sss,if_true,if_false,hlt,im.is,Pu.g9]
  generalize hx:p.getD i 0=x at*
  unfold Pu.within
  by_cases c1:1≤x
  ·by_cases c2:x≤v
   ·have c3:x≤9:=by omega
    have hj:=hj1 x rfl c1 c2
    by_cases hi0:i=0
    ·have hpos: ¬(0:Int)<i:=by omega
     simp (disch:=omega) only[↓al,sss,if_true,if_false,c1,c2,c3,hpos,hj]
    ·have hv':=h1 (by omega)
     have e:((i:Int)-1)=((i-1:Nat):Int):=by omega
     have hlt':i-1<p.length:=by omega
     have hge: ¬p.getD (i-1) 0<x:=by rw[←hv'];omega
     have hpos:(0:Int)<i:=by omega
     simp (disch:=omega) only[e,↓al,sss,if_true,if_false,hlt',c1,c2,c3,hj,hpos,hge]
   ·simp only[c1,c2,↓al,sss,if_true,if_false]
    by_cases c3:x≤9
    ·have hi0:0<i:=by
      rcases Pg i with h|h
      ·have:=h0 h;omega
      ·exact h
     have hv':=h1 hi0
     have e:((i:Int)-1)=((i-1:Nat):Int):=by omega
     have hlt':i-1<p.length:=by omega
     have hge:p.getD (i-1) 0<x:=by rw[←hv'];omega
     have hpos:(0:Int)<i:=by omega
     simp (disch:=omega) only[e,↓al,sss,if_true,if_false,hlt',c3,hpos,hge]
    ·simp only[c3,↓al,sss,if_true,if_false]
  ·simp only[c1,↓al,sss,if_true,if_false]
theorem aQ.is{k:Nat}{p:LI}(hk:4194304+1≤k)(hp:p.length≤1048576):aQ k p=some (Pu.bK p):=by
 obtain⟨k,rfl⟩: ∃k',k=k'+1:=⟨k-1,by omega⟩
 rw[aQ.eq]
 exact aQ.loop (k:=k) (by omega) hp p.length k 0 0 9 (by omega) (by omega) (fun _=>rfl) (by omega) (by omega) (by omega) (by omega)
theorem b9.loop{k:Nat}{q p:LI}(hq:q.length≤1048576)(hl:q.length≤p.length)(hk:q.length<k):b9.L1 k k 0 q p=some ((Ln 0 q.length).all fun i=>decide (q.getD i 0≤p.getD i 0)):=by
 have h:=Pu.mQ (fun j i=>b9.L1 k j (i:Int) q p) q.length (fun i=>decide (q.getD i 0≤p.getD i 0)) (some false) (some true)
  (fun j i hi=>by
   have hi2:i<p.length:=by omega
   rw[b9.dX]
   simp (disch:=omega) only[↓al,sss,if_true,if_false,hi,hi2,Pl,Pm]
   by_cases c:q.getD i 0≤p.getD i 0
   ·have c': ¬p.getD i 0<q.getD i 0:=by omega
    simp only[c,c',↓al,sss,if_true,if_false]
   ·have c':p.getD i 0<q.getD i 0:=by omega
    simp only[c,c',↓al,sss,if_true,if_false])
  (fun j=>by
   rw[b9.dX]
   simp only[↓al,sss,if_true,if_false,Pf]) q.length k 0 (by omega) hk
 simp only[Ph]at h
 rw[h]
 cases(Ln 0 q.length).all fun i=>decide (q.getD i 0≤p.getD i 0)<;>simp
theorem b9.is{k:Nat}{q p:LI}(hk:4194304+2≤k)(hq:q.length≤1048576)(hp:p.length≤1048576):b9 k q p=some (Pu.cN q p):=by
 obtain⟨k,rfl⟩: ∃k',k=k'+1:=⟨k-1,by omega⟩
 rw[b9.eq,aQ.is (by omega) hq,bX,b9.iy]
 unfold Pu.cN
 cases c1:Pu.bK q with
 |false=>simp only[↓al,sss,if_true,if_false]
 |true=>
  simp only[↓al,sss,if_true,if_false]
  rw[aQ.is (by omega) hp,bX]
  cases c2:Pu.bK p with
  |false=>simp only[↓al,sss,if_true,if_false]
  |true=>
   simp only[↓al,sss,if_true,if_false]
   by_cases c3:p.length<q.length
   ·have c3': ¬q.length≤p.length:=by omega
    simp only[c3,c3',↓al,sss,if_true,if_false]
   ·have c3':q.length≤p.length:=by omega
    simp only[c3,c3',↓al,sss,if_true,if_false]
    exact b9.loop hq c3' (by omega)
theorem hZ.is{k:Nat}{s:LI×LI}(hk:4194304+3≤k)(hq:s.1.length≤1048576)(hp:s.2.length≤1048576):hZ k s=some (Pu.cN s.2 s.1):=by
 obtain⟨k,rfl⟩: ∃k',k=k'+1:=⟨k-1,by omega⟩
 rw[hZ.eq,b9.is (by omega) hp hq]
 rfl
theorem bV.loop{k:Nat}{t:Pu.Tab}{x3 x4:LI}(hk:4194304+3≤k)(hi:Pu.bK t.1=true)(h2:t.2.length≤9)(hr: ∀x∈t.2,x.length≤1048576): ∀(m j i:Nat) (acc:LI),i+m=t.2.length→m<j→acc.length=i→
  bV.L1 k j i t.1 t.2 x3 x4 acc t.1=some (if Pu.cN t.1 (acc++Pu.gB t.1 i (t.2.drop i))=true then((acc++Pu.gB t.1 i (t.2.drop i),t.1),true)else(([],[]),false))
 |m,0,i,acc,_,hj,_=>by omega
 |0,j+1,i,acc,hm,_,hacc=>by
  rw[bV.dX]
  have e:i=t.2.length:=by omega
  have h9:=(Pu.ba hi).2.2.1
  have hlt: ¬i<t.2.length:=by omega
  rw[hZ.is (by omega) (by simp only;omega) (by simp only;omega),e]
  simp only[↓al,sss,if_true,if_false,Pf,Pa,Pu.gB,MR]
  cases Pu.cN t.1 acc<;>simp
 |m+1,j+1,i,acc,hm,hj,hacc=>by
  rw[bV.dX]
  have hlt:i<t.2.length:=by omega
  have hb:=Pu.dR hi i
  have hrow:=hr t.2[i] (Ns hlt)
  rw[←Pu.an hlt []]at hrow
  rw[cS.is (by omega)]
  have ih:=bV.loop (x3:=x3) (x4:=x4) hk hi h2 hr m j (i+1) (acc++ [Pu.atI t.1 i+(t.2.getD i []).length]) (by omega) (by omega) (by simp[hacc])
  rw[Pk]at ih
  rw[Pu.drop_cons hlt []]
  have hl:(acc++ [Pu.atI t.1 i+((t.2.getD i []).length:Int)]).length≤1099511627776:=by simp;omega
  simp (disch:=omega) only[↓al,sss,if_true,if_false,hlt,hl,ih,Pu.gB]
  simp only[NM,OG,Pu.cG]
  rfl
theorem bV.is{k:Nat}{t:Pu.Tab}(hk:4194304+4≤k)(h1:t.1.length≤1048576)(h2:t.2.length≤1048576)(hr: ∀x∈t.2,x.length≤1048576):bV k t=some (Pu.shapeOf t):=by
 obtain⟨k,rfl⟩: ∃k',k=k'+1:=⟨k-1,by omega⟩
 rw[bV.eq,aQ.is (by omega) h1,bV.iy]
 have hl:t.1.length≤1099511627776:=by omega
 simp only[↓al,sss,if_true,if_false,N1,hl]
 unfold Pu.shapeOf
 cases c1:Pu.bK t.1 with
 |false=>
  have:Pu.dU t=false:=by unfold Pu.dU;rw[c1];rfl
  simp only[this,↓al,sss,if_true,if_false]
 |true=>
  by_cases c2:t.2.length<t.1.length
  ·have:Pu.dU t=false:=by
    have: ¬t.1.length≤t.2.length:=by omega
    unfold Pu.dU;simp[this]
   simp only[this,c2,↓al,sss,if_true,if_false]
  ·by_cases c3:9<t.2.length
   ·have:Pu.dU t=false:=by
     cases h:Pu.dU t with
     |false=>rfl
     |true=>have:=Pu.BP h;omega
    have c3':(9:Int)<t.2.length:=by omega
    simp only[this,c2,c3',↓al,sss,if_true,if_false]
   ·have c3': ¬(9:Int)<t.2.length:=by omega
    have c2':t.1.length≤t.2.length:=by omega
    have hloop:=bV.loop (k:=k) (t:=t) (x3:= []) (x4:= []) (by omega) c1 (by omega) hr t.2.length k 0 [] (by omega) (by omega) rfl
    rw[Ph]at hloop
    simp only[c2,c3',↓al,sss,if_true,if_false]
    rw[hloop]
    have:Pu.dU t=Pu.cN t.1 (Pu.outer t):=by unfold Pu.dU;simp[c1,c2']
    rw[this]
    rfl
theorem aC.I7{k k1 k2:Nat}{t:Pu.Tab}{r:Nat}{c x v:Int}{o n:LI}(hk:3≤k)(hi:Pu.bK t.1=true)(h1:0≤c)(h2:c≤10000000)(hr:r≤1048576):
  aC.J2 k k1 k2 r c x v t.1 t.2 o n=if(Pu.within x 1 9&&(decide (v≤x)&&decide (Pu.entry t ((r:Int)-1) c<x)))=true then aC.L1 k k1 k2 r (c+1) t.1 t.2 o n else some false:=by
 have he:=bS.is (k:=k) (t:=t) (r:=(r:Int)-1) (c:=c) (by omega) hi (by omega) (by omega)
 rw[aC.kC,im.is (by omega),aC.lA]
 simp (disch:=omega) only[↓al,sss,if_true,if_false,he]
 cases Pu.within x 1 9 with
 |false=>simp
 |true=>
  by_cases c1:v≤x
  ·have c1': ¬x<v:=by omega
   by_cases c2:Pu.entry t ((r:Int)-1) c<x
   ·have c2': ¬x≤Pu.entry t ((r:Int)-1) c:=by omega
    simp[c1,c1',c2,c2']
   ·have c2':x≤Pu.entry t ((r:Int)-1) c:=by omega
    simp[c1,c1',c2,c2']
  ·have c1':x<v:=by omega
   simp[c1,c1']
theorem aC.inner{k k1:Nat}{t:Pu.Tab}{r:Nat}{n:LI}(hk:4194304≤k)(hi:Pu.bK t.1=true)(ht:t.2.length≤1048576)(hr: ∀x∈t.2,x.length≤1048576)(hlt:r<t.2.length):
  aC.L1 k k1 k r (t.1.getD r 0) t.1 t.2 (Pu.outer t) n=if((Ln 0 (t.2.getD r []).length).all fun q=>Pu.gL t r q)=true then aC.L0 k k1 ((r:Int)+1) t.1 t.2 (Pu.outer t) n else some false:=by
 have hx:=hr _ (Ns hlt)
 rw[←Pu.an hlt []]at hx
 have hb:=Pu.dR hi r
 rw[Pu.cG]at hb
 have hol:r<(Pu.outer t).length:=by unfold Pu.outer;rw[Pu.kV];exact hlt
 have ho:(Pu.outer t).getD r 0=t.1.getD r 0+((t.2.getD r []).length:Int):=by
  have:=Pu.fV t.1 t.2 0 r hlt
  rw[Ni]at this
  exact this
 have h:=Pu.mQ (fun j q=>aC.L1 k k1 j r (t.1.getD r 0+(q:Int)) t.1 t.2 (Pu.outer t) n) (t.2.getD r []).length (fun q=>Pu.gL t r q) (some false) (aC.L0 k k1 ((r:Int)+1) t.1 t.2 (Pu.outer t) n)
  (fun j q hq=>by
   rw[aC.dX]
   have hc:t.1.getD r 0+(q:Int)<(Pu.outer t).getD r 0:=by rw[ho];omega
   have e1:=bS.is (k:=k) (t:=t) (r:=r) (c:=t.1.getD r 0+q) (by omega) hi (by omega) (by omega)
   have e2:=bS.is (k:=k) (t:=t) (r:=r) (c:=t.1.getD r 0+q-1) (by omega) hi (by omega) (by omega)
   rw[Pu.A6 hlt]at e1
   rw[Pu.DE hlt]at e2
   have ej:=fun v=>aC.I7 (k:=k) (k1:=k1) (k2:=j) (t:=t) (r:=r) (c:=t.1.getD r 0+q) (x:=(t.2.getD r []).getD q 0) (v:=v) (o:=Pu.outer t) (n:=n) (by omega) hi (by omega) (by omega) (by omega)
   have en:t.1.getD r 0+(q:Int)+1=t.1.getD r 0+((q+1:Nat):Int):=by omega
   rw[en]at ej
   have key: ∀v:Int,v=(if q=0 then 0 else(t.2.getD r []).getD (q-1) 0)→(Pu.within ((t.2.getD r []).getD q 0) 1 9&&(decide (v≤(t.2.getD r []).getD q 0)&&decide (Pu.entry t ((r:Int)-1) (t.1.getD r 0+q)<(t.2.getD r []).getD q 0)))=Pu.gL t r q:=by
    intro v hv
    unfold Pu.gL
    cases hw:Pu.within ((t.2.getD r []).getD q 0) 1 9 with
    |false=>rfl
    |true=>
     have hw1:1≤(t.2.getD r []).getD q 0:=by
      simp only[Pu.within,Nc,decide_eq_true_eq]at hw;exact hw.1
     simp only[Nf]
     congr 1
     ·by_cases e:q=0
      ·have:v≤(t.2.getD r []).getD q 0:=by rw[hv,if_pos e];omega
       simp[e,this]
       simpa[e]using this
      ·rw[hv,if_neg e];simp[e]
     ·by_cases e:r=0
      ·subst e
       rw[Pu.EB (by omega),decide_eq_true (show(0:Int)<(t.2.getD 0 []).getD q 0 by omega)]
       simp only[decide_true,ML]
      ·simp[e]
   by_cases hc0:0<t.1.getD r 0+(q:Int)
   ·simp (disch:=omega) only[↓al,sss,if_true,if_false,hol,hc,e1,hc0,e2,ej]
    rw[key _ rfl]
   ·simp (disch:=omega) only[↓al,sss,if_true,if_false,hol,hc,e1,hc0,ej]
    rw[key 0 (by
           have:q=0:=by omega
           rw[if_pos this])])
  (fun j=>by
   rw[aC.dX]
   have hc: ¬t.1.getD r 0+((t.2.getD r []).length:Int)<(Pu.outer t).getD r 0:=by rw[ho];omega
   simp (disch:=omega) only[↓al,sss,if_true,if_false,hol,hc]) (t.2.getD r []).length k 0 (by omega) (by omega)
 simp only[Ph,LP]at h
 exact h
theorem aC.is{k:Nat}{t:Pu.Tab}(hk:4194304+5≤k)(h1:t.1.length≤1048576)(ht:t.2.length≤1048576)(hr: ∀x∈t.2,x.length≤1048576):aC k t=some (Pu.eH t):=by
 obtain⟨k,rfl⟩: ∃k',k=k'+1:=⟨k-1,by omega⟩
 rw[aC.eq,bV.is (by omega) h1 ht hr,bX]
 unfold Pu.eH Pu.shapeOf
 cases hs:Pu.dU t with
 |false=>simp[hs]
 |true=>
  have hi:Pu.bK t.1=true:=by
   simp only[Pu.dU,Nc]at hs;exact hs.1
  have hol:(Pu.outer t).length=t.2.length:=by unfold Pu.outer;rw[Pu.kV]
  have h:=Pu.mQ (fun j r=>aC.L0 k j r t.1 t.2 (Pu.outer t) t.1) t.2.length (fun r=>(Ln 0 (t.2.getD r []).length).all fun q=>Pu.gL t r q) (some false) (some true)
   (fun j r hlt=>by
    rw[aC.aT,cS.is (by omega),Pu.cG]
    simp (disch:=omega) only[↓al,sss,if_true,if_false,hol,hlt,aC.inner (k1:=j) (n:=t.1) (show 4194304≤k by omega) hi ht hr hlt,Pl,Pm])
   (fun j=>by
    rw[aC.aT]
    simp (disch:=omega) only[↓al,sss,if_true,if_false,hol,Pf]) t.2.length k 0 (by omega) (by omega)
  simp only[Ph]at h
  simp only[if_true,↓al,sss,if_true,if_false]
  rw[h]
  cases(Ln 0 t.2.length).all fun r=>(Ln 0 (t.2.getD r []).length).all fun q=>Pu.gL t r q<;>simp
theorem fP.ok{k:Nat}{m i h:Int}{b:LI}(hk:4194304+15≤k)(hb:b.length≤1048576)(hi:0≤i)(hi':i≤b.length)(hm:1≤m)(hm':m≤9):
  Pu.Ok (fP k m i h b) fun r=>gE 9 9 9 r.1∧0≤r.2.2.1∧r.2.2.1≤b.length:=by
 obtain⟨k,rfl⟩: ∃k',k=k'+1:=⟨k-1,by omega⟩
 rw[fP.eq]
 refine Pu.Ok.bnd (aN.ok (by omega) hb hi hi' hm hm') ?_
 rintro⟨⟨o,p⟩,_,i1,h1⟩ ⟨ho,hp,a4,a5⟩
 dsimp only at*
 refine Pu.Ok.bnd (aP.ok (by omega) hb a4 a5 ho hp) ?_
 rintro⟨⟨q,rs⟩,_,i2,h2⟩ ⟨e2,hr,b4,b5⟩
 simp only at e2
 subst e2
 have ht:gE 9 9 9 ((q,rs):Pu.Tab):=⟨hp.1,hr⟩
 obtain⟨c1,c2,c3⟩:=ht.tab (by omega) (by omega) (by omega)
 dsimp only
 refine Pu.Ok.iM (aC.is (by omega) c1 c2 c3) ?_
 refine Pu.Ok.tn (fun _=>Pu.Ok.ret ⟨⟨by simp,by simp,fun x hx=> ?_⟩,b4,b5⟩) (fun _=>Pu.Ok.ret ⟨ht,b4,b5⟩)
 simp only[MH,M1,or_false]at hx
 rcases hx with rfl|rfl<;>simp
theorem cr.is{k:Nat}{l:LI}{i h:Int}{b:LI}(hk:3≤k)(hb:b.length≤1048576)(hi:0≤i)(hi':i≤b.length)(hl:0<l.length)(hl':l.length≤256):
  ∃r i' h',cr k i h l b=some (r,((),(i',h')))∧r∈l∧0≤i'∧i'≤b.length:=by
 obtain⟨k,rfl⟩: ∃k',k=k'+1:=⟨k-1,by omega⟩
 rw[cr.eq]
 obtain⟨r,i',h',e,h1,h2,h3,h4,h5⟩:=aD.is (k:=k) (n:=l.length) (h:=h) (b:=b) (by omega) hb hi hi' (by omega)
 have h3:=h3 (by omega)
 have hn:r.toNat<l.length:=by omega
 refine⟨l.getD r.toNat 0,i',h',?_,?_,h4,h5⟩
 ·simp only[↓al,sss,if_true,if_false,e,h1,hn]
 ·rw[Pu.an hn 0];exact Ns hn
theorem eN.ok{k:Nat}{m i h:Int}{b:LI}(hk:4194304+16≤k)(hb:b.length≤1048576)(hi:0≤i)(hi':i≤b.length)(hm:1≤m)(hm':m≤9):
  Pu.Ok (eN k m i h b) fun r=>gE 10 9 10 r.1∧0≤r.2.2.1∧r.2.2.1≤b.length:=by
 obtain⟨k,rfl⟩: ∃k',k=k'+1:=⟨k-1,by omega⟩
 rw[eN.eq]
 refine Pu.Ok.bnd (fP.ok (by omega) hb hi hi' hm hm') ?_
 rintro⟨⟨q,rs⟩,_,i1,h1⟩ ⟨⟨hq,hr⟩,a4,a5⟩
 dsimp only at*
 have hr':Pu.dG 9 10 rs:=hr.mono (by omega) (by omega)
 simp only[g7,gF,eC,eQ,eU,cM,dg,dB,fM,ep,dI,dj,di,eV,cn,dA,dS,eZ,gA,gO,eR,eT,dw,dx,dh,cQ,N1,Mp]
 refine Pu.Ok.t (fun _=>Pu.Ok.ret ⟨⟨by dsimp only;omega,hr'⟩,a4,a5⟩) (fun h0=> ?_)
 have hlen:=hr.1
 obtain⟨r,i2,h2,e2,b1,b2,b3,b4,b5⟩:=aD.is (k:=k) (n:=rs.length) (h:=h1) (b:=b) (by omega) hb a4 a5 (by omega)
 have b3:=b3 (by omega)
 obtain⟨r',i3,h3,e3,c1,c2,c3,c4,c5⟩:=aD.is (k:=k) (n:=16) (h:=h2) (b:=b) (by omega) hb b4 b5 (by omega)
 refine Pu.Ok.iM e2 ?_
 dsimp only
 refine Pu.Ok.iM e3 ?_
 dsimp only
 have hrow:=hr.at r.toNat
 refine Pu.Ok.t (fun _=> ?_) (fun _=>Pu.Ok.t (fun _=> ?_) (fun _=>Pu.Ok.t (fun _=> ?_) (fun _=>Pu.Ok.ret ⟨⟨by dsimp only;omega,hr'⟩,c4,c5⟩)))
 ·(repeat (refine Pu.Ok.g (by first|omega|assumption|(simp only[Mb,Nr,NL,Ml,NJ,NK,Oy]at*;omega)) ?_))
  obtain⟨x,i4,h4,e4,d1,d4,d5⟩:=cr.is (k:=k) (l:= [0,9,10,-1]) (h:=h3) (b:=b) (by omega) hb c4 c5 (by simp) (by simp)
  refine Pu.Ok.iM e4 ?_
  dsimp only
  (repeat (refine Pu.Ok.g (by first|omega|assumption|(simp only[Mb,Nr,NL,Ml,NJ,NK,Oy]at*;omega)) ?_))
  refine Pu.Ok.g trivial (Pu.Ok.ret ⟨⟨by dsimp only;omega,hr'.set _ ?_⟩,d4,d5⟩)
  rw[Mb,Ox];omega
 ·(repeat (refine Pu.Ok.g (by first|omega|assumption|(simp only[Mb,Nr,NL,Ml,NJ,NK,Oy]at*;omega)) ?_))
  refine Pu.Ok.t (fun hz=> ?_) (fun _=>Pu.Ok.ret ⟨⟨by dsimp only;omega,hr'⟩,c4,c5⟩)
  have hz':(0:Int).toNat<(rs.getD r.toNat []).length:=by
   show 0<_
   omega
  (repeat (refine Pu.Ok.g (by first|omega|assumption|(simp only[Mb,Nr,NL,Ml,NJ,NK,Oy]at*;omega)) ?_))
  refine Pu.Ok.ret ⟨⟨by dsimp only;omega,hr'.set _ ?_⟩,c4,c5⟩
  rw[Ml];omega
 ·obtain⟨x,i4,h4,e4,d1,d4,d5⟩:=cr.is (k:=k) (l:= [1,0,-1,9]) (h:=h3) (b:=b) (by omega) hb c4 c5 (by simp) (by simp)
  refine Pu.Ok.iM e4 ?_
  dsimp only
  (repeat (refine Pu.Ok.g (by first|omega|assumption|(simp only[Mb,Nr,NL,Ml,NJ,NK,Oy]at*;omega)) ?_))
  refine Pu.Ok.ret ⟨⟨?_,hr'⟩,d4,d5⟩
  dsimp only
  rw[Mb,Ox];omega
theorem fQ.ok{k:Nat}{i h:Int}{b:LI}(hk:4194304+20≤k)(hb:b.length≤1048576)(hi:0≤i)(hi':i≤b.length):
  Pu.Ok (fQ k i h b) fun r=>Pu.cN r.1.2 r.1.1=true∧0≤r.2.2.1∧r.2.2.1≤b.length:=by
 obtain⟨k,rfl⟩: ∃k',k=k'+1:=⟨k-1,by omega⟩
 rw[fQ.eq]
 obtain⟨r,i1,h1,e1,a1,a2⟩:=bP.is (k:=k) (n:=3) (h:=h) (b:=b) (by omega) hb hi hi' (by omega)
 refine Pu.Ok.iM e1 (Pu.Ok.tb (fun _=> ?_) (fun _=> ?_))
 ·refine Pu.Ok.bnd (aN.okI (by omega) hb a1 a2 (by omega) (by omega)) ?_
  rintro⟨⟨o,q⟩,_,i',h'⟩ ⟨c1,c2,c3⟩
  exact Pu.Ok.ret ⟨c1,c2,c3⟩
 ·obtain⟨p,i2,h2,e2,⟨_,hp,_⟩,b4,b5⟩:=ch.isP (k:=k) (m:=6) (h:=h1) (b:=b) (by omega) hb a1 a2 (by omega) (by omega)
  refine Pu.Ok.iM e2 (Pu.Ok.ret ⟨Pu.ng rfl hp (fun t=> ?_),b4,b5⟩)
  show([]:LI).getD t 0≤_
  exact(Pu.lu hp t).1
theorem cX.loop{k:Nat}{w:LI}(hw:w.length≤1048576)(hb: ∀x∈w,-1000000≤x∧x≤1000000): ∀(m j i:Nat) (s:Int),i+m=w.length→m<j→ -1000000*i≤s→s≤1000000*i→cX.L0 k j s i w=some (s+Pu.dD (w.drop i))
 |m,0,i,s,_,hj,_,_=>by omega
 |0,j+1,i,s,hm,_,_,_=>by
  rw[cX.aT]
  have e:i=w.length:=by omega
  subst e
  simp[Pu.dD]
 |m+1,j+1,i,s,hm,hj,hs1,hs2=>by
  rw[cX.aT]
  have hlt:i<w.length:=by omega
  have hx:=hb _ (Ns hlt)
  rw[←Pu.an hlt 0]at hx
  have ih:=cX.loop (k:=k) hw hb m j (i+1) (s+w.getD i 0) (by omega) (by omega) (by omega) (by omega)
  rw[Pk]at ih
  rw[Pu.drop_cons hlt 0]
  simp (disch:=omega) only[↓al,sss,if_true,if_false,hlt,ih,Pu.dD,Int.add_assoc]
theorem cX.is{k:Nat}{w:LI}(hk:4194304+1≤k)(hw:w.length≤1048576)(hb: ∀x∈w,-1000000≤x∧x≤1000000):cX k w=some (Pu.dD w):=by
 obtain⟨k,rfl⟩: ∃k',k=k'+1:=⟨k-1,by omega⟩
 rw[cX.eq]
 have h:=cX.loop (k:=k) hw hb w.length k 0 0 (by omega) (by omega) (by omega) (by omega)
 rw[Ph]at h
 rw[h,LQ,Ny]
theorem cV.tail{k:Nat}{o p:LI}{r:Int}(hk:4194304+1≤k)(hp:p.length≤1048576)(hb: ∀x∈p,x≤1000000000∧ -1000000000≤x)(h0:0≤r)(h1:r<p.length):
  cV.J1 k r p=some (if Pu.bK (p.set r.toNat (p.getD r.toNat 0+1))=true then(p.set r.toNat (p.getD r.toNat 0+1),true)else([],false)):=by
 rw[cV.eM]
 have hn:r.toNat<p.length:=by omega
 have hx:=hb _ (Ns hn)
 rw[←Pu.an hn 0]at hx
 have ew:IntKind.i64.wrap (p.getD r.toNat 0+1)=p.getD r.toNat 0+1:=w64 (by omega) (by omega)
 have hi:=aQ.is (k:=k) (p:=p.set r.toNat (p.getD r.toNat 0+1)) hk (by rw[Ml];exact hp)
 by_cases hq:Pu.bK (p.set r.toNat (p.getD r.toNat 0+1))=true
 ·simp only[↓al,sss,if_true,if_false,h0,hn,ew,hi,hq]
 ·simp only[M3]at hq
  simp only[↓al,sss,if_true,if_false,h0,hn,ew,hi,hq]
theorem cV.is{k:Nat}{p:LI}{r:Int}(hk:4194304+3≤k)(hp:p.length≤1000000):cV k p r=some (Pu.jR p r):=by
 obtain⟨k,rfl⟩: ∃k',k=k'+1:=⟨k-1,by omega⟩
 rw[cV.eq,aQ.is (by omega) (by omega),bX]
 unfold Pu.jR
 by_cases h1:Pu.bK p=true
 ·have hb: ∀x∈p,x≤1000000000∧ -1000000000≤x:=fun x hx=>by
   have:=(Pu.ba h1).1 x hx
   omega
  by_cases h2:r<0
  ·have h3: ¬0≤r:=by omega
   simp[h1,h2,h3]
  ·by_cases h3:(p.length:Int)<r
   ·have h4: ¬r≤p.length:=by omega
    simp[h1,h2,h3,h4]
   ·have h2':0≤r:=by omega
    have h3':r≤p.length:=by omega
    have hl:([]++p).length≤1099511627776:=by simp;omega
    rw[cV.iy]
    by_cases e:r=p.length
    ·have hr:r<(p++ [0]).length:=by rw[Mb];simp;omega
     have ht:=cV.tail (o:=p) (k:=k) (p:=p++ [0]) (r:=r) (by omega) (by rw[Mb];simp;omega) (fun x hx=>by
      rcases Md.1 hx with h|h
      ·exact hb x h
      ·simp at h;omega) h2' hr
     have hlim:(p++ [(0:Int)]).length≤1099511627776:=by rw[Mb];simp;omega
     have hlim':p.length≤1099511627776:=by omega
     have e':(r=(p.length:Int))=True:=eq_true e
     simp only[↓al,sss,if_true,if_false,h1,h2,h3,e',hlim,hlim',N1]
     rw[ht];simp only[h2',h3',and_self,if_true]
    ·have ht:=cV.tail (o:=p) (k:=k) (p:=p) (r:=r) (by omega) (by omega) hb h2' (by omega)
     have hlim':p.length≤1099511627776:=by omega
     simp only[↓al,sss,if_true,if_false,h1,h2,h3,e,hlim',N1]
     rw[ht];simp only[h2',h3',and_self,if_true]
 ·simp only[M3]at h1
  simp[h1]
theorem b8.ok{o:LI}(ho:Pu.bK o=true): ∀(d k:Nat) (c:LJ),4194304+10+d≤k→Pu.Ch c→Pu.cN (Pu.jL c) o=true→(c.length:Int)≤Pu.dD (Pu.jL c)+1→Pu.dD o=Pu.dD (Pu.jL c)+d→
  Pu.Ok (b8 k o c) fun L=>1≤L.length∧L.length≤Pu.fct d∧ ∀x∈L,Pu.Ch x:=by
 intro d
 induction d with
 |zero=>
  intro k c hk hc hi hl hs
  obtain⟨k,rfl⟩: ∃k',k=k'+1:=⟨k-1,by omega⟩
  obtain⟨c1,c2,c3⟩:=hc
  obtain⟨hp,_⟩:=Pu.na hi
  rw[b8.eq]
  have hz:IntKind.i64.wrap ((c.length:Int)-1)=((c.length-1:Nat):Int):=by rw[w64 (by omega) (by omega)];omega
  simp only[g7,gF,eC,eQ,eU,cM,dg,dB,fM,ep,dI,dj,di,eV,cn,dA,dS,eZ,gA,gO,eR,eT,dw,dx,dh,cQ,N1,Mp]
  simp only[hz,O4]
  (repeat (refine Pu.Ok.g (by first|omega|assumption|(simp only[Mb,Nr,NL,Ml,NJ,NK,Oy]at*;omega)) ?_))
  refine Pu.Ok.iM (cX.is (w:=Pu.jL c) (by omega) (by have:=(Pu.gr hp).1;omega) fun x hx=>by have:=(Pu.gr hp).2 x hx;omega) ?_
  refine Pu.Ok.iM (cX.is (w:=o) (by omega) (by have:=(Pu.gr ho).1;omega) fun x hx=>by have:=(Pu.gr ho).2 x hx;omega) ?_
  refine Pu.Ok.t (fun _=>Pu.Ok.ret ⟨by simp,by simp[Pu.fct],fun x hx=>by simp only[Nt]at hx;subst hx;exact⟨c1,c2,c3⟩⟩) (fun hn=>absurd (by rw[hs];simp) hn)
 |succ d ih=>
  intro k c hk hc hi hl hs
  obtain⟨k,rfl⟩: ∃k',k=k'+1:=⟨k-1,by omega⟩
  have hc':=hc
  obtain⟨c1,c2,c3⟩:=hc
  obtain⟨hp,_⟩:=Pu.na hi
  have hso:=(Pu.ba ho).2.1
  rw[b8.eq]
  have hz:IntKind.i64.wrap ((c.length:Int)-1)=((c.length-1:Nat):Int):=by rw[w64 (by omega) (by omega)];omega
  simp only[g7,gF,eC,eQ,eU,cM,dg,dB,fM,ep,dI,dj,di,eV,cn,dA,dS,eZ,gA,gO,eR,eT,dw,dx,dh,cQ,N1,Mp]
  simp only[hz,O4]
  (repeat (refine Pu.Ok.g (by first|omega|assumption|(simp only[Mb,Nr,NL,Ml,NJ,NK,Oy]at*;omega)) ?_))
  have hlp:=(Pu.gr hp).1
  refine Pu.Ok.iM (cX.is (w:=Pu.jL c) (by omega) (by omega) fun x hx=>by have:=(Pu.gr hp).2 x hx;omega) ?_
  refine Pu.Ok.iM (cX.is (w:=o) (by omega) (by have:=(Pu.gr ho).1;omega) fun x hx=>by have:=(Pu.gr ho).2 x hx;omega) ?_
  refine Pu.Ok.t (fun e=>by omega) (fun _=> ?_)
  obtain⟨ra,oa,a1,a2,a3⟩:=Pu.Hr hi (by omega)
  have hT:=Pu.FV (d:=d) (by have:=Pu.lu hp 0;have:=(Pu.ba hp).2.2.2;omega)
  have hsucc:Pu.fct (d+1)=(d+1)*Pu.fct d:=rfl
  rw[hsucc]
  generalize Pu.fct d=T at*
  have hle:=Pu.rn hi
  obtain⟨F,hF⟩: ∃F:Nat→Int,F=fun r=>Pu.dD (o.take r)-Pu.dD ((Pu.jL c).take r):=⟨_,rfl⟩
  have hF1: ∀r,F (r+1)=F r+(o.getD r 0-(Pu.jL c).getD r 0):=fun r=>by
   subst hF
   simp only[Pu.yQ]
   omega
  have hF0:F 0=0:=by subst hF;simp[Pu.dD]
  have hFe:F ((Pu.jL c).length+1)≤d+1:=by
   subst hF
   have h1:=(Pu.uY o (fun x hx=>by have:=(Pu.ba ho).1 x hx;omega) ((Pu.jL c).length+1)).2
   have h2:(Pu.jL c).take ((Pu.jL c).length+1)=Pu.jL c:=Oz (by omega)
   simp only[h2]
   omega
  have hFp: ∀r,0≤F r:=fun r=>by
   induction r with
   |zero=>omega
   |succ r ih=>have:=hF1 r;have:=hle r;omega
  have loop: ∀(m j r:Nat) (out:List LJ),r+m=(Pu.jL c).length+1→m<j→(out.length:Int)≤F r*T→(∀x∈out,Pu.Ch x)→(r≤ra∨1≤out.length)→
    Pu.Ok (b8.L0 k j (c.length-1) r o c out) fun L=>1≤L.length∧L.length≤(d+1)*T∧ ∀x∈L,Pu.Ch x:=by
   intro m
   induction m with
   |zero=>
    intro j r out hr hj hout hg hne
    obtain⟨j,rfl⟩: ∃j',j=j'+1:=⟨j-1,by omega⟩
    rw[b8.aT]
    simp only[g7,gF,eC,eQ,eU,cM,dg,dB,fM,ep,dI,dj,di,eV,cn,dA,dS,eZ,gA,gO,eR,eT,dw,dx,dh,cQ,N1,Mp]
    (repeat (refine Pu.Ok.g (by first|omega|assumption|(simp only[Mb,Nr,NL,Ml,NJ,NK,Oy]at*;omega)) ?_))
    refine Pu.Ok.no (show¬(r:Int)≤((Pu.jL c).length:Nat) by omega) (Pu.Ok.ret ⟨by omega,?_,hg⟩)
    have e:r=(Pu.jL c).length+1:=by omega
    subst e
    have:F ((Pu.jL c).length+1)*T≤(d+1:Int)*T:=Pn hFe (by omega)
    have e2:(((d+1)*T:Nat):Int)=(d+1:Int)*T:=by simp
    omega
   |succ m ihm=>
    intro j r out hr hj hout hg hne
    obtain⟨j,rfl⟩: ∃j',j=j'+1:=⟨j-1,by omega⟩
    have hw:IntKind.i64.wrap ((r:Int)+1)=((r+1:Nat):Int):=w64 (by omega) (by omega)
    have hmono:F r*T≤F (r+1)*T:=Pn (by have:=hF1 r;have:=hle r;omega) (by omega)
    have next: ∀out',(out'.length:Int)≤F (r+1)*T→(∀x∈out',Pu.Ch x)→(r+1≤ra∨1≤out'.length)→Pu.Ok (b8.J1 k j (c.length-1) r o c out') fun L=>1≤L.length∧L.length≤(d+1)*T∧ ∀x∈L,Pu.Ch x:=by
     intro out' h1 h2 h3
     rw[b8.eM]
     simp only[g7,gF,eC,eQ,eU,cM,dg,dB,fM,ep,dI,dj,di,eV,cn,dA,dS,eZ,gA,gO,eR,eT,dw,dx,dh,cQ,N1,Mp]
     rw[hw]
     exact ihm j (r+1) out' (by omega) (by omega) h1 h2 h3
    rw[b8.aT]
    simp only[g7,gF,eC,eQ,eU,cM,dg,dB,fM,ep,dI,dj,di,eV,cn,dA,dS,eZ,gA,gO,eR,eT,dw,dx,dh,cQ,N1,Mp]
    (repeat (refine Pu.Ok.g (by first|omega|assumption|(simp only[Mb,Nr,NL,Ml,NJ,NK,Oy]at*;omega)) ?_))
    refine Pu.Ok.t (fun _=> ?_) (fun hn=>absurd (show(r:Int)≤((Pu.jL c).length:Nat) by omega) hn)
    (repeat (refine Pu.Ok.g (by first|omega|assumption|(simp only[Mb,Nr,NL,Ml,NJ,NK,Oy]at*;omega)) ?_))
    refine Pu.Ok.iM (cV.is (p:=Pu.jL c) (r:=r) (by omega) (by omega)) ?_
    cases hab:Pu.jR (Pu.jL c) r with
    |mk q b=>
    cases b with
    |false=>
     refine Pu.Ok.tb (fun h=>by cases h) (fun _=>next out (by omega) hg ?_)
     rcases hne with h|h
     ·left
      refine L6 h fun e=> ?_
      subst e
      rw[a2]at hab;cases hab
     ·exact .inr h
    |true=>
     refine Pu.Ok.tb (fun _=> ?_) (fun h=>by cases h)
     obtain⟨b1,b2,b3,b4,b5⟩:=Pu.oJ hab
     have hq:=Pu.gr b5
     refine Pu.Ok.iM (b9.is (q:=q) (p:=o) (by omega) (by have:=hq.1;omega) (by have:=(Pu.gr ho).1;omega)) ?_
     cases hin:Pu.cN q o with
     |false=>
      refine Pu.Ok.tb (fun h=>by cases h) (fun _=>next out (by omega) hg ?_)
      rcases hne with h|h
      ·left
       refine L6 h fun e=> ?_
       subst e
       rw[a2]at hab
       injection hab with e1 _
       subst e1
       rw[a3]at hin;cases hin
      ·exact .inr h
     |true=>
      refine Pu.Ok.tb (fun _=> ?_) (fun h=>by cases h)
      have hsq:=Pu.sum_add hp hab
      have hql:=(Pu.ba b5).2.1
      simp only[N1]
      (repeat (refine Pu.Ok.g (by first|omega|assumption|(simp only[Mb,Nr,NL,Ml,NJ,NK,Oy]at*;omega)) ?_))
      have hlast:=Pu.FG c q
      refine Pu.Ok.bnd (ih k (c++ [q]) (by omega) ⟨by rw[Mb];omega,by rw[Mb,Ox];omega,fun x hx=> ?_⟩ (by rw[hlast];exact hin)
       (by rw[hlast,Mb,Ox];omega) (by rw[hlast];omega)) fun L hL=> ?_
      ·rcases Md.1 hx with h|h
       ·exact c3 x h
       ·simp only[Nt]at h;subst h;exact hq
      obtain⟨l1,l2,l3⟩:=hL
      have hstep:F r*T+T≤F (r+1)*T:=by
       have h1:F r+1≤F (r+1):=by
        have h1:=hF1 r
        have h2:=Pu.rn hin r
        rw[b4,if_pos rfl]at h2
        omega
       have:=Pn h1 (show(0:Int)≤T by omega)
       rw[Int.add_mul,Int.one_mul]at this
       exact this
      have hbig:F r*T≤9*362880:=by
       have h1:F r≤9:=by
        subst hF
        have h1:=(Pu.uY o (fun x hx=>by have:=(Pu.ba ho).1 x hx;omega) r).2
        have h2:=(Pu.uY (Pu.jL c) (fun x hx=>by have:=(Pu.ba hp).1 x hx;omega) r).1
        show Pu.dD (o.take r)-Pu.dD ((Pu.jL c).take r)≤9
        omega
       exact Int.mul_le_mul h1 (by omega) (by omega) (by omega)
      have hlim:(out++L).length≤1099511627776:=by rw[Mb];omega
      refine Pu.Ok.g hlim (next (out++L) (by rw[Mb];omega) (fun x hx=> ?_) (.inr (by rw[Mb];omega)))
      rcases Md.1 hx with h|h
      ·exact hg x h
      ·exact l3 x h
  have h:=loop ((Pu.jL c).length+1) k 0 [] (by omega) (by omega) (by rw[hF0];simp) (fun x hx=>by cases hx) (.inl (by omega))
  exact h
theorem bc.vB{k k1:Nat}{a r:Nat}{c:LJ}{x6 x7:LI}{y:LJ}{rows:LJ}{Q:LI×LJ→Prop}(hk:4194304+1≤k)(hc:c.length≤10)(hr9:r≤9)(hrows:rows.length≤9)
  (key: ∀row:LI,row.length≤9→Pu.Ok (bc.L0 k k1 a (((r+1:Nat):Int)) c x6 y x7 (rows++ [row])) Q):
  ∀(m j q:Nat) (row:LI),q+m=max c.length 1→1≤q→m<j→row.length+1≤q→Pu.Ok (bc.L1 k k1 j a r q c row x6 y x7 rows) Q
 |m,0,q,row,_,_,hj,_=>by omega
 |0,j+1,q,row,hq,h1,_,hl=>by
  rw[bc.dX]
  simp only[g7,gF,eC,eQ,eU,cM,dg,dB,fM,ep,dI,dj,di,eV,cn,dA,dS,eZ,gA,gO,eR,eT,dw,dx,dh,cQ,N1,Mp]
  have hw:IntKind.i64.wrap ((r:Int)+1)=((r+1:Nat):Int):=w64 (by omega) (by omega)
  refine Pu.Ok.no (by omega) ?_
  refine Pu.Ok.g (by rw[Mb];simp;omega) ?_
  rw[hw]
  exact key row (by omega)
 |m+1,j+1,q,row,hq,h1,hj,hl=>by
  have hqc:q<c.length:=by omega
  rw[bc.dX]
  have hw:IntKind.i64.wrap ((q:Int)-1)=((q-1:Nat):Int):=by rw[w64 (by omega) (by omega)];omega
  have hw2:IntKind.i64.wrap ((q:Int)+1)=((q+1:Nat):Int):=w64 (by omega) (by omega)
  simp only[g7,gF,eC,eQ,eU,cM,dg,dB,fM,ep,dI,dj,di,eV,cn,dA,dS,eZ,gA,gO,eR,eT,dw,dx,dh,cQ,N1,Mp]
  simp only[hw,O4]
  refine Pu.Ok.t (fun _=> ?_) (fun hn=>absurd (show(q:Int)<(c.length:Nat) by omega) hn)
  (repeat (refine Pu.Ok.g (by first|omega|assumption|(simp only[Mb,Nr,NL,Ml,NJ,NK,Oy]at*;omega)) ?_))
  refine Pu.Ok.iM (cS.is (by omega)) ?_
  (repeat (refine Pu.Ok.g (by first|omega|assumption|(simp only[Mb,Nr,NL,Ml,NJ,NK,Oy]at*;omega)) ?_))
  refine Pu.Ok.iM (cS.is (by omega)) ?_
  have next: ∀row':LI,row'.length≤q→Pu.Ok (bc.J2 k k1 j a r q c row' x6 y x7 rows) Q:=fun row' hr'=>by
   rw[bc.kC]
   simp only[g7,gF,eC,eQ,eU,cM,dg,dB,fM,ep,dI,dj,di,eV,cn,dA,dS,eZ,gA,gO,eR,eT,dw,dx,dh,cQ,N1,Mp]
   rw[hw2]
   exact bc.vB hk hc hr9 hrows key m j (q+1) row' (by omega) (by omega) (by omega) (by omega)
  refine Pu.Ok.t (fun _=> ?_) (fun _=>next row (by omega))
  refine Pu.Ok.g (by rw[Mb];simp;omega) (next _ (by rw[Mb];simp;omega))
theorem bc.ok{k:Nat}{c:LJ}(hk:4194304+3≤k)(hc:Pu.Ch c):Pu.Ok (bc k c) fun t=>Pu.gE 9 9 9 t:=by
 obtain⟨k,rfl⟩: ∃k',k=k'+1:=⟨k-1,by omega⟩
 obtain⟨c1,c2,c3⟩:=hc
 have h0:(c.getD 0 []).length≤9:=by rw[Pu.an c1 []];exact(c3 _ (Ns c1)).1
 have hlast:(c.getD (c.length-1) []).length≤9:=by rw[Pu.an (show c.length-1<c.length by omega) []];exact(c3 _ (Ns _)).1
 rw[bc.eq]
 have hz:IntKind.i64.wrap ((c.length:Int)-1)=((c.length-1:Nat):Int):=by rw[w64 (by omega) (by omega)];omega
 have z0:(0:Int).toNat=0:=rfl
 simp only[g7,gF,eC,eQ,eU,cM,dg,dB,fM,ep,dI,dj,di,eV,cn,dA,dS,eZ,gA,gO,eR,eT,dw,dx,dh,cQ,N1,Mp]
 simp only[hz,O4,z0,N1]
 (repeat (refine Pu.Ok.g (by first|omega|assumption|(simp only[Mb,Nr,NL,Ml,NJ,NK,Oy]at*;omega)) ?_))
 have loop: ∀(m j r:Nat) (rows:LJ),r+m=(c.getD (c.length-1) []).length→m<j→rows.length=r→(∀x∈rows,x.length≤9)→
   Pu.Ok (bc.L0 k j (c.length-1) r c [] [] (c.getD 0 []) rows) fun t=>Pu.gE 9 9 9 t:=by
  intro m
  induction m with
  |zero=>
   intro j r rows hr hj hl hg
   obtain⟨j,rfl⟩: ∃j',j=j'+1:=⟨j-1,by omega⟩
   rw[bc.aT]
   simp only[g7,gF,eC,eQ,eU,cM,dg,dB,fM,ep,dI,dj,di,eV,cn,dA,dS,eZ,gA,gO,eR,eT,dw,dx,dh,cQ,N1,Mp]
   (repeat (refine Pu.Ok.g (by first|omega|assumption|(simp only[Mb,Nr,NL,Ml,NJ,NK,Oy]at*;omega)) ?_))
   exact Pu.Ok.no (by omega) (Pu.Ok.ret ⟨h0,by show rows.length≤9;omega,hg⟩)
  |succ m ih=>
   intro j r rows hr hj hl hg
   obtain⟨j,rfl⟩: ∃j',j=j'+1:=⟨j-1,by omega⟩
   rw[bc.aT]
   simp only[g7,gF,eC,eQ,eU,cM,dg,dB,fM,ep,dI,dj,di,eV,cn,dA,dS,eZ,gA,gO,eR,eT,dw,dx,dh,cQ,N1,Mp]
   (repeat (refine Pu.Ok.g (by first|omega|assumption|(simp only[Mb,Nr,NL,Ml,NJ,NK,Oy]at*;omega)) ?_))
   refine bc.vB (by omega) c2 (by omega) (by omega) (fun row hrow=> ?_) (max c.length 1-1) k 1 [] (by omega) (by omega) (by omega) (by simp)
   exact ih j (r+1) (rows++ [row]) (by omega) (by omega) (by rw[Mb,Ox];omega) (fun x hx=>by
    rcases Md.1 hx with h|h
    ·exact hg x h
    ·simp only[Nt]at h;subst h;exact hrow)
 exact loop (c.getD (c.length-1) []).length k 0 [] (by omega) (by omega) rfl (fun x hx=>by cases hx)
theorem dC.loop{k:Nat}{sep:ByteArray}{ws:List ByteArray}(hs:sep.size≤10)(hw: ∀w∈ws,w.size≤10000)(hn:ws.length≤10000): ∀(m j i:Nat) (acc:LI),i+m=ws.length→m<j→acc.length≤i*10010→ ∃r,dC.L0 k j sep i ws acc=some r
 |m,0,i,acc,_,hj,_=>by omega
 |0,j+1,i,acc,hi,_,_=>by
  rw[dC.aT,Pu.Az]
  have hlt': ¬(i:Int)<D.ofN (D.len ws):=by show¬(i:Int)<(ws.length:Int);omega
  rw[if_neg hlt']
  exact⟨_,rfl⟩
 |m+1,j+1,i,acc,hi,hj,ha=>by
  rw[dC.aT,Pu.Az]
  have hlt':(i:Int)<D.ofN (D.len ws):=by show(i:Int)<(ws.length:Int);omega
  rw[if_pos hlt',Pu.Az]
  have li: ∀s:ByteArray,(D.ints s).length=s.size:=fun s=>by
   show(s.data.toList.map _).length=_
   rw[N2];rfl
  have key: ∀acc':LI,acc'.length≤i*10010+10→ ∃r,dC.J1 k j sep i ws acc'=some r:=by
   intro acc' ha'
   rw[dC.eM]
   have hi':i<ws.length:=by omega
   have t1:D.le 0 (i:Int)=true:=decide_eq_true (by omega)
   have t2:D.ltN (D.nat (i:Int)) (D.len ws)=true:=decide_eq_true (by show(i:Int).toNat<ws.length;omega)
   have hx:(D.rd ws (D.nat (i:Int)) (⟨#[]⟩:ByteArray)).size≤10000:=by
    show(ws.getD (i:Int).toNat _).size≤_
    rw[O4,Pu.an hi' _]
    exact hw _ (Ns hi')
   have hlen:(D.app acc' (D.ints (D.rd ws (D.nat (i:Int)) (⟨#[]⟩:ByteArray)))).length≤(i+1)*10010:=by
    show(acc'++_).length≤_
    rw[Mb,li];omega
   have t3:D.leN (D.len (D.app acc' (D.ints (D.rd ws (D.nat (i:Int)) (⟨#[]⟩:ByteArray))))) 1099511627776=true:=decide_eq_true (by
    show(D.app acc' (D.ints (D.rd ws (D.nat (i:Int)) (⟨#[]⟩:ByteArray)))).length≤_
    omega)
   rw[al,if_pos t1,al,if_pos t2,al,if_pos t2,al,if_pos t3]
   have ew:D.wrap .i64 (D.add (i:Int) 1)=((i+1:Nat):Int):=by
    show IntKind.i64.wrap ((i:Int)+1)=_
    rw[w64 (by omega) (by omega)];omega
   rw[ew]
   exact dC.loop hs hw hn m j (i+1) _ (by omega) (by omega) hlen
  split
  ·have hl:(D.app acc (D.ints sep)).length≤i*10010+10:=by
    show(acc++_).length≤_
    rw[Mb,li];omega
   have t3:D.leN (D.len (D.app acc (D.ints sep))) 1099511627776=true:=decide_eq_true (by
    show(D.app acc (D.ints sep)).length≤_
    omega)
   rw[al,if_pos t3]
   exact key _ hl
  ·exact key acc (Nat.le_add_right_of_le ha)
theorem dC.is{k:Nat}{sep:ByteArray}{ws:List ByteArray}(hk:100000≤k)(hs:sep.size≤10)(hw: ∀w∈ws,w.size≤10000)(hn:ws.length≤10000): ∃r,dC k ws sep=some r:=by
 obtain⟨k,rfl⟩: ∃k',k=k'+1:=⟨k-1,by omega⟩
 rw[dC.eq]
 have h:=dC.loop (k:=k) (sep:=sep) hs hw hn ws.length k 0 [] (by omega) (by omega) (by simp)
 rw[Ph]at h
 exact h
theorem bQ.loop{k:Nat}: ∀(m j:Nat) (n:Int) (b:Bool) (s:ByteArray),n.natAbs<10^m→ -9223372036854775808≤n→n≤9223372036854775807→m<j→s.size+m≤1000→ ∃r,bQ.L0 k j n b s=some r∧r.size≤s.size+m+1
 |m,0,n,b,s,_,_,_,hj,_=>by omega
 |0,j+1,n,b,s,hn,_,_,_,hs=>by
  rw[bQ.aT]
  have e:n=0:=by
   have:n.natAbs<1:=by simpa using hn
   omega
  subst e
  have hl:D.leN (D.addN (D.lenS (⟨#[45]⟩:ByteArray)) (D.lenS s)) 1099511627776=true:=decide_eq_true (by show 1+s.size≤_;omega)
  have t0: ¬D.no (D.eq (0:Int) 0)=true:=by decide
  rw[al,if_neg t0]
  cases b with
  |false=>exact⟨s,rfl,by omega⟩
  |true=>
   refine⟨(⟨#[45]⟩:ByteArray)++s,?_,?_⟩
   ·rw[al,if_pos rfl,al,if_pos hl];rfl
   ·rw[ByteArray.size_append];show 1+s.size≤_;omega
 |m+1,j+1,n,b,s,hn,h1,h2,hj,hs=>by
  rw[bQ.aT]
  have t10:D.no (D.eq (10:Int) 0)=true:=by decide
  have key: ∀x,∃r,bQ.J1 k j n b s x=some r∧r.size≤s.size+(m+1)+1:=by
   intro x
   rw[bQ.eM]
   have hl:D.leN (D.addN (D.lenS (D.ofInts ((D.wrap .u8 (D.wrap .i64 (D.add 48 x)))::([]:LI)))) (D.lenS s)) 1099511627776=true:=decide_eq_true (by show 1+s.size≤_;omega)
   rw[al,if_pos hl,al,if_pos t10]
   have ha:(n.tdiv 10).natAbs=n.natAbs/10:=by rw[Int.natAbs_tdiv];rfl
   have ew:D.wrap .i64 (D.quo n 10)=n.tdiv 10:=by
    show IntKind.i64.wrap (n.tdiv 10)=_
    exact w64 (by omega) (by omega)
   rw[ew]
   have hsz:(D.catS (D.ofInts ((D.wrap .u8 (D.wrap .i64 (D.add 48 x)))::([]:LI))) s).size=1+s.size:=by
    show(_++s).size=_
    rw[ByteArray.size_append];rfl
   obtain⟨r,e,hr⟩:=bQ.loop (k:=k) m j (n.tdiv 10) b (D.catS (D.ofInts ((D.wrap .u8 (D.wrap .i64 (D.add 48 x)))::([]:LI))) s) (by rw[ha];rw[Nat.pow_succ]at hn;omega) (by omega) (by omega) (by omega) (by omega)
   exact⟨r,e,by omega⟩
  by_cases h0:n=0
  ·subst h0
   have t0: ¬D.no (D.eq (0:Int) 0)=true:=by decide
   have hl:D.leN (D.addN (D.lenS (⟨#[45]⟩:ByteArray)) (D.lenS s)) 1099511627776=true:=decide_eq_true (by show 1+s.size≤_;omega)
   rw[al,if_neg t0]
   cases b with
   |false=>exact⟨s,rfl,by omega⟩
   |true=>
    refine⟨(⟨#[45]⟩:ByteArray)++s,?_,?_⟩
    ·rw[al,if_pos rfl,al,if_pos hl];rfl
    ·rw[ByteArray.size_append];show 1+s.size≤_;omega
  ·have t0:D.no (D.eq n 0)=true:=by
    show(!decide (n=0))=true
    simp[h0]
   rw[al,if_pos t0,al,if_pos t10,al]
   split
   ·exact key _
   ·exact key _
theorem bQ.is{k:Nat}{n:Int}(hk:1000≤k)(h1: -9223372036854775808≤n)(h2:n≤9223372036854775807): ∃r,bQ k n=some r∧r.size≤30:=by
 obtain⟨k,rfl⟩: ∃k',k=k'+1:=⟨k-1,by omega⟩
 rw[bQ.eq,al]
 split
 ·exact⟨_,rfl,by decide⟩
 ·obtain⟨r,e,hr⟩:=bQ.loop (k:=k) 20 k n (D.lt n 0) (⟨#[]⟩:ByteArray) (by omega) h1 h2 (by omega) (by show 0+20≤1000;omega)
  refine⟨r,e,?_⟩
  have:r.size≤0+20+1:=hr
  omega
theorem Bj{t:Pu.Tab}(h:Pu.eH t=true){i q:Nat}(hi:i<t.2.length)(hq:q<(t.2.getD i []).length):1≤(t.2.getD i []).getD q 0∧(t.2.getD i []).getD q 0≤9:=by
 simp only[Pu.eH,Nc]at h
 have h1:=Pu.dM.1 h.2 i hi
 have h2:=Pu.dM.1 h1 q hq
 simp only[Pu.gL,Pu.within,Nc,decide_eq_true_eq]at h2
 exact h2.1
theorem aH.Ic{k k1:Nat}{i:Nat}{ws:List ByteArray}{t:Pu.Tab}{Q:ByteArray→Prop}(hk:1000≤k)(ht:Pu.eH t=true)(hr:Pu.dG 9 10 t.2)(hi:i<t.2.length)(hw:ws.length≤9)
  (key: ∀s:ByteArray,s.size≤10000→Pu.Ok (aH.L0 k k1 ((i:Int)+1) (ws++ [s]) t.1 t.2) Q):
  ∀(m j q:Nat) (s:ByteArray),q+m=(t.2.getD i []).length→m<j→s.size≤10+q*30→Pu.Ok (aH.L2 k k1 j i s q ws t.1 t.2) Q
 |m,0,q,s,_,hj,_=>by omega
 |0,j+1,q,s,hq,_,hs=>by
  rw[aH.wU]
  simp only[g7,gF,eC,eQ,eU,cM,dg,dB,fM,ep,dI,dj,di,eV,cn,dA,dS,eZ,gA,gO,eR,eT,dw,dx,dh,cQ,N1,Mp]
  (try simp only[O4]);(try simp (disch:=omega) only[w64])
  have:=hr.at i
  have:=hr.1
  (repeat (refine Pu.Ok.g (by first|omega|assumption|(simp only[Mb,Nr,NL,Ml,NJ,NK,Oy]at*;omega)) ?_))
  refine Pu.Ok.no (by omega) ?_
  (repeat (refine Pu.Ok.g (by first|omega|assumption|(simp only[Mb,Nr,NL,Ml,NJ,NK,Oy]at*;omega)) ?_))
  (try simp only[O4]);(try simp (disch:=omega) only[w64])
  exact key s (by omega)
 |m+1,j+1,q,s,hq,hj,hs=>by
  rw[aH.wU]
  simp only[g7,gF,eC,eQ,eU,cM,dg,dB,fM,ep,dI,dj,di,eV,cn,dA,dS,eZ,gA,gO,eR,eT,dw,dx,dh,cQ,N1,Mp]
  (try simp only[O4]);(try simp (disch:=omega) only[w64])
  have:=hr.at i
  have:=hr.1
  have he:=Bj ht hi (show q<_ by omega)
  (repeat (refine Pu.Ok.g (by first|omega|assumption|(simp only[Mb,Nr,NL,Ml,NJ,NK,Oy]at*;omega)) ?_))
  obtain⟨r,e,h1⟩:=bQ.is (k:=k) (n:=(t.2.getD i []).getD q 0) (by omega) (by omega) (by omega)
  refine Pu.Ok.iM e ?_
  (repeat (refine Pu.Ok.g (by first|omega|assumption|(simp only[Mb,Nr,NL,Ml,NJ,NK,Oy]at*;omega)) ?_))
  (try simp only[O4]);(try simp (disch:=omega) only[w64])
  exact aH.Ic hk ht hr hi hw key m j (q+1) _ (by omega) (by omega) (by rw[ByteArray.size_append];omega)
theorem aH.vB{k k1:Nat}{i:Nat}{ws:List ByteArray}{t:Pu.Tab}{Q:ByteArray→Prop}(hk:1000≤k)(ht:Pu.eH t=true)(hr:Pu.dG 9 10 t.2)(hi:i<t.2.length)(hw:ws.length≤9)
  (key: ∀s:ByteArray,s.size≤10000→Pu.Ok (aH.L0 k k1 ((i:Int)+1) (ws++ [s]) t.1 t.2) Q):
  ∀(m j q:Nat) (s:ByteArray),10≤q+m→m<j→s.size≤q→q≤9→Pu.Ok (aH.L1 k k1 j i s q ws t.1 t.2) Q
 |m,0,q,s,_,hj,_,_=>by omega
 |m,j+1,q,s,hq,hj,hs,h9=>by
  rw[aH.dX]
  simp only[g7,gF,eC,eQ,eU,cM,dg,dB,fM,ep,dI,dj,di,eV,cn,dA,dS,eZ,gA,gO,eR,eT,dw,dx,dh,cQ,N1,Mp]
  refine Pu.Ok.iM (cS.is (by omega)) ?_
  have hi1:Pu.bK t.1=true:=by
   have:=Pu.lb ht
   simp only[Pu.dU,Nc]at this
   exact this.1
  have hb:=Pu.dR hi1 i
  have hx:=hr.at i
  refine Pu.Ok.t (fun hlt=> ?_) (fun _=> ?_)
  ·have hz:s.size+(⟨#[46]⟩:ByteArray).size≤1099511627776:=by
    show s.size+1≤_
    omega
   (repeat (refine Pu.Ok.g (by first|omega|assumption|(simp only[Mb,Nr,NL,Ml,NJ,NK,Oy]at*;omega)) ?_))
   (try simp only[O4]);(try simp (disch:=omega) only[w64])
   exact aH.vB hk ht hr hi hw key (m-1) j (q+1) _ (by omega) (by omega) (by rw[ByteArray.size_append];show s.size+1≤_;omega) (by omega)
  ·exact aH.Ic hk ht hr hi hw key (t.2.getD i []).length k 0 s (by omega) (by omega) (by omega)
theorem aH.vQ{k:Nat}{t:Pu.Tab}(hk:100000≤k)(ht:Pu.eH t=true)(hr:Pu.dG 9 10 t.2):
  ∀(m j i:Nat) (ws:List ByteArray),i+m=t.2.length→m<j→ws.length=i→(∀w∈ws,w.size≤10000)→Pu.Ok (aH.L0 k j i ws t.1 t.2) fun _=>True
 |m,0,i,ws,_,hj,_,_=>by omega
 |0,j+1,i,ws,hi,_,hl,hw=>by
  rw[aH.aT]
  simp only[g7,gF,eC,eQ,eU,cM,dg,dB,fM,ep,dI,dj,di,eV,cn,dA,dS,eZ,gA,gO,eR,eT,dw,dx,dh,cQ,N1,Mp]
  have:=hr.1
  refine Pu.Ok.no (by omega) ?_
  obtain⟨r,e⟩:=dC.is (k:=k) (sep:=(⟨#[47]⟩:ByteArray)) (ws:=ws) hk (by decide) hw (by omega)
  exact Pu.Ok.iM e (Pu.Ok.ret trivial)
 |m+1,j+1,i,ws,hi,hj,hl,hw=>by
  rw[aH.aT]
  simp only[g7,gF,eC,eQ,eU,cM,dg,dB,fM,ep,dI,dj,di,eV,cn,dA,dS,eZ,gA,gO,eR,eT,dw,dx,dh,cQ,N1,Mp]
  have:=hr.1
  (repeat (refine Pu.Ok.g (by first|omega|assumption|(simp only[Mb,Nr,NL,Ml,NJ,NK,Oy]at*;omega)) ?_))
  refine aH.vB (by omega) ht hr (by omega) (by omega) (fun s hs=> ?_) 10 k 0 _ (by omega) (by omega) (by show 0≤0;omega) (by omega)
  exact aH.vQ hk ht hr m j (i+1) _ (by omega) (by omega) (by rw[Mb,Ox];omega) (fun w hw'=>by
   rcases Md.1 hw' with h|h
   ·exact hw w h
   ·simp only[Nt]at h;subst h;exact hs)
theorem aH.ok{k:Nat}{t:Pu.Tab}(hk:4194304+6≤k)(ht:gE 10 9 10 t):Pu.Ok (aH k t) fun _=>True:=by
 obtain⟨k,rfl⟩: ∃k',k=k'+1:=⟨k-1,by omega⟩
 obtain⟨c1,c2,c3⟩:=ht.tab (by omega) (by omega) (by omega)
 rw[aH.eq]
 refine Pu.Ok.iM (aC.is (by omega) c1 c2 c3) ?_
 simp only[g7,gF,eC,eQ,eU,cM,dg,dB,fM,ep,dI,dj,di,eV,cn,dA,dS,eZ,gA,gO,eR,eT,dw,dx,dh,cQ,N1,Mp]
 refine Pu.Ok.tn (fun _=>Pu.Ok.ret trivial) (fun hb=>Pu.Ok.t (fun _=>Pu.Ok.ret trivial) (fun _=> ?_))
 exact aH.vQ (t:=t) (by omega) hb ht.2 t.2.length k 0 [] (by omega) (by have:=ht.2.1;omega) rfl (fun w hw=>by cases hw)
theorem aq.H6{k k1 a:Nat}{r n3:Int}{x2:Int}{x4:Bool}{x5:Int}{x6 x7:Nat}{out:List Pu.Tab}{all:List LJ}{t:Pu.Tab}{Q:List Pu.Tab→Prop}(ha:a≤out.length)(hl:out.length≤400000)(hr:0≤r)(hr':r≤400000)(hout: ∀x∈out,Pu.gE 9 9 9 x)(ht:Pu.gE 9 9 9 t)
  (key: ∀out':List Pu.Tab,out'.length=out.length+1→(∀x∈out',Pu.gE 9 9 9 x)→Pu.Ok (aq.L0 k k1 (r+1) out' all) Q):
  Pu.Ok (aq.J3 k k1 a r x2 n3 x4 x5 x6 x7 out all t.1 t.2) Q:=by
 rw[aq.lA]
 have hw:IntKind.i64.wrap (r+1)=r+1:=w64 (by omega) (by omega)
 simp only[g7,gF,eC,eQ,eU,cM,dg,dB,fM,ep,dI,dj,di,eV,cn,dA,dS,eZ,gA,gO,eR,eT,dw,dx,dh,cQ,N1,Mp]
 simp only[O4,hw]
 have l1:(M8 (out.length-a) (List.drop a out)).length≤1099511627776:=by rw[NJ];omega
 have l2:a≤(M8 a out).length:=by rw[NJ];omega
 have l3:(M8 a (M8 a out)).length≤a:=by rw[NJ];omega
 have l4:(M8 (out.length-a) (List.drop a out)).length≤out.length:=by rw[NJ,NK];omega
 refine Pu.Ok.g (by omega) (Pu.Ok.g (by omega) (Pu.Ok.g l1 (Pu.Ok.g (by omega) (Pu.Ok.g l2 (Pu.Ok.g ?_ (Pu.Ok.g ?_ ?_))))))
 ·rw[Mb];simp only[Nr,NL];omega
 ·rw[Mb,Mb];simp only[Nr,NL];omega
 refine key _ ?_ ?_
 ·simp only[Mb,NJ,NK,Nr,NL]
  omega
 ·intro x hx
  rcases Md.1 hx with h|h
  ·rcases Md.1 h with h|h
   ·exact hout x (Pe (Pe h))
   ·simp only[Nt]at h;subst h;exact ht
  ·exact hout x (List.mem_of_mem_drop (Pe h))
theorem aq.vB{k k1:Nat}{r n3:Int}{x2:Int}{x4:Bool}{x5:Int}{x6 x7:Nat}{out:List Pu.Tab}{all:List LJ}{t:Pu.Tab}{Q:List Pu.Tab→Prop}(hk:4194304+10≤k)(hl:out.length≤400000)(hr:0≤r)(hr':r≤400000)(hout: ∀x∈out,Pu.gE 9 9 9 x)(ht:Pu.gE 9 9 9 t)
  (key: ∀out':List Pu.Tab,out'.length=out.length+1→(∀x∈out',Pu.gE 9 9 9 x)→Pu.Ok (aq.L0 k k1 (r+1) out' all) Q):
  ∀(a j:Nat),a<j→a≤out.length→Pu.Ok (aq.L1 k k1 j a r x2 n3 x4 x5 x6 x7 out all t.1 t.2) Q
 |a,0,hj,_=>by omega
 |0,j+1,_,ha=>by
  rw[aq.dX]
  simp only[g7,gF,eC,eQ,eU,cM,dg,dB,fM,ep,dI,dj,di,eV,cn,dA,dS,eZ,gA,gO,eR,eT,dw,dx,dh,cQ,N1,Mp]
  exact Pu.Ok.no (by omega) (aq.H6 (a:=0) ha hl hr hr' hout ht key)
 |a+1,j+1,hj,ha=>by
  rw[aq.dX]
  have hw:IntKind.i64.wrap (((a+1:Nat):Int)-1)=(a:Int):=by rw[w64 (by omega) (by omega)];omega
  simp only[g7,gF,eC,eQ,eU,cM,dg,dB,fM,ep,dI,dj,di,eV,cn,dA,dS,eZ,gA,gO,eR,eT,dw,dx,dh,cQ,N1,Mp]
  simp only[hw,O4]
  (repeat (refine Pu.Ok.g (by first|omega|assumption|(simp only[Mb,Nr,NL,Ml,NJ,NK,Oy]at*;omega)) ?_))
  have hx:Pu.gE 9 9 9 (out.getD a ([],[])):=by rw[Pu.an (show a<out.length by omega)];exact hout _ (Ns _)
  have up: ∀{t:Pu.Tab},Pu.gE 9 9 9 t→Pu.gE 10 9 10 t:=fun h=>⟨by have:=h.1;omega,h.2.1,fun r hr=>by have:=h.2.2 r hr;omega⟩
  refine Pu.Ok.bnd (aH.ok (by omega) (up hx)) fun r3 _=>Pu.Ok.bnd (aH.ok (by omega) (up ht)) fun r4 _=> ?_
  refine Pu.Ok.tn (fun _=> ?_) (fun _=>aq.H6 ha hl hr hr' hout ht key)
  rw[aq.kC]
  simp only[g7,gF,eC,eQ,eU,cM,dg,dB,fM,ep,dI,dj,di,eV,cn,dA,dS,eZ,gA,gO,eR,eT,dw,dx,dh,cQ,N1,Mp]
  rw[hw]
  exact aq.vB hk hl hr hr' hout ht key a j (by omega) (by omega)
theorem aq.ok{k:Nat}{s:LI×LI}(hk:4194304+40≤k)(hs:Pu.cN s.2 s.1=true):Pu.Ok (aq k s) fun L=>1≤L.length∧L.length≤362880∧ ∀t∈L,Pu.gE 9 9 9 t:=by
 obtain⟨k,rfl⟩: ∃k',k=k'+2:=⟨k-2,by omega⟩
 obtain⟨hp,ho⟩:=Pu.na hs
 have h1:=(Pu.gr hp).1
 have h2:=(Pu.gr ho).1
 rw[aq.eq]
 refine Pu.Ok.iM (hZ.is (s:=s) (by omega) (by omega) (by omega)) ?_
 rw[hs]
 refine Pu.Ok.tn (fun h=>by cases h) (fun _=> ?_)
 simp only[g7,gF,eC,eQ,eU,cM,dg,dB,fM,ep,dI,dj,di,eV,cn,dA,dS,eZ,gA,gO,eR,eT,dw,dx,dh,cQ,N1,Mp]
 refine Pu.Ok.g (by omega) ?_
 have hle:=(Pu.su (Pu.rn hs)).1
 have hso:=(Pu.ba ho).2.1
 have hsp:=(Pu.ba hp).2.2.2
 obtain⟨d,hd⟩: ∃d:Nat,Pu.dD s.1=Pu.dD s.2+d:=⟨(Pu.dD s.1-Pu.dD s.2).toNat,by omega⟩
 refine Pu.Ok.bnd (b8.ok ho d (k+1) [s.2] (by omega) ⟨by simp,by simp,fun x hx=>by simp only[Nt]at hx;subst hx;exact Pu.gr hp⟩ hs (by show(1:Int)≤Pu.dD s.2+1;omega) hd) fun L hL=> ?_
 obtain⟨l1,l2,l3⟩:=hL
 have hd9:d≤9:=by
  have:=(Pu.ba hp).2.2.2
  omega
 have hf:=Pu.FV hd9
 have loop: ∀(m j r:Nat) (out:List Pu.Tab),r+m=L.length→m<j→out.length=r→(∀x∈out,Pu.gE 9 9 9 x)→Pu.Ok (aq.L0 k j r out L) fun L=>1≤L.length∧L.length≤362880∧ ∀t∈L,Pu.gE 9 9 9 t:=by
  intro m
  induction m with
  |zero=>
   intro j r out hr hj hl hg
   obtain⟨j,rfl⟩: ∃j',j=j'+1:=⟨j-1,by omega⟩
   rw[aq.aT]
   simp only[g7,gF,eC,eQ,eU,cM,dg,dB,fM,ep,dI,dj,di,eV,cn,dA,dS,eZ,gA,gO,eR,eT,dw,dx,dh,cQ,N1,Mp]
   exact Pu.Ok.no (by omega) (Pu.Ok.ret ⟨by omega,by omega,hg⟩)
  |succ m ih=>
   intro j r out hr hj hl hg
   obtain⟨j,rfl⟩: ∃j',j=j'+1:=⟨j-1,by omega⟩
   rw[aq.aT]
   simp only[g7,gF,eC,eQ,eU,cM,dg,dB,fM,ep,dI,dj,di,eV,cn,dA,dS,eZ,gA,gO,eR,eT,dw,dx,dh,cQ,N1,Mp]
   simp only[O4]
   refine Pu.Ok.g (by omega) (Pu.Ok.g (by omega) (Pu.Ok.g (by omega) (Pu.Ok.g (by omega) (Pu.Ok.g (by omega) ?_))))
   have hc:Pu.Ch (L.getD r []):=by rw[Pu.an (show r<L.length by omega)];exact l3 _ (Ns _)
   refine Pu.Ok.bnd (bc.ok (by omega) hc) fun t ht=> ?_
   refine aq.vB (t:=t) (by omega) (by omega) (by omega) (by omega) hg ht (fun out' h1 h2=> ?_) out.length k (by omega) (by omega)
   exact ih j (r+1) out' (by omega) (by omega) (by omega) h2
 exact loop L.length (k+1) 0 [] (by omega) (by omega) rfl (fun x hx=>by cases hx)
theorem ez.pick{k:Nat}{s:LI×LI}{i h:Int}{b:LI}(hk:4194304+60≤k)(hb:b.length≤1048576)(hi:0≤i)(hi':i≤b.length)(hs:Pu.cN s.2 s.1=true):
  Pu.Ok (D.bnd (aq k s) fun r1=>D.bnd (aD k (r1.length:Nat) i h b) fun r2=>D.test (decide (0≤r2.1)) (D.test (decide (r2.1.toNat<r1.length)) (D.test (decide (r2.1.toNat<r1.length)) (D.test (decide (r2.1.toNat<r1.length)) (D.test (decide (r2.1.toNat<r1.length))
   (some (((r1.getD r2.1.toNat ([],[])).1,(r1.getD r2.1.toNat ([],[])).2),((),(r2.2.2.1,r2.2.2.2)))) none) none) none) none) none)
   fun r=>Pu.gE 9 9 9 r.1∧0≤r.2.2.1∧r.2.2.1≤b.length:=by
 refine Pu.Ok.bnd (aq.ok (by omega) hs) fun L hL=> ?_
 obtain⟨l1,l2,l3⟩:=hL
 obtain⟨r,i',h',e,a,c,d,d'⟩:=aD.isB (k:=k) (n:=(L.length:Nat)) (h:=h) (b:=b) (by omega) hb hi hi' (by omega)
 have c:=c (by omega)
 refine Pu.Ok.iM e ?_
 dsimp only
 have hr:r.toNat<L.length:=by omega
 refine Pu.Ok.g a (Pu.Ok.g hr (Pu.Ok.g hr (Pu.Ok.g hr (Pu.Ok.g hr (Pu.Ok.ret ⟨?_,d,d'⟩)))))
 have:=l3 _ (Ns hr)
 rw[←Pu.an hr ([],[])]at this
 exact this
theorem ez.ok{k:Nat}{i h:Int}{b:LI}(hk:4194304+70≤k)(hb:b.length≤1048576)(hi:0≤i)(hi':i≤b.length):
  Pu.Ok (ez k i h b) fun r=>Pu.gE 9 9 9 r.1∧0≤r.2.2.1∧r.2.2.1≤b.length:=by
 obtain⟨k,rfl⟩: ∃k',k=k'+1:=⟨k-1,by omega⟩
 rw[ez.eq]
 refine Pu.Ok.bnd (fQ.ok (by omega) hb hi hi') ?_
 rintro⟨⟨o,q⟩,_,i',h'⟩ ⟨c1,c2,c3⟩
 exact ez.pick (s:=(o,q)) (by omega) hb c2 c3 c1
theorem gz.ok{k:Nat}{i h:Int}{b:LI}(hk:4194304+80≤k)(hb:b.length≤1048576)(hi:0≤i)(hi':i≤b.length):
  Pu.Ok (gz k i h b) fun r=>Pu.gE 10 9 10 r.1∧0≤r.2.2.1∧r.2.2.1≤b.length:=by
 obtain⟨k,rfl⟩: ∃k',k=k'+1:=⟨k-1,by omega⟩
 rw[gz.eq]
 obtain⟨r,i1,h1,e1,a1,a2⟩:=bP.is (k:=k) (n:=10) (h:=h) (b:=b) (by omega) hb hi hi' (by omega)
 refine Pu.Ok.iM e1 (Pu.Ok.tb (fun _=> ?_) (fun _=> ?_))
 ·refine Pu.Ok.bnd (eN.ok (by omega) hb a1 a2 (by omega) (by omega)) ?_
  rintro⟨⟨o,q⟩,_,i',h'⟩ ⟨c1,c2,c3⟩
  exact Pu.Ok.ret ⟨c1,c2,c3⟩
 ·refine Pu.Ok.bnd (ez.ok (by omega) hb a1 a2) ?_
  rintro⟨⟨o,q⟩,_,i',h'⟩ ⟨c1,c2,c3⟩
  exact Pu.Ok.ret ⟨⟨by have:=c1.1;dsimp only at*;omega,c1.2.1,fun r hr=>by have:=c1.2.2 r hr;omega⟩,c2,c3⟩
theorem fD.ok{k:Nat}{i h:Int}{b:LI}(hk:4194304+90≤k)(hb:b.length≤1048576)(hi:0≤i)(hi':i≤b.length):
  Pu.Ok (fD k i h b) fun r=>Pu.gE 10 9 10 r.1∧0≤r.2.2.1∧r.2.2.1≤b.length:=by
 obtain⟨k,rfl⟩: ∃k',k=k'+1:=⟨k-1,by omega⟩
 rw[fD.eq]
 obtain⟨r,i1,h1,e1,a1,a2⟩:=bP.is (k:=k) (n:=10) (h:=h) (b:=b) (by omega) hb hi hi' (by omega)
 refine Pu.Ok.iM e1 (Pu.Ok.tb (fun _=> ?_) (fun _=> ?_))
 ·refine Pu.Ok.bnd (gz.ok (by omega) hb a1 a2) ?_
  rintro⟨⟨o,q⟩,_,i',h'⟩ ⟨c1,c2,c3⟩
  exact Pu.Ok.ret ⟨c1,c2,c3⟩
 ·obtain⟨p,i2,h2,e2,⟨_,hp,_⟩,b4,b5⟩:=ch.isP (k:=k) (m:=7) (h:=h1) (b:=b) (by omega) hb a1 a2 (by omega) (by omega)
  refine Pu.Ok.iM e2 ?_
  dsimp only
  refine Pu.Ok.mono (ez.pick (k:=k) (s:=(p,[])) (i:=i2) (h:=h2) (b:=b) (by omega) hb b4 b5 (Pu.ng rfl hp fun t=>by show([]:LI).getD t 0≤_;exact(Pu.lu hp t).1)) fun r h=> ?_
  exact⟨⟨by have:=h.1.1;omega,h.1.2.1,fun r hr=>by have:=h.1.2.2 r hr;omega⟩,h.2⟩
theorem az.vQ{k:Nat}{b x3:LI}{x4:LJ}(hk:4194304+100≤k)(hb:b.length≤1048576): ∀(m j i:Nat) (h:Int),i+m=b.length→m<j→Pu.Ok (az.L0 k j h i b x3 x4) fun r=>Pu.gE 10 9 10 r:=by
 have fin: ∀h,Pu.Ok (az.J2 k h b x3 x4) fun r=>Pu.gE 10 9 10 r:=fun h=>by
  rw[az.kC]
  refine Pu.Ok.bnd (fD.ok (by omega) hb (by omega) (by omega)) ?_
  rintro⟨⟨o,q⟩,_,i',h'⟩ ⟨c1,c2,c3⟩
  exact Pu.Ok.ret c1
 intro m
 induction m with
 |zero=>
  intro j i h hi hj
  obtain⟨j,rfl⟩: ∃j',j=j'+1:=⟨j-1,by omega⟩
  rw[az.aT]
  simp only[g7,gF,eC,eQ,eU,cM,dg,dB,fM,ep,dI,dj,di,eV,cn,dA,dS,eZ,gA,gO,eR,eT,dw,dx,dh,cQ,N1,Mp]
  exact Pu.Ok.no (by omega) (fin h)
 |succ m ih=>
  intro j i h hi hj
  obtain⟨j,rfl⟩: ∃j',j=j'+1:=⟨j-1,by omega⟩
  have hw:IntKind.i64.wrap ((i:Int)+1)=((i+1:Nat):Int):=w64 (by omega) (by omega)
  rw[az.aT]
  simp only[g7,gF,eC,eQ,eU,cM,dg,dB,fM,ep,dI,dj,di,eV,cn,dA,dS,eZ,gA,gO,eR,eT,dw,dx,dh,cQ,N1,Mp]
  refine Pu.Ok.g (by omega) (Pu.Ok.t (fun _=> ?_) (fun _=>fin h))
  rw[az.eM]
  simp only[g7,gF,eC,eQ,eU,cM,dg,dB,fM,ep,dI,dj,di,eV,cn,dA,dS,eZ,gA,gO,eR,eT,dw,dx,dh,cQ,N1,Mp]
  rw[hw]
  refine Pu.Ok.g (by omega) (Pu.Ok.g (by omega) (Pu.Ok.g (by omega) ?_))
  exact ih j (i+1) _ (by omega) (by omega)
theorem az.ok{k:Nat}{b:LI}(hk:4194304+110≤k)(hb:b.length≤1048576):Pu.Ok (az k b) fun r=>Pu.gE 10 9 10 r:=by
 obtain⟨k,rfl⟩: ∃k',k=k'+2:=⟨k-2,by omega⟩
 rw[az.eq]
 exact az.vQ (by omega) hb b.length k 0 _ (by omega) (by omega)
theorem de.is{k:Nat}{x lo hi:Int}(hk:1≤k):de k x lo hi=some (Pu.within x lo hi):=by
 obtain⟨k,rfl⟩: ∃k',k=k'+1:=⟨k-1,by omega⟩
 rw[de.eq]
 by_cases h:lo≤x<;>simp[Pu.within,h]
theorem a7.loop{k:Nat}{p:LI}(hk:4194304≤k)(hp:p.length≤1048576): ∀(m j i:Nat) (s v:Int),i+m=p.length→m<j→(i=0→v=9)→(0<i→v=p.getD (i-1) 0)→v≤9→0≤s→s≤9→
  a7.L0 k j s p.length i p=some (Pu.g9 (p.drop i) v s)
 |m,0,i,s,v,_,hj,_,_,_,_,_=>by omega
 |0,j+1,i,s,v,hi,_,_,_,_,_,_=>by
  rw[a7.aT]
  have e:i=p.length:=by omega
  subst e
  simp[Pu.g9]
 |m+1,j+1,i,s,v,hi,hj,h0,h1,hv,hs,hs9=>by
  rw[a7.aT]
  have hlt:i<p.length:=by omega
  have hj1: ∀x:Int,x=p.getD i 0→1≤x→x≤v→a7.J1 k j s x p.length i p=some (decide (s+x≤9)&&Pu.g9 (p.drop (i+1)) x (s+x)):=by
   intro x hx hx1 hx2
   rw[a7.eM]
   simp (disch:=omega) only[↓al,sss,if_true,if_false]
   by_cases c:9<s+x
   ·have: ¬s+x≤9:=by omega
    simp[c,this]
   ·have c':s+x≤9:=by omega
    have ih:=a7.loop hk hp m j (i+1) (s+x) x (by omega) (by omega) (by omega) (by simp[hx]) (by omega) (by omega) c'
    rw[Pk]at ih
    simp[c,c',ih]
  rw[Pu.drop_cons hlt 0]
  simp (disch:=omega) only[↓al,sss,if_true,if_false,hlt,de.is,Pu.g9]
  generalize hx:p.getD i 0=x at*
  unfold Pu.within
  by_cases c1:1≤x
  ·by_cases c2:x≤v
   ·have c3:x≤9:=by omega
    have hj:=hj1 x rfl c1 c2
    by_cases hi0:i=0
    ·have hpos: ¬(0:Int)<i:=by omega
     simp (disch:=omega) only[↓al,sss,if_true,if_false,c1,c2,c3,hpos,hj]
    ·have hv':=h1 (by omega)
     have e:((i:Int)-1)=((i-1:Nat):Int):=by omega
     have hlt':i-1<p.length:=by omega
     have hge: ¬p.getD (i-1) 0<x:=by rw[←hv'];omega
     have hpos:(0:Int)<i:=by omega
     simp (disch:=omega) only[e,↓al,sss,if_true,if_false,hlt',c1,c2,c3,hj,hpos,hge]
   ·simp only[c1,c2,↓al,sss,if_true,if_false]
    by_cases c3:x≤9
    ·have hi0:0<i:=by
      rcases Pg i with h|h
      ·have:=h0 h;omega
      ·exact h
     have hv':=h1 hi0
     have e:((i:Int)-1)=((i-1:Nat):Int):=by omega
     have hlt':i-1<p.length:=by omega
     have hge:p.getD (i-1) 0<x:=by rw[←hv'];omega
     have hpos:(0:Int)<i:=by omega
     simp (disch:=omega) only[e,↓al,sss,if_true,if_false,hlt',c3,hpos,hge]
    ·simp only[c3,↓al,sss,if_true,if_false]
  ·simp only[c1,↓al,sss,if_true,if_false]
theorem a7.is{k:Nat}{p:LI}(hk:4194304+1≤k)(hp:p.length≤1048576):a7 k p=some (Pu.bK p):=by
 obtain⟨k,rfl⟩: ∃k',k=k'+1:=⟨k-1,by omega⟩
 rw[a7.eq]
 exact a7.loop (k:=k) (by omega) hp p.length k 0 0 9 (by omega) (by omega) (fun _=>rfl) (by omega) (by omega) (by omega) (by omega)
theorem bH.is{k:Nat}{a:LI}(hk:1≤k)(ha:a.length≤1099511627776):bH k a=some a:=by
 obtain⟨k,rfl⟩: ∃k',k=k'+1:=⟨k-1,by omega⟩
 rw[bH.eq]
 by_cases h:a.length=0
 ·have:a= []:=N3 h
  subst this
  simp[Ih,E3]
 ·simp[h,ha]
theorem fL.is{k:Nat}{p:LI}{i:Int}(hk:2≤k)(hp:p.length≤1048576):fL k p i=some (Pu.atI p i):=by
 obtain⟨k,rfl⟩: ∃k',k=k'+1:=⟨k-1,by omega⟩
 rw[fL.eq,de.is (by omega)]
 unfold Pu.within
 by_cases h1:0≤i
 ·have h0: ¬i<0:=by omega
  by_cases h2:i≤(p.length:Int)-1
  ·have h4:i.toNat<p.length:=by omega
   simp (disch:=omega) only[↓al,sss,if_true,if_false,h0,h1,h2,h4,Pu.atI]
  ·simp (disch:=omega) only[↓al,sss,if_true,if_false,h1,h2,Pu.Ds (p:=p) (i:=i) (by omega)]
 ·simp (disch:=omega) only[↓al,sss,if_true,if_false,h1,Pu.od (p:=p) (i:=i) (by omega)]
theorem ck.loop{k:Nat}{q p:LI}(hq:q.length≤1048576)(hp:p.length≤1048576)(hk:4194304+2≤k):ck.L1 k k q.length 0 p q=some ((Ln 0 q.length).all fun i=>decide (q.getD i 0≤p.getD i 0)):=by
 have h:=Pu.mQ (fun j i=>ck.L1 k j q.length (i:Int) p q) q.length (fun i=>decide (q.getD i 0≤p.getD i 0)) (some false) (some true)
  (fun j i hi=>by
   rw[ck.dX,fL.is (by omega) hp,Pu.cG]
   simp (disch:=omega) only[↓al,sss,if_true,if_false,hi,Pl,Pm]
   by_cases c:q.getD i 0≤p.getD i 0
   ·have c': ¬p.getD i 0<q.getD i 0:=by omega
    simp only[c,c',↓al,sss,if_true,if_false]
   ·have c':p.getD i 0<q.getD i 0:=by omega
    simp only[c,c',↓al,sss,if_true,if_false])
  (fun j=>by
   rw[ck.dX]
   simp only[↓al,sss,if_true,if_false,Pf]) q.length k 0 (by omega) (by omega)
 simp only[Ph]at h
 rw[h]
 cases(Ln 0 q.length).all fun i=>decide (q.getD i 0≤p.getD i 0)<;>simp
theorem ck.is{k:Nat}{q p:LI}(hk:4194304+3≤k)(hq:q.length≤1048576)(hp:p.length≤1048576):ck k q p=some (Pu.cN q p):=by
 obtain⟨k,rfl⟩: ∃k',k=k'+1:=⟨k-1,by omega⟩
 rw[ck.eq,a7.is (by omega) hq,bX,ck.iy,Pu.oc]
 cases c1:Pu.bK q with
 |false=>simp only[↓al,sss,if_true,if_false]
 |true=>
  simp only[↓al,sss,if_true,if_false]
  rw[a7.is (by omega) hp,bX]
  cases c2:Pu.bK p with
  |false=>simp only[↓al,sss,if_true,if_false]
  |true=>
   simp only[↓al,sss,if_true,if_false]
   exact ck.loop hq hp (by omega)
theorem jD.is{k:Nat}{s:LI×LI}(hk:4194304+4≤k)(hq:s.1.length≤1048576)(hp:s.2.length≤1048576):jD k s=some (Pu.cN s.2 s.1):=by
 obtain⟨k,rfl⟩: ∃k',k=k'+1:=⟨k-1,by omega⟩
 rw[jD.eq,ck.is (by omega) hp hq]
 rfl
theorem cD.loop{k:Nat}{t:Pu.Tab}{x3 x4:LI}(hk:4194304+4≤k)(hi:Pu.bK t.1=true)(h2:t.2.length≤1048576)(hr: ∀x∈t.2,x.length≤1048576): ∀(m j i:Nat) (acc:LI),i+m=t.2.length→m<j→acc.length=i→
  cD.L1 k j t.2.length i t.2 t.1 x3 x4 acc t.1=some (if Pu.cN t.1 (acc++Pu.gB t.1 i (t.2.drop i))=true then((acc++Pu.gB t.1 i (t.2.drop i),t.1),true)else(([],[]),false))
 |m,0,i,acc,_,hj,_=>by omega
 |0,j+1,i,acc,hm,_,hacc=>by
  rw[cD.dX]
  have e:i=t.2.length:=by omega
  have h9:=(Pu.ba hi).2.2.1
  have hlt: ¬i<t.2.length:=by omega
  rw[jD.is (by omega) (by simp only;omega) (by simp only;omega),e]
  simp only[↓al,sss,if_true,if_false,Pf,Pa,Pu.gB,MR]
  cases Pu.cN t.1 acc<;>simp
 |m+1,j+1,i,acc,hm,hj,hacc=>by
  rw[cD.dX]
  have hlt:i<t.2.length:=by omega
  have hb:=Pu.dR hi i
  have h9:=(Pu.ba hi).2.2.1
  have hrow:=hr t.2[i] (Ns hlt)
  rw[←Pu.an hlt []]at hrow
  rw[fL.is (by omega) (by omega)]
  have ih:=cD.loop (x3:=x3) (x4:=x4) hk hi h2 hr m j (i+1) (acc++ [Pu.atI t.1 i+(t.2.getD i []).length]) (by omega) (by omega) (by simp[hacc])
  rw[Pk]at ih
  rw[Pu.drop_cons hlt []]
  have hl:(acc++ [Pu.atI t.1 i+((t.2.getD i []).length:Int)]).length≤1099511627776:=by simp;omega
  simp (disch:=omega) only[↓al,sss,if_true,if_false,hlt,hl,ih,Pu.gB]
  simp only[NM,OG,Pu.cG]
  rfl
theorem cD.is{k:Nat}{t:Pu.Tab}(hk:4194304+5≤k)(h1:t.1.length≤1048576)(h2:t.2.length≤1048576)(hr: ∀x∈t.2,x.length≤1048576):cD k t=some (Pu.shapeOf t):=by
 obtain⟨k,rfl⟩: ∃k',k=k'+1:=⟨k-1,by omega⟩
 rw[cD.eq,a7.is (by omega) h1,cD.iy,bH.is (by omega) (by omega)]
 simp only[↓al,sss,if_true,if_false]
 unfold Pu.shapeOf
 cases c1:Pu.bK t.1 with
 |false=>
  have:Pu.dU t=false:=by unfold Pu.dU;rw[c1];rfl
  simp only[this,↓al,sss,if_true,if_false]
 |true=>
  by_cases c2:t.2.length<t.1.length
  ·have:Pu.dU t=false:=by
    have: ¬t.1.length≤t.2.length:=by omega
    unfold Pu.dU;simp[this]
   simp only[this,c2,↓al,sss,if_true,if_false]
  ·have c2':t.1.length≤t.2.length:=by omega
   have hloop:=cD.loop (k:=k) (t:=t) (x3:= []) (x4:= []) (by omega) c1 h2 hr t.2.length k 0 [] (by omega) (by omega) rfl
   rw[Ph]at hloop
   simp only[c2,↓al,sss,if_true,if_false]
   rw[hloop]
   have:Pu.dU t=Pu.cN t.1 (Pu.outer t):=by unfold Pu.dU;simp[c1,c2']
   rw[this]
   rfl
theorem eX.is{k:Nat}{t:Pu.Tab}{r c:Int}(hk:3≤k)(hi:Pu.bK t.1=true)(ht:t.2.length≤1048576)(hr: ∀x∈t.2,x.length≤1048576)(h1: -1000000000≤c)(h2:c≤1000000000):eX k t r c=some (Pu.entry t r c):=by
 obtain⟨k,rfl⟩: ∃k',k=k'+1:=⟨k-1,by omega⟩
 have hb:=Pu.dR hi r
 have h9:=(Pu.ba hi).2.2.1
 rw[eX.eq,de.is (by omega)]
 unfold Pu.entry Pu.within
 by_cases c1:r<0
 ·have c1': ¬0≤r:=by omega
  simp (disch:=omega) only[↓al,sss,if_true,if_false,c1,c1']
 ·have c3:0≤r:=by omega
  by_cases c2:(t.2.length:Int)≤r
  ·have c2': ¬r≤(t.2.length:Int)-1:=by omega
   simp (disch:=omega) only[↓al,sss,if_true,if_false,c1,c3,c2,c2']
  ·have c2':r≤(t.2.length:Int)-1:=by omega
   have c4:r.toNat<t.2.length:=by omega
   have hx:=hr _ (Ns c4)
   rw[←Pu.an c4 []]at hx
   simp (disch:=omega) only[↓al,sss,if_true,if_false,c1,c2,c2',c3,c4,fL.is]
theorem aM.inner{k k1:Nat}{t:Pu.Tab}{r:Nat}(hk:4194304≤k)(hi:Pu.bK t.1=true)(ht:t.2.length≤1048576)(hr: ∀x∈t.2,x.length≤1048576)(hlt:r<t.2.length)(n:Int):
  aM.L1 k k1 k r r n r r (t.2.getD r []).length 0 t.2 t.1=if((Ln 0 (t.2.getD r []).length).all fun q=>Pu.gL t r q)=true then aM.L0 k k1 n ((r:Int)+1) t.2 t.1 else some false:=by
 have hx:=hr _ (Ns hlt)
 rw[←Pu.an hlt []]at hx
 have hb:=Pu.dR hi r
 have h9:=(Pu.ba hi).2.2.1
 have h:=Pu.mQ (fun j q=>aM.L1 k k1 j r r n r r (t.2.getD r []).length (q:Int) t.2 t.1) (t.2.getD r []).length (fun q=>Pu.gL t r q) (some false) (aM.L0 k k1 n ((r:Int)+1) t.2 t.1)
  (fun j q hq=>by
   have e3:=eX.is (k:=k) (t:=t) (r:=(r:Int)-1) (c:=t.1.getD r 0+q) (by omega) hi ht hr (by rw[Pu.cG]at hb;omega) (by rw[Pu.cG]at hb;omega)
   have ea:=fL.is (k:=k) (p:=t.1) (i:=r) (by omega) (by omega)
   rw[Pu.cG]at ea
   rw[Pu.cG]at hb
   rw[aM.dX]
   simp (maxSteps:=10000000) (disch:=omega) only[↓al,sss,if_true,if_false,hlt,hq,de.is,ea,e3,aM.kC,Pl,Pm]
   unfold Pu.gL
   generalize hx0:(t.2.getD r []).getD q 0=x at*
   cases Pu.within x 1 9 with
   |false=>simp
   |true=>
    have up:(if(0:Int)<r then(if x≤Pu.entry t ((r:Int)-1) (t.1.getD r 0+q)then some false else aM.L1 k k1 j r r n r r (t.2.getD r []).length ((q:Int)+1) t.2 t.1)else aM.L1 k k1 j r r n r r (t.2.getD r []).length ((q:Int)+1) t.2 t.1)=
      if(decide (r=0)||decide (Pu.entry t ((r:Int)-1) (t.1.getD r 0+q)<x))=true then aM.L1 k k1 j r r n r r (t.2.getD r []).length ((q:Int)+1) t.2 t.1 else some false:=by
     by_cases e:r=0
     ·subst e;simp
     ·have e':(0:Int)<r:=by omega
      by_cases c:x≤Pu.entry t ((r:Int)-1) (t.1.getD r 0+q)
      ·have c': ¬Pu.entry t ((r:Int)-1) (t.1.getD r 0+q)<x:=by omega
       simp only[e',c,c',e,if_true,if_false,decide_false,MB,NC]
      ·have c':Pu.entry t ((r:Int)-1) (t.1.getD r 0+q)<x:=by omega
       simp only[e',c,c',e,if_true,if_false,decide_true,decide_false,L8]
    by_cases e:q=0
    ·have e': ¬(0:Int)<q:=by omega
     simp only[e',e,↓al,sss,if_true,if_false,ML]
     rw[e]at up
     exact up
    ·have e':(0:Int)<q:=by omega
     have eq:(q:Int)-1=((q-1:Nat):Int):=by omega
     have hq':q-1<(t.2.getD r []).length:=by omega
     simp (disch:=omega) only[e',e,↓al,sss,if_true,if_false,eq,hq',L8]
     by_cases c:x<(t.2.getD r []).getD (q-1) 0
     ·have c': ¬(t.2.getD r []).getD (q-1) 0≤x:=by omega
      simp only[c,c',↓al,sss,if_true,if_false]
     ·have c':(t.2.getD r []).getD (q-1) 0≤x:=by omega
      simp only[c,c',↓al,sss,if_true,if_false]
      exact up)
  (fun j=>by
   rw[aM.dX]
   simp (maxSteps:=10000000) (disch:=omega) only[↓al,sss,if_true,if_false,Pf]) (t.2.getD r []).length k 0 (by omega) (by omega)
 simp only[Ph]at h
 exact h
theorem aM.is{k:Nat}{t:Pu.Tab}(hk:4194304+6≤k)(h1:t.1.length≤1048576)(ht:t.2.length≤1048576)(hr: ∀x∈t.2,x.length≤1048576):aM k t=some (Pu.eH t):=by
 obtain⟨k,rfl⟩: ∃k',k=k'+1:=⟨k-1,by omega⟩
 rw[aM.eq,cD.is (by omega) h1 ht hr,bX]
 unfold Pu.eH Pu.shapeOf
 cases hs:Pu.dU t with
 |false=>simp[hs]
 |true=>
  have hi:Pu.bK t.1=true:=by
   simp only[Pu.dU,Nc]at hs;exact hs.1
  have h:=Pu.mQ (fun j r=>aM.L0 k j t.2.length r t.2 t.1) t.2.length (fun r=>(Ln 0 (t.2.getD r []).length).all fun q=>Pu.gL t r q) (some false) (some true)
   (fun j r hlt=>by
    rw[aM.aT]
    simp (disch:=omega) only[↓al,sss,if_true,if_false,hlt,aM.inner (k1:=j) (show 4194304≤k by omega) hi ht hr hlt,Pl,Pm])
   (fun j=>by
    rw[aM.aT]
    simp (disch:=omega) only[↓al,sss,if_true,if_false,Pf]) t.2.length k 0 (by omega) (by omega)
  simp only[Ph]at h
  simp only[if_true,↓al,sss,if_true,if_false]
  rw[h]
  cases(Ln 0 t.2.length).all fun r=>(Ln 0 (t.2.getD r []).length).all fun q=>Pu.gL t r q<;>simp
theorem hO.is{k:Nat}{t:Pu.Tab}(hk:4194304+7≤k)(h1:t.1.length≤1048576)(ht:t.2.length≤1048576)(hr: ∀x∈t.2,x.length≤1048576):hO k t=some (Pu.bj t):=by
 obtain⟨k,rfl⟩: ∃k',k=k'+1:=⟨k-1,by omega⟩
 rw[hO.eq,aM.is (by omega) h1 ht hr,bX]
 unfold Pu.bj
 by_cases h:t.1.length=0<;>simp[h]
theorem ai.app{k:Nat}{a:LJ}(ha:a.length≤1048576)(hf:a.flatten.length≤1099511627776): ∀(m j i:Nat),i+m=a.length→m<j→
  ai.L4 k j a.length i (a.take i).flatten a=some a.flatten
 |m,0,i,_,hj=>by omega
 |0,j+1,i,hm,_=>by
  rw[ai.Bn]
  have e:i=a.length:=by omega
  subst e
  simp
 |m+1,j+1,i,hm,hj=>by
  rw[ai.Bn]
  have hlt:i<a.length:=by omega
  have ih:=ai.app (k:=k) ha hf m j (i+1) (by omega) (by omega)
  rw[Pk,Pu.take_succ hlt []]at ih
  have hl:((a.take i).flatten++a.getD i []).length≤1099511627776:=by
   refine Ob ?_ hf
   have e:a.flatten=(a.take i).flatten++(a.drop i).flatten:=by rw[←OD,NQ]
   rw[e,Pu.drop_cons hlt []]
   simp only[OA,Mb]
   omega
  simp only[OD,OA,Pb,MR]at ih
  simp (disch:=omega) only[↓al,sss,if_true,if_false,hlt,hl,ih]
theorem ai.tail{k:Nat}{a:LJ}{y:LI}(hk:4194304≤k)(ha:a.length≤1048576)(hf:a.flatten.length≤1099511627776):ai.L3 k (HAdd.hAdd k 1) 0 0 a.length 0 y a=some a.flatten:=by
 rw[ai.I5]
 by_cases h0:a.length=0
 ·have:a= []:=N3 h0
  subst this
  simp
 ·have hlt:0<a.length:=by omega
  have h:=ai.app (k:=k) ha hf (a.length-1) k 1 (by omega) (by omega)
  have e:(a.take 1).flatten=a.getD 0 []:=by rw[Pu.take_succ hlt []];simp
  rw[e]at h
  have hl:(a.getD 0 []).length≤1099511627776:=by
   refine Ob ?_ hf
   have e2:a.flatten=(a.take 1).flatten++(a.drop 1).flatten:=by rw[←OD,NQ]
   rw[e2,e]
   simp
  have hlt':(0:Int)<a.length:=by omega
  simp (disch:=omega) only[↓al,sss,if_true,if_false,hlt,hlt',hl,O8,N1,Ls,LQ]
  simpa using h
theorem ai.loop{k:Nat}{a:LJ}(hk:4194304≤k)(ha:a.length≤1048576)(hf:a.flatten.length≤1099511627776): ∀(m j i:Nat),i+m=a.length→m<j→
  ai.L0 k j (a.take i).flatten.length a.length i a=some a.flatten
 |m,0,i,_,hj=>by omega
 |0,j+1,i,hm,_=>by
  rw[ai.aT,ai.kC]
  have e:i=a.length:=by omega
  subst e
  rw[O9]
  have hn: ¬((a.flatten.length:Nat):Int)<0:=by omega
  simp (disch:=omega) only[↓al,sss,if_true,if_false,Pf,hn,Int.sub_zero,Int.sub_self]
  by_cases h0:a.flatten.length=0
  ·have h0': ¬(0:Int)<(a.flatten.length:Nat):=by omega
   have h:=ai.app (k:=k) ha hf a.length (k+1) 0 (by omega) (by omega)
   simp only[h0',↓al,sss,if_true,if_false]
   simpa using h
  ·have h0':(0:Int)<(a.flatten.length:Nat):=by omega
   have h1:(1:Int)≤(a.flatten.length:Nat):=by omega
   simp (disch:=omega) only[h0',h1,hf,↓al,sss,if_true,if_false,Ls,Ng,O5,Oy,NF,cQ,O0]
   exact ai.tail hk ha hf
 |m+1,j+1,i,hm,hj=>by
  rw[ai.aT]
  have hlt:i<a.length:=by omega
  have ih:=ai.loop (k:=k) hk ha hf m j (i+1) (by omega) (by omega)
  rw[Pk,Pu.take_succ hlt []]at ih
  have hl:((a.take i).flatten++a.getD i []).length≤1099511627776:=by
   refine Ob ?_ hf
   have e:a.flatten=(a.take i).flatten++(a.drop i).flatten:=by rw[←OD,NQ]
   rw[e,Pu.drop_cons hlt []]
   simp only[OA,Mb]
   omega
  simp only[OD,OA,Pb,MR,Mb,Pl]at ih hl
  have hn: ¬(((a.take i).flatten.length:Int)+(a.getD i []).length<0):=by omega
  simp (disch:=omega) only[↓al,sss,if_true,if_false,hlt,hn,ai.eM,ih]
theorem ai.is{k:Nat}{a:LJ}(hk:4194304+2≤k)(ha:a.length≤1048576)(hf:a.flatten.length≤1099511627776):ai k a=some a.flatten:=by
 obtain⟨k,rfl⟩: ∃k',k=k'+2:=⟨k-2,by omega⟩
 rw[ai.eq]
 exact ai.loop (k:=k) (by omega) ha hf a.length (k+1) 0 (by omega) (by omega)
theorem bU.is{k:Nat}{r:LI}{x:Int}(hk:4194304+1≤k)(hr:r.length≤1048577):bU k r x=some (Pu.yW (fun y=>decide (x=y)) r):=by
 obtain⟨k,rfl⟩: ∃k',k=k'+1:=⟨k-1,by omega⟩
 rw[bU.eq]
 have h:=Pu.tv r 0 (fun y=>decide (x=y)) (fun j i=>bU.L0 k j x r.length i r) (fun i=>some (i:Int)) (some (-1))
  (fun j i hi=>by
   rw[bU.aT]
   by_cases c:x=r.getD i 0
   ·simp (disch:=omega) only[↓al,sss,if_true,if_false,hi,←c]
   ·simp (disch:=omega) only[↓al,sss,if_true,if_false,hi,c,Pl,Pm])
  (fun j=>by
   rw[bU.aT]
   simp only[↓al,sss,if_true,if_false,Pf]) r.length k 0 (by omega) (by omega) (by omega)
 simp only[Ph]at h
 simp only[dg,cM]
 rw[h]
 unfold Pu.yW
 split<;>rfl
theorem cl.is{k:Nat}{r:LI}{x:Int}(hk:4194304+2≤k)(hr:r.length≤1048577):cl k r x=some (Pu.has r x):=by
 obtain⟨k,rfl⟩: ∃k',k=k'+1:=⟨k-1,by omega⟩
 rw[cl.eq,bU.is (by omega) hr,bX,gF,Pu.wG]
 rfl
theorem ef.is{k:Nat}{l:LI}(hk:4194304+3≤k)(hl:l.length≤1048576):ef k l=some (Pu.kH l):=by
 obtain⟨k,rfl⟩: ∃k',k=k'+1:=⟨k-1,by omega⟩
 rw[ef.eq]
 have h:=Pu.mQ (fun j i=>ef.L0 k j ((i:Int)+1) l) l.length (fun i=>Pu.has l ((i:Int)+1)) (some false) (some true)
  (fun j i hi=>by
   rw[ef.aT,cl.is (by omega) (by omega)]
   have c:(i:Int)+1≤l.length:=by omega
   cases hh:Pu.has l ((i:Int)+1)<;>simp (disch:=omega) only[↓al,sss,if_true,if_false,c,hh,Pl,Pm])
  (fun j=>by
   rw[ef.aT]
   have c: ¬(l.length:Int)+1≤l.length:=by omega
   simp only[↓al,sss,if_true,if_false,c]) l.length k 0 (by omega) (by omega)
 simp only[Ph,LQ]at h
 rw[h]
 unfold Pu.kH
 cases(Ln 0 l.length).all fun i=>Pu.has l ((i:Int)+1)<;>simp
theorem gT.is{k:Nat}{t:Pu.Tab}(hk:4194304+7≤k)(h1:t.1.length≤1048576)(ht:t.2.length≤1048576)(hr: ∀x∈t.2,x.length≤1048576):gT k t=some (Pu.gh t):=by
 obtain⟨k,rfl⟩: ∃k',k=k'+1:=⟨k-1,by omega⟩
 rw[gT.eq,aM.is (by omega) h1 ht hr,bX]
 unfold Pu.gh
 cases hi:Pu.eH t with
 |false=>simp
 |true=>
  have h9:=Pu.yc hi
  simp only[↓al,sss,if_true,if_false]
  rw[ai.is (by omega) ht (by omega),bX,ef.is (by omega) (by omega)]
  rfl
theorem fb.is{k:Nat}{t:Pu.Tab}(hk:4194304+10≤k)(h1:t.1.length≤1048576)(ht:t.2.length≤1048576)(hr: ∀x∈t.2,x.length≤1048576):fb k t=some (Pu.bj t&&Pu.gh t):=by
 obtain⟨k,rfl⟩: ∃k',k=k'+1:=⟨k-1,by omega⟩
 rw[fb.eq,show((t.1,t.2):Pu.Tab)=t from rfl,hO.is (by omega) h1 ht hr,gT.is (by omega) h1 ht hr,bX,bX]
 cases Pu.bj t<;>simp
theorem bT.loop{k:Nat}{t:Pu.Tab}{x3 x4:LI}{x5:LJ}(hk:1≤k)(ht:t.2.length≤1048576)(hr: ∀x∈t.2,x.length≤1048576): ∀(m j i:Nat),i+m=t.2.length→m<j→
  bT.L0 k j t.2.length i t.2 x3 x5 x4 (t.2.take i)=some (x4,t.2)
 |m,0,i,_,hj=>by omega
 |0,j+1,i,hm,_=>by
  rw[bT.aT]
  have e:i=t.2.length:=by omega
  subst e
  simp
 |m+1,j+1,i,hm,hj=>by
  rw[bT.aT]
  have hlt:i<t.2.length:=by omega
  have hx:=hr _ (Ns hlt)
  rw[←Pu.an hlt []]at hx
  have ih:=bT.loop (k:=k) (x3:=x3) (x4:=x4) (x5:=x5) hk ht hr m j (i+1) (by omega) (by omega)
  rw[Pk,Pu.take_succ hlt []]at ih
  have hl:(t.2.take i++ [t.2.getD i []]).length≤1099511627776:=by simp;omega
  simp (disch:=omega) only[↓al,sss,if_true,if_false,hlt,hl,bH.is,ih]
theorem bT.is{k:Nat}{t:Pu.Tab}(hk:4194304+1≤k)(h1:t.1.length≤1048576)(ht:t.2.length≤1048576)(hr: ∀x∈t.2,x.length≤1048576):bT k t=some t:=by
 obtain⟨k,rfl⟩: ∃k',k=k'+1:=⟨k-1,by omega⟩
 rw[bT.eq,bH.is (by omega) (by omega)]
 have h:=bT.loop (k:=k) (t:=t) (x3:= []) (x4:=t.1) (x5:= []) (by omega) ht hr t.2.length k 0 (by omega) (by omega)
 rw[Ph,O8]at h
 exact h
theorem bY.loop{k:Nat}{rs:LJ}(h9:Pu.dG 1048576 1048576 rs): ∀(m j:Nat) (w:LI),m≤rs.length→m<j→w.length+Pu.kX (rs.take m)≤1099511627776→bY.L0 k j ((m:Int)-1) rs w=some (w++(rs.take m).reverse.flatten)
 |m,0,w,_,hj,_=>by omega
 |0,j+1,w,_,_,_=>by
  rw[bY.aT]
  have hn: ¬(0:Int)≤((0:Nat):Int)-1:=by omega
  simp only[↓al,sss,if_true,if_false,hn]
  simp
 |m+1,j+1,w,hm,hj,hs=>by
  rw[bY.aT]
  have e:(((m+1:Nat):Int)-1)=(m:Int):=by omega
  have hlt:m<rs.length:=by omega
  have ht:=Pu.take_succ hlt []
  have hsz: ∀(a b:LJ),Pu.kX (a++b)=Pu.kX a+Pu.kX b:=by
   intro a b
   induction a with
   |nil=>simp[Pu.kX]
   |cons x a ih=>simp only[Mp,Pu.kX,ih];omega
  rw[ht,hsz]at hs
  simp only[Pu.kX]at hs
  have hl:(w++rs.getD m []).length≤1099511627776:=by rw[Mb];omega
  have h0:(0:Int)≤(m:Int):=by omega
  have ih:=bY.loop (k:=k) h9 m j (w++rs.getD m []) (by omega) (by omega) (by rw[Mb];omega)
  have hb:=h9.1
  rw[e]
  simp (disch:=omega) only[↓al,sss,if_true,if_false,h0,hlt,hl,ih]
  rw[ht,OQ,OD]
  simp
theorem bY.is{k:Nat}{t:Pu.Tab}(hk:4194304+10≤k)(h1:t.1.length≤1048576)(ht:t.2.length≤1048576)(hr: ∀x∈t.2,x.length≤1048576):bY k t=some (if Pu.eH t=true then t.2.reverse.flatten else []):=by
 obtain⟨k,rfl⟩: ∃k',k=k'+1:=⟨k-1,by omega⟩
 rw[bY.eq,show((t.1,t.2):Pu.Tab)=t from rfl,aM.is (by omega) h1 ht hr,bX]
 cases hb:Pu.eH t with
 |false=>simp
 |true=>
  have hs:=Pu.za ht hr
  have hl:=bY.loop (k:=k) (rs:=t.2) ⟨ht,hr⟩ t.2.length k [] (Ng _) (by omega) (by rw[O9];simpa using hs)
  rw[O9]at hl
  simp (disch:=omega) only[↓al,sss,if_true,if_false,hl,N1]
theorem cb.loop{k:Nat}{p:LI}(hk:2≤k)(hp:p.length≤1000000): ∀(m j i:Nat) (acc:LI),i+m=p.length→m<j→acc.length≤i→cb.L0 k j p.length i p acc=some (acc++Pu.nH p m i)
 |m,0,i,acc,_,hj,_=>by omega
 |0,j+1,i,acc,hi,_,ha=>by
  rw[cb.aT]
  have hn: ¬((i:Int)<(p.length:Int)):=by omega
  simp only[↓al,sss,if_true,if_false,hn,Pu.nH,MR]
 |m+1,j+1,i,acc,hi,hj,ha=>by
  rw[cb.aT]
  have h1:i<p.length:=by omega
  have e:(i:Int)+1=((i+1:Nat):Int):=by omega
  have ih:=fun acc h=>cb.loop hk hp m j (i+1) acc (by omega) (by omega) h
  have hl:(acc++ [(i:Int)]).length≤1099511627776:=by rw[Mb,Ox];omega
  have h2:=ih (acc++ [(i:Int)]) (by rw[Mb,Ox];omega)
  have h3:=ih acc (by omega)
  have ea:fL k p ((i:Int)+1)=some (p.getD (i+1) 0):=by rw[fL.is (by omega) (by omega),e,Pu.cG]
  rw[←e]at h2 h3
  unfold Pu.nH
  by_cases c:p.getD (i+1) 0<p.getD i 0
  ·simp (disch:=omega) only[↓al,sss,if_true,if_false,h1,ea,c,hl,cb.eM,h2,NM,Mp,N1]
  ·simp (disch:=omega) only[↓al,sss,if_true,if_false,h1,ea,c,cb.eM,h3]
theorem cb.is{k:Nat}{p:LI}(hk:4194304+3≤k)(hp:p.length≤1000000):cb k p=some (Pu.nY p):=by
 obtain⟨k,rfl⟩: ∃k',k=k'+1:=⟨k-1,by omega⟩
 rw[cb.eq,a7.is (by omega) (by omega),bX]
 unfold Pu.nY
 have h:=cb.loop (k:=k) (p:=p) (by omega) hp p.length k 0 [] (by omega) (by omega) (by simp)
 rw[Ph,N1]at h
 cases hb:Pu.bK p with
 |true=>simp only[↓al,sss,if_true,if_false,h]
 |false=>simp only[↓al,sss,if_true,if_false]
theorem a8.stay{k j:Nat}{x0:Int}{x1:Bool}{x2:Int}{x3 x4:Bool}{x5:Int}{x6:Nat}{x7 x8:Int}{x9:Nat}{y x11 x12 x13:LI}(hl:y.length≤9)(h0:0<y.length)(h: ¬y.getD (y.length-1) 0=0):
  a8.L0 k (j+1) x0 x1 x2 x3 x4 x5 x6 x7 x8 x9 y x11 x12 x13=some (y,true):=by
 rw[a8.aT]
 have p0:(0:Int)<y.length:=by omega
 have p1:(0:Int)≤(y.length:Int)-1:=by omega
 have p2:((y.length:Int)-1).toNat=y.length-1:=by omega
 have p3:y.length-1<y.length:=by omega
 have p4:y.take y.length=y:=Oz (Ng _)
 simp (disch:=omega) only[↓al,sss,if_true,if_false,p0,p1,p2,p3,p4,h,O5,Ng]
theorem a8.inner{k j:Nat}{n:Nat}{x2:Int}{x3:Bool}{x4:Int}{x5 x6:Bool}{x7:Int}{x8:Nat}{x9 x10:Int}{x11:Nat}{y x13 x14 x15:LI}(hn:n≤9)(hl:y.length=n+1)(h:0<n→ ¬y.getD (n-1) 0=0):
  a8.L2 k (j+1) 0 n x2 x3 x4 x5 x6 x7 x8 x9 x10 x11 y x13 x14 x15=some (y.take n,true):=by
 rw[a8.wU]
 have e:(y.take n).take n=y.take n:=by rw[List.take_take,Nat.min_self]
 by_cases c:0<n
 ·have p0:(0:Int)<n:=by omega
  have p1:(0:Int)≤(n:Int)-1:=by omega
  have p2:((n:Int)-1).toNat=n-1:=by omega
  have p3:n-1<n:=by omega
  have p4:n-1<y.length:=by omega
  have h':=h c
  simp (disch:=omega) only[↓al,sss,if_true,if_false,dh,Ni,p0,p1,p2,p3,p4,h',O5,Ng,Ny,e]
 ·have:n=0:=by omega
  subst this
  simp (disch:=omega) only[↓al,sss,if_true,if_false,dh,Ni,Ph,LA,O5,Ng,Ny,Ls,O8]
theorem a8.cut{k j:Nat}{n:Nat}{x0:Int}{x1:Bool}{x2:Int}{x3 x4:Bool}{x5:Int}{x6:Nat}{x7 x8:Int}{x9:Nat}{y x11 x12 x13:LI}(hn:n≤9)(hl:y.length=n+1)(h0:y.getD n 0=0)(h:0<n→ ¬y.getD (n-1) 0=0):
  a8.L0 k (j+1+1) x0 x1 x2 x3 x4 x5 x6 x7 x8 x9 y x11 x12 x13=some (y.take n,true):=by
 rw[a8.aT,a8.eM]
 have p0:(0:Int)<((n+1:Nat):Int):=by omega
 have p2:((n+1:Nat):Int)-1=(n:Int):=by omega
 have p3:n<n+1:=by omega
 have p4:n≤n+1:=by omega
 have hi:=fun x2 x3 x4 x5 x6 x7 x8 x9 x10 x11 x13 x14 x15=>a8.inner (k:=k) (j:=j) (n:=n) (x2:=x2) (x3:=x3) (x4:=x4) (x5:=x5) (x6:=x6) (x7:=x7) (x8:=x8) (x9:=x9) (x10:=x10) (x11:=x11) (y:=y) (x13:=x13) (x14:=x14) (x15:=x15) hn hl h
 simp (disch:=omega) only[↓al,sss,if_true,if_false,hl,p0,p2,p3,p4,h0,cQ,Oc,hi]
theorem a8.is{k:Nat}{p:LI}{n:Nat}(hk:4194304+8≤k)(hp:Pu.bK p=true)(hn:n<p.length)(hc:p.getD (n+1) 0<p.getD n 0):a8 k p n=some (Pu.aO p n,true):=by
 obtain⟨k,rfl⟩: ∃k',k=k'+3:=⟨k-3,by omega⟩
 have h9:=(Pu.ba hp).2.2.1
 have hb:=Pu.dR hp n
 rw[Pu.cG]at hb
 have h1: ∀i,i<p.length→1≤p.getD i 0:=fun i hi=>by
  rw[Pu.an hi]
  exact((Pu.ba hp).1 _ (Ns hi)).1
 have hco:=cb.is (k:=k+2) (p:=p) (by omega) (by omega)
 have hct:=cl.is (k:=k+2) (x:=(n:Int)) (r:=Pu.nY p) (by omega) (by have:=Pu.vg p;omega)
 rw[Pu.vV hp hn hc]at hct
 have hcl:=bH.is (k:=k+2) (a:=p) (by omega) (by omega)
 have hyl:(p.set n (p.getD n 0-1)).length=p.length:=Ml
 have key: ∀x0 x1 x2 x3 x4 x5 x6 x7 x8 x9 x11 x12 x13,a8.L0 k (k+1) x0 x1 x2 x3 x4 x5 x6 x7 x8 x9 (p.set n (p.getD n 0-1)) x11 x12 x13=some (Pu.aO p n,true):=by
  intro x0 x1 x2 x3 x4 x5 x6 x7 x8 x9 x11 x12 x13
  unfold Pu.aO
  by_cases h:p.getD n 0-1=0
  ·have hl:=Pu.uC hp hc h
   rw[if_pos h]
   obtain⟨k',rfl⟩: ∃k',k=k'+1:=⟨k-1,by omega⟩
   rw[a8.cut (n:=n) (by omega) (by omega) (by rw[Pu.an (by omega),NN,h]) (fun h0=>by
    rw[Pu.getD_set_ne (by omega)]
    have:=h1 (n-1) (by omega)
    omega),NS (Ng n)]
  ·rw[if_neg h,a8.stay (by omega) (by omega)]
   rw[hyl]
   by_cases e:p.length-1=n
   ·rw[e,Pu.an (by omega),NN];exact h
   ·rw[Pu.getD_set_ne (Ne.symm e)]
    have:=h1 (p.length-1) (by omega)
    omega
 rw[a8.eq]
 simp (disch:=omega) only[↓al,sss,if_true,if_false,hco,hct,hcl,hn,key]
theorem ca.loop{k:Nat}{t:Pu.Tab}(hk:4194304+2≤k)(hi:Pu.bK t.1=true)(ht:Pu.dG 1048576 1048576 t.2): ∀(m j i:Nat),i+m=t.2.length→m<j→
  ca.L0 k j t.2.length i ((Pu.dv t).take i) t.2 t.1=some (Pu.dv t)
 |m,0,i,_,hj=>by omega
 |0,j+1,i,hm,_=>by
  rw[ca.aT]
  have e:i=t.2.length:=by omega
  subst e
  rw[←Pu.jQ t,O9]
  simp only[↓al,sss,if_true,if_false,Pf]
 |m+1,j+1,i,hm,hj=>by
  rw[ca.aT]
  have hlt:i<t.2.length:=by omega
  have hg:i<(Pu.dv t).length:=by rw[Pu.jQ];exact hlt
  have hl:=ht.1
  have h9:=(Pu.ba hi).2.2.1
  have hb:=Pu.dR hi i
  rw[Pu.cG]at hb
  have hrow:=ht.at i
  have ha:=fL.is (k:=k) (p:=t.1) (i:=(i:Int)) (by omega) (by omega)
  rw[Pu.cG]at ha
  have ih:=ca.loop (k:=k) (t:=t) hk hi ht m j (i+1) (by omega) (by omega)
  rw[Pk,Pu.take_succ hg [],Pu.sR hlt]at ih
  have hc:=ai.is (k:=k) (a:= [LH (t.1.getD i 0).toNat 0,t.2.getD i []]) hk (by simp) (by simp only[OA,Pb,MR,Mb,Oy];omega)
  simp only[OA,Pb,MR]at hc
  have hn:(t.1.getD i 0).toNat≤1099511627776:=by omega
  have hb1:=hb.1
  have hln:((Pu.dv t).take i++ [LH (t.1.getD i 0).toNat 0++t.2.getD i []]).length≤1099511627776:=by
   rw[Mb,NJ,Pu.jQ];simp;omega
  simp (disch:=omega) only[↓al,sss,if_true,if_false,hlt,ha,hb1,O5,hn,hc,hln,ih]
theorem ca.is{k:Nat}{t:Pu.Tab}(hk:4194304+3≤k)(hi:Pu.bK t.1=true)(ht:Pu.dG 1048576 1048576 t.2):ca k t=some (Pu.dv t):=by
 obtain⟨k,rfl⟩: ∃k',k=k'+1:=⟨k-1,by omega⟩
 rw[ca.eq]
 have hl:=ht.1
 have h:=ca.loop (k:=k) (t:=t) (by omega) hi ht t.2.length k 0 (by omega) (by omega)
 rw[Ph,O8]at h
 exact h
theorem jl.is{k:Nat}{a:LJ}{i c:Int}(hk:3≤k)(ha:Pu.dG 1048576 1048576 a):jl k a i c=some (Pu.vq a i c):=by
 obtain⟨k,rfl⟩: ∃k',k=k'+1:=⟨k-1,by omega⟩
 have hl:=ha.1
 rw[jl.eq]
 by_cases h0:i<0
 ·have h1: ¬0≤i:=by omega
  rw[Pu.Fx h0]
  simp (disch:=omega) only[↓al,sss,if_true,if_false,de.is,Pu.within,h1]
 ·have h1:0≤i:=by omega
  by_cases h2:i≤(a.length:Int)-1
  ·have h3:i.toNat<a.length:=by omega
   have he:=fL.is (k:=k) (p:=a.getD i.toNat []) (i:=c) (by omega) (ha.at _)
   unfold Pu.vq
   simp (disch:=omega) only[↓al,sss,if_true,if_false,de.is,Pu.within,h0,h1,h2,h3,he]
  ·rw[Pu.FI (by omega)]
   simp (disch:=omega) only[↓al,sss,if_true,if_false,de.is,Pu.within,h1,h2]
theorem ay.loop{k:Nat}{q x4:LI}{x5:LJ}(hk:4≤k): ∀(m j:Nat) (g:LJ) (i c:Nat),Pu.dG 9 9 g→i<g.length→c<(g.getD i []).length→m<j→
  Pu.cel (Pu.cJ m g i c).1 (Pu.cJ m g i c).2.1 ((Pu.cJ m g i c).2.2+1)=0→Pu.cel (Pu.cJ m g i c).1 ((Pu.cJ m g i c).2.1+1) (Pu.cJ m g i c).2.2=0→
  ay.L1 k j i c q g x4 x5=ay.J2 k (Pu.cJ m g i c).2.1 (Pu.cJ m g i c).2.2 q (Pu.cJ m g i c).1 x4 x5
 |m,0,g,i,c,_,_,_,hj,_,_=>by omega
 |0,j+1,g,i,c,hg,hi,hc,_,s1,s2=>by
  have hl:=hg.1
  have hw:=hg.at i
  have e5:=jl.is (k:=k+1) (a:=g) (i:=i) (c:=(c:Int)+1) (by omega) (hg.mono (by omega) (by omega))
  have e6:=jl.is (k:=k+1) (a:=g) (i:=(i:Int)+1) (c:=c) (by omega) (hg.mono (by omega) (by omega))
  rw[show(c:Int)+1=((c+1:Nat):Int) by omega,Pu.qU]at e5
  rw[show(i:Int)+1=((i+1:Nat):Int) by omega,Pu.qU]at e6
  have s1:(g.getD i []).getD (c+1) 0=0:=s1
  have s2:(g.getD (i+1) []).getD c 0=0:=s2
  rw[s1]at e5
  rw[s2]at e6
  rw[Pk]at e5 e6
  rw[ay.dX]
  simp (disch:=omega) only[↓al,sss,if_true,if_false,e5,e6,Pu.cJ]
 |m+1,j+1,g,i,c,hg,hi,hc,hj,s1,s2=>by
  have hl:=hg.1
  have hw:=hg.at i
  have e5:=jl.is (k:=k+1) (a:=g) (i:=i) (c:=(c:Int)+1) (by omega) (hg.mono (by omega) (by omega))
  have e6:=jl.is (k:=k+1) (a:=g) (i:=(i:Int)+1) (c:=c) (by omega) (hg.mono (by omega) (by omega))
  rw[show(c:Int)+1=((c+1:Nat):Int) by omega,Pu.qU,Pk,show(g.getD i []).getD (c+1) 0=Pu.cel g i (c+1)from rfl]at e5
  rw[show(i:Int)+1=((i+1:Nat):Int) by omega,Pu.qU,Pk,show(g.getD (i+1) []).getD c 0=Pu.cel g (i+1) c from rfl]at e6
  have hs: ∀v,Pu.dG 9 9 (Pu.fp g i c v):=fun v=>hg.set i (by rw[Ml];exact hw)
  have es: ∀v,g.set i ((g.getD i []).set c v)=Pu.fp g i c v:=fun _=>rfl
  rw[ay.dX]
  unfold Pu.cJ at s1 s2⊢
  by_cases c1:Pu.cel g i (c+1)=0∧Pu.cel g (i+1) c=0
  ·rw[if_pos c1]at s1 s2⊢
   rw[c1.1]at e5
   rw[c1.2]at e6
   simp (disch:=omega) only[↓al,sss,if_true,if_false,e5,e6]
  ·rw[if_neg c1]at s1 s2⊢
   by_cases c2:Pu.cel g i (c+1)=0∨(0<Pu.cel g (i+1) c∧Pu.cel g (i+1) c≤Pu.cel g i (c+1))
   ·rw[if_pos c2]at s1 s2⊢
    have hb:Pu.cel g (i+1) c≠0:=fun e=>by
     rcases c2 with c2|c2
     ·exact c1 ⟨c2,e⟩
     ·omega
    obtain⟨b1,b2⟩:=Pu.ot hb
    have ih:=ay.loop (q:=q) (x4:=x4) (x5:=x5) hk m j (Pu.fp g i c (Pu.cel g (i+1) c)) (i+1) c (hs _) (by rw[Pu.dQ];exact b1) (by rw[Pu.bG];exact b2) (by omega) s1 s2
    rw[Pk]at ih
    by_cases c3:Pu.cel g i (c+1)=0
    ·rw[c3]at e5
     simp (disch:=omega) only[↓al,sss,if_true,if_false,e5,e6,hb,hi,hc,es,ay.lA,ih]
    ·have c4:0<Pu.cel g (i+1) c∧Pu.cel g (i+1) c≤Pu.cel g i (c+1):=c2.resolve_left c3
     simp (disch:=omega) only[↓al,sss,if_true,if_false,e5,e6,c3,c4.1,c4.2,hi,hc,es,ay.lA,ih]
   ·rw[if_neg c2]at s1 s2⊢
    have c3: ¬Pu.cel g i (c+1)=0:=fun e=>c2 (.inl e)
    obtain⟨b1,b2⟩:=Pu.ot c3
    have ih:=ay.loop (q:=q) (x4:=x4) (x5:=x5) hk m j (Pu.fp g i c (Pu.cel g i (c+1))) i (c+1) (hs _) (by rw[Pu.dQ];exact b1) (by rw[Pu.bG];exact b2) (by omega) s1 s2
    rw[Pk]at ih
    by_cases c4:0<Pu.cel g (i+1) c
    ·have c5: ¬Pu.cel g (i+1) c≤Pu.cel g i (c+1):=fun e=>c2 (.inr ⟨c4,e⟩)
     simp (disch:=omega) only[↓al,sss,if_true,if_false,e5,e6,c3,c4,c5,hi,hc,es,ay.lA,ih]
    ·simp (disch:=omega) only[↓al,sss,if_true,if_false,e5,e6,c3,c4,hi,hc,es,ay.lA,ih]
theorem ay.rows{k:Nat}{q:LI}{G:LJ}{N:Nat}{x2 x3 x4 x5:Int}{x6:Nat}{x7:Int}{x8:Nat}{x11:LI}{x12:LJ}{x14:LI}{x15:LJ}(hk:4≤k)(hG:Pu.dG 9 9 G)(hq:q.length≤9)(hN:N≤G.length)
  (h1: ∀r,r<N→0<(G.getD r []).length∧0≤q.getD r 0∧q.getD r 0≤(G.getD r []).length) (h2: ∀r,N≤r→(G.getD r []).length=0): ∀(m j i:Nat),i+m=G.length→m<j→
  ay.L4 k j G.length i x2 x3 x4 x5 x6 x7 x8 q G x11 x12 ((Pu.dt q G N).take i) x14 x15=some ((q,Pu.dt q G N),(x2,true))
 |m,0,i,_,hj=>by omega
 |0,j+1,i,hm,_=>by
  rw[ay.Bn]
  have e:i=G.length:=by omega
  subst e
  rw[Oz (by rw[Pu.fw];exact hN)]
  simp only[↓al,sss,if_true,if_false,Pf]
 |m+1,j+1,i,hm,hj=>by
  have hl:=hG.1
  have hw:=hG.at i
  have hi:i<G.length:=by omega
  have ih:=ay.rows (k:=k) (x2:=x2) (x3:=x3) (x4:=x4) (x5:=x5) (x6:=x6) (x7:=x7) (x8:=x8) (x11:=x11) (x12:=x12) (x14:=x14) (x15:=x15) hk hG hq hN h1 h2 m j (i+1) (by omega) (by omega)
  rw[Pk]at ih
  rw[ay.Bn]
  by_cases c:i<N
  ·obtain⟨a1,a2,a3⟩:=h1 i c
   rw[Pu.take_succ (by rw[Pu.fw];exact c) [],Pu.jI c]at ih
   have ha:=fL.is (k:=k) (p:=q) (i:=(i:Int)) (by omega) (by omega)
   rw[Pu.cG]at ha
   have et:(G.getD i []).drop (q.getD i 0).toNat=((G.getD i []).drop (q.getD i 0).toNat).take ((G.getD i []).length-(q.getD i 0).toNat):=(Oz (by rw[NK];exact Ng _)).symm
   have hcl:=bH.is (k:=k) (a:=(G.getD i []).drop (q.getD i 0).toNat) (by omega) (by rw[NK];omega)
   have hln:((Pu.dt q G N).take i++ [(G.getD i []).drop (q.getD i 0).toNat]).length≤1099511627776:=by
    rw[Mb,NJ,Ox];omega
   have a4:(0:Int)<(G.getD i []).length:=by omega
   have a5:(q.getD i 0).toNat≤(G.getD i []).length:=by omega
   simp (disch:=omega) only[↓al,sss,if_true,if_false,hi,a2,a4,a5,ha,cQ,←et,hcl,hln,ay.HZ,ih]
  ·have a4: ¬(0:Int)<(G.getD i []).length:=by have:=h2 i (by omega);omega
   have e1:(Pu.dt q G N).take (i+1)=(Pu.dt q G N).take i:=by
    rw[Oz (by rw[Pu.fw];omega),Oz (by rw[Pu.fw];omega)]
   rw[e1]at ih
   simp (disch:=omega) only[↓al,sss,if_true,if_false,hi,a4,ay.HZ,ih]
theorem ay.is{k:Nat}{t:Pu.Tab}{n:Nat}(hk:4194304+20≤k)(h:Pu.eH t=true)(hn:n<t.1.length)(hc:t.1.getD (n+1) 0<t.1.getD n 0):ay k t n=some ((Pu.g8 t n).1,((Pu.g8 t n).2:Int),true):=by
 obtain⟨k,rfl⟩: ∃k',k=k'+2:=⟨k-2,by omega⟩
 obtain⟨z1,z2⟩:=Pu.zw h
 obtain⟨hp,ho,hl,_⟩:=Pu.jg h
 have hit:=aM.is (k:=k+1) (t:=t) (by omega) (by omega) (by have:=z2.1;omega) (fun r hr=>by have:=z2.2 r hr;omega)
 rw[h]at hit
 have hco:=cb.is (k:=k+1) (p:=t.1) (by omega) (by omega)
 have hct:=cl.is (k:=k+1) (x:=(n:Int)) (r:=Pu.nY t.1) (by omega) (by have:=Pu.vg t.1;omega)
 rw[Pu.vV hp hn hc]at hct
 have hrb:=a8.is (k:=k+1) (p:=t.1) (n:=n) (by omega) hp hn hc
 have hgr:=ca.is (k:=k+1) (t:=t) (by omega) hp (z2.mono (by omega) (by omega))
 have hb:=Pu.dR hp n
 rw[Pu.cG]at hb
 have hpos:1≤t.1.getD n 0:=by
  rw[Pu.an hn]
  exact((Pu.ba hp).1 _ (Ns hn)).1
 obtain⟨E,s1,s2⟩:=Pu.Gy h hn hc
 have hst:=Pu.sH h hn hc
 have a2:=ay.loop (k:=k) (q:=Pu.aO t.1 n) (x4:= []) (x5:= []) (by omega) 18 (k+1) (Pu.dv t) n (t.1.getD n 0-1).toNat ⟨by rw[Pu.jQ];exact z2.1,fun r hr=>by
  obtain⟨q,hq,rfl⟩:=Nx hr
  have a:=Pu.lq hp q
  have b:=(Pu.dR ho q).2
  rw[Pu.cG]at b
  rw[Pu.an hq]at a
  omega⟩ hst.hi hst.hc (by omega) s1 s2
 rw[show(((t.1.getD n 0-1).toNat:Nat):Int)=t.1.getD n 0-1 by omega]at a2
 have hS:Pu.cJ 18 (Pu.dv t) n (t.1.getD n 0-1).toNat=Pu.dn t n:=rfl
 rw[hS]at a2
 rw[ay.eq,ay.iy,show((t.1,t.2):Pu.Tab)=t from rfl]
 unfold Pu.g8
 generalize Pu.dn t n=S at*
 obtain⟨g,i,c⟩:=S
 simp only at E a2⊢
 have hdl:=Pu.jv (Pu.outer t) i
 have hql:=Pu.jv t.1 n
 have hol:=Pu.cd t
 have hgl:=E.len
 have hcl:(Pu.mS g i c).length=g.length:=Pu.m7 g i c
 have hi:=E.sl.hi
 have hcc:=E.sl.hc
 have hR:=fun x3 x4 x5 x6 x7 x8 x11 x12 x14 x15=>ay.rows (k:=k) (q:=Pu.aO t.1 n) (G:=Pu.mS g i c) (N:=(Pu.aO (Pu.outer t) i).length) (x2:=(i:Int)) (x3:=x3) (x4:=x4) (x5:=x5) (x6:=x6) (x7:=x7) (x8:=x8) (x11:=x11) (x12:=x12) (x14:=x14) (x15:=x15) (by omega) E.rows (by omega) (by omega)
  (fun r hr=>by
   have a:=E.cutl r
   have b:=Pu.wQ ho E.hi E.cor hr
   have d:=E.ins r
   exact⟨by omega,E.sl.q0 r,by omega⟩)
  (fun r hr=>by
   have a:=E.cutl r
   rw[Pu.bL hr]at a
   omega) (Pu.mS g i c).length k 0 (by omega) (by have:=E.rows.1;omega)
 simp only[Ph,O8]at hR
 have ec:g.set i ((g.getD i []).take c)=Pu.mS g i c:=rfl
 have hcc':c≤(g.getD i []).length:=by omega
 rw[ay.kC]at a2
 simp (disch:=omega) only[↓al,sss,if_true,if_false,hi,hcc',cQ,Oc,Ny,ec,hR,beq_self_eq_true]at a2
 simp (disch:=omega) only[↓al,sss,if_true,if_false,hit,hco,hct,hrb,hgr,hn,a2]
theorem fR.is{k:Nat}{t:Pu.Tab}(hk:4194304+30≤k)(h:Pu.bj t=true)(h0:0<t.2.length):fR k t=some ((Pu.cx t).1,((Pu.cx t).2:Int)):=by
 obtain⟨k,rfl⟩: ∃k',k=k'+1:=⟨k-1,by omega⟩
 have hz:=Pu.gY h
 have hi1:=Pu.eB h
 have hr:=Pu.kp h h0
 have hcp:=bT.is (k:=k) (t:=t) (by omega) (by rw[hi1];simp) (by have:=hz.1;omega) (fun r hr=>by have:=hz.2 r hr;omega)
 have hs:=ay.is (k:=k) (t:=Pu.jj t) (n:=0) (by omega) (Pu.tT h h0) (by simp[Pu.jj]) (by simp[Pu.jj])
 rw[Ph]at hs
 have e2:((t.2.getD 0 []).drop 1).take ((t.2.getD 0 []).length-1)=(t.2.getD 0 []).drop 1:=Oz (by rw[NK];omega)
 rw[fR.eq,show((t.1,t.2):Pu.Tab)=t from rfl,hcp,bX]
 have hg:1≤(t.2.getD 0 []).length:=hr
 simp only[↓al,sss,if_true,if_false,cQ,Ls,Int.toNat_one,h0,hg,e2,show(0:Int)≤0 from O5 _,show(0:Int)≤1 by omega]
 rw[show((1:: [],t.2.set 0 ((t.2.getD 0 []).drop 1)):Pu.Tab)=Pu.jj t from rfl,hs]
 rfl
theorem aL.loop{k:Nat}{x1:LI}{x2:LJ}{p:LI}(hk:4194304+40≤k): ∀(m j:Nat) (o:LJ) (t:Pu.Tab),Pu.bj t=true→t.2.flatten.length=m→m<j→Pu.dG 9 9 o→t.2.length≤o.length→(∀r,(t.2.getD r []).length≤(o.getD r []).length)→
  aL.L0 k j m x1 x2 p o t.1 t.2=some ((p,Pu.ku m o t),true)
 |m,0,o,t,_,_,hj,_,_,_=>by omega
 |0,j+1,o,t,_,_,_,_,_,_=>by
  rw[aL.aT]
  have hn: ¬(0:Int)<((0:Nat):Int):=by omega
  simp only[↓al,sss,if_true,if_false,hn,Pu.ku]
 |m+1,j+1,o,t,h,hm,hj,ho,hl,hr=>by
  have h0:=Pu.xw (t:=t) (by omega)
  have hs:=Pu.xR h h0
  have htk:=fR.is (k:=k) (by omega) h h0
  obtain⟨s1,s2,s3,s4⟩:=Pu.oP h h0
  have hrow:=Pu.uq h h0
  have hrp:=Pu.kp h s3
  have ho9:=ho.at (Pu.cx t).2
  have hrr:=hr (Pu.cx t).2
  have hlen:(Pu.cx t).1.2.length≤t.2.length:=by
   have a:=congrArg M9 s2
   rw[Pu.cd]at a
   have:=Pu.jv (Pu.outer t) (Pu.cx t).2
   rw[Pu.cd]at this
   omega
  have ih:=aL.loop (x1:=x1) (x2:=x2) (p:=p) hk m j (Pu.fp o (Pu.cx t).2 ((t.2.getD (Pu.cx t).2 []).length-1) ((m+1:Nat):Int)) (Pu.cx t).1 s1 (by omega) (by omega)
   (by unfold Pu.fp;exact ho.set _ (by rw[Ml];exact ho9)) (by rw[Pu.dQ];omega) (fun r=>by
    rw[Pu.bG,hrow]
    have:=hr r
    split<;>omega)
  have hq:=hrow (Pu.cx t).2
  rw[if_pos rfl]at hq
  unfold Pu.ku
  have g1:(0:Int)<((m+1:Nat):Int):=by omega
  have g2:(Pu.cx t).2<o.length:=by omega
  have g3:(t.2.getD (Pu.cx t).2 []).length-1<(o.getD (Pu.cx t).2 []).length:=by omega
  have e2:((m+1:Nat):Int)-1=(m:Int):=by omega
  have hb1:m≤9:=by have:=Pu.iu h;omega
  have hJ: ∀c:Nat,c=(t.2.getD (Pu.cx t).2 []).length-1→aL.J1 k j ((m+1:Nat):Int) ((Pu.cx t).2:Int) (c:Int) x1 x2 p o (Pu.cx t).1.1 (Pu.cx t).1.2=some ((p,Pu.ku m (Pu.fp o (Pu.cx t).2 ((t.2.getD (Pu.cx t).2 []).length-1) ((m+1:Nat):Int)) (Pu.cx t).1),true):=by
   intro c hc
   subst hc
   rw[aL.eM]
   simp (disch:=omega) only[↓al,sss,if_true,if_false,g2,g3,e2,w64]
   exact ih
  rw[aL.aT,show((t.1,t.2):Pu.Tab)=t from rfl,htk]
  by_cases c:(Pu.cx t).2<(Pu.cx t).1.2.length
  ·simp only[↓al,sss,if_true,if_false,g1,c,hJ _ hq]
  ·rw[Pu.bL (by omega)]at hq
   have:=hJ 0 hq
   rw[Ph]at this
   simp only[↓al,sss,if_true,if_false,g1,c,this]
theorem aL.is{k:Nat}{t:Pu.Tab}(hk:4194304+50≤k)(h1:t.1.length≤1048576)(ht:t.2.length≤1048576)(hr: ∀x∈t.2,x.length≤1048576):aL k t=some (Pu.jr t):=by
 obtain⟨k,rfl⟩: ∃k',k=k'+1:=⟨k-1,by omega⟩
 rw[aL.eq,show((t.1,t.2):Pu.Tab)=t from rfl,fb.is (by omega) h1 ht hr,bX]
 unfold Pu.jr
 cases hp:Pu.bj t with
 |false=>simp
 |true=>
  cases hb:Pu.gh t with
  |false=>simp
  |true=>
   have h9:=Pu.iu hp
   have hit:Pu.eH t=true:=by
    have:=hp
    simp only[Pu.bj,Nc]at this
    exact this.1
   have hcp:=bT.is (k:=k) (t:=t) (by omega) h1 ht hr
   have hnum:=bY.is (k:=k) (t:=t) (by omega) h1 ht hr
   rw[if_pos hit]at hnum
   have hrl:t.2.reverse.flatten.length=t.2.flatten.length:=by simp[List.length_flatten,List.map_reverse,List.sum_reverse]
   have hl:=aL.loop (k:=k) (x1:= []) (x2:= []) (p:=t.1) (by omega) t.2.flatten.length k t.2 t hp rfl (by omega) (Pu.gY hp) (Ng _) (fun _=>Ng _)
   simp only[↓al,sss,if_true,if_false,hcp,hnum,hrl,hl,Prod.eta,and_self]
theorem ib.is{k:Nat}{t:Pu.Tab}(hk:4194304+6≤k)(h1:t.1.length≤1048576)(ht:t.2.length≤1048576)(hr: ∀x∈t.2,x.length≤1048576):ib k t=some (Pu.bj t):=by
 obtain⟨k,rfl⟩: ∃k',k=k'+1:=⟨k-1,by omega⟩
 rw[ib.eq,aC.is (by omega) h1 ht hr,bX]
 unfold Pu.bj
 cases Pu.eH t<;>simp
theorem cu.loop{k:Nat}{t:Pu.Tab}{x2:LI}(ht:t.2.length≤1048576)(hf:t.2.flatten.length≤1099511627776): ∀(m j i:Nat),i+m=t.2.length→m<j→
  cu.L0 k j i (t.2.take i).flatten x2 t.2=some t.2.flatten
 |m,0,i,_,hj=>by omega
 |0,j+1,i,hm,_=>by
  rw[cu.aT]
  have e:i=t.2.length:=by omega
  subst e
  simp
 |m+1,j+1,i,hm,hj=>by
  rw[cu.aT]
  have hlt:i<t.2.length:=by omega
  have ih:=cu.loop (k:=k) (x2:=x2) ht hf m j (i+1) (by omega) (by omega)
  rw[Pk,Pu.take_succ hlt []]at ih
  have hl:((t.2.take i).flatten++t.2.getD i []).length≤1099511627776:=by
   refine Ob ?_ hf
   have e:t.2.flatten=(t.2.take i).flatten++(t.2.drop i).flatten:=by rw[←OD,NQ]
   rw[e,Pu.drop_cons hlt []]
   simp only[OA,Mb]
   omega
  simp only[OD,OA,Pb,MR]at ih
  simp (disch:=omega) only[↓al,sss,if_true,if_false,hlt,hl,ih]
theorem cu.is{k:Nat}{t:Pu.Tab}(hk:4194304+1≤k)(ht:t.2.length≤1048576)(hf:t.2.flatten.length≤1099511627776):cu k t=some t.2.flatten:=by
 obtain⟨k,rfl⟩: ∃k',k=k'+1:=⟨k-1,by omega⟩
 rw[cu.eq]
 exact cu.loop (k:=k) ht hf t.2.length k 0 (by omega) (by omega)
theorem bN.loop{k:Nat}{l:LI}(h1: ∀x∈l,1≤x∧x≤9)(hl:l.length≤9): ∀(m j i:Nat) (seen:List Bool),i+m=l.length→m<j→seen.length=10→(∀v:Nat,v<10→seen.getD v false=Pu.has (l.take i) v)→
  bN.L0 k j i l seen=some (Pu.nh l.length (l.take i) (l.drop i))
 |m,0,i,seen,_,hj,_,_=>by omega
 |0,j+1,i,seen,hm,_,_,_=>by
  rw[bN.aT]
  have e:i=l.length:=by omega
  subst e
  simp[Pu.nh]
 |m+1,j+1,i,seen,hm,hj,hs,hv=>by
  rw[bN.aT]
  have hlt:i<l.length:=by omega
  have hx:=h1 _ (Ns hlt)
  rw[←Pu.an hlt 0]at hx
  rw[Pu.drop_cons hlt 0]
  simp only[Pu.nh]
  have hx10:(l.getD i 0).toNat<seen.length:=by omega
  have hx0:(0:Int)≤l.getD i 0:=by omega
  have hvx:=hv (l.getD i 0).toNat (by omega)
  have ex:(((l.getD i 0).toNat:Nat):Int)=l.getD i 0:=by omega
  rw[ex]at hvx
  by_cases c:l.getD i 0≤l.length
  ·have c': ¬(l.length:Int)<l.getD i 0:=by omega
   cases hh:Pu.has (l.take i) (l.getD i 0)with
   |true=>
    rw[hh]at hvx
    simp (disch:=omega) only[↓al,sss,if_true,if_false,hlt,c,c',hx0,hx10,hvx]
   |false=>
    rw[hh]at hvx
    have ih:=bN.loop (k:=k) h1 hl m j (i+1) (seen.set (l.getD i 0).toNat true) (by omega) (by omega) (by simpa using hs) (fun v hv10=>by
     rw[Pu.take_succ hlt 0]
     by_cases e:v=(l.getD i 0).toNat
     ·subst e
      have:Pu.has (l.take i++ [l.getD i 0]) (((l.getD i 0).toNat:Nat):Int)=true:=by rw[Pu.pF,ex];exact Md.2 (.inr (Nt.2 rfl))
      rw[this,Pu.an (by rw[Ml];omega),NN]
     ·have e1:(seen.set (l.getD i 0).toNat true).getD v false=seen.getD v false:=by
       rw[Pu.an (by rw[Ml];omega),List.getElem_set_ne (by omega)]
       exact(Pu.an (by omega) false).symm
      rw[e1,hv v hv10]
      have hne: ¬(v:Int)=l.getD i 0:=by omega
      unfold Pu.has
      rw[List.any_append]
      simp only[List.any_cons,List.any_nil,hne,decide_false,MB])
    rw[Pk,Pu.take_succ hlt 0]at ih
    simp (disch:=omega) only[↓al,sss,if_true,if_false,hlt,c,c',hx0,hx10,hvx,bN.eM,ih]
  ·have c':(l.length:Int)<l.getD i 0:=by omega
   simp (disch:=omega) only[↓al,sss,if_true,if_false,hlt,c,c']
theorem bN.is{k:Nat}{t:Pu.Tab}(hk:4194304+6≤k)(h1:t.1.length≤1048576)(ht:t.2.length≤1048576)(hr: ∀x∈t.2,x.length≤1048576):bN k t=some (Pu.gh t):=by
 obtain⟨k,rfl⟩: ∃k',k=k'+1:=⟨k-1,by omega⟩
 rw[bN.eq,aC.is (by omega) h1 ht hr,bX]
 unfold Pu.gh
 cases hi:Pu.eH t with
 |false=>simp
 |true=>
  have h9:=Pu.yc hi
  have he:=Pu.vE hi
  simp only[↓al,sss,if_true,if_false]
  rw[cu.is (by omega) ht (by omega),bX]
  have h:=bN.loop (k:=k) (l:=t.2.flatten) he h9 t.2.flatten.length k 0 (LH 10 false) (by omega) (by omega) (by simp) (fun v hv=>by
   rw[Pu.an (by simpa using hv),List.getElem_replicate];rfl)
  rw[Ph]at h
  rw[if_pos (by omega),if_pos (by omega),if_pos (by decide)]
  show bN.L0 k k 0 t.2.flatten (LH 10 false)=_
  rw[h,O8,Ny,Pu.CU fun x hx=>(he x hx).1]
theorem cR.loop{k:Nat}{t:Pu.Tab}{x3 x4:LI}{x5:LJ}(ht:t.2.length≤1048576)(hr: ∀x∈t.2,x.length≤1048576): ∀(m j i:Nat),i+m=t.2.length→m<j→
  cR.L0 k j i t.1 t.2 x3 x5 x4 (t.2.take i)=some (x4,t.2)
 |m,0,i,_,hj=>by omega
 |0,j+1,i,hm,_=>by
  rw[cR.aT]
  have e:i=t.2.length:=by omega
  subst e
  simp
 |m+1,j+1,i,hm,hj=>by
  rw[cR.aT]
  have hlt:i<t.2.length:=by omega
  have hx:=hr _ (Ns hlt)
  rw[←Pu.an hlt []]at hx
  have ih:=cR.loop (k:=k) (x3:=x3) (x4:=x4) (x5:=x5) ht hr m j (i+1) (by omega) (by omega)
  rw[Pk,Pu.take_succ hlt []]at ih
  have hl:(t.2.take i++ [t.2.getD i []]).length≤1099511627776:=by simp;omega
  have hx':(t.2.getD i []).length≤1099511627776:=by omega
  simp (disch:=omega) only[↓al,sss,if_true,if_false,hlt,hl,hx',N1,ih]
theorem cR.is{k:Nat}{t:Pu.Tab}(hk:4194304+1≤k)(h1:t.1.length≤1048576)(ht:t.2.length≤1048576)(hr: ∀x∈t.2,x.length≤1048576):cR k t=some t:=by
 obtain⟨k,rfl⟩: ∃k',k=k'+1:=⟨k-1,by omega⟩
 rw[cR.eq]
 have h:=cR.loop (k:=k) (t:=t) (x3:= []) (x4:=t.1) (x5:= []) ht hr t.2.length k 0 (by omega) (by omega)
 rw[Ph,O8]at h
 have hl:t.1.length≤1099511627776:=by omega
 simp only[↓al,sss,if_true,if_false,N1,hl,h]
theorem dk.is{k:Nat}{p:LI}{n:Nat}(hk:4194304+3≤k)(hp:Pu.bK p=true)(hn:n<p.length)(hc:p.getD (n+1) 0<p.getD n 0):dk k p n=some (Pu.aO p n,true):=by
 obtain⟨k,rfl⟩: ∃k',k=k'+1:=⟨k-1,by omega⟩
 have h9:=(Pu.ba hp).2.2.1
 have ha:=cS.is (k:=k) (p:=p) (i:=(n:Int)+1) (by omega)
 have e:(n:Int)+1=((n+1:Nat):Int):=by omega
 rw[e,Pu.cG]at ha
 have hb:=Pu.dR hp n
 rw[Pu.cG]at hb
 have h1: ¬(n:Int)<0:=by omega
 have h2: ¬(p.length:Int)≤n:=by omega
 have h3: ¬p.getD n 0=p.getD (n+1) 0:=by omega
 have h4:n≤p.length:=by omega
 have h5:p.length≤1099511627776:=by omega
 have hset:(p.set n (p.getD n 0-1)).getD n 0=p.getD n 0-1:=by
  rw[Pu.an (by rw[Ml];exact hn),NN]
 have hpt:=aQ.is (k:=k) (p:=p) (by omega) (by omega)
 rw[dk.eq,hpt,bX,hp]
 unfold Pu.aO
 by_cases c:p.getD n 0-1=0
 ·simp (disch:=omega) only[↓al,sss,if_true,if_false,h1,h2,h3,h4,h5,hn,dk.iy,e,ha,N1,Ml,hset,c,cQ,Oc,Ny,if_true]
  rw[c]at hset
  simp (disch:=omega) only[↓al,sss,if_true,if_false,hset,h4,Oc,Ny,NS (Ng n)]
 ·simp (disch:=omega) only[↓al,sss,if_true,if_false,h1,h2,h3,h4,h5,hn,dk.iy,e,ha,N1,Ml,hset,c,if_false]
theorem bR.row{k k1:Nat}{t:Pu.Tab}{r:Nat}{acc:LJ}(hk:3≤k)(hi:Pu.bK t.1=true)(hr:r≤10)(ha:acc.length≤20): ∀(m j i:Nat),i+m=11→m<j→
  bR.L1 k k1 j r i acc ((Pu.mh t r).take i++LH (11-i) 0) t.1 t.2=bR.L0 k k1 ((r+1:Nat):Int) (acc++ [Pu.mh t r]) t.1 t.2
 |m,0,i,_,hj=>by omega
 |0,j+1,i,hm,_=>by
  rw[bR.dX]
  have e:i=11:=by omega
  subst e
  have hn: ¬((11:Nat):Int)≤10:=by omega
  have hl:(acc++ [(Pu.mh t r).take 11++LH (11-11) 0]).length≤1099511627776:=by rw[Mb,Ox];omega
  have et:(Pu.mh t r).take 11++LH (11-11) 0=Pu.mh t r:=by
   rw[O0,List.replicate_zero,MR]
   exact Oz (by rw[Pu.mq];omega)
  rw[et]at hl⊢
  simp (disch:=omega) only[↓al,sss,if_true,if_false,hn,hl,Pl,Pm]
 |m+1,j+1,i,hm,hj=>by
  rw[bR.dX]
  have ih:=bR.row (k:=k) (k1:=k1) (t:=t) (r:=r) (acc:=acc) hk hi hr ha m j (i+1) (by omega) (by omega)
  have hf:=Pu.Fe (xs:=Pu.mh t r) (i:=i) (by rw[Pu.mq];omega) 0 0
  rw[Pu.mq,Pu.wX (by omega)]at hf
  rw[←hf]at ih
  have he:=bS.is (k:=k) (t:=t) (r:=(r:Int)) (c:=(i:Int)) (by omega) hi (by omega) (by omega)
  have h1:(i:Int)≤10:=by omega
  have hlen:((Pu.mh t r).take i++LH (11-i) 0).length=11:=by
   rw[Mb,NJ,Oy,Pu.mq];omega
  have h2:i<11:=by omega
  have e1:((i+1:Nat):Int)=(i:Int)+1:=by omega
  rw[e1]at ih
  rw[show((t.1,t.2):Pu.Tab)=t from rfl]
  simp (disch:=omega) only[↓al,sss,if_true,if_false,h1,he,hlen,h2,ih]
theorem bR.loop{k:Nat}{t:Pu.Tab}(hk:20≤k)(hi:Pu.bK t.1=true): ∀(m j i:Nat),i+m=11→m<j→
  bR.L0 k j i ((Pu.oN t).take i) t.1 t.2=some (Pu.oN t)
 |m,0,i,_,hj=>by omega
 |0,j+1,i,hm,_=>by
  rw[bR.aT]
  have e:i=11:=by omega
  subst e
  have hn: ¬((11:Nat):Int)≤10:=by omega
  have et:(Pu.oN t).take 11=Pu.oN t:=Oz (by rw[Pu.sU];omega)
  rw[et]
  simp only[↓al,sss,if_true,if_false,hn]
 |m+1,j+1,i,hm,hj=>by
  rw[bR.aT]
  have ih:=bR.loop (k:=k) (t:=t) hk hi m j (i+1) (by omega) (by omega)
  rw[Pu.take_succ (by rw[Pu.sU];omega) [],Pu.Ax (by omega)]at ih
  have hr:=bR.row (k:=k) (k1:=j) (t:=t) (r:=i) (acc:=(Pu.oN t).take i) (by omega) hi (by omega) (by rw[NJ,Pu.sU];omega) 11 k 0 (by omega) (by omega)
  rw[ih,O8,N1,Oc,Ph]at hr
  have h1:(i:Int)≤10:=by omega
  have h2:Int.toNat 11=11:=rfl
  have h3:(0:Int)≤11:=by omega
  have h4:(11:Nat)≤1099511627776:=by omega
  simp (disch:=omega) only[↓al,sss,if_true,if_false,h1,h2,h3,h4,O5,hr]
theorem bR.is{k:Nat}{t:Pu.Tab}(hk:30≤k)(hi:Pu.bK t.1=true):bR k t=some (Pu.oN t):=by
 obtain⟨k,rfl⟩: ∃k',k=k'+1:=⟨k-1,by omega⟩
 rw[bR.eq]
 have h:=bR.loop (k:=k) (t:=t) (by omega) hi 11 k 0 (by omega) (by omega)
 rw[Ph,O8]at h
 exact h
theorem bp.row{k k1:Nat}{g R:LJ}{q o x6:LI}{x7:LJ}{x8:LI}{acc:LJ}{r:Nat}(hro:r<o.length)(hrg:r<g.length)(ha:acc.length≤20)(h0:0≤q.getD r 0)(h9:o.getD r 0≤20)(hl:o.getD r 0=q.getD r 0+(R.getD r []).length)
  (hx: ∀x,x<(R.getD r []).length→(q.getD r 0).toNat+x<(g.getD r []).length∧Pu.cel g r ((q.getD r 0).toNat+x)=(R.getD r []).getD x 0) (hr:(r:Int)≤20): ∀(m j x:Nat),x+m=(R.getD r []).length→m<j→
  bp.L1 k k1 j r (((q.getD r 0).toNat+x:Nat):Int) g q o ((R.getD r []).take x) x6 x7 x8 acc=bp.L0 k k1 ((r+1:Nat):Int) g q o x6 x7 x8 (acc++ [R.getD r []])
 |m,0,x,_,hj=>by omega
 |0,j+1,x,hm,_=>by
  rw[bp.dX]
  have e:x=(R.getD r []).length:=by omega
  subst e
  rw[O9]
  have hn: ¬(((q.getD r 0).toNat+(R.getD r []).length:Nat):Int)<o.getD r 0:=by omega
  generalize(q.getD r 0).toNat+(R.getD r []).length=y at*
  have hln:(acc++ [R.getD r []]).length≤1099511627776:=by rw[Mb,Ox];omega
  simp (disch:=omega) only[↓al,sss,if_true,if_false,hro,hn,hln,Pl,Pm]
 |m+1,j+1,x,hm,hj=>by
  rw[bp.dX]
  have hlt:x<(R.getD r []).length:=by omega
  obtain⟨b1,b2⟩:=hx x hlt
  have ih:=bp.row (k:=k) (k1:=k1) (q:=q) (x6:=x6) (x7:=x7) (x8:=x8) hro hrg ha h0 h9 hl hx hr m j (x+1) (by omega) (by omega)
  rw[Pu.take_succ hlt 0,←b2]at ih
  have hc:(((q.getD r 0).toNat+x:Nat):Int)<o.getD r 0:=by omega
  have e1:(((q.getD r 0).toNat+(x+1):Nat):Int)=(((q.getD r 0).toNat+x:Nat):Int)+1:=by omega
  rw[e1]at ih
  have hln:((R.getD r []).take x++ [Pu.cel g r ((q.getD r 0).toNat+x)]).length≤1099511627776:=by
   rw[Mb,NJ,Ox];omega
  have ec:(g.getD r []).getD ((q.getD r 0).toNat+x) 0=Pu.cel g r ((q.getD r 0).toNat+x):=rfl
  generalize hy:(q.getD r 0).toNat+x=y at*
  simp (maxSteps:=10000000) (disch:=omega) only[↓al,sss,if_true,if_false,hro,hrg,hc,b1,ec,hln,ih]
theorem bp.loop{k:Nat}{g R:LJ}{q o x4:LI}{x5:LJ}{x6:LI}(hk:40≤k)(hol:o.length≤9)(hg:o.length≤g.length)(hR:R.length=o.length)
  (h: ∀r,r<o.length→0≤q.getD r 0∧o.getD r 0≤20∧o.getD r 0=q.getD r 0+(R.getD r []).length∧ ∀x,x<(R.getD r []).length→(q.getD r 0).toNat+x<(g.getD r []).length∧Pu.cel g r ((q.getD r 0).toNat+x)=(R.getD r []).getD x 0): ∀(m j i:Nat),i+m=o.length→m<j→
  bp.L0 k j i g q o x4 x5 x6 (R.take i)=some (x6,R)
 |m,0,i,_,hj=>by omega
 |0,j+1,i,hm,_=>by
  rw[bp.aT]
  have e:i=o.length:=by omega
  subst e
  rw[Oz (by omega)]
  simp only[↓al,sss,if_true,if_false,Pf]
 |m+1,j+1,i,hm,hj=>by
  rw[bp.aT]
  have hi:i<o.length:=by omega
  obtain⟨a1,a2,a3,a4⟩:=h i hi
  have ih:=bp.loop (q:=q) (x4:=x4) (x5:=x5) (x6:=x6) hk hol hg hR h m j (i+1) (by omega) (by omega)
  rw[Pu.take_succ (by omega) []]at ih
  have hr:=bp.row (k:=k) (k1:=j) (q:=q) (x6:=x4) (x7:=x5) (x8:=x6) (acc:=R.take i) hi (by omega) (by rw[NJ];omega) a1 a2 a3 a4 (by omega) (R.getD i []).length k 0 (by omega) (by omega)
  rw[ih,O8,NG,show(((q.getD i 0).toNat:Nat):Int)=q.getD i 0 by omega]at hr
  have ha:=cS.is (k:=k) (p:=q) (i:=(i:Int)) (by omega)
  rw[Pu.cG]at ha
  simp (disch:=omega) only[↓al,sss,if_true,if_false,hi,ha,hr]
theorem bp.is{k:Nat}{g R:LJ}{q o:LI}(hk:50≤k)(hq:q.length≤9)(hol:o.length≤9)(hg:o.length≤g.length)(hR:R.length=o.length)
  (h: ∀r,r<o.length→0≤q.getD r 0∧o.getD r 0≤20∧o.getD r 0=q.getD r 0+(R.getD r []).length∧ ∀x,x<(R.getD r []).length→(q.getD r 0).toNat+x<(g.getD r []).length∧Pu.cel g r ((q.getD r 0).toNat+x)=(R.getD r []).getD x 0):
  bp k g q o=some (q,R):=by
 obtain⟨k,rfl⟩: ∃k',k=k'+1:=⟨k-1,by omega⟩
 rw[bp.eq]
 have hl:=bp.loop (k:=k) (q:=q) (x4:= []) (x5:= []) (x6:=q) (by omega) hol hg hR h o.length k 0 (by omega) (by omega)
 rw[Ph,O8]at hl
 have hln:q.length≤1099511627776:=by omega
 simp only[↓al,sss,if_true,if_false,N1,hln,hl]
theorem aX.loop{k:Nat}{Q q x4 x6 x7:LI}{x5:LJ}(hk:4≤k): ∀(m j:Nat) (s g:LJ) (i c:Nat),Pu.Sq s g i c→Pu.Sl Q g i c→g.length≤9→(∀r,(g.getD r []).length≤9)→m<j→
  Pu.cel (Pu.cJ m g i c).1 (Pu.cJ m g i c).2.1 ((Pu.cJ m g i c).2.2+1)=0→Pu.cel (Pu.cJ m g i c).1 ((Pu.cJ m g i c).2.1+1) (Pu.cJ m g i c).2.2=0→
  ∃s',Pu.Sq s' (Pu.cJ m g i c).1 (Pu.cJ m g i c).2.1 (Pu.cJ m g i c).2.2∧aX.L0 k j i c q s x4 x5 x6 x7=aX.J2 k (Pu.cJ m g i c).2.1 q s' x4 x5 x6 x7
 |m,0,s,g,i,c,_,_,_,_,hj,_,_=>by omega
 |0,j+1,s,g,i,c,hs,hg,hl,hw,_,s1,s2=>by
  have hi:=hg.hi
  have hc:=hg.hc
  have hwi:=hw i
  refine⟨s,hs,?_⟩
  have q1:=hs.row i (by omega)
  have q2:=hs.row (i+1) (by omega)
  have q0:=hs.len
  have r1:(s.getD i []).getD (c+1) 0=0:=(hs.at_ i (c+1) (by omega) (by omega) (by omega)).trans s1
  have r2:(s.getD (i+1) []).getD c 0=0:=(hs.at_ (i+1) c (by omega) (by omega) (by omega)).trans s2
  have e1:(c:Int)+1=((c+1:Nat):Int):=by omega
  have e2:(i:Int)+1=((i+1:Nat):Int):=by omega
  have g1:i<11:=by omega
  have g2:c+1<11:=by omega
  have g3:i+1<11:=by omega
  have g4:c<11:=by omega
  rw[aX.aT]
  simp (maxSteps:=10000000) (disch:=omega) only[↓al,sss,if_true,if_false,e1,e2,q0,q1,q2,g1,g2,g3,g4,r1,r2,LA,Pu.cJ]
 |m+1,j+1,s,g,i,c,hs,hg,hl,hw,hj,s1,s2=>by
  have hi:=hg.hi
  have hc:=hg.hc
  have hwi:=hw i
  have q1:=hs.row i (by omega)
  have q2:=hs.row (i+1) (by omega)
  have q0:=hs.len
  have r1:(s.getD i []).getD (c+1) 0=Pu.cel g i (c+1):=hs.at_ i (c+1) (by omega) (by omega) (by omega)
  have r2:(s.getD (i+1) []).getD c 0=Pu.cel g (i+1) c:=hs.at_ (i+1) c (by omega) (by omega) (by omega)
  have p1:=hg.pos i (c+1)
  have p2:=hg.pos (i+1) c
  have e1:(c:Int)+1=((c+1:Nat):Int):=by omega
  have e2:(i:Int)+1=((i+1:Nat):Int):=by omega
  have g1:i<11:=by omega
  have g2:c+1<11:=by omega
  have g3:i+1<11:=by omega
  have g4:c<11:=by omega
  have es: ∀v,s.set i ((s.getD i []).set c v)=Pu.fp s i c v:=fun _=>rfl
  have es1: ∀v,(Pu.fp s i c v).set (i+1) (((Pu.fp s i c v).getD (i+1) []).set c 0)=Pu.fp (Pu.fp s i c v) (i+1) c 0:=fun _=>rfl
  have es2: ∀v,(Pu.fp s i c v).set i (((Pu.fp s i c v).getD i []).set (c+1) 0)=Pu.fp (Pu.fp s i c v) i (c+1) 0:=fun _=>rfl
  have z0: ∀v,(Pu.fp s i c v).length=11:=fun v=>by rw[Pu.dQ];exact q0
  have z1: ∀v,((Pu.fp s i c v).getD i []).length=11:=fun v=>by rw[Pu.bG];exact q1
  have z2: ∀v,((Pu.fp s i c v).getD (i+1) []).length=11:=fun v=>by rw[Pu.bG];exact q2
  unfold Pu.cJ at s1 s2⊢
  by_cases c1:Pu.cel g i (c+1)=0∧Pu.cel g (i+1) c=0
  ·rw[if_pos c1]at s1 s2⊢
   refine⟨s,hs,?_⟩
   rw[aX.aT]
   simp (maxSteps:=10000000) (disch:=omega) only[↓al,sss,if_true,if_false,e1,e2,q0,q1,q2,g1,g2,g3,g4,r1,r2,c1.1,c1.2,LA]
  ·rw[if_neg c1]at s1 s2⊢
   by_cases c2:Pu.cel g i (c+1)=0∨(0<Pu.cel g (i+1) c∧Pu.cel g (i+1) c≤Pu.cel g i (c+1))
   ·rw[if_pos c2]at s1 s2⊢
    have hb:Pu.cel g (i+1) c≠0:=fun e=>by
     rcases c2 with c2|c2
     ·exact c1 ⟨c2,e⟩
     ·omega
    have hb':0<Pu.cel g (i+1) c:=by omega
    obtain⟨s',a1,a2⟩:=aX.loop (Q:=Q) (q:=q) (x4:=x4) (x6:=x6) (x7:=x7) (x5:=x5) hk m j _ _ (i+1) c (hs.step (i':=i+1) (c':=c) hi hc g1 g4 g3 g4 (by omega) (Pu.cel g (i+1) c)) (hg.down hb c2) (by rw[Pu.dQ];exact hl) (fun r=>by rw[Pu.bG];exact hw r) (by omega) s1 s2
    refine⟨s',a1,?_⟩
    rw[←a2,aX.aT,aX.eM]
    by_cases c3:Pu.cel g i (c+1)=0
    ·simp (maxSteps:=10000000) (disch:=omega) only[↓al,sss,if_true,if_false,e1,e2,q0,q1,q2,g1,g2,g3,g4,r1,r2,c3,hb',LA,es,aX.lA,z0,z1,z2,es1]
    ·have c4:Pu.cel g (i+1) c≤Pu.cel g i (c+1):=(c2.resolve_left c3).2
     have c5:0<Pu.cel g i (c+1):=by omega
     simp (maxSteps:=10000000) (disch:=omega) only[↓al,sss,if_true,if_false,e1,e2,q0,q1,q2,g1,g2,g3,g4,r1,r2,c3,c4,c5,hb',es,aX.lA,z0,z1,z2,es1]
   ·rw[if_neg c2]at s1 s2⊢
    have c3: ¬Pu.cel g i (c+1)=0:=fun e=>c2 (.inl e)
    have c5:0<Pu.cel g i (c+1):=by omega
    obtain⟨s',a1,a2⟩:=aX.loop (Q:=Q) (q:=q) (x4:=x4) (x6:=x6) (x7:=x7) (x5:=x5) hk m j _ _ i (c+1) (hs.step (i':=i) (c':=c+1) hi hc g1 g4 g1 g2 (by omega) (Pu.cel g i (c+1))) (hg.right c3 (fun e=>c2 (.inr e))) (by rw[Pu.dQ];exact hl) (fun r=>by rw[Pu.bG];exact hw r) (by omega) s1 s2
    refine⟨s',a1,?_⟩
    rw[←a2,aX.aT,aX.eM]
    by_cases c4:0<Pu.cel g (i+1) c
    ·have c6: ¬Pu.cel g (i+1) c≤Pu.cel g i (c+1):=fun e=>c2 (.inr ⟨c4,e⟩)
     simp (maxSteps:=10000000) (disch:=omega) only[↓al,sss,if_true,if_false,e1,e2,q0,q1,q2,g1,g2,g3,g4,r1,r2,c3,c4,c5,c6,es,aX.lA,z0,z1,z2,es2]
    ·simp (maxSteps:=10000000) (disch:=omega) only[↓al,sss,if_true,if_false,e1,e2,q0,q1,q2,g1,g2,g3,g4,r1,r2,c3,c4,c5,es,aX.lA,z0,z1,z2,es2]
theorem aX.is{k:Nat}{t:Pu.Tab}{n:Nat}(hk:4194304+8≤k)(h:Pu.eH t=true)(hn:n<t.1.length)(hc:t.1.getD (n+1) 0<t.1.getD n 0):aX k t n=some ((Pu.g8 t n).1,((Pu.g8 t n).2:Int)):=by
 obtain⟨k,rfl⟩: ∃k',k=k'+1:=⟨k-1,by omega⟩
 obtain⟨z1,z2⟩:=Pu.zw h
 obtain⟨hp,ho,hl,_⟩:=Pu.jg h
 have hs:Pu.shapeOf t=((Pu.outer t,t.1),true):=by unfold Pu.shapeOf;rw[if_pos (Pu.lb h)]
 have hsh:=bV.is (k:=k) (t:=t) (by omega) (by omega) (by have:=z2.1;omega) (fun r hr=>by have:=z2.2 r hr;omega)
 rw[hs]at hsh
 have hrb:=dk.is (k:=k) (p:=t.1) (n:=n) (by omega) hp hn hc
 have hgr:=bR.is (k:=k) (t:=t) (by omega) hp
 have hb:=Pu.dR hp n
 rw[Pu.cG]at hb
 have hpos:1≤t.1.getD n 0:=by
  rw[Pu.an hn]
  exact((Pu.ba hp).1 _ (Ns hn)).1
 obtain⟨E,s1,s2⟩:=Pu.Gy h hn hc
 have hst:=Pu.sH h hn hc
 obtain⟨s',a1,a2⟩:=aX.loop (k:=k) (q:=Pu.aO t.1 n) (x4:= []) (x6:=Pu.outer t) (x7:=t.1) (x5:= []) (by omega) 18 k (Pu.oN t) (Pu.dv t) n (t.1.getD n 0-1).toNat (Pu.Gw h hn) hst (by rw[Pu.jQ];exact z2.1) (fun r=>by
  have a:=Pu.lq hp r
  have b:=(Pu.dR ho r).2
  rw[Pu.cG]at b
  omega) (by omega) s1 s2
 rw[show(((t.1.getD n 0-1).toNat:Nat):Int)=t.1.getD n 0-1 by omega]at a2
 have hS:Pu.cJ 18 (Pu.dv t) n (t.1.getD n 0-1).toNat=Pu.dn t n:=rfl
 rw[hS]at a1 a2
 rw[aX.eq,show((t.1,t.2):Pu.Tab)=t from rfl]
 unfold Pu.g8
 generalize Pu.dn t n=S at*
 obtain⟨g,i,c⟩:=S
 simp only at E a1 a2⊢
 have ho9:=(Pu.ba ho).2.2.1
 have hdl:=Pu.jv (Pu.outer t) i
 have hql:=Pu.jv t.1 n
 have hrb2:=dk.is (k:=k) (p:=Pu.outer t) (n:=i) (by omega) ho E.hi E.cor
 have htb:=bp.is (k:=k) (g:=s') (R:=Pu.dt (Pu.aO t.1 n) (Pu.mS g i c) (Pu.aO (Pu.outer t) i).length) (q:=Pu.aO t.1 n) (o:=Pu.aO (Pu.outer t) i) (by omega) (by omega) (by omega) (by rw[a1.len];omega) (by rw[Pu.fw]) (fun r hr=>by
  have hq:=E.sl.q0 r
  have ho20:(Pu.aO (Pu.outer t) i).getD r 0≤20:=by
   have a:=E.cutl r
   have b:=E.rows.at r
   omega
  refine⟨hq,ho20,E.Aq hr,fun x hx=> ?_⟩
  obtain⟨c1,c2,c3,c4⟩:=E.cell hr hx
  have b:=E.rows.at r
  have a:=E.cutl r
  have hx11:((Pu.aO t.1 n).getD r 0).toNat+x<11:=by omega
  have hr11:r<11:=by omega
  refine⟨by rw[a1.row r hr11];exact hx11,?_⟩
  rw[c4]
  exact a1.at_ r _ hr11 hx11 c3)
 rw[aX.kC,hrb2,bX,htb,bX]at a2
 simp (disch:=omega) only[↓al,sss,if_true,if_false,hsh,hrb,hgr,hn,a2]
theorem jy.is{k:Nat}{t:Pu.Tab}(hk:4194304+30≤k)(h:Pu.bj t=true)(h0:0<t.2.length):jy k t=some ((Pu.cx t).1,((Pu.cx t).2:Int)):=by
 obtain⟨k,rfl⟩: ∃k',k=k'+1:=⟨k-1,by omega⟩
 have hz:=Pu.gY h
 have hi1:=Pu.eB h
 have hr:=Pu.kp h h0
 have hcp:=cR.is (k:=k) (t:=t) (by omega) (by rw[hi1];simp) (by have:=hz.1;omega) (fun r hr=>by have:=hz.2 r hr;omega)
 have hs:=aX.is (k:=k) (t:=Pu.jj t) (n:=0) (by omega) (Pu.tT h h0) (by simp[Pu.jj]) (by simp[Pu.jj])
 rw[Ph]at hs
 have e2:((t.2.getD 0 []).drop 1).take ((t.2.getD 0 []).length-1)=(t.2.getD 0 []).drop 1:=Oz (by rw[NK];omega)
 rw[jy.eq,show((t.1,t.2):Pu.Tab)=t from rfl,hcp,bX]
 have hg:1≤(t.2.getD 0 []).length:=hr
 simp only[↓al,sss,if_true,if_false,cQ,Ls,Int.toNat_one,h0,hg,e2,show(0:Int)≤0 from O5 _,show(0:Int)≤1 by omega]
 rw[show((1:: [],t.2.set 0 ((t.2.getD 0 []).drop 1)):Pu.Tab)=Pu.jj t from rfl,hs]
 rfl
theorem aZ.loop{k:Nat}{x1:LI}{x2:LJ}{p:LI}(hk:4194304+40≤k): ∀(m j:Nat) (o:LJ) (t:Pu.Tab),Pu.bj t=true→t.2.flatten.length=m→m<j→Pu.dG 9 9 o→t.2.length≤o.length→(∀r,(t.2.getD r []).length≤(o.getD r []).length)→
  aZ.L1 k j m x1 x2 p o t.1 t.2=some ((p,Pu.ku m o t),true)
 |m,0,o,t,_,_,hj,_,_,_=>by omega
 |0,j+1,o,t,_,_,_,_,_,_=>by
  rw[aZ.dX]
  have hn: ¬(1:Int)≤((0:Nat):Int):=by omega
  simp only[↓al,sss,if_true,if_false,hn,Pu.ku]
 |m+1,j+1,o,t,h,hm,hj,ho,hl,hr=>by
  have h0:=Pu.xw (t:=t) (by omega)
  have hs:=Pu.xR h h0
  have htk:=jy.is (k:=k) (by omega) h h0
  obtain⟨s1,s2,s3,s4⟩:=Pu.oP h h0
  have hrow:=Pu.uq h h0
  have hrp:=Pu.kp h s3
  have ho9:=ho.at (Pu.cx t).2
  have hrr:=hr (Pu.cx t).2
  have hlen:(Pu.cx t).1.2.length≤t.2.length:=by
   have a:=congrArg M9 s2
   rw[Pu.cd]at a
   have:=Pu.jv (Pu.outer t) (Pu.cx t).2
   rw[Pu.cd]at this
   omega
  have ih:=aZ.loop (x1:=x1) (x2:=x2) (p:=p) hk m j (Pu.fp o (Pu.cx t).2 ((t.2.getD (Pu.cx t).2 []).length-1) ((m+1:Nat):Int)) (Pu.cx t).1 s1 (by omega) (by omega)
   (by unfold Pu.fp;exact ho.set _ (by rw[Ml];exact ho9)) (by rw[Pu.dQ];omega) (fun r=>by
    rw[Pu.bG,hrow]
    have:=hr r
    split<;>omega)
  unfold Pu.ku
  rw[aZ.dX,show((t.1,t.2):Pu.Tab)=t from rfl,htk]
  have g1:(1:Int)≤((m+1:Nat):Int):=by omega
  have g2:(Pu.cx t).2<o.length:=by omega
  have e1:((t.2.getD (Pu.cx t).2 []).length:Int)-1=(((t.2.getD (Pu.cx t).2 []).length-1:Nat):Int):=by omega
  have g3:(t.2.getD (Pu.cx t).2 []).length-1<(o.getD (Pu.cx t).2 []).length:=by omega
  have e2:((m+1:Nat):Int)-1=(m:Int):=by omega
  have hb1:m≤9:=by have:=Pu.iu h;omega
  have hb2:=(Pu.gY h).at (Pu.cx t).2
  rw[bX]
  simp (disch:=omega) only[↓al,sss,if_true,if_false,g1,g2,s3,e1,g3,e2,w64]
  unfold Pu.fp at ih⊢
  rw[ih]
theorem aZ.is{k:Nat}{t:Pu.Tab}(hk:4194304+50≤k)(h1:t.1.length≤1048576)(ht:t.2.length≤1048576)(hr: ∀x∈t.2,x.length≤1048576):aZ k t=some (Pu.jr t):=by
 obtain⟨k,rfl⟩: ∃k',k=k'+1:=⟨k-1,by omega⟩
 rw[aZ.eq,show((t.1,t.2):Pu.Tab)=t from rfl,ib.is (by omega) h1 ht hr,bN.is (by omega) h1 ht hr,bX,bX]
 unfold Pu.jr
 cases hp:Pu.bj t with
 |false=>simp
 |true=>
  cases hb:Pu.gh t with
  |false=>simp
  |true=>
   have h9:=Pu.iu hp
   have hcp:=cR.is (k:=k) (t:=t) (by omega) h1 ht hr
   have hnum:=cu.is (k:=k) (t:=t) (by omega) ht (by omega)
   have hl:=aZ.loop (k:=k) (x1:= []) (x2:= []) (p:=t.1) (by omega) t.2.flatten.length k t.2 t hp rfl (by omega) (Pu.gY hp) (Ng _) (fun _=>Ng _)
   simp only[↓al,sss,if_true,if_false,aZ.iy,hcp,hnum,hl,Prod.eta,and_self]
theorem fB.ok{k:Nat}{m i h:Int}{b:LI}(hk:4194304+14≤k)(hb:b.length≤1048576)(hi:0≤i)(hi':i≤b.length)(hm:1≤m)(hm':m≤9):
  Pu.Ok (fB k m i h b) fun r=>gE 9 9 9 r.1∧0≤r.2.2.1∧r.2.2.1≤b.length:=by
 obtain⟨k,rfl⟩: ∃k',k=k'+1:=⟨k-1,by omega⟩
 rw[fB.eq]
 obtain⟨p,i1,h1,e1,hp,a4,a5⟩:=ch.is (k:=k) (m:=m) (h:=h) (b:=b) (by omega) hb hi hi' hm hm'
 refine Pu.Ok.iM e1 ?_
 dsimp only
 refine Pu.Ok.bnd (aP.ok (by omega) hb a4 a5 hp ⟨by simp,fun x hx=>by cases hx⟩) ?_
 rintro⟨⟨q,rs⟩,_,i2,h2⟩ ⟨e2,hr,b4,b5⟩
 simp only at e2
 subst e2
 have ht:gE 9 9 9 (([],rs):Pu.Tab):=⟨by simp,hr⟩
 obtain⟨c1,c2,c3⟩:=ht.tab (by omega) (by omega) (by omega)
 dsimp only
 refine Pu.Ok.iM (aC.is (by omega) c1 c2 c3) ?_
 refine Pu.Ok.tn (fun _=>Pu.Ok.ret ⟨⟨by simp,by simp,fun x hx=> ?_⟩,b4,b5⟩) (fun _=>Pu.Ok.ret ⟨ht,b4,b5⟩)
 simp only[MH,M1,or_false]at hx
 rcases hx with rfl|rfl<;>simp
theorem ar.vQ{k:Nat}{b x3:LI}{x4:LJ}(hk:4194304+20≤k)(hb:b.length≤1048576): ∀(m j i:Nat) (h:Int),i+m=b.length→m<j→Pu.Ok (ar.L0 k j h i 0 b x3 x4) fun r=>Pu.gE 10 9 10 r.1:=by
 have rest: ∀{i h:Int} {q:LI} {rs:LJ},0≤i→i≤b.length→Pu.gE 10 9 10 (q,rs)→Pu.Ok (ar.J3 k i h x3 x4 b q rs) fun r=>Pu.gE 10 9 10 r.1:=fun{i h q rs} hi hi' ht=>by
  rw[ar.lA]
  obtain⟨r1,i1,h1,e1,_⟩:=cr.is (k:=HAdd.hAdd k 1) (l:= [5,6,9,3,0,10,9]) (i:=i) (h:=h) (b:=b) (by show _≤k+1;omega) hb hi hi' (by simp) (by simp)
  exact Pu.Ok.iM e1 (Pu.Ok.ret ht)
 have fin: ∀h,Pu.Ok (ar.J2 k h 0 b x3 x4) fun r=>Pu.gE 10 9 10 r.1:=fun h=>by
  rw[ar.kC]
  refine Pu.Ok.bnd (fB.ok (by show _≤k+1;omega) hb (by omega) (by omega) (by omega) (by omega)) ?_
  rintro⟨⟨q,rs⟩,_,i1,h1⟩ ⟨⟨hq,hr⟩,a4,a5⟩
  dsimp only at*
  obtain⟨r2,i2,h2,e2,b4,b5⟩:=bP.is (k:=HAdd.hAdd k 1) (n:=8) (h:=h1) (b:=b) (by show _≤k+1;omega) hb a4 a5 (by omega)
  refine Pu.Ok.iM e2 ?_
  dsimp only
  refine Pu.Ok.tb (fun _=> ?_) (fun _=> ?_)
  ·refine Pu.Ok.bnd (eN.ok (by show _≤k+1;omega) hb b4 b5 (by omega) (by omega)) ?_
   rintro⟨⟨q,rs⟩,_,i1,h1⟩ ⟨ht,a4,a5⟩
   exact rest a4 a5 ht
  ·exact rest b4 b5 ⟨by dsimp only;omega,hr.mono (by omega) (by omega)⟩
 intro m
 induction m with
 |zero=>
  intro j i h hi hj
  obtain⟨j,rfl⟩: ∃j',j=j'+1:=⟨j-1,by omega⟩
  rw[ar.aT]
  simp only[g7,gF,eC,eQ,eU,cM,dg,dB,fM,ep,dI,dj,di,eV,cn,dA,dS,eZ,gA,gO,eR,eT,dw,dx,dh,cQ,N1,Mp]
  exact Pu.Ok.no (by omega) (fin h)
 |succ m ih=>
  intro j i h hi hj
  obtain⟨j,rfl⟩: ∃j',j=j'+1:=⟨j-1,by omega⟩
  have hw:IntKind.i64.wrap ((i:Int)+1)=((i+1:Nat):Int):=w64 (by omega) (by omega)
  rw[ar.aT]
  simp only[g7,gF,eC,eQ,eU,cM,dg,dB,fM,ep,dI,dj,di,eV,cn,dA,dS,eZ,gA,gO,eR,eT,dw,dx,dh,cQ,N1,Mp]
  refine Pu.Ok.g (by omega) (Pu.Ok.t (fun _=> ?_) (fun _=>fin h))
  rw[ar.eM]
  simp only[g7,gF,eC,eQ,eU,cM,dg,dB,fM,ep,dI,dj,di,eV,cn,dA,dS,eZ,gA,gO,eR,eT,dw,dx,dh,cQ,N1,Mp]
  rw[hw]
  refine Pu.Ok.g (by omega) (Pu.Ok.g (by omega) (Pu.Ok.g (by omega) ?_))
  exact ih j (i+1) _ (by omega) (by omega)
theorem ar.ok{k:Nat}{b:LI}(hk:4194304+30≤k)(hb:b.length≤1048576):Pu.Ok (ar k b) fun r=>Pu.gE 10 9 10 r.1:=by
 obtain⟨k,rfl⟩: ∃k',k=k'+2:=⟨k-2,by omega⟩
 rw[ar.eq]
 exact ar.vQ (by omega) hb b.length k 0 _ (by omega) (by omega)
theorem gV.is{k:Nat}{x:Int}(hk:2≤k):gV k x=some (!Pu.within x 1 9,()):=by
 obtain⟨k,rfl⟩: ∃k',k=k'+1:=⟨k-1,by omega⟩
 rw[gV.eq,de.is (by omega)]
 rfl
theorem aG.is{k:Nat}{r:LI}(hk:4194304+1≤k)(hr:r.length≤1048577):aG k r=some (Pu.yW (fun y=> !Pu.within y 1 9) r,()):=by
 obtain⟨k,rfl⟩: ∃k',k=k'+1:=⟨k-1,by omega⟩
 rw[aG.eq]
 have h:=Pu.tv r 0 (fun y=> !Pu.within y 1 9) (fun j i=>aG.L0 k j r.length i r) (fun i=>some ((i:Int),())) (some (-1,()))
  (fun j i hi=>by
   rw[aG.aT,gV.is (by omega)]
   cases c:Pu.within (r.getD i 0) 1 9<;>simp (disch:=omega) only[↓al,sss,if_true,if_false,hi,c,Pl,Pm])
  (fun j=>by
   rw[aG.aT]
   simp only[↓al,sss,if_true,if_false,Pf]) r.length k 0 (by omega) (by omega) (by omega)
 simp only[Ph]at h
 simp only[dg,cM]
 rw[h]
 unfold Pu.yW
 split<;>rfl
theorem bJ.is{k:Nat}{r:LI}(hk:4194304+2≤k)(hr:r.length≤1048577):bJ k r=some (r.any fun y=> !Pu.within y 1 9,()):=by
 obtain⟨k,rfl⟩: ∃k',k=k'+1:=⟨k-1,by omega⟩
 rw[bJ.eq,aG.is (by omega) hr,bX,gF,Pu.wG]
theorem gD.is{k:Nat}{w:LI}(hk:4194304+3≤k)(hw:w.length≤1048576):gD k w=some (Pu.isWord w):=by
 obtain⟨k,rfl⟩: ∃k',k=k'+1:=⟨k-1,by omega⟩
 rw[gD.eq,bJ.is (by omega) (by omega),bX]
 unfold Pu.isWord
 have e:(!w.any fun y=> !Pu.within y 1 9)=w.all fun n=>Pu.within n 1 9:=by rw[List.all_eq_not_any_not]
 by_cases c:w.length≤9
 ·have c':(w.length:Int)≤9:=by omega
  simp only[↓al,sss,if_true,if_false,c,c',e]
 ·have c': ¬(w.length:Int)≤9:=by omega
  simp only[↓al,sss,if_true,if_false,c,c']
theorem cW.is{k:Nat}{n x:Int}(hk:1≤k):cW k n x=some (decide (x<n),x):=by
 obtain⟨k,rfl⟩: ∃k',k=k'+1:=⟨k-1,by omega⟩
 rw[cW.eq]
 rfl
theorem au.is{k:Nat}{r:LI}{x:Int}(hk:4194304+1≤k)(hr:r.length≤1048577):au k x r=some (Pu.yW (fun y=>decide (x<y)) r,x):=by
 obtain⟨k,rfl⟩: ∃k',k=k'+1:=⟨k-1,by omega⟩
 rw[au.eq]
 have h:=Pu.tv r 0 (fun y=>decide (x<y)) (fun j i=>au.L0 k j r.length i r x) (fun i=>some ((i:Int),x)) (some (-1,x))
  (fun j i hi=>by
   rw[au.aT]
   by_cases c:x<r.getD i 0
   ·simp (disch:=omega) only[↓al,sss,if_true,if_false,hi,cW.is,c]
   ·simp (disch:=omega) only[↓al,sss,if_true,if_false,hi,cW.is,c,Pl,Pm])
  (fun j=>by
   rw[au.aT]
   simp only[↓al,sss,if_true,if_false,Pf]) r.length k 0 (by omega) (by omega) (by omega)
 simp only[Ph]at h
 simp only[dg,cM]
 rw[h]
 unfold Pu.yW
 split<;>rfl
theorem bh.is{k:Nat}{r:LI}{x:Int}(hk:4194304+2≤k)(hr:r.length≤1048577):bh k x r=some (r.any fun y=>decide (x<y),x):=by
 obtain⟨k,rfl⟩: ∃k',k=k'+1:=⟨k-1,by omega⟩
 rw[bh.eq,au.is (by omega) hr,bX,gF,Pu.wG]
theorem bo.loop{k:Nat}{w:LI}{n:Int}(hl:w.length≤9)(hw: ∀x∈w,1≤x∧x≤9)(hn:1≤n∧n≤9)(hx: ∀x∈w,x≤n): ∀(m j i:Nat),i+m=w.length→m<j→bo.L1 k j (w.length:Nat) i n ((w.take i).map fun x=>n+1-x) w=some (w.map (fun x=>n+1-x),true)
 |m,0,i,_,hj=>by omega
 |0,j+1,i,hi,_=>by
  rw[bo.dX,Oz (by omega)]
  exact tX (show¬(i:Int)<(w.length:Nat) by omega) rfl
 |m+1,j+1,i,hi,hj=>by
  have hlt:i<w.length:=by omega
  have hm:w.getD i 0∈w:=by rw[Pu.an hlt];exact Ns hlt
  have hx1:=hw _ hm
  have i0:=Pj i
  have hw1:IntKind.i64.wrap ((i:Int)+1)=((i+1:Nat):Int):=by rw[w64 (by omega) (by omega)];omega
  have hw2:IntKind.i64.wrap (n+1)=n+1:=w64 (by omega) (by omega)
  have hw3:IntKind.i64.wrap (n+1-w.getD i 0)=n+1-w.getD i 0:=w64 (by omega) (by omega)
  have hap:(((w.take i).map fun x=>n+1-x)++ [n+1-w.getD i 0]).length≤1099511627776:=by rw[Mb,Ox,N2,NJ];omega
  have ih:=bo.loop (k:=k) hl hw hn hx m j (i+1) (by omega) (by omega)
  rw[Pu.take_succ hlt 0,NP]at ih
  rw[bo.dX,←ih]
  simp only[dB,cM,fM,dA,dS,cn,dI,O4,hw1,hw2,hw3]
  exact tG (show(i:Int)<(w.length:Nat) by omega) (tG i0 (tG hlt (tG hlt (tG hap rfl))))
theorem bo.is{k:Nat}{w:LI}{n:Int}(hk:4194304+20≤k)(hw:w.length≤1048576):bo k w n=some (Pu.jf w n):=by
 obtain⟨k,rfl⟩: ∃k',k=k'+1:=⟨k-1,by omega⟩
 rw[bo.eq]
 refine bE (gD.is (by omega) hw) ?_
 unfold Pu.jf Pu.lR
 cases h:Pu.isWord w with
 |false=>exact tM rfl
 |true=>
  refine tN (bE (de.is (by omega)) ?_)
  cases h2:Pu.within n 1 9 with
  |false=>exact tM rfl
  |true=>
   have hn:=Pu.within_iff.1 h2
   obtain⟨h9,hx⟩:=Pu.fX h
   refine tN (bE (bh.is (by omega) (by omega)) ?_)
   cases h3:w.any fun y=>decide (n<y)with
   |true=>
    obtain⟨y,y1,y2⟩:=List.any_eq_true.1 h3
    have y2:=of_decide_eq_true y2
    rw[if_neg (fun h=>by
     simp only[Nf,Nw,decide_eq_true_eq]at h
     have:=h y y1
     omega)]
    exact tY rfl
   |false=>
    have hall: ∀x∈w,x≤n:=fun x hm=>by
     have:=List.any_eq_false.1 h3 x hm
     simp only[decide_eq_true_eq]at this
     omega
    have e:=bo.loop (k:=k) h9 hx hn hall w.length k 0 (by omega) (by omega)
    rw[Ph,O8,Pd]at e
    rw[if_pos (by simp only[Nf,Nw,decide_eq_true_eq];exact hall)]
    refine tF ?_
    rw[bo.iy]
    exact e
theorem bk.loop{k:Nat}: ∀(m j i n:Nat) (l:LI),n≤i+2*m→m<j→n≤l.length→l.length≤1000→i≤n→ ∃l',bk.L0 k j i ((n:Int)-1) l=some ((),l')∧l'.length=l.length∧ ∀c,l'.getD c 0=if i≤c∧c<n then l.getD (i+n-1-c) 0 else l.getD c 0
 |m,0,i,n,l,_,hj,_,_,_=>by omega
 |m,j+1,i,n,l,hm,hj,hn,hl,hin=>by
  rw[bk.aT]
  by_cases c:i+1<n
  ·have hc:(i:Int)<(n:Int)-1:=by omega
   obtain⟨e,he⟩: ∃e:Nat,n=e+1:=⟨n-1,by omega⟩
   subst he
   have e1:((e+1:Nat):Int)-1=(e:Int):=by omega
   rw[e1]at hc⊢
   have hi:i<l.length:=by omega
   have hel:e<l.length:=by omega
   have ws:IntKind.i64.wrap ((i:Int)+1)=((i+1:Nat):Int):=by rw[w64 (by omega) (by omega)];omega
   have we:IntKind.i64.wrap ((e:Int)-1)=(e:Int)-1:=w64 (by omega) (by omega)
   have hel2:e<(l.set i (l.getD e 0)).length:=by rw[Ml];exact hel
   obtain⟨m,rfl⟩: ∃m',m=m'+1:=⟨m-1,by omega⟩
   obtain⟨l',q1,q2,q3⟩:=bk.loop (k:=k) m j (i+1) e ((l.set i (l.getD e 0)).set e (l.getD i 0)) (by omega) (by omega) (by rw[Ml,Ml];omega) (by rw[Ml,Ml];exact hl) (by omega)
   refine⟨l',?_,by rw[q2,Ml,Ml],fun c=> ?_⟩
   ·simp only[dB,cM,fM,ep,dA,dS,cn,O4,ws,we]
    exact tG hc (tG (Pj e) (tG hel (tG hel (tG (Pj i) (tG hi (tG hi (tG (Pj i) (tG hi (tG hi (tG (Pj e) (tG hel2 (tG hel2 q1))))))))))))
   ·have hget: ∀c,((l.set i (l.getD e 0)).set e (l.getD i 0)).getD c 0=if c=e then l.getD i 0 else if c=i then l.getD e 0 else l.getD c 0:=by
     intro c
     by_cases a1:c=e
     ·subst a1;rw[if_pos rfl,Pu.an (by rw[Ml];exact hel2),NN]
     ·rw[if_neg a1,Pu.getD_set_ne (Ne.symm a1)]
      by_cases a2:c=i
      ·subst a2;rw[if_pos rfl,Pu.an (by rw[Ml];exact hi),NN]
      ·rw[if_neg a2,Pu.getD_set_ne (Ne.symm a2)]
    rw[q3]
    by_cases d1:i+1≤c∧c<e
    ·rw[if_pos d1,if_pos (by omega),hget,if_neg (by omega),if_neg (by omega)]
     congr 1;omega
    ·rw[if_neg d1,hget]
     by_cases d2:c=e
     ·subst d2;rw[if_pos rfl,if_pos (by omega)];congr 1;omega
     ·rw[if_neg d2]
      by_cases d3:c=i
      ·subst d3;rw[if_pos rfl,if_pos (by omega)];congr 1;omega
      ·rw[if_neg d3,if_neg (by omega)]
  ·have hc: ¬(i:Int)<(n:Int)-1:=by omega
   refine⟨l,tX hc rfl,rfl,fun c=> ?_⟩
   split
   ·congr 1;omega
   ·rfl
theorem bk.is{k:Nat}{l:LI}(hk:4194304+1≤k)(hl:l.length≤1000):bk k l=some ((),l.reverse):=by
 obtain⟨k,rfl⟩: ∃k',k=k'+1:=⟨k-1,by omega⟩
 obtain⟨l',q1,q2,q3⟩:=bk.loop (k:=k) l.length k 0 l.length l (by omega) (by omega) (Ng _) hl (NF _)
 have e:l'=l.reverse:=by
  refine List.ext_getElem (by rw[q2,Pc]) fun c h1 h2=> ?_
  have:=q3 c
  rw[if_pos (by omega),Pu.an h1,Pu.an (show 0+l.length-1-c<l.length by omega)]at this
  rw[this,List.getElem_reverse]
  congr 1;omega
 have hw:IntKind.i64.wrap ((l.length:Int)-1)=(l.length:Int)-1:=w64 (by omega) (by omega)
 rw[bk.eq,dg,cM,dS,cn,hw,←e]
 exact q1
theorem gu.is{k:Nat}{w:LI}(hk:4194304+10≤k)(hw:w.length≤1048576):gu k w=some (if Pu.isWord w=true then w.reverse else []):=by
 obtain⟨k,rfl⟩: ∃k',k=k'+1:=⟨k-1,by omega⟩
 rw[gu.eq]
 refine bE (gD.is (by omega) hw) ?_
 cases h:Pu.isWord w with
 |false=>exact tM rfl
 |true=>
  have h9:=(Pu.fX h).1
  exact tN (bE (bH.is (by omega) (by omega)) (bE (bk.is (by omega) (by omega)) rfl))
theorem dW.is{k:Nat}{w:LI}{n:Int}(hk:4194304+40≤k)(hw:w.length≤1048576):dW k w n=some (Pu.iR w n):=by
 obtain⟨k,rfl⟩: ∃k',k=k'+1:=⟨k-1,by omega⟩
 rw[dW.eq]
 refine bE (bo.is (by omega) hw) ?_
 unfold Pu.jf Pu.iR
 cases h:Pu.lR w n with
 |false=>exact tM rfl
 |true=>
  have h9:=(Pu.fX (Pu.kE.1 h).1).1
  have hr:=gu.is (k:=k) (w:=w.map fun x=>n+1-x) (by omega) (by rw[N2];omega)
  rw[if_pos (Pu.zn h)]at hr
  exact tN (bE hr rfl)
theorem fu.loop{k:Nat}{n:Nat}(hn:n≤1000): ∀(m j i:Nat),i+m=n→m<j→fu.L0 k j n i (Pu.ou i)=some (Pu.ou n)
 |m,0,i,_,hj=>by omega
 |0,j+1,i,hi,_=>by
  rw[fu.aT]
  have e:i=n:=by omega
  have hc: ¬(i:Int)<(n:Int):=by omega
  exact tX hc (by rw[e])
 |m+1,j+1,i,hi,hj=>by
  have hc:(i:Int)<(n:Int):=by omega
  have ih:=fu.loop (k:=k) hn m j (i+1) (by omega) (by omega)
  have hws:IntKind.i64.wrap ((i:Int)+1)=((i+1:Nat):Int):=by rw[w64 (by omega) (by omega)];omega
  have hu:Pu.ou i++ [((i+1:Nat):Int)]=Pu.ou (i+1):=by
   unfold Pu.ou
   rw[List.range_succ,NP]
   rfl
  have hap:(Pu.ou i++ [((i+1:Nat):Int)]).length≤1099511627776:=by rw[hu,Pu.o6];omega
  rw[fu.aT]
  simp only[dA,cn,dI,cM,hws]
  refine tG hc (tG hap ?_)
  rw[hu,ih]
theorem fu.is{k n:Nat}(hk:4194304+1≤k)(hn:n≤1000):fu k n=some (Pu.ou n):=by
 obtain⟨k,rfl⟩: ∃k',k=k'+1:=⟨k-1,by omega⟩
 have h:=fu.loop (k:=k) hn n k 0 (by omega) (by omega)
 rw[Ph]at h
 rw[fu.eq]
 exact h
theorem dy.is{k:Nat}{n x:Int}(hk:1≤k):dy k n x=some (decide (x<n),x):=by
 obtain⟨k,rfl⟩: ∃k',k=k'+1:=⟨k-1,by omega⟩
 rw[dy.eq]
 rfl
theorem ak.loop{k:Nat}{r:LI}{x:Int}(hk:1≤k)(hr:r.length≤1048577): ∀(m j i:Nat),i+m=r.length→m<j→i≤r.findIdx (fun n=>decide (x<n))→
  ak.L0 k j r.length i r x=some (if r.findIdx (fun n=>decide (x<n))<r.length then((r.findIdx (fun n=>decide (x<n)):Nat):Int)else-1,x)
 |m,0,i,_,hj,_=>by omega
 |0,j+1,i,hm,_,hi=>by
  rw[ak.aT]
  have e:i=r.length:=by omega
  have h: ¬r.findIdx (fun n=>decide (x<n))<r.length:=by omega
  subst e
  rw[if_neg h]
  simp
 |m+1,j+1,i,hm,hj,hi=>by
  rw[ak.aT]
  have hlt:i<r.length:=by omega
  simp (disch:=omega) only[↓al,sss,if_true,if_false,hlt,dy.is]
  by_cases c:x<r.getD i 0
  ·have e:r.findIdx (fun n=>decide (x<n))=i:=by
    refine OZ ?_ hi
    exact Pu.findIdx_le hlt (by simpa using c)
   simp only[c,↓al,sss,if_true,if_false,e,hlt]
  ·have hne:r.findIdx (fun n=>decide (x<n))≠i:=fun e=>by
    have:=Pu.sG (p:=fun n=>decide (x<n)) (r:=r) (by rw[e];exact hlt)
    rw[e]at this
    exact c (by simpa using this)
   have ih:=ak.loop (k:=k) (x:=x) hk hr m j (i+1) (by omega) (by omega) (by omega)
   rw[Pk]at ih
   simp only[c,↓al,sss,if_true,if_false,ih]
theorem ak.is{k:Nat}{r:LI}{x:Int}(hk:4194304+1≤k)(hr:r.length≤1048577):
  ak k x r=some (if r.findIdx (fun n=>decide (x<n))<r.length then((r.findIdx (fun n=>decide (x<n)):Nat):Int)else-1,x):=by
 obtain⟨k,rfl⟩: ∃k',k=k'+1:=⟨k-1,by omega⟩
 rw[ak.eq]
 exact ak.loop (k:=k) (by omega) hr r.length k 0 (by omega) (by omega) (by omega)
theorem bg.loop{k:Nat}{inner:LI}(hk:4194304+1≤k): ∀(m j i:Nat) (x:Int) (rows:LJ),i+m=rows.length→m<j→rows.length≤1048576→(∀r∈rows,r.length≤1048576)→
  bg.L0 k j rows.length i x rows inner=some (((i+(Pu.aS (rows.drop i) x).2:Nat):Int),(inner,rows.take i++(Pu.aS (rows.drop i) x).1))
 |m,0,i,x,rows,_,hj,_,_=>by omega
 |0,j+1,i,x,rows,hm,_,hl,hr=>by
  rw[bg.aT]
  have e:i=rows.length:=by omega
  subst e
  have h1:rows.length+1≤1099511627776:=by omega
  simp (disch:=omega) only[↓al,sss,if_true,if_false,Pf,h1,Pa,O9,Pu.aS,Mb,Nr,NL,Pl,Pm,Ph,LP,LQ,Ni,NG,MO]
 |m+1,j+1,i,x,rows,hm,hj,hl,hr=>by
  rw[bg.aT]
  have hlt:i<rows.length:=by omega
  have hx:=hr _ (Ns hlt)
  rw[←Pu.an hlt []]at hx
  have hi:=ak.is (k:=k) (r:=rows.getD i []) (x:=x) (by omega) (by omega)
  rw[Pu.drop_cons hlt []]
  unfold Pu.aS
  generalize hf:(rows.getD i []).findIdx (fun n=>decide (x<n))=f at*
  by_cases c:f<(rows.getD i []).length
  ·rw[if_pos c]at hi⊢
   have ih:=bg.loop (inner:=inner) hk m j (i+1) ((rows.getD i []).getD f 0) (rows.set i ((rows.getD i []).set f x)) (by rw[Ml];omega) (by omega) (by rw[Ml];exact hl) (fun r h=>by
    rcases OO h with h|rfl
    ·exact hr r h
    ·rw[Ml];exact hx)
   rw[Pu.rU hlt,Pu.rP,Ml,Pk]at ih
   have hn: ¬(f:Int)<0:=by omega
   simp (disch:=omega) only[↓al,sss,if_true,if_false,hlt,hi,hn,c,ih]
   simp only[NM,OG]
   congr 2
   omega
  ·rw[if_neg c]at hi⊢
   have hn:(-1:Int)<0:=by omega
   have h1:(rows.getD i []++ [x]).length≤1099511627776:=by simp only[Mb,Nr,NL];omega
   simp (disch:=omega) only[↓al,sss,if_true,if_false,hlt,hi,hn,h1,NG]
   rw[Pu.ze hlt]
theorem bg.is{k:Nat}{inner:LI}{x:Int}{rows:LJ}(hk:4194304+2≤k)(hl:rows.length≤1048576)(hr: ∀r∈rows,r.length≤1048576):
  bg k x inner rows=some ((((Pu.aS rows x).2:Nat):Int),(inner,(Pu.aS rows x).1)):=by
 obtain⟨k,rfl⟩: ∃k',k=k'+1:=⟨k-1,by omega⟩
 rw[bg.eq]
 have h:=bg.loop (k:=k) (inner:=inner) (by omega) rows.length k 0 x rows (by omega) (by omega) hl hr
 rw[Ph]at h
 simpa using h
theorem aR.add{k k1:Nat}{i a n:Nat}{W v:LI}{x4:LI}{x5:LJ}{x6:LI}{x7:LJ}{pi:LI}{P:LJ}{qi:LI}{F:LJ}{z:Int}(hi:i<v.length)(hz:v.getD i 0=z)(ha:a<F.length)(hF: ∀r,(F.getD r []).length≤1000)(hw:i≤1000):
  aR.J1 k k1 i a n i v W x4 x5 x6 x7 pi P qi F=aR.L0 k k1 n ((i+1:Nat):Int) v W x4 x5 x6 x7 pi P qi (F.set a (F.getD a []++ [z])):=by
 rw[aR.eM]
 have h9:=hF a
 have hws:IntKind.i64.wrap ((i:Int)+1)=((i+1:Nat):Int):=by rw[w64 (by omega) (by omega)];omega
 have hap:(F.getD a []++ [z]).length≤1099511627776:=by rw[Mb,Ox];omega
 simp only[dB,cM,fM,ep,dI,dA,cn,O4,hws,hz]
 have a0:=Pj a
 exact tG a0 (tG ha (tG ha (tG (Pj i) (tG hi (tG hi (tG ha (tG hap (tG a0 (tG ha (tG ha (tG rfl rfl)))))))))))
theorem aR.loop{k:Nat}{W v:LI}{x4:LI}{x5:LJ}{x6:LI}{x7:LJ}(hk:4194304+20≤k)(hW:W.length≤9)(hx: ∀x∈W,1≤x∧x≤9)(hv:v.length=W.length): ∀(m j i:Nat) (P Q Q':LJ),i+m=W.length→m<j→Pu.Ins P Q' i→Pu.fq Q Q'→
  aR.L0 k j W.length i v W x4 x5 x6 x7 [] P [] Q=some (([],Pu.dO (W.drop i) P),([],Pu.Dt ((v.zip W).drop i) P Q))
 |m,0,i,P,Q,Q',_,hj,_,_=>by omega
 |0,j+1,i,P,Q,Q',hi,_,_,_=>by
  rw[aR.aT]
  have hn: ¬(i:Int)<W.length:=by omega
  refine tX hn ?_
  rw[OE (by omega),OE (by rw[List.length_zip];omega)]
  rfl
 |m+1,j+1,i,P,Q,Q',hi,hj,h,hs=>by
  have hlt:i<W.length:=by omega
  have hn:(i:Int)<W.length:=by omega
  have hxi:=hx _ (Ns hlt)
  rw[←Pu.an hlt 0]at hxi
  obtain⟨s1,_,_⟩:=h.step hxi (by omega)
  have ha:=(Pu.ru P (W.getD i 0)).1
  rw[h.same.1,←hs.1]at ha
  have ih:=aR.loop (x4:=x4) (x5:=x5) (x6:=x6) (x7:=x7) hk hW hx hv m j (i+1) (Pu.aS P (W.getD i 0)).1 (Pu.iG Q (Pu.aS P (W.getD i 0)).2 (v.getD i 0)) _ (by omega) (by omega) s1 (Pu.Cz hs ha _ _)
  have hP:=Pu.gY (Pu.uu h (by omega))
  have hQ:=Pu.gY h.pl
  have hP1:P.length≤9:=hP.1
  have hQ1:Q.length≤9:=by rw[hs.1];exact hQ.1
  have hins:=bg.is (k:=k) (inner:= []) (x:=W.getD i 0) (rows:=P) (by omega) (by omega) (fun r hr=>by have:=hP.2 r hr;omega)
  have hul:i<v.length:=by omega
  rw[aR.aT,Pu.drop_cons hlt 0,Pu.F4 hul hlt]
  show _=some (([],Pu.dO (W.drop (i+1)) (Pu.aS P (W.getD i 0)).1),([],Pu.Dt ((v.zip W).drop (i+1)) (Pu.aS P (W.getD i 0)).1 (Pu.iG Q (Pu.aS P (W.getD i 0)).2 (v.getD i 0))))
  rw[←ih]
  simp only[dB,cM,dg,fM,O4]
  refine tG hn (tG (Pj i) (tG hlt (tG hlt (bE hins ?_))))
  simp only
  have hq9: ∀r,(Q.getD r []).length≤9:=fun r=>by rw[hs.2];exact hQ.at r
  generalize(Pu.aS P (W.getD i 0)).2=a at*
  unfold Pu.iG
  by_cases c:a=Q.length
  ·have hc:((a:Nat):Int)=(Q.length:Int):=by omega
   have hap:(Q++ [[]]).length≤1099511627776:=by rw[Mb,Ox];omega
   have hF: ∀r,((Q++ [[]]).getD r []).length≤1000:=fun r=>by
    by_cases hr:r<Q.length
    ·simp only[Mk,Mq hr]
     have:=hq9 r
     simp only[Mk]at this
     omega
    ·simp only[Mk,Mr (Oa hr)]
     cases r-Q.length<;>simp
   refine tG hc (tG hap ?_)
   simp only[dI]
   rw[aR.add hul rfl (by rw[Mb,Ox];omega) hF (by omega),if_pos c]
   congr 1
   rw[c]
   simp
  ·have hc: ¬((a:Nat):Int)=(Q.length:Int):=by omega
   refine tX hc ?_
   rw[aR.add hul rfl (by omega) (fun r=>by have:=hq9 r;omega) (by omega),if_neg c]
theorem aR.isL{k:Nat}{W v:LI}(hk:4194304+30≤k)(h:Pu.isWord W=true)(hv:v.length=W.length):aR k W v=some (([],Pu.dO W []),([],Pu.Dt (v.zip W) [] [])):=by
 obtain⟨k,rfl⟩: ∃k',k=k'+1:=⟨k-1,by omega⟩
 obtain⟨h1,h2⟩:=Pu.fX h
 have hl:=aR.loop (k:=k) (x4:= []) (x5:= []) (x6:= []) (x7:= []) (by omega) h1 h2 hv W.length k 0 [] [] [] (by omega) (by omega) Pu.Ins.nil ⟨rfl,fun _=>rfl⟩
 rw[Ph,Ny,Ny]at hl
 rw[aR.eq]
 exact hl
theorem aR.is{k:Nat}{W:LI}(hk:4194304+30≤k)(h:Pu.isWord W=true):aR k W (Pu.ou W.length)=some (([],Pu.dO W []),([],Pu.oB W [] [] 0)):=by
 rw[←Pu.EO]
 exact aR.isL hk h (Pu.o6 _)
theorem g5.is{k:Nat}{w:LI}(hk:4194304+40≤k)(hw:w.length≤1048576):g5 k w=some (Pu.iv w):=by
 obtain⟨k,rfl⟩: ∃k',k=k'+1:=⟨k-1,by omega⟩
 have h1:=gD.is (k:=k) (w:=w) (by omega) hw
 rw[g5.eq]
 unfold Pu.iv
 refine bE h1 ?_
 cases c:Pu.isWord w with
 |false=>exact tM rfl
 |true=>
  have h9:=(Pu.fX c).1
  exact tN (bE (fu.is (n:=w.length) (by omega) (by omega)) (bE (aR.is (by omega) c) rfl))
theorem b7.is{k:Nat}{t:Pu.Tab}{n:Int}(hk:4194304+60≤k)(ht:Pu.lT t):b7 k t n=some (Pu.bB t n):=by
 obtain⟨k,rfl⟩: ∃k',k=k'+1:=⟨k-1,by omega⟩
 have hw:=bY.is (k:=k) (t:=t) (by omega) ht.1 ht.2.1 ht.2.2
 have hpl:=hO.is (t:=t) (k:=k) (by omega) ht.1 ht.2.1 ht.2.2
 rw[b7.eq]
 unfold Pu.bB
 cases hp:Pu.bj t with
 |false=>
  rw[hp]at hpl
  have hl:(if Pu.eH t=true then t.2.reverse.flatten else []).length≤9:=by
   split
   ·next h=>rw[(Pu.ik t.2).length_eq];exact Pu.yc h
   ·exact NF _
  rw[if_neg (fun h=>by cases h.1)]
  exact bE hw (bE (dW.is (by omega) (by omega)) (bE hpl (tM rfl)))
 |true=>
  rw[hp]at hpl
  have hp':=hp
  simp only[Pu.bj,Nc]at hp'
  rw[if_pos hp'.1]at hw
  have hl:(Pu.dq t).length≤9:=by
   show t.2.reverse.flatten.length≤9
   rw[(Pu.ik t.2).length_eq];exact Pu.iu hp
  have he:=dW.is (k:=k) (w:=Pu.dq t) (n:=n) (by omega) (by omega)
  refine bE hw (bE he (bE hpl (tN ?_)))
  unfold Pu.iR
  cases h:Pu.lR (Pu.dq t) n with
  |false=>rw[if_neg (show¬(true=true∧false=true)from fun e=>by cases e.2)];exact tM rfl
  |true=>
   rw[if_pos (show true=true∧true=true from⟨rfl,rfl⟩)]
   refine tN ?_
   rw[b7.iy]
   exact bE (g5.is (by omega) (by simp only[if_true,Pu.rcN,Pc,N2];omega)) rfl
theorem br.loop{k:Nat}{t:Pu.Tab}(hk:4194304+8≤k)(h1:t.1.length≤1048576)(ht:t.2.length≤1048576)(hr: ∀x∈t.2,x.length≤1048576)(hb:Pu.eH t=true): ∀(m j:Nat) (w:LI),m≤t.2.length→m<j→w.length+Pu.kX (t.2.take m)≤1099511627776→br.L0 k j ((m:Int)-1) w t.1 t.2=some (w++(t.2.take m).reverse.flatten)
 |m,0,w,_,hj,_=>by omega
 |0,j+1,w,_,_,_=>by
  rw[br.aT]
  have hn: ¬(0:Int)≤((0:Nat):Int)-1:=by omega
  simp only[↓al,sss,if_true,if_false,hn]
  simp
 |m+1,j+1,w,hm,hj,hs=>by
  rw[br.aT,show((t.1,t.2):Pu.Tab)=t from rfl,br.eM]
  have e:(((m+1:Nat):Int)-1)=(m:Int):=by omega
  have hlt:m<t.2.length:=by omega
  have htk:=Pu.take_succ hlt []
  have hsz: ∀(a b:LJ),Pu.kX (a++b)=Pu.kX a+Pu.kX b:=by
   intro a b
   induction a with
   |nil=>simp[Pu.kX]
   |cons x a ih=>simp only[Mp,Pu.kX,ih];omega
  rw[htk,hsz]at hs
  simp only[Pu.kX]at hs
  have hl:(w++t.2.getD m []).length≤1099511627776:=by rw[Mb];omega
  have h0:(0:Int)≤(m:Int):=by omega
  have ih:=br.loop hk h1 ht hr hb m j (w++t.2.getD m []) (by omega) (by omega) (by rw[Mb];omega)
  have hit:=aC.is (k:=k) (t:=t) (by omega) h1 ht hr
  rw[hb]at hit
  rw[e]
  simp (disch:=omega) only[↓al,sss,if_true,if_false,h0,hlt,hl,hit,ih]
  rw[htk,OQ,OD]
  simp
theorem br.is{k:Nat}{t:Pu.Tab}(hk:4194304+10≤k)(h1:t.1.length≤1048576)(ht:t.2.length≤1048576)(hr: ∀x∈t.2,x.length≤1048576):br k t=some (if Pu.eH t=true then t.2.reverse.flatten else []):=by
 obtain⟨k,rfl⟩: ∃k',k=k'+1:=⟨k-1,by omega⟩
 rw[br.eq]
 have ew:D.wrap .i64 (D.sub (D.ofN (D.len t.2)) 1)=(t.2.length:Int)-1:=by
  show IntKind.i64.wrap ((t.2.length:Int)-1)=_
  rw[w64 (by omega) (by omega)]
 rw[ew]
 cases hb:Pu.eH t with
 |false=>
  have hit:=aC.is (k:=k) (t:=t) (by omega) h1 ht hr
  rw[hb]at hit
  obtain⟨j,rfl⟩: ∃j,k=j+1:=⟨k-1,by omega⟩
  rw[br.aT,show((t.1,t.2):Pu.Tab)=t from rfl]
  by_cases c:(0:Int)≤(t.2.length:Int)-1
  ·exact tG c (bE hit rfl)
  ·exact tX c rfl
 |true=>
  have hs:=Pu.za ht hr
  have hl:=br.loop (k:=k) (t:=t) (by omega) h1 ht hr hb t.2.length k [] (Ng _) (by omega) (by rw[O9];simpa using hs)
  rw[O9]at hl
  rw[hl,N1,if_pos rfl]
theorem cz.loop{k:Nat}{w:LI}(hk:1≤k)(hw:w.length≤1048576): ∀(m j i:Nat),i+m=w.length→m<j→cz.L0 k j i w=some (decide (w.length≤9)&&(w.drop i).all fun n=>Pu.within n 1 9)
 |m,0,i,_,hj=>by omega
 |0,j+1,i,hi,_=>by
  rw[cz.aT]
  have hn: ¬(i:Int)<w.length:=by omega
  refine tX hn ?_
  rw[OE (by omega)]
  simp
  omega
 |m+1,j+1,i,hi,hj=>by
  have hlt:i<w.length:=by omega
  have hn:(i:Int)<w.length:=by omega
  have ih:=cz.loop hk hw m j (i+1) (by omega) (by omega)
  have hws:IntKind.i64.wrap ((i:Int)+1)=((i+1:Nat):Int):=by rw[w64 (by omega) (by omega)];omega
  rw[cz.aT,Pu.drop_cons hlt 0]
  simp only[dB,cM,dg,fM,dA,cn,O4,hws]
  refine tG hn (tG (Pj i) (tG hlt (tG hlt (bE (im.is (by omega)) ?_))))
  cases c:Pu.within (w.getD i 0) 1 9 with
  |false=>refine tM ?_;simp only[L9,c,Bool.false_and,Bool.and_false]
  |true=>refine tN ?_;rw[ih,L9,c,Nf]
theorem cz.is{k:Nat}{w:LI}(hk:4194304+2≤k)(hw:w.length≤1048576):cz k w=some (Pu.isWord w):=by
 obtain⟨k,rfl⟩: ∃k',k=k'+1:=⟨k-1,by omega⟩
 have h:=cz.loop (k:=k) (by omega) hw w.length k 0 (by omega) (by omega)
 rw[Ph,Ny]at h
 rw[cz.eq]
 exact h
theorem bn.loop{k:Nat}{w:LI}{n:Int}(hl:w.length≤9)(hw: ∀x∈w,1≤x∧x≤9)(hn:1≤n∧n≤9): ∀(m j i:Nat),i+m=w.length→m<j→(∀x∈w.take i,x≤n)→bn.L1 k j n i w ((w.take i).map fun x=>n+1-x)=some (if(∀x∈w,x≤n)then(w.map (fun x=>n+1-x),true)else([],false))
 |m,0,i,_,hj,_=>by omega
 |0,j+1,i,hi,_,ht=>by
  rw[Oz (by omega)]at ht
  rw[bn.dX,Oz (by omega),if_pos ht]
  exact tX (show¬(i:Int)<(w.length:Nat) by omega) rfl
 |m+1,j+1,i,hi,hj,ht=>by
  have hlt:i<w.length:=by omega
  have hm:w.getD i 0∈w:=by rw[Pu.an hlt];exact Ns hlt
  have hx1:=hw _ hm
  have i0:=Pj i
  have hw1:IntKind.i64.wrap ((i:Int)+1)=((i+1:Nat):Int):=by rw[w64 (by omega) (by omega)];omega
  have hw2:IntKind.i64.wrap (n+1)=n+1:=w64 (by omega) (by omega)
  have hw3:IntKind.i64.wrap (n+1-w.getD i 0)=n+1-w.getD i 0:=w64 (by omega) (by omega)
  have hap:(((w.take i).map fun x=>n+1-x)++ [n+1-w.getD i 0]).length≤1099511627776:=by rw[Mb,Ox,N2,NJ];omega
  rw[bn.dX]
  simp only[dB,cM,fM,dA,dS,cn,dI,O4,hw1,hw2,hw3]
  refine tG (show(i:Int)<(w.length:Nat) by omega) (tG i0 (tG hlt (tG hlt ?_)))
  by_cases c:n<w.getD i 0
  ·rw[if_neg (fun h=>by have:=h _ hm;omega)]
   exact tG c rfl
  ·have ih:=bn.loop (k:=k) hl hw hn m j (i+1) (by omega) (by omega) (fun x hx=>by
    rw[Pu.take_succ hlt 0]at hx
    rcases Md.1 hx with hx|hx
    ·exact ht x hx
    ·rw[Nt.1 hx];omega)
   rw[Pu.take_succ hlt 0,NP]at ih
   rw[←ih]
   exact tX c (tG i0 (tG hlt (tG hlt (tG hap rfl))))
theorem bn.is{k:Nat}{w:LI}{n:Int}(hk:4194304+20≤k)(hw:w.length≤1048576):bn k w n=some (Pu.jf w n):=by
 obtain⟨k,rfl⟩: ∃k',k=k'+1:=⟨k-1,by omega⟩
 rw[bn.eq]
 refine bE (cz.is (by omega) hw) ?_
 unfold Pu.jf Pu.lR
 cases h:Pu.isWord w with
 |false=>exact tM rfl
 |true=>
  refine tN (bE (im.is (by omega)) ?_)
  cases h2:Pu.within n 1 9 with
  |false=>exact tM rfl
  |true=>
   have hn:=Pu.within_iff.1 h2
   obtain⟨h9,hx⟩:=Pu.fX h
   have e:=bn.loop (k:=k) h9 hx hn w.length k 0 (by omega) (by omega) (fun x hx=>by simp at hx)
   rw[Ph,O8,Pd]at e
   refine tN ?_
   rw[bn.iy,e]
   congr 1
   by_cases c: ∀x∈w,x≤n
   ·rw[if_pos c,if_pos (by simp only[Nf,Nw,decide_eq_true_eq];exact c)]
   ·rw[if_neg c,if_neg (by simp only[Nf,Nw,decide_eq_true_eq];exact c)]
theorem bF.loop{k:Nat}{w:LI}(hk:4194304+10≤k)(h:Pu.isWord w=true): ∀(m j:Nat),m≤w.length→m<j→bF.L0 k j ((m:Int)-1) w (w.drop m).reverse=some w.reverse
 |m,0,_,hj=>by omega
 |0,j+1,_,_=>by
  rw[bF.aT,Ny]
  exact tX (by omega) rfl
 |m+1,j+1,hm,hj=>by
  have h9:=(Pu.fX h).1
  have hlt:m<w.length:=by omega
  have hw:=cz.is (k:=k) (w:=w) (by omega) (by omega)
  rw[h]at hw
  have m0:=Pj m
  have hz:IntKind.i64.wrap ((m:Int)-1)=(m:Int)-1:=w64 (by omega) (by omega)
  have hap:((w.drop (m+1)).reverse++ [w.getD m 0]).length≤1099511627776:=by rw[Mb,Ox,Pc,NK];omega
  have ih:=bF.loop hk h m j (by omega) (by omega)
  rw[Pu.drop_cons hlt 0,List.reverse_cons]at ih
  rw[bF.aT,show(((m+1:Nat):Int)-1)=(m:Int) by omega]
  refine tG m0 (bE hw (tY ?_))
  rw[bF.eM]
  simp only[dB,cM,fM,dS,cn,dI,O4,hz]
  exact tG m0 (tG hlt (tG hlt (tG hap ih)))
theorem bF.is{k:Nat}{w:LI}(hk:4194304+20≤k)(hw:w.length≤1048576):bF k w=some (if Pu.isWord w=true then w.reverse else []):=by
 obtain⟨k,rfl⟩: ∃k',k=k'+1:=⟨k-1,by omega⟩
 rw[bF.eq]
 have hz:IntKind.i64.wrap ((w.length:Int)-1)=(w.length:Int)-1:=w64 (by omega) (by omega)
 simp only[cM,dg,dS,cn,hz]
 cases h:Pu.isWord w with
 |true=>
  have e:=bF.loop (k:=k) (by omega) h w.length k (Ng _) (by have:=(Pu.fX h).1;omega)
  rw[Pa]at e
  rw[if_pos rfl]
  exact e
 |false=>
  have hs:=cz.is (k:=k) (w:=w) (by omega) hw
  rw[h]at hs
  obtain⟨j,rfl⟩: ∃j,k=j+1:=⟨k-1,by omega⟩
  have h0:0<w.length:=by
   cases w with
   |nil=>cases h
   |cons a l=>simp
  rw[if_neg (by decide),bF.aT]
  exact tG (show(0:Int)≤(w.length:Int)-1 by omega) (bE hs (tF rfl))
theorem eO.is{k:Nat}{w:LI}{n:Int}(hk:4194304+40≤k)(hw:w.length≤1048576):eO k w n=some (Pu.iR w n):=by
 obtain⟨k,rfl⟩: ∃k',k=k'+1:=⟨k-1,by omega⟩
 rw[eO.eq]
 refine bE (bn.is (by omega) hw) ?_
 unfold Pu.jf Pu.iR
 cases h:Pu.lR w n with
 |false=>exact tM rfl
 |true=>
  have h9:=(Pu.fX (Pu.kE.1 h).1).1
  have hr:=bF.is (k:=k) (w:=w.map fun x=>n+1-x) (by omega) (by rw[N2];omega)
  rw[if_pos (Pu.zn h)]at hr
  exact tN (bE hr rfl)
theorem aW.inner{k k1:Nat}{x:Int}{i:Nat}{x3 x5:LI}{x4 rows:LJ}(hlt:i<rows.length)(hx:(rows.getD i []).length≤1048576): ∀(m j q:Nat),q+m=(rows.getD i []).length→m<j→q≤(rows.getD i []).findIdx (fun n=>decide (x<n))→
  aW.L1 k k1 j x i q x3 x4 x5 rows=aW.J3 k k1 x i (((rows.getD i []).findIdx (fun n=>decide (x<n)):Nat):Int) x3 x4 x5 rows
 |m,0,q,_,hj,_=>by omega
 |0,j+1,q,hm,_,hq=>by
  rw[aW.dX]
  have hle:(rows.getD i []).findIdx (fun n=>decide (x<n))≤(rows.getD i []).length:=OT
  have e:(rows.getD i []).findIdx (fun n=>decide (x<n))=q:=by omega
  have hn: ¬q<(rows.getD i []).length:=by omega
  simp (disch:=omega) only[↓al,sss,if_true,if_false,hlt,hn,e]
 |m+1,j+1,q,hm,hj,hq=>by
  rw[aW.dX]
  have hn:q<(rows.getD i []).length:=by omega
  simp (disch:=omega) only[↓al,sss,if_true,if_false,hlt,hn,aW.kC]
  by_cases c:(rows.getD i []).getD q 0≤x
  ·have hne:(rows.getD i []).findIdx (fun n=>decide (x<n))≠q:=fun e=>by
    have:=Pu.sG (p:=fun n=>decide (x<n)) (r:=rows.getD i []) (by rw[e];exact hn)
    rw[e]at this
    simp only[decide_eq_true_eq]at this
    omega
   have ih:=aW.inner (k:=k) (k1:=k1) (x:=x) (x3:=x3) (x4:=x4) (x5:=x5) hlt hx m j (q+1) (by omega) (by omega) (by omega)
   rw[Pk]at ih
   simp (disch:=omega) only[↓al,sss,if_true,if_false,c,ih]
  ·have e:(rows.getD i []).findIdx (fun n=>decide (x<n))=q:=by
    refine OZ (Pu.findIdx_le hn ?_) hq
    simp only[decide_eq_true_eq];omega
   simp only[c,↓al,sss,if_true,if_false,e]
theorem aW.loop{k:Nat}{inner x3:LI}{x4:LJ}(hk:4194304≤k): ∀(m j i:Nat) (x:Int) (rows:LJ),i+m=rows.length→m<j→rows.length≤1048576→(∀r∈rows,r.length≤1048576)→
  aW.L0 k j x i x3 x4 inner rows=some ((inner,rows.take i++(Pu.aS (rows.drop i) x).1),((i+(Pu.aS (rows.drop i) x).2:Nat):Int))
 |m,0,i,x,rows,_,hj,_,_=>by omega
 |0,j+1,i,x,rows,hm,_,hl,hr=>by
  rw[aW.aT]
  have e:i=rows.length:=by omega
  subst e
  have h1:rows.length+1≤1099511627776:=by omega
  simp (disch:=omega) only[↓al,sss,if_true,if_false,Pf,h1,Pa,O9,Pu.aS,Mb,Nr,NL,Pl,Pm,Ph,LP,LQ,Ni,NG,MO]
 |m+1,j+1,i,x,rows,hm,hj,hl,hr=>by
  rw[aW.aT]
  have hlt:i<rows.length:=by omega
  have hx:=hr _ (Ns hlt)
  rw[←Pu.an hlt []]at hx
  have hin:=aW.inner (k:=k) (k1:=j) (x:=x) (x3:=x3) (x4:=x4) (x5:=inner) hlt hx (rows.getD i []).length k 0 (by omega) (by omega) (by omega)
  rw[Ph]at hin
  rw[Pu.drop_cons hlt []]
  unfold Pu.aS
  generalize hf:(rows.getD i []).findIdx (fun n=>decide (x<n))=f at*
  have hle:f≤(rows.getD i []).length:=by rw[←hf];exact OT
  simp (disch:=omega) only[↓al,sss,if_true,if_false,hlt,hin]
  rw[aW.lA]
  by_cases c:f<(rows.getD i []).length
  ·rw[if_pos c]
   have ih:=aW.loop (inner:=inner) (x3:=x3) (x4:=x4) hk m j (i+1) ((rows.getD i []).getD f 0) (rows.set i ((rows.getD i []).set f x)) (by rw[Ml];omega) (by omega) (by rw[Ml];exact hl) (fun r h=>by
    rcases OO h with h|rfl
    ·exact hr r h
    ·rw[Ml];exact hx)
   rw[Pu.rU hlt,Pu.rP,Pk]at ih
   have hn: ¬(f:Int)=((rows.getD i []).length:Int):=by omega
   simp (disch:=omega) only[↓al,sss,if_true,if_false,hlt,hn,c,ih]
   simp only[NM,OG]
   congr 2
   omega
  ·rw[if_neg c]
   have hn:(f:Int)=((rows.getD i []).length:Int):=by omega
   have h1:(rows.getD i []++ [x]).length≤1099511627776:=by simp only[Mb,Nr,NL];omega
   simp (disch:=omega) only[↓al,sss,if_true,if_false,hlt,hn,h1,NG]
   rw[Pu.ze hlt]
theorem aW.is{k:Nat}{t:Pu.Tab}{x:Int}(hk:4194304+2≤k)(h1:t.1.length≤1048576)(hl:t.2.length≤1048576)(hr: ∀r∈t.2,r.length≤1048576):
  aW k t x=some ((t.1,(Pu.aS t.2 x).1),(((Pu.aS t.2 x).2:Nat):Int)):=by
 obtain⟨k,rfl⟩: ∃k',k=k'+1:=⟨k-1,by omega⟩
 rw[aW.eq,cR.is (by omega) h1 hl hr,bX]
 have h:=aW.loop (k:=k) (inner:=t.1) (x3:= []) (x4:= []) (by omega) t.2.length k 0 x t.2 (by omega) (by omega) hl hr
 rw[Ph]at h
 simpa using h
theorem cg.add{k k1:Nat}{i a:Nat}{W:LI}{x3:LI}{x4:LJ}{x5:LI}{x6:LJ}{pi:LI}{P:LJ}{qi:LI}{F:LJ}(ha:a<F.length)(hF: ∀r,(F.getD r []).length≤1000)(hw:i≤1000):
  cg.J1 k k1 i a W x3 x4 x5 x6 pi P qi F=cg.L0 k k1 ((i+1:Nat):Int) W x3 x4 x5 x6 pi P qi (F.set a (F.getD a []++ [((i+1:Nat):Int)])):=by
 rw[cg.eM]
 have h9:=hF a
 have hws:IntKind.i64.wrap ((i:Int)+1)=((i+1:Nat):Int):=by rw[w64 (by omega) (by omega)];omega
 have hap:(F.getD a []++ [((i+1:Nat):Int)]).length≤1099511627776:=by rw[Mb,Ox];omega
 simp only[dB,cM,fM,ep,dI,dA,cn,O4,hws]
 have a0:=Pj a
 exact tG a0 (tG ha (tG ha (tG ha (tG hap (tG a0 (tG ha (tG ha (tG rfl rfl))))))))
theorem cg.loop{k:Nat}{W:LI}{x3:LI}{x4:LJ}{x5:LI}{x6:LJ}(hk:4194304+20≤k)(hW:W.length≤9)(hx: ∀x∈W,1≤x∧x≤9): ∀(m j i:Nat) (P Q:LJ),i+m=W.length→m<j→Pu.Ins P Q i→
  cg.L0 k j i W x3 x4 x5 x6 [] P [] Q=some (([],Pu.dO (W.drop i) P),([],Pu.oB (W.drop i) P Q i))
 |m,0,i,P,Q,_,hj,_=>by omega
 |0,j+1,i,P,Q,hi,_,_=>by
  rw[cg.aT]
  have hn: ¬(i:Int)<W.length:=by omega
  refine tX hn ?_
  rw[OE (by omega)]
  rfl
 |m+1,j+1,i,P,Q,hi,hj,h=>by
  have hlt:i<W.length:=by omega
  have hn:(i:Int)<W.length:=by omega
  have hxi:=hx _ (Ns hlt)
  rw[←Pu.an hlt 0]at hxi
  obtain⟨s1,_,_⟩:=h.step hxi (by omega)
  have ih:=cg.loop (x3:=x3) (x4:=x4) (x5:=x5) (x6:=x6) hk hW hx m j (i+1) (Pu.aS P (W.getD i 0)).1 (Pu.iG Q (Pu.aS P (W.getD i 0)).2 ((i+1:Nat):Int)) (by omega) (by omega) s1
  have hP:=Pu.gY (Pu.uu h (by omega))
  have hQ:=Pu.gY h.pl
  have hP1:P.length≤9:=hP.1
  have hQ1:Q.length≤9:=hQ.1
  have hins:=aW.is (k:=k) (t:=([],P)) (x:=W.getD i 0) (by omega) (by simp) (by simp only;omega) (fun r hr=>by have:=hP.2 r hr;omega)
  have ha:=(Pu.ru P (W.getD i 0)).1
  rw[h.same.1]at ha
  rw[cg.aT,Pu.drop_cons hlt 0]
  show _=some (([],Pu.dO (W.drop (i+1)) (Pu.aS P (W.getD i 0)).1),([],Pu.oB (W.drop (i+1)) (Pu.aS P (W.getD i 0)).1 (Pu.iG Q (Pu.aS P (W.getD i 0)).2 ((i+1:Nat):Int)) (i+1)))
  rw[←ih]
  simp only[dB,cM,dg,fM,O4]
  refine tG hn (tG (Pj i) (tG hlt (tG hlt (bE hins ?_))))
  simp only
  have hq9: ∀r,(Q.getD r []).length≤9:=fun r=>hQ.at r
  generalize(Pu.aS P (W.getD i 0)).2=a at*
  unfold Pu.iG
  by_cases c:a=Q.length
  ·have hc:((a:Nat):Int)=(Q.length:Int):=by omega
   have hap:(Q++ [[]]).length≤1099511627776:=by rw[Mb,Ox];omega
   have hF: ∀r,((Q++ [[]]).getD r []).length≤1000:=fun r=>by
    by_cases hr:r<Q.length
    ·simp only[Mk,Mq hr]
     have:=hq9 r
     simp only[Mk]at this
     omega
    ·simp only[Mk,Mr (Oa hr)]
     cases r-Q.length<;>simp
   refine tG hc (tG hap ?_)
   simp only[dI]
   rw[cg.add (by rw[Mb,Ox];omega) hF (by omega),if_pos c]
   congr 1
   rw[c]
   simp
  ·have hc: ¬((a:Nat):Int)=(Q.length:Int):=by omega
   refine tX hc ?_
   rw[cg.add (by omega) (fun r=>by have:=hq9 r;omega) (by omega),if_neg c]
theorem cg.is{k:Nat}{W:LI}(hk:4194304+30≤k)(h:Pu.isWord W=true):cg k W=some (([],Pu.dO W []),([],Pu.oB W [] [] 0)):=by
 obtain⟨k,rfl⟩: ∃k',k=k'+1:=⟨k-1,by omega⟩
 obtain⟨h1,h2⟩:=Pu.fX h
 have hl:=cg.loop (k:=k) (x3:= []) (x4:= []) (x5:= []) (x6:= []) (by omega) h1 h2 W.length k 0 [] [] (by omega) (by omega) Pu.Ins.nil
 rw[Ph,Ny]at hl
 rw[cg.eq]
 exact hl
theorem gX.is{k:Nat}{w:LI}(hk:4194304+40≤k)(hw:w.length≤1048576):gX k w=some (Pu.iv w):=by
 obtain⟨k,rfl⟩: ∃k',k=k'+1:=⟨k-1,by omega⟩
 have h1:=cz.is (k:=k) (w:=w) (by omega) hw
 rw[gX.eq]
 unfold Pu.iv
 refine bE h1 ?_
 cases c:Pu.isWord w with
 |false=>exact tM rfl
 |true=>exact tN (bE (cg.is (by omega) c) rfl)
theorem eY.is{k:Nat}{t:Pu.Tab}{n:Int}(hk:4194304+60≤k)(ht:Pu.lT t):eY k t n=some (Pu.bB t n):=by
 obtain⟨k,rfl⟩: ∃k',k=k'+1:=⟨k-1,by omega⟩
 rw[eY.eq]
 refine bE (ib.is (t:=t) (by omega) ht.1 ht.2.1 ht.2.2) ?_
 unfold Pu.bB
 cases hp:Pu.bj t with
 |false=>rw[if_neg (fun h=>by cases h.1)];exact tM rfl
 |true=>
  have hw:=br.is (k:=k) (t:=t) (by omega) ht.1 ht.2.1 ht.2.2
  have hp':=hp
  simp only[Pu.bj,Nc]at hp'
  rw[if_pos hp'.1]at hw
  have hl:(Pu.dq t).length≤9:=by
   show t.2.reverse.flatten.length≤9
   rw[(Pu.ik t.2).length_eq];exact Pu.iu hp
  have he:=eO.is (k:=k) (w:=Pu.dq t) (n:=n) (by omega) (by omega)
  refine tN (bE hw (bE he ?_))
  unfold Pu.iR
  cases h:Pu.lR (Pu.dq t) n with
  |false=>rw[if_neg (show¬(true=true∧false=true)from fun e=>by cases e.2)];exact tM rfl
  |true=>
   rw[if_pos (show true=true∧true=true from⟨rfl,rfl⟩)]
   exact tN (bE (gX.is (by omega) (by simp only[if_true,Pu.rcN,Pc,N2];omega)) rfl)
theorem bZ.loop{k:Nat}{l n:Int}{b:LI}(hk:3≤k)(hb:b.length≤1048576)(hl:l≤256)(hn:n≤100): ∀(m j i:Nat) (p h:Int) (out:LI),n≤(i:Int)+m→m<j→out.length≤i→i≤100→0≤p→p≤b.length→Pu.Ok (bZ.L0 k j l n i p h out b) fun r=>r.1.length≤200∧0≤r.2.2.1∧r.2.2.1≤b.length
 |m,0,i,p,h,out,_,hj,_,_,_,_=>by omega
 |m,j+1,i,p,h,out,hm,hj,ho,hi,h0,h1=>by
  rw[bZ.aT]
  by_cases c:(i:Int)<n
  ·obtain⟨r1,i1,h1',e1,a1,a2,a3,a4,a5⟩:=aD.is (k:=k) (n:=l) (h:=h) (b:=b) (by omega) hb h0 h1 hl
   obtain⟨m,rfl⟩: ∃m',m=m'+1:=⟨m-1,by omega⟩
   have hws:IntKind.i64.wrap ((i:Int)+1)=((i+1:Nat):Int):=by rw[w64 (by omega) (by omega)];omega
   obtain⟨y,y1,y2⟩:=bZ.loop (k:=k) hk hb hl hn m j (i+1) i1 h1' (out++ [IntKind.i64.wrap (1+r1)]) (by omega) (by omega) (by rw[Mb,Ox];omega) (by omega) a4 a5
   have hap:(out++ [IntKind.i64.wrap (1+r1)]).length≤1099511627776:=by rw[Mb,Ox];omega
   simp only[dA,cn,dI,cM,hws]
   exact⟨y,tG c (bE e1 (tG hap y1)),y2⟩
  ·exact⟨_,tX c rfl,by dsimp only;omega,h0,h1⟩
theorem bZ.ok{k:Nat}{l i h:Int}{b:LI}(hk:4194304+5≤k)(hb:b.length≤1048576)(hl:l≤256)(hi:0≤i)(hi':i≤b.length):Pu.Ok (bZ k 7 l i h b) fun r=>r.1.length≤200∧0≤r.2.2.1∧r.2.2.1≤b.length:=by
 obtain⟨k,rfl⟩: ∃k',k=k'+1:=⟨k-1,by omega⟩
 have hw:D.wrap .i64 (D.add 7 1)=8:=by show IntKind.i64.wrap (7+1)=8;rw[w64 (by omega) (by omega)];rfl
 obtain⟨r1,i1,h1,e1,a1,a2,a3,a4,a5⟩:=aD.is (k:=k) (n:=8) (h:=h) (b:=b) (by omega) hb hi hi' (by omega)
 have:=a3 (by omega)
 obtain⟨y,y1,y2⟩:=bZ.loop (k:=k) (l:=l) (n:=r1) (b:=b) (by omega) hb hl (by omega) 8 k 0 i1 h1 [] (by omega) (by omega) (by simp) (by omega) a4 a5
 rw[Ph]at y1
 rw[bZ.eq,hw]
 exact⟨y,bE e1 y1,y2⟩
theorem ao.inner{k k1 i:Nat}{w out:LI}(hk:1≤k)(hw:w.length≤2000)(hi:i<w.length)(ho:out.length≤4000): ∀(m j q:Nat) (n:Int),q+m=w.length→m<j→n=((Pu.pc w i q+1:Nat):Int)→ao.L2 k k1 j i n q w out=ao.L0 k k1 ((i+1:Nat):Int) w (out++ [((Pu.plc w i+1:Nat):Int)])
 |m,0,q,n,_,hj,_=>by omega
 |0,j+1,q,n,hq,_,hn1=>by
  rw[ao.wU]
  have hn: ¬(q:Int)<w.length:=by omega
  have hws:IntKind.i64.wrap ((i:Int)+1)=((i+1:Nat):Int):=by rw[w64 (by omega) (by omega)];omega
  have hap:(out++ [n]).length≤1099511627776:=by rw[Mb,Ox];omega
  simp only[cM,dg,dA,cn,hws,dI]
  have e:Pu.plc w i=Pu.pc w i q:=by rw[←Pu.Il,show w.length=q by omega]
  rw[e,←hn1]
  exact tX hn (tG hap rfl)
 |m+1,j+1,q,n,hq,hj,hn1=>by
  have hlt:q<w.length:=by omega
  have hn:(q:Int)<w.length:=by omega
  have hle:=Pu.Jq w i q
  have hws:IntKind.i64.wrap ((q:Int)+1)=((q+1:Nat):Int):=by rw[w64 (by omega) (by omega)];omega
  have hJ: ∀v:Int,0≤v→v≤1→((Pu.pc w i (q+1):Nat):Int)=((Pu.pc w i q:Nat):Int)+v→ao.J3 k k1 j i (IntKind.i64.wrap (n+v)) q w out=ao.L0 k k1 ((i+1:Nat):Int) w (out++ [((Pu.plc w i+1:Nat):Int)]):=fun v hv0 hv e=>by
   rw[ao.lA,dA,cn,hws]
   exact ao.inner hk hw hi ho m j (q+1) _ (by omega) (by omega) (by rw[w64 (by omega) (by omega),hn1];omega)
  rw[ao.wU]
  simp only[dB,cM,dg,fM,O4]
  by_cases c:w.getD q 0<w.getD i 0
  ·exact tG hn (tG (Pj q) (tG hlt (tG hlt (tG (Pj i) (tG hi (tG hi (tG c (bE (gl.is hk) (hJ 1 (by decide) (by decide) (by rw[Pu.J7 c];rfl))))))))))
  ·by_cases c2:w.getD q 0=w.getD i 0
   ·have e:=hJ (if decide ((q:Int)<(i:Int))=true then 1 else 0) (by split<;>decide) (by split<;>decide) (by
     rw[Pu.KM c2]
     cases decide ((q:Int)<(i:Int))with
     |true=>rfl
     |false=>exact(LP _).symm)
    exact tG hn (tG (Pj q) (tG hlt (tG hlt (tG (Pj i) (tG hi (tG hi (tX c (tG (Pj q) (tG hlt (tG hlt (tG (Pj i) (tG hi (tG hi (tG c2 (bE (gl.is hk) e)))))))))))))))
   ·exact tG hn (tG (Pj q) (tG hlt (tG hlt (tG (Pj i) (tG hi (tG hi (tX c (tG (Pj q) (tG hlt (tG hlt (tG (Pj i) (tG hi (tG hi (tX c2 (bE (gl.is hk) (hJ 0 (by decide) (by decide) (by rw[Pu.J4 c c2,LP])))))))))))))))))
theorem ao.outer{k:Nat}{w:LI}(hk:4194304+10≤k)(hw:w.length≤2000)(h:Pu.isWord w=true): ∀(m j i:Nat) (out:LI),i+m=w.length→m<j→out.length≤i→ao.L0 k j i w out=some (out++(Ln i m).map fun i=>((Pu.plc w i+1:Nat):Int))
 |m,0,i,out,_,hj,_=>by omega
 |0,j+1,i,out,hi,_,ho=>by
  rw[ao.aT]
  have hn: ¬(i:Int)<w.length:=by omega
  rw[List.range'_zero,Pd,MR]
  exact tX hn rfl
 |m+1,j+1,i,out,hi,hj,ho=>by
  have hlt:i<w.length:=by omega
  have hn:(i:Int)<w.length:=by omega
  have hw2:=cz.is (k:=k) (w:=w) (by omega) (by omega)
  rw[h]at hw2
  have e:=ao.inner (k:=k) (k1:=j) (w:=w) (out:=out) (by omega) hw hlt (by omega) w.length k 0 1 (by omega) (by omega) rfl
  have y1:=ao.outer hk hw h m j (i+1) (out++ [((Pu.plc w i+1:Nat):Int)]) (by omega) (by omega) (by rw[Mb,Ox];omega)
  rw[Ph]at e
  rw[ao.aT]
  refine tG hn (bE hw2 (tY ?_))
  rw[ao.eM,e,y1,List.range'_succ,MP,NM]
  rfl
theorem ao.is{k:Nat}{w:LI}(hk:4194304+12≤k)(hw:w.length≤2000):ao k w=some (Pu.Iv w):=by
 obtain⟨k,rfl⟩: ∃k',k=k'+1:=⟨k-1,by omega⟩
 rw[ao.eq]
 unfold Pu.Iv
 cases h:Pu.isWord w with
 |true=>
  have h2:=ao.outer (k:=k) (by omega) hw h w.length k 0 [] (by omega) (by omega) (by simp)
  rw[Ph]at h2
  rw[h2,if_pos rfl,List.range_eq_range']
  rfl
 |false=>
  have h2:=cz.is (k:=k) (w:=w) (by omega) (by omega)
  rw[h]at h2
  obtain⟨j,rfl⟩: ∃j,k=j+1:=⟨k-1,by omega⟩
  have hn:(0:Int)<w.length:=by
   cases w with
   |nil=>cases h
   |cons a l=>simp only[Nr];omega
  rw[ao.aT,if_neg (by decide)]
  exact tG hn (bE h2 (tF rfl))
theorem ao.ok{k:Nat}{w:LI}(hk:4194304+12≤k)(hw:w.length≤1000):Pu.Ok (ao k w) fun r=>r.length≤1000:=
 ⟨_,ao.is hk (by omega),by
  unfold Pu.Iv
  cases h:Pu.isWord w with
  |true=>rw[if_pos rfl,N2,List.length_range];exact hw
  |false=>exact NF _⟩
theorem gm.ok{k:Nat}{i h:Int}{b:LI}(hk:4194304+20≤k)(hb:b.length≤1048576)(hi:0≤i)(hi':i≤b.length):Pu.Ok (gm k i h b) fun r=>r.1.length≤1000∧0≤r.2.2.1∧r.2.2.1≤b.length:=by
 obtain⟨k,rfl⟩: ∃k',k=k'+1:=⟨k-1,by omega⟩
 obtain⟨r0,i0,h0,e0,a1,a2,a3,a4,a5⟩:=aD.is (k:=k) (n:=4) (h:=h) (b:=b) (by omega) hb hi hi' (by omega)
 have hr:=a3 (by omega)
 have hw:D.wrap .i64 (D.add 2 r0)=2+r0:=by show IntKind.i64.wrap (2+r0)=2+r0;exact w64 (by omega) (by omega)
 obtain⟨w,w1,w2,w3,w4⟩:=bZ.ok (k:=k) (l:=2+r0) (i:=i0) (h:=h0) (b:=b) (by omega) hb (by omega) a4 a5
 obtain⟨r2,i2,h2,e2,b4,b5⟩:=bP.is (k:=k) (n:=3) (i:=w.2.2.1) (h:=w.2.2.2) (b:=b) (by omega) hb w3 w4 (by omega)
 obtain⟨s,s1,s2⟩:=ao.ok (k:=k) (w:=w.1) (by omega) (by omega)
 rw[gm.eq]
 cases r2 with
 |false=>
  refine⟨(w.1,((),(i2,h2))),bE e0 ?_,by dsimp only;omega,b4,b5⟩
  simp only[hw]
  exact bE w1 (bE e2 (tF rfl))
 |true=>
  refine⟨(s,((),(i2,h2))),bE e0 ?_,s2,b4,b5⟩
  simp only[hw]
  exact bE w1 (bE e2 (tY (bE s1 rfl)))
theorem ct.loop{k:Nat}{p h:Int}{b:LI}(hp:0≤p∧p≤b.length): ∀(m j:Nat) (out:LI),10≤out.length+m→m<j→out.length≤1000→Pu.Ok (ct.L0 k j out p h b) fun r=>r.1.length≤1010∧0≤r.2.2.1∧r.2.2.1≤b.length
 |m,0,out,_,hj,_=>by omega
 |m,j+1,out,hm,hj,ho=>by
  rw[ct.aT]
  by_cases c:(out.length:Int)<10
  ·obtain⟨m,rfl⟩: ∃m',m=m'+1:=⟨m-1,by omega⟩
   have hap:(out++ [1]).length≤1099511627776:=by rw[Mb,Ox];omega
   obtain⟨y,y1,y2⟩:=ct.loop (k:=k) (h:=h) hp m j (out++ [1]) (by rw[Mb,Ox];omega) (by omega) (by rw[Mb,Ox];omega)
   exact⟨y,tG c (tG hap y1),y2⟩
  ·exact⟨_,tX c rfl,by dsimp only;omega,hp.1,hp.2⟩
theorem ct.okI{k:Nat}{i h:Int}{b:LI}(hk:4194304+30≤k)(hb:b.length≤1048576)(hi:0≤i)(hi':i≤b.length):Pu.Ok (ct k i h b) fun r=>r.1.length≤1010∧0≤r.2.2.1∧r.2.2.1≤b.length:=by
 obtain⟨k,rfl⟩: ∃k',k=k'+1:=⟨k-1,by omega⟩
 obtain⟨w,w1,w2,w3,w4⟩:=gm.ok (k:=k) (i:=i) (h:=h) (b:=b) (by omega) hb hi hi'
 obtain⟨r1,i1,h1,e1,a1,a2,a3,a4,a5⟩:=aD.is (k:=k) (n:=14) (i:=w.2.2.1) (h:=w.2.2.2) (b:=b) (by omega) hb w3 w4 (by omega)
 rw[ct.eq]
 by_cases c:r1=0
 ·obtain⟨x,i2,h2,e2,_,q1,q2⟩:=cr.is (k:=k) (l:= [0,10,-1,9]) (i:=i1) (h:=h1) (b:=b) (by omega) hb a4 a5 (by simp) (by simp)
  have hap:(w.1++ [x]).length≤1099511627776:=by rw[Mb,Ox];omega
  exact⟨(w.1++ [x],((),(i2,h2))),bE w1 (bE e1 (tG c (bE e2 (tG hap rfl)))),by dsimp only;rw[Mb,Ox];omega,q1,q2⟩
 ·by_cases c2:r1=1
  ·obtain⟨y,y1,y2⟩:=ct.loop (k:=k) (p:=i1) (h:=h1) (b:=b) ⟨a4,a5⟩ 10 k w.1 (by omega) (by omega) w2
   exact⟨y,bE w1 (bE e1 (tX c (tG c2 y1))),y2⟩
  ·exact⟨(w.1,((),(i1,h1))),bE w1 (bE e1 (tX c (tX c2 rfl))),by dsimp only;omega,a4,a5⟩
theorem aF.vQ{k:Nat}{b x3:LI}(hk:4194304+40≤k)(hb:b.length≤1048576): ∀(m j i:Nat) (h:Int),i+m=b.length→m<j→Pu.Ok (aF.L0 k j h i 0 b x3) fun r=>r.1.length≤1010:=by
 have fin: ∀h,Pu.Ok (aF.J2 k h 0 b x3) fun r=>r.1.length≤1010:=fun h=>by
  rw[aF.kC]
  refine Pu.Ok.bnd (ct.okI (by show _≤k+1;omega) hb (by omega) (by omega)) ?_
  rintro⟨w,_,i1,h1⟩ ⟨hw,a4,a5⟩
  dsimp only at*
  obtain⟨r2,i2,h2,e2,_⟩:=aD.is (k:=HAdd.hAdd k 1) (n:=11) (h:=h1) (b:=b) (by show _≤k+1;omega) hb a4 a5 (by omega)
  exact Pu.Ok.iM e2 (Pu.Ok.ret hw)
 intro m
 induction m with
 |zero=>
  intro j i h hi hj
  obtain⟨j,rfl⟩: ∃j',j=j'+1:=⟨j-1,by omega⟩
  rw[aF.aT]
  simp only[g7,gF,eC,eQ,eU,cM,dg,dB,fM,ep,dI,dj,di,eV,cn,dA,dS,eZ,gA,gO,eR,eT,dw,dx,dh,cQ,N1,Mp]
  exact Pu.Ok.no (by omega) (fin h)
 |succ m ih=>
  intro j i h hi hj
  obtain⟨j,rfl⟩: ∃j',j=j'+1:=⟨j-1,by omega⟩
  have hw:IntKind.i64.wrap ((i:Int)+1)=((i+1:Nat):Int):=w64 (by omega) (by omega)
  rw[aF.aT]
  simp only[g7,gF,eC,eQ,eU,cM,dg,dB,fM,ep,dI,dj,di,eV,cn,dA,dS,eZ,gA,gO,eR,eT,dw,dx,dh,cQ,N1,Mp]
  refine Pu.Ok.g (by omega) (Pu.Ok.t (fun _=> ?_) (fun _=>fin h))
  rw[aF.eM]
  simp only[g7,gF,eC,eQ,eU,cM,dg,dB,fM,ep,dI,dj,di,eV,cn,dA,dS,eZ,gA,gO,eR,eT,dw,dx,dh,cQ,N1,Mp]
  rw[hw]
  refine Pu.Ok.g (by omega) (Pu.Ok.g (by omega) (Pu.Ok.g (by omega) ?_))
  exact ih j (i+1) _ (by omega) (by omega)
theorem aF.ok{k:Nat}{b:LI}(hk:4194304+50≤k)(hb:b.length≤1048576):Pu.Ok (aF k b) fun r=>r.1.length≤1010:=by
 obtain⟨k,rfl⟩: ∃k',k=k'+2:=⟨k-2,by omega⟩
 rw[aF.eq]
 exact aF.vQ (by omega) hb b.length k 0 _ (by omega) (by omega)
theorem eF.ok{k:Nat}{b:LI}(hk:4194304+60≤k)(hb:b.length≤1048576):Pu.Ok (eF k b) fun r=>r.1.length≤1010:=by
 obtain⟨k,rfl⟩: ∃k',k=k'+2:=⟨k-2,by omega⟩
 rw[eF.eq]
 exact Pu.Ok.bnd (aF.ok (by show _≤k+1;omega) hb) fun r hr=>Pu.Ok.ret hr
theorem cK.loop{k:Nat}{a b:LI}(hl:a.length=b.length)(ha:a.length≤1048576): ∀(m j i:Nat),i+m=a.length→m<j→cK.L0 k j i a b=some (decide (a.drop i=b.drop i))
 |m,0,i,_,hj=>by omega
 |0,j+1,i,hi,_=>by
  rw[cK.aT]
  have e:i=a.length:=by omega
  subst e
  simp[hl]
 |m+1,j+1,i,hi,hj=>by
  rw[cK.aT]
  have h1:i<a.length:=by omega
  have h2:i<b.length:=by omega
  have ih:=cK.loop (k:=k) hl ha m j (i+1) (by omega) (by omega)
  rw[Pk]at ih
  rw[Pu.drop_cons h1 0,Pu.drop_cons h2 0]
  by_cases e:a.getD i 0=b.getD i 0<;>simp (disch:=omega) only[al,g7,gF,eC,cM,dg,dB,fM,cn,dA,gA,gO,w64,O4,decide_eq_true_eq,Int.ofNat_lt,h1,h2,if_true,Pj,decide_true,ih,e,List.cons.injEq,true_and,false_and,decide_false,Lj,Bool.not_false,if_false,NC]
theorem cK.is{k:Nat}{a b:LI}(hk:4194304+1≤k)(ha:a.length≤1048576):cK k a b=some (decide (a=b)):=by
 obtain⟨k,rfl⟩: ∃k',k=k'+1:=⟨k-1,by omega⟩
 rw[cK.eq]
 by_cases hl:a.length=b.length
 ·have h:=cK.loop (k:=k) hl ha a.length k 0 (by omega) (by omega)
  rw[Ph]at h
  simp only[Ny]at h
  have hl':(a.length:Int)=b.length:=by omega
  simp only[al,gA,gO,dg,cM,hl',decide_true,Lj,NC,if_false,h]
 ·have hne:a≠b:=fun e=>hl (by rw[e])
  have hl': ¬(a.length:Int)=b.length:=by omega
  simp[hl',hne]
theorem aU.loop{k:Nat}{p q:LI}{a b:LJ}(hk:4194304+1≤k)(hl:a.length=b.length)(ha:a.length≤1048576)(hr: ∀x∈a,x.length≤1048576): ∀(m j i:Nat),i+m=a.length→m<j→aU.L1 k j i p a q b=some (decide (a.drop i=b.drop i))
 |m,0,i,_,hj=>by omega
 |0,j+1,i,hi,_=>by
  rw[aU.dX]
  have e:i=a.length:=by omega
  subst e
  simp[hl]
 |m+1,j+1,i,hi,hj=>by
  rw[aU.dX]
  have h1:i<a.length:=by omega
  have h2:i<b.length:=by omega
  have ih:=aU.loop (k:=k) (p:=p) (q:=q) hk hl ha hr m j (i+1) (by omega) (by omega)
  rw[Pk]at ih
  have hx:(a.getD i []).length≤1048576:=by rw[Pu.an h1 []];exact hr _ (Ns h1)
  have hs:=cK.is (k:=k) (b:=b.getD i []) hk hx
  rw[Pu.drop_cons h1 [],Pu.drop_cons h2 []]
  by_cases e:a.getD i []=b.getD i []
  ·rw[e]at hs
   simp (disch:=omega) only[↓al,sss,if_true,if_false,h1,h2,hs,ih,e,List.cons.injEq,true_and,false_and,eq_self]
  ·simp (disch:=omega) only[↓al,sss,if_true,if_false,h1,h2,hs,ih,e,List.cons.injEq,true_and,false_and]
theorem aU.is{k:Nat}{a b:LI×LJ}(hk:4194304+2≤k)(h1:a.1.length≤1048576)(ha:a.2.length≤1048576)(hr: ∀x∈a.2,x.length≤1048576):aU k a b=some (decide (a=b)):=by
 obtain⟨k,rfl⟩: ∃k',k=k'+1:=⟨k-1,by omega⟩
 obtain⟨a1,a2⟩:=a
 obtain⟨b1,b2⟩:=b
 have hs:=cK.is (k:=k) (a:=a1) (b:=b1) (by omega) h1
 rw[aU.eq,hs,bX,aU.iy]
 by_cases e1:a1=b1
 ·subst e1
  by_cases hl:a2.length=b2.length
  ·have h:=aU.loop (k:=k) (p:=a1) (q:=a1) (a:=a2) (b:=b2) (by omega) hl ha hr a2.length k 0 (by omega) (by simp only at ha;omega)
   rw[Ph]at h
   simp only[Ny]at h
   have hl':(a2.length:Int)=b2.length:=by omega
   simp only[↓al,sss,if_true,if_false,hl',h,Prod.mk.injEq,true_and,eq_self]
  ·have hne:a2≠b2:=fun e=>hl (by rw[e])
   have hl': ¬(a2.length:Int)=b2.length:=by omega
   simp[hl',hne]
 ·simp[e1]
theorem cO.loop{k:Nat}{a b:LI}(hl:a.length=b.length)(ha:a.length≤1048576): ∀(m j i:Nat),i+m=a.length→m<j→cO.L0 k j i a b=some (decide (a.drop i=b.drop i))
 |m,0,i,_,hj=>by omega
 |0,j+1,i,hi,_=>by
  rw[cO.aT]
  have e:i=a.length:=by omega
  subst e
  simp[hl]
 |m+1,j+1,i,hi,hj=>by
  rw[cO.aT]
  have h1:i<a.length:=by omega
  have h2:i<b.length:=by omega
  have ih:=cO.loop (k:=k) hl ha m j (i+1) (by omega) (by omega)
  rw[Pk]at ih
  rw[Pu.drop_cons h1 0,Pu.drop_cons h2 0]
  by_cases e:a.getD i 0=b.getD i 0<;>simp (disch:=omega) only[al,g7,gF,eC,cM,dg,dB,fM,cn,dA,gA,gO,w64,O4,decide_eq_true_eq,Int.ofNat_lt,h1,h2,if_true,Pj,decide_true,ih,e,List.cons.injEq,true_and,false_and,decide_false,Lj,Bool.not_false,if_false,NC]
theorem cO.is{k:Nat}{a b:LI}(hk:4194304+1≤k)(ha:a.length≤1048576):cO k a b=some (decide (a=b)):=by
 obtain⟨k,rfl⟩: ∃k',k=k'+1:=⟨k-1,by omega⟩
 rw[cO.eq]
 by_cases hl:a.length=b.length
 ·have h:=cO.loop (k:=k) hl ha a.length k 0 (by omega) (by omega)
  rw[Ph]at h
  simp only[Ny]at h
  have hl':(a.length:Int)=b.length:=by omega
  simp only[al,gA,gO,dg,cM,hl',decide_true,Lj,NC,if_false,h]
 ·have hne:a≠b:=fun e=>hl (by rw[e])
  have hl': ¬(a.length:Int)=b.length:=by omega
  simp[hl',hne]
theorem bq.loop{k:Nat}{a b:LI}(hl:a.length=b.length)(ha:a.length≤1048576): ∀(m j i:Nat),i+m=a.length→m<j→bq.L0 k j a.length i a b=some (decide (a.drop i=b.drop i))
 |m,0,i,_,hj=>by omega
 |0,j+1,i,hi,_=>by
  rw[bq.aT]
  have e:i=a.length:=by omega
  subst e
  simp[hl]
 |m+1,j+1,i,hi,hj=>by
  rw[bq.aT]
  have h1:i<a.length:=by omega
  have h2:i<b.length:=by omega
  have ih:=bq.loop (k:=k) hl ha m j (i+1) (by omega) (by omega)
  rw[Pk]at ih
  rw[Pu.drop_cons h1 0,Pu.drop_cons h2 0]
  by_cases e:a.getD i 0=b.getD i 0<;>simp (disch:=omega) only[↓al,sss,if_true,if_false,h1,h2,ih,e,List.cons.injEq,true_and,false_and]
theorem bq.is{k:Nat}{a b:LI}(hk:4194304+1≤k)(ha:a.length≤1048576):bq k a b=some (decide (a=b)):=by
 obtain⟨k,rfl⟩: ∃k',k=k'+1:=⟨k-1,by omega⟩
 rw[bq.eq]
 by_cases hl:a.length=b.length
 ·have h:=bq.loop (k:=k) hl ha a.length k 0 (by omega) (by omega)
  rw[Ph]at h
  simp only[Ny]at h
  have hl':(a.length:Int)=b.length:=by omega
  have e:D.eq (a.length:Int) (b.length:Int)=true:=decide_eq_true hl'
  simp only[dg,cM,e,gA,Lj,al,NC,if_false,h]
 ·have hne:a≠b:=fun e=>hl (by rw[e])
  have hl': ¬(a.length:Int)=b.length:=by omega
  simp[hl',hne]
theorem ah.loop{k:Nat}{a b:LJ}(hk:4194304+1≤k)(hl:a.length=b.length)(ha:a.length≤1048576)(hr: ∀x∈a,x.length≤1048576): ∀(m j i:Nat),i+m=a.length→m<j→ah.L0 k j a.length i b a=some (decide (a.drop i=b.drop i),())
 |m,0,i,_,hj=>by omega
 |0,j+1,i,hi,_=>by
  rw[ah.aT]
  have e:i=a.length:=by omega
  subst e
  simp[hl]
 |m+1,j+1,i,hi,hj=>by
  rw[ah.aT]
  have h1:i<a.length:=by omega
  have h2:i<b.length:=by omega
  have ih:=ah.loop hk hl ha hr m j (i+1) (by omega) (by omega)
  rw[Pk]at ih
  have hs:=bq.is (k:=k) (a:=a.getD i []) (b:=b.getD i []) hk (by rw[Pu.an h1];exact hr _ (Ns h1))
  rw[Pu.drop_cons h1 [],Pu.drop_cons h2 []]
  simp (disch:=omega) only[↓al,sss,if_true,if_false,h1,h2,hs,ih]
  generalize a.getD i []=u
  generalize b.getD i []=v
  by_cases e:u=v<;>simp[e]
theorem ah.is{k:Nat}{a b:LJ}(hk:4194304+2≤k)(ha:a.length≤1048576)(hr: ∀x∈a,x.length≤1048576):ah k a b=some (decide (a=b),()):=by
 obtain⟨k,rfl⟩: ∃k',k=k'+1:=⟨k-1,by omega⟩
 rw[ah.eq]
 by_cases hl:a.length=b.length
 ·have h:=ah.loop (k:=k) (by omega) hl ha hr a.length k 0 (by omega) (by omega)
  rw[Ph]at h
  simp only[Ny]at h
  have hl':(a.length:Int)=b.length:=by omega
  have e:D.eq (a.length:Int) (b.length:Int)=true:=decide_eq_true hl'
  simp only[dg,cM,e,gA,Lj,al,NC,if_false,h]
 ·have hne:a≠b:=fun e=>hl (by rw[e])
  have hl': ¬(a.length:Int)=b.length:=by omega
  simp[hl',hne]
theorem fS.is{k:Nat}{a b:Pu.Tab}(hk:4194304+3≤k)(h:Pu.lT a):fS k a b=some (decide (a=b)):=by
 obtain⟨k,rfl⟩: ∃k',k=k'+1:=⟨k-1,by omega⟩
 obtain⟨a1,a2⟩:=a
 obtain⟨b1,b2⟩:=b
 rw[fS.eq,bq.is (by omega) h.1,ah.is (by omega) h.2.1 h.2.2]
 by_cases e:a1=b1<;>simp[e]
theorem eG.is{k:Nat}{t:Pu.Tab}(hk:4194304+60≤k)(h:Pu.lT t):eG k t=some ((Pu.jr t).2&&decide ((Pu.jr t).1=t)):=by
 obtain⟨k,rfl⟩: ∃k',k=k'+1:=⟨k-1,by omega⟩
 have hok:=Pu.ta (t:=t)
 rw[eG.eq,show((t.1,t.2):Pu.Tab)=t from rfl,aL.is (by omega) h.1 h.2.1 h.2.2,bX]
 rw[show(((Pu.jr t).1.1,(Pu.jr t).1.2):Pu.Tab)=(Pu.jr t).1 from rfl,fS.is (by omega) hok]
 cases(Pu.jr t).2<;>simp
theorem gU.is{k:Nat}{a b:LI×LI}(hk:4194304+2≤k)(h1:a.1.length≤1048576)(h2:a.2.length≤1048576):gU k a b=some (decide (a=b)):=by
 obtain⟨k,rfl⟩: ∃k',k=k'+1:=⟨k-1,by omega⟩
 obtain⟨a1,a2⟩:=a
 obtain⟨b1,b2⟩:=b
 rw[gU.eq,cK.is (by omega) h1,cK.is (by omega) h2]
 by_cases e:a1=b1<;>simp[e]
theorem bt.at{k:Nat}{p:LI}(hk:4194304+200≤k):bt (k+1) p=some true:=by
 rw[bt.eq]
 refine bE (nx.is (by omega)) ?_
 by_cases c:(1048576:Int)<p.length
 ·rw[decide_eq_true c];exact tY rfl
 ·rw[decide_eq_false c]
  have hp:p.length≤1048576:=by omega
  obtain⟨t,e1,ht⟩:=az.ok (k:=k) (b:=p) (by omega) hp
  obtain⟨⟨u,n⟩,e2,hu⟩:=ar.ok (k:=k) (b:=p) (by omega) hp
  obtain⟨⟨w,m⟩,e3,hw⟩:=eF.ok (k:=k) (b:=p) (by omega) hp
  have hu:Pu.gE 10 9 10 u:=hu
  have hw:w.length≤1010:=hw
  have hT:Pu.lT t:=ht.tab (by omega) (by omega) (by omega)
  have hU:Pu.lT u:=hu.tab (by omega) (by omega) (by omega)
  have self: ∀{u:Pu.Tab},Pu.lT u→aU k u u=some true:=fun{u} h=>by
   have:=aU.is (k:=k) (a:=u) (b:=u) (by omega) h.1 h.2.1 h.2.2
   rw[decide_eq_true rfl]at this
   exact this
  have ints: ∀{l:LI},l.length≤2000→cO k l l=some true:=fun{l} h=>by
   have:=cO.is (k:=k) (a:=l) (b:=l) (by omega) (by omega)
   rw[decide_eq_true rfl]at this
   exact this
  have es: ∀{v:Pu.Tab},Pu.lT v→aL k v=some (Pu.jr v):=fun{v} h=>aL.is (by omega) h.1 h.2.1 h.2.2
  have f2:=aZ.is (k:=k) (t:=t) (by omega) hT.1 hT.2.1 hT.2.2
  have et: ∀{v:Pu.Tab} {z:Int},Pu.lT v→b7 k v z=some (Pu.bB v z):=fun{v z} h=>b7.is (by omega) h
  have g2:=eY.is (k:=k) (t:=u) (n:=n) (by omega) hU
  have h1:=dW.is (k:=k) (w:=w) (n:=m) (by omega) (by omega)
  have h2:=eO.is (k:=k) (w:=w) (n:=m) (by omega) (by omega)
  have hl:=Pu.Fg (w:=w) (n:=m)
  have J1:bt.J1 k n (Pu.bB u n).2 u.1 u.2 (Pu.bB u n).1.1 (Pu.bB u n).1.2=some true:=by
   rw[bt.eM]
   cases h:(Pu.bB u n).2 with
   |false=>exact tM rfl
   |true=>
    obtain⟨a1,a2,a3,a4⟩:=Pu.vP h
    have j1:=et (v:=(Pu.bB u n).1) (z:=n) Pu.yk
    rw[a1]at j1
    have s1:=bV.is (k:=k) (t:=u) (by omega) hU.1 hU.2.1 hU.2.2
    have ox:=Pu.yk (t:=u) (n:=n)
    have s2:=bV.is (k:=k) (t:=(Pu.bB u n).1) (by omega) ox.1 ox.2.1 ox.2.2
    have hsh:Pu.shapeOf (Pu.bB u n).1=Pu.shapeOf u:=by
     have b3:=a3
     have b4:=a4
     simp only[Pu.bj,Nc]at b3 b4
     unfold Pu.shapeOf
     rw[if_pos (Pu.lb b3.1),if_pos (Pu.lb b4.1),a2,Pu.eB a3,Pu.eB a4]
    rw[hsh]at s2
    have sl:(Pu.shapeOf u).1.1.length≤1048576∧(Pu.shapeOf u).1.2.length≤1048576:=by
     have b4:=a4
     simp only[Pu.bj,Nc]at b4
     unfold Pu.shapeOf
     rw[if_pos (Pu.lb b4.1)]
     refine⟨?_,hU.1⟩
     show(Pu.gB u.1 0 u.2).length≤_
     rw[Pu.kV];exact hU.2.1
    have q:=gU.is (k:=k) (a:=(Pu.shapeOf u).1) (b:=(Pu.shapeOf u).1) (by omega) sl.1 sl.2
    rw[decide_eq_true rfl]at q
    exact tN (bE j1 (bE s1 (bE s2 (tY (bE (self hU) (tY (bE q rfl)))))))
  have J0:bt.J0 k (Pu.jr t).2 n (Pu.bB u n).2 t.1 t.2 (Pu.jr t).1.1 (Pu.jr t).1.2 u.1 u.2 (Pu.bB u n).1.1 (Pu.bB u n).1.2=some true:=by
   rw[bt.iy]
   cases h:(Pu.jr t).2 with
   |false=>exact tF J1
   |true=>
    have hpl:Pu.bj t=true:=by
     unfold Pu.jr at h
     split at h
     ·next g=>exact g.1
     ·cases h
    have hp':=hpl
    simp only[Pu.bj,Nc]at hp'
    have j1:=es (v:=(Pu.jr t).1) Pu.ta
    rw[Pu.C9 h]at j1
    have rw1:=br.is (k:=k) (t:=t) (by omega) hT.1 hT.2.1 hT.2.2
    rw[if_pos hp'.1]at rw1
    have hlen:t.2.reverse.flatten.length=t.2.flatten.length:=(Pu.ik t.2).length_eq
    have j3:=et (v:=t) (z:=(t.2.flatten.length:Nat)) hT
    refine tY (bE j1 (bE rw1 ?_))
    simp only[cM,dg,hlen]
    refine bE j3 (tN (bE (self hT) (tN ?_)))
    by_cases h0:0<t.2.flatten.length
    ·rw[Pu.zo h h0]
     exact tG (show(0:Int)<(t.2.flatten.length:Nat) by omega) (tN (bE (self Pu.ta) (tN J1)))
    ·exact tX (show¬(0:Int)<(t.2.flatten.length:Nat) by omega) J1
  have i3:=eG.is (k:=k) (t:=t) (by omega) hT
  refine tF (bE e1 (bE (es hT) (bE f2 (bE e2 (bE (et hU) (bE g2 (bE e3 (bE h1 (bE h2 (tB (bE (self Pu.ta) (tN (tB (bE (self Pu.yk) (tN (tB (bE (ints (by omega)) (tN (bE i3 ?_)))))))))))))))))))
  have oe:=Pu.ta (t:=t)
  have hs:=aU.is (k:=k) (a:=(Pu.jr t).1) (b:=t) (by omega) oe.1 oe.2.1 oe.2.2
  cases hb:(Pu.jr t).2 with
  |true=>
   rw[hb]at J0
   have e:((Pu.jr t).2&&decide ((Pu.jr t).1=t))=decide ((Pu.jr t).1=t):=by rw[hb];rfl
   rw[hb]at e
   rw[e]
   exact tY (bE hs (tB J0))
  |false=>
   rw[hb]at J0
   exact tF (tB J0)
theorem bt.is{p:LI}(h1:p.length≤maxLen): ∃k,bt k p=some true:=⟨_,bt.at (Ng (4194304+200))⟩
end Go.Am.Seat
