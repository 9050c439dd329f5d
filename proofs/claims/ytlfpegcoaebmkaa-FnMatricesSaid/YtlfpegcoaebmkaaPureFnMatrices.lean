/- What the functions make of data, as plain words; each holds for all data within the bounds that it names. -/
import Derived.Test.YtlfpegcoaebmkaaEqsFnMatrices
import Derived.Test.YtlfpegcoaebmkaaPu
set_option linter.unusedSimpArgs false
set_option linter.unusedVariables false
set_option linter.unnecessarySimpa false
set_option linter.unusedSectionVars false
namespace Go.Am.Seat
open Go Go.Am Go.Am.Pu
attribute [local instance] D.real
set_option linter.unusedSimpArgs false
set_option linter.unusedVariables false
set_option maxRecDepth 4000
theorem mA.is{k:Nat}{p:LI}(hk:1≤k):mA k p=some (decide ((1048576:Int)<p.length)):=by
 obtain⟨k,rfl⟩: ∃k',k=k'+1:=⟨k-1,by omega⟩
 rw[mA.eq]
 rfl
theorem du.is{k:Nat}{i h:Int}{b:LI}(hk:1≤k)(hb:b.length≤1048576)(hi:0≤i)(hi':i≤b.length):
  ∃r i' h',du k i h b=some (r,((),(i',h')))∧0≤r∧r≤255∧0≤i'∧i'≤b.length:=by
 obtain⟨k,rfl⟩: ∃k',k=k'+1:=⟨k-1,by omega⟩
 rw[du.eq]
 have e33:(0:Int)≤33:=by decide
 have e45:(0:Int)≤45:=by decide
 by_cases hlt:i<b.length
 ·have hn:i.toNat<b.length:=by omega
  have ew:IntKind.i64.wrap (i+1)=i+1:=w64 (by omega) (by omega)
  refine⟨_,i+1,_,by simp only[↓aB,sss,if_true,if_false,e33,e45,hlt,hi,hn,ew];rfl,(Pu.zw _).1,(Pu.zw _).2,?_,?_⟩
  ·omega
  ·omega
 ·exact⟨_,_,_,by simp only[↓aB,sss,if_true,if_false,e33,e45,hlt];rfl,(Pu.zw _).1,(Pu.zw _).2,hi,hi'⟩
theorem bz.is{k:Nat}{n i h:Int}{b:LI}(hk:2≤k)(hb:b.length≤1048576)(hi:0≤i)(hi':i≤b.length)(hn:n≤256):
  ∃r i' h',bz k n i h b=some (r,((),(i',h')))∧0≤r∧(n≤0→r=0)∧(0<n→r<n)∧0≤i'∧i'≤b.length:=by
 obtain⟨k,rfl⟩: ∃k',k=k'+1:=⟨k-1,by omega⟩
 rw[bz.eq]
 by_cases h0:n≤0
 ·exact⟨0,i,h,by simp only[↓aB,sss,if_true,if_false,h0],by omega,fun _=>rfl,fun h=>by omega,hi,hi'⟩
 ·obtain⟨r,i',h',e,h1,h2,h3,h4⟩:=du.is (k:=k) (h:=h) (b:=b) (by omega) hb hi hi'
  have hne: ¬n=0:=by omega
  refine⟨r.tmod n,i',h',by simp only[↓aB,sss,if_true,if_false,h0,hn,e,hne];rfl,Int.tmod_nonneg _ h1,fun h=>by omega,fun _=>Int.tmod_lt_of_pos _ (by omega),h3,h4⟩
theorem cf.is{k:Nat}{l:LI}{i h:Int}{b:LI}(hk:3≤k)(hb:b.length≤1048576)(hi:0≤i)(hi':i≤b.length)(hl:0<l.length)(hl':l.length≤256):
  ∃r i' h',cf k i h l b=some (r,((),(i',h')))∧r∈l∧0≤i'∧i'≤b.length:=by
 obtain⟨k,rfl⟩: ∃k',k=k'+1:=⟨k-1,by omega⟩
 rw[cf.eq]
 obtain⟨r,i',h',e,h1,h2,h3,h4,h5⟩:=bz.is (k:=k) (n:=l.length) (h:=h) (b:=b) (by omega) hb hi hi' (by omega)
 have h3:=h3 (by omega)
 have hn:r.toNat<l.length:=by omega
 refine⟨l.getD r.toNat 0,i',h',?_,?_,h4,h5⟩
 ·simp only[↓aB,sss,if_true,if_false,e,h1,hn]
 ·rw[Pu.aj hn 0];exact List.getElem_mem hn
theorem gn.is{k:Nat}{a b:Int}(hk:1≤k):gn k a b=some (min a b):=by
 obtain⟨k,rfl⟩: ∃k',k=k'+1:=⟨k-1,by omega⟩
 rw[gn.eq]
 by_cases h:a<b
 ·simp only[↓aB,sss,if_true,if_false,h];congr 1;omega
 ·simp only[↓aB,sss,if_true,if_false,h];congr 1;omega
theorem aN.row{k k1:Nat}{rows cols:Nat}{i:Nat}{b:LI}{out:LJ}(hk:4194304+10≤k)(hb:b.length≤1048576)(hi9:i≤9)(hc9:cols≤9)(ho:out.length≤9): ∀(t j q:Nat) (left p h:Int) (row:LI),q+t=cols→t<j→row.length=q→0≤p→p≤b.length→
  ∃left' p' h' row',aN.L1 k k1 j rows cols left i q p h out row b=aN.L0 k k1 rows cols left' ((i+1:Nat):Int) p' h' (out++ [row']) b∧row'.length=cols∧0≤p'∧p'≤b.length
 |t,0,q,left,p,h,row,_,hj,_,_,_=>by omega
 |0,j+1,q,left,p,h,row,hq,_,hl,h0,h1=>by
  have hw1:IntKind.i64.wrap ((i:Int)+1)=((i+1:Nat):Int):=by rw[w64 (by omega) (by omega)];omega
  have hap:(out++ [row]).length≤1099511627776:=by rw[List.length_append,List.length_singleton];omega
  refine⟨left,p,h,row,?_,by omega,h0,h1⟩
  rw[aN.cO]
  simp only[de,bZ,fx,cm,hw1]
  exact tX (by omega) (tG hap rfl)
 |t+1,j+1,q,left,p,h,row,hq,hj,hl,h0,h1=>by
  obtain⟨x,p1,h2,e1,_,a1,a2⟩:=cf.is (k:=k) (l:= [0,0,1,2,1,0]) (i:=p) (h:=h) (b:=b) (by omega) hb h0 h1 (by simp) (by simp)
  have e2:=gn.is (k:=k) (a:=left) (b:=x) (by omega)
  have hw1:IntKind.i64.wrap ((q:Int)+1)=((q+1:Nat):Int):=by rw[w64 (by omega) (by omega)];omega
  have hap:(row++ [min left x]).length≤1099511627776:=by rw[List.length_append,List.length_singleton];omega
  obtain⟨l',p',h',row',e,c1,c2,c3⟩:=aN.row (rows:=rows) (k1:=k1) hk hb hi9 hc9 ho t j (q+1) (D.wrap .i64 (D.sub left (min left x))) p1 h2 (row++ [min left x]) (by omega) (by omega) (by rw[List.length_append,List.length_singleton];omega) a1 a2
  refine⟨l',p',h',row',?_,c1,c2,c3⟩
  rw[aN.cO,←e]
  refine tG (show(q:Int)<cols by omega) (bE e1 (bE e2 (tG hap ?_)))
  simp only[de,bZ,fx,hw1]
theorem aN.loop{k:Nat}{rows cols:Nat}{b:LI}(hk:4194304+20≤k)(hb:b.length≤1048576)(hr:1≤rows)(hr9:rows≤4)(hc:1≤cols)(hc9:cols≤4): ∀(t j i:Nat) (left p h:Int) (out:LJ),i+t=rows→t<j→out.length=i→(∀x∈out,x.length=cols)→0≤p→p≤b.length→
  Pu.Ok (aN.L0 k j rows cols left i p h out b) fun r=>Pu.cy 9 9 r.1∧0≤r.2.2.1∧r.2.2.1≤b.length
 |t,0,i,left,p,h,out,_,hj,_,_,_,_=>by omega
 |0,j+1,i,left,p,h,out,hi,_,hl,hx,h0,h1=>by
  rw[aN.bp]
  have hok:Pu.cy 9 9 out:=⟨by omega,fun x hm=>by rw[hx x hm];omega⟩
  refine Pu.Ok.no (show¬(i:Int)<rows by omega) ?_
  obtain⟨r1,i1,h2,e1,a1,a2,a3,a4,a5⟩:=bz.is (k:=k) (n:=14) (i:=p) (h:=h) (b:=b) (by omega) hb h0 h1 (by omega)
  refine Pu.Ok.oZ e1 ?_
  dsimp only
  have hp0:0<out.length:=by omega
  have hc0:0<(out.getD 0 []).length:=by
   have:=hx (out.getD 0 []) (by rw[Pu.aj hp0];exact List.getElem_mem hp0)
   omega
  have t0:(0:Int).toNat=0:=rfl
  refine Pu.Ok.tb (fun _=> ?_) (fun _=>Pu.Ok.tb (fun _=> ?_) (fun _=>Pu.Ok.tb (fun _=> ?_) (fun _=> ?_)))
  ·obtain⟨x,p1,h3,e2,_,q1,q2⟩:=cf.is (k:=k) (l:= [-1,10,9]) (i:=i1) (h:=h2) (b:=b) (by omega) hb a4 a5 (by simp) (by simp)
   simp only[nI,nk,jZ,kD,kB,cm,cH,cD,eN,gm,fx,gU,gY,iY,bZ,de,gd,lB,mO,mP,kC,kE,ju,js,fO,fP,List.nil_append,List.cons_append]
   rw[t0]
   refine Pu.Ok.g (by omega) (Pu.Ok.g hp0 (Pu.Ok.g hp0 (Pu.Ok.oZ e2 ?_)))
   refine Pu.Ok.g hp0 (Pu.Ok.g (by omega) (Pu.Ok.g hc0 (Pu.Ok.g hp0 (Pu.Ok.g hc0 (Pu.Ok.ret ⟨⟨?_,fun y hy=> ?_⟩,q1,q2⟩)))))
   ·dsimp only;rw[List.length_set];omega
   ·dsimp only at hy
    rcases List.mem_or_eq_of_mem_set hy with hy|hy
    ·rw[hx y hy];omega
    ·rw[hy,List.length_set]
     have:=hx (out.getD 0 []) (by rw[Pu.aj hp0];exact List.getElem_mem hp0)
     omega
  ·refine Pu.Ok.g (show(out++ [[1]]).length≤1099511627776 by rw[List.length_append,List.length_singleton];omega) (Pu.Ok.ret ⟨⟨?_,fun y hy=> ?_⟩,a4,a5⟩)
   ·show(out++ [[1]]).length≤9
    rw[List.length_append,List.length_singleton];omega
   ·rcases List.mem_append.1 (show y∈out++ [[1]]from hy)with hy|hy
    ·rw[hx y hy];omega
    ·rw[List.mem_singleton.1 hy];simp
  ·exact Pu.Ok.ret ⟨⟨by simp,fun y hy=>by cases hy⟩,a4,a5⟩
  ·exact Pu.Ok.ret ⟨hok,a4,a5⟩
 |t+1,j+1,i,left,p,h,out,hi,hj,hl,hx,h0,h1=>by
  obtain⟨l',p',h',row',e,c1,c2,c3⟩:=aN.row (k:=k) (k1:=j) (rows:=rows) (cols:=cols) (i:=i) (b:=b) (out:=out) (by omega) hb (by omega) (by omega) (by omega) cols k 0 left p h [] (by omega) (by omega) rfl h0 h1
  rw[Int.natCast_zero]at e
  rw[aN.bp]
  refine Pu.Ok.g (show(i:Int)<rows by omega) ?_
  rw[e]
  exact aN.loop hk hb hr hr9 hc hc9 t j (i+1) _ _ _ _ (by omega) (by omega) (by rw[List.length_append,List.length_singleton];omega) (fun x hm=>by
   rcases List.mem_append.1 hm with hm|hm
   ·exact hx x hm
   ·rw[List.mem_singleton.1 hm];exact c1) c2 c3
theorem aN.ok{k:Nat}{i h:Int}{b:LI}(hk:4194304+30≤k)(hb:b.length≤1048576)(hi:0≤i)(hi':i≤b.length):Pu.Ok (aN k i h b) fun r=>Pu.cy 9 9 r.1∧0≤r.2.2.1∧r.2.2.1≤b.length:=by
 obtain⟨k,rfl⟩: ∃k',k=k'+1:=⟨k-1,by omega⟩
 rw[aN.eq]
 obtain⟨r1,i1,h1,e1,a1,a2,a3,a4,a5⟩:=bz.is (k:=k) (n:=4) (i:=i) (h:=h) (b:=b) (by omega) hb hi hi' (by omega)
 refine Pu.Ok.oZ e1 ?_
 dsimp only
 obtain⟨r2,i2,h2,e2,b1,b2,b3,b4,b5⟩:=bz.is (k:=k) (n:=4) (i:=i1) (h:=h1) (b:=b) (by omega) hb a4 a5 (by omega)
 refine Pu.Ok.oZ e2 ?_
 dsimp only
 have a3:=a3 (by omega)
 have b3:=b3 (by omega)
 have w1:D.wrap .i64 (D.add 1 r1)=(((1+r1).toNat:Nat):Int):=by show IntKind.i64.wrap (1+r1)=_;rw[w64 (by omega) (by omega)];omega
 have w2:D.wrap .i64 (D.add 1 r2)=(((1+r2).toNat:Nat):Int):=by show IntKind.i64.wrap (1+r2)=_;rw[w64 (by omega) (by omega)];omega
 rw[w1,w2]
 exact aN.loop (by omega) hb (by omega) (by omega) (by omega) (by omega) (1+r1).toNat k 0 _ _ _ [] (by omega) (by omega) rfl (fun x hx=>by cases hx) b4 b5
theorem aJ.Ba{k:Nat}{b:LI}{x3:LJ}(hk:4194304+40≤k)(hb:b.length≤1048576): ∀(m j i:Nat) (h:Int),i+m=b.length→m<j→Pu.Ok (aJ.L0 k j h i b x3) fun r=>Pu.cy 9 9 r:=by
 have fin: ∀h,Pu.Ok (aJ.J2 k h b x3) fun r=>Pu.cy 9 9 r:=fun h=>by
  rw[aJ.kx]
  exact Pu.Ok.bnd (aN.ok (by show _≤k+1;omega) hb (by omega) (by omega)) fun r hr=>Pu.Ok.ret hr.1
 intro m
 induction m with
 |zero=>
  intro j i h hi hj
  obtain⟨j,rfl⟩: ∃j',j=j'+1:=⟨j-1,by omega⟩
  rw[aJ.bp]
  simp only[nI,nk,jZ,kD,kB,cm,cH,cD,eN,gm,fx,gU,gY,iY,bZ,de,gd,lB,mO,mP,kC,kE,ju,js,fO,fP,List.nil_append,List.cons_append]
  exact Pu.Ok.no (by omega) (fin h)
 |succ m ih=>
  intro j i h hi hj
  obtain⟨j,rfl⟩: ∃j',j=j'+1:=⟨j-1,by omega⟩
  have hw:IntKind.i64.wrap ((i:Int)+1)=((i+1:Nat):Int):=w64 (by omega) (by omega)
  rw[aJ.bp]
  simp only[nI,nk,jZ,kD,kB,cm,cH,cD,eN,gm,fx,gU,gY,iY,bZ,de,gd,lB,mO,mP,kC,kE,ju,js,fO,fP,List.nil_append,List.cons_append]
  refine Pu.Ok.g (by omega) (Pu.Ok.t (fun _=> ?_) (fun _=>fin h))
  rw[aJ.fb]
  simp only[nI,nk,jZ,kD,kB,cm,cH,cD,eN,gm,fx,gU,gY,iY,bZ,de,gd,lB,mO,mP,kC,kE,ju,js,fO,fP,List.nil_append,List.cons_append]
  rw[hw]
  refine Pu.Ok.g (by omega) (Pu.Ok.g (by omega) (Pu.Ok.g (by omega) ?_))
  exact ih j (i+1) _ (by omega) (by omega)
theorem aJ.ok{k:Nat}{b:LI}(hk:4194304+50≤k)(hb:b.length≤1048576):Pu.Ok (aJ k b) fun r=>Pu.cy 9 9 r:=by
 obtain⟨k,rfl⟩: ∃k',k=k'+2:=⟨k-2,by omega⟩
 rw[aJ.eq]
 exact aJ.Ba (by omega) hb b.length k 0 _ (by omega) (by omega)
theorem cW.is{k:Nat}{x lo hi:Int}(hk:1≤k):cW k x lo hi=some (Pu.within x lo hi):=by
 obtain⟨k,rfl⟩: ∃k',k=k'+1:=⟨k-1,by omega⟩
 rw[cW.eq]
 by_cases h:lo≤x<;>simp[Pu.within,h]
theorem eT.is{k:Nat}{x:Int}(hk:2≤k):eT k x=some (!Pu.within x 0 9,()):=by
 obtain⟨k,rfl⟩: ∃k',k=k'+1:=⟨k-1,by omega⟩
 rw[eT.eq,cW.is (by omega)]
 rfl
theorem ay.is{k:Nat}{r:LI}(hk:4194304+1≤k)(hr:r.length≤1048577):ay k r=some (Pu.zX (fun y=> !Pu.within y 0 9) r,()):=by
 obtain⟨k,rfl⟩: ∃k',k=k'+1:=⟨k-1,by omega⟩
 rw[ay.eq]
 have h:=Pu.rR r 0 (fun y=> !Pu.within y 0 9) (fun j i=>ay.L0 k j r.length i r) (fun i=>some ((i:Int),())) (some (-1,()))
  (fun j i hi=>by
   rw[ay.bp,eT.is (by omega)]
   cases c:Pu.within (r.getD i 0) 0 9<;>simp (disch:=omega) only[↓aB,sss,if_true,if_false,hi,c,Int.natCast_add,Int.natCast_one])
  (fun j=>by
   rw[ay.bp]
   simp only[↓aB,sss,if_true,if_false,Nat.lt_irrefl]) r.length k 0 (by omega) (by omega) (by omega)
 simp only[Int.natCast_zero]at h
 simp only[cH,cm]
 rw[h]
 unfold Pu.zX
 split<;>rfl
theorem bB.is{k:Nat}{r:LI}(hk:4194304+2≤k)(hr:r.length≤1048577):bB k r=some (r.any fun y=> !Pu.within y 0 9,()):=by
 obtain⟨k,rfl⟩: ∃k',k=k'+1:=⟨k-1,by omega⟩
 rw[bB.eq,ay.is (by omega) hr,cQ,nk,Pu.zG]
theorem fc.loop{k:Nat}{w:LI}(hw:w.length≤1048576)(hb: ∀x∈w,-1000000≤x∧x≤1000000): ∀(m j i:Nat) (s:Int),i+m=w.length→m<j→ -1000000*i≤s→s≤1000000*i→fc.L0 k j s w.length i w=some (s+Pu.dA (w.drop i))
 |m,0,i,s,_,hj,_,_=>by omega
 |0,j+1,i,s,hm,_,_,_=>by
  rw[fc.bp]
  have e:i=w.length:=by omega
  subst e
  simp[Pu.dA]
 |m+1,j+1,i,s,hm,hj,hs1,hs2=>by
  rw[fc.bp]
  have hlt:i<w.length:=by omega
  have hx:=hb _ (List.getElem_mem hlt)
  rw[←Pu.aj hlt 0]at hx
  have ih:=fc.loop (k:=k) hw hb m j (i+1) (s+w.getD i 0) (by omega) (by omega) (by omega) (by omega)
  rw[Int.natCast_succ]at ih
  rw[Pu.drop_cons hlt 0]
  simp (disch:=omega) only[↓aB,sss,if_true,if_false,hlt,ih,Pu.dA,Int.add_assoc]
theorem fc.is{k:Nat}{w:LI}(hk:4194304+1≤k)(hw:w.length≤1048576)(hb: ∀x∈w,-1000000≤x∧x≤1000000):fc k w=some (Pu.dA w):=by
 obtain⟨k,rfl⟩: ∃k',k=k'+1:=⟨k-1,by omega⟩
 rw[fc.eq]
 have h:=fc.loop (k:=k) hw hb w.length k 0 0 (by omega) (by omega) (by omega) (by omega)
 rw[Int.natCast_zero]at h
 simp only[cH,cm]
 rw[h,Int.zero_add,List.drop_zero]
theorem bw.loop{k:Nat}{m:LJ}(hk:4194304+5≤k)(hm:m.length≤9)(hr: ∀x∈m,x.length≤1048576): ∀(n j i:Nat) (s:Int),i+n=m.length→n<j→0≤s→s≤1000*i→
  bw.L0 k j s m.length i m=some ((m.drop i).all (Pu.wm (m.getD 0 []).length)&&decide (s+Pu.dA (m.drop i).flatten≤9))
 |n,0,i,s,_,hj,_,_=>by omega
 |0,j+1,i,s,hi,_,_,_=>by
  rw[bw.bp,List.drop_of_length_le (by omega)]
  have hn: ¬(i:Int)<m.length:=by omega
  refine tX hn ?_
  simp[Pu.dA]
 |n+1,j+1,i,s,hi,hj,hs0,hs=>by
  have hlt:i<m.length:=by omega
  have hn:(i:Int)<m.length:=by omega
  have h0:0<m.length:=by omega
  have hl:=hr (m.getD i []) (by rw[Pu.aj hlt];exact List.getElem_mem hlt)
  have hw1:IntKind.i64.wrap ((i:Int)+1)=((i+1:Nat):Int):=by rw[w64 (by omega) (by omega)];omega
  have hc:=bB.is (k:=k) (r:=m.getD i []) (by omega) (by omega)
  rw[bw.bp,Pu.drop_cons hlt []]
  simp only[cD,cm,cH,eN,Int.toNat_natCast]
  have t0:(0:Int).toNat=0:=rfl
  rw[t0]
  refine tG hn (tG (Int.natCast_nonneg i) (tG hlt (tG hlt (tG hlt (tG (by omega) (tG h0 (tG h0 (tG h0 ?_))))))))
  rw[List.all_cons]
  by_cases c:(m.getD i []).length=(m.getD 0 []).length
  ·have c':((m.getD i []).length:Int)=((m.getD 0 []).length:Int):=by omega
   refine tE c' (tG hlt ?_)
   by_cases d:(9:Int)<(m.getD i []).length
   ·refine tG d ?_
    have e:Pu.wm (m.getD 0 []).length (m.getD i [])=false:=by
     unfold Pu.wm
     rw[decide_eq_false (show¬(m.getD i []).length≤9 by omega)]
     simp
    rw[e];simp
   ·refine tX d (tG hlt (bE hc ?_))
    by_cases e:((m.getD i []).any fun y=> !Pu.within y 0 9)=true
    ·simp only[e]
     have:Pu.wm (m.getD 0 []).length (m.getD i [])=false:=by
      unfold Pu.wm
      have:((m.getD i []).all fun n=>Pu.within n 0 9)=false:=by
       rw[←Bool.not_eq_true,List.all_eq_true]
       intro h
       obtain⟨y,y1,y2⟩:=List.any_eq_true.1 e
       rw[h y y1]at y2;cases y2
      rw[this];simp
     rw[this]
     exact tY (by simp)
    ·have e':((m.getD i []).any fun y=> !Pu.within y 0 9)=false:=by simpa using e
     have hall: ∀y∈m.getD i [],0≤y∧y≤9:=fun y hy=>by
      have h:=List.any_eq_false.1 e' y hy
      exact Pu.within_iff.1 (by simpa using h)
     have hrow:Pu.wm (m.getD 0 []).length (m.getD i [])=true:=by
      unfold Pu.wm
      rw[decide_eq_true c,decide_eq_true (show(m.getD i []).length≤9 by omega),Bool.true_and,Bool.true_and,List.all_eq_true]
      exact fun y hy=>Pu.within_iff.2 (hall y hy)
     have hsum:=fc.is (k:=k) (w:=m.getD i []) (by omega) hl (fun y hy=>by have:=hall y hy;omega)
     have hb:=Pu.y5 (w:=m.getD i []) hall
     have hb0:=Pu.jS (m.getD i []) fun y hy=>(hall y hy).1
     have hw2:IntKind.i64.wrap (s+Pu.dA (m.getD i []))=s+Pu.dA (m.getD i []):=w64 (by omega) (by omega)
     have ih:=bw.loop hk hm hr n j (i+1) (s+Pu.dA (m.getD i [])) (by omega) (by omega) (by omega) (by omega)
     simp only[e']
     refine tF ?_
     rw[bw.fb]
     simp only[cD,cm,eN,de,bZ,hw1]
     refine tG hlt (bE hsum ?_)
     rw[hw2,ih,hrow,Bool.true_and,List.flatten_cons,Pu.lq,Int.add_assoc]
  ·have c': ¬((m.getD i []).length:Int)=((m.getD 0 []).length:Int):=by omega
   have e:Pu.wm (m.getD 0 []).length (m.getD i [])=false:=by
    unfold Pu.wm
    rw[decide_eq_false c,Bool.false_and]
   rw[e,Bool.false_and,Bool.false_and]
   show D.test (D.no (decide (((m.getD i []).length:Int)=((m.getD 0 []).length:Int)))) _ _=_
   rw[decide_eq_false c']
   exact tM rfl
theorem bw.is{k:Nat}{m:LJ}(hk:4194304+6≤k)(hm:m.length≤1048576)(hr: ∀x∈m,x.length≤1048576):bw k m=some (Pu.cM m):=by
 obtain⟨k,rfl⟩: ∃k',k=k'+1:=⟨k-1,by omega⟩
 rw[bw.eq]
 unfold Pu.cM
 by_cases c:m.length≤9
 ·have h:=bw.loop (k:=k) (by omega) c hr m.length k 0 0 (by omega) (by omega) (by omega) (by omega)
  rw[Int.natCast_zero,List.drop_zero,Int.zero_add]at h
  rw[decide_eq_true c,Bool.true_and]
  exact tX (show¬(9:Int)<m.length by omega) h
 ·rw[decide_eq_false c,Bool.false_and]
  exact tG (show(9:Int)<m.length by omega) rfl
theorem fI.is{k n:Nat}(hk:1≤k)(hn:n≤1048576):fI k 1 n=some (0,(n:Int)):=by
 obtain⟨k,rfl⟩: ∃k',k=k'+1:=⟨k-1,by omega⟩
 rw[fI.eq]
 have e1:D.shrI .u64 1 32=0:=Pu.E9 (n:=1) (by omega)
 have e2:D.andI .u64 1 4294967295=1:=Pu.EO (n:=1) (by omega)
 have e3:=Pu.E9 (n:=n) (by omega)
 have e4:=Pu.EO (n:=n) (by omega)
 have e5:D.shrI .u64 0 32=0:=Pu.E9 (n:=0) (by omega)
 have e6:D.andI .u64 0 4294967295=0:=Pu.EO (n:=0) (by omega)
 have w0:IntKind.u64.wrap 0=0:=Pu.Fl (by omega) (by omega)
 have wn:IntKind.u64.wrap (n:Int)=n:=Pu.Fl (by omega) (by omega)
 simp only[e1,e2,e3,e4,lB,bZ,de,Int.zero_mul,Int.one_mul,Int.mul_zero,Int.add_zero,w0,wn,e5,e6]
 rfl
theorem fY.is{k n:Nat}(hk:2≤k)(hn:n≤1048576):fY k 1 n=some (0,(n:Int)):=by
 obtain⟨k,rfl⟩: ∃k',k=k'+1:=⟨k-1,by omega⟩
 rw[fY.eq,fI.is (by omega) hn,cQ]
theorem ar.loop{k n:Nat}{v:Int×Int}(hn:n≤1048576): ∀(j d m:Nat),m+d=n→1≤m→d<j→ar.L2 k j m (List.replicate m v++List.replicate d ((0,0):Int×Int))=some (List.replicate n v)
 |0,d,m,_,_,h=>by omega
 |j+1,d,m,hm,h1,hj=>by
  rw[ar.gB]
  have hlen:(List.replicate m v++List.replicate d ((0,0):Int×Int)).length=n:=by simp;omega
  by_cases hd:d=0
  ·subst hd
   have e:m=n:=by omega
   subst e
   refine Eq.trans (Pu.vt _ _ _ _) ?_
   rw[if_neg (by show¬(m:Int)<((List.replicate m v++List.replicate 0 ((0,0):Int×Int)).length:Nat);rw[hlen];omega)]
   simp
  ·have e2:D.take (D.subN (D.len (List.replicate m v++List.replicate d ((0,0):Int×Int))) (D.nat m)) (D.take (D.subN (D.nat m) 0) (D.drop 0 (List.replicate m v++List.replicate d ((0,0):Int×Int))))=List.replicate (min (n-m) m) v:=by
    show((List.replicate m v++List.replicate d ((0,0):Int×Int)).take m).take ((List.replicate m v++List.replicate d ((0,0):Int×Int)).length-m)=_
    rw[hlen,List.take_append_of_le_length (by simp),List.take_replicate,List.take_replicate]
    congr 1;omega
   rw[e2]
   have hnew:D.app (D.take (D.addN (D.nat m) 0) (List.replicate m v++List.replicate d ((0,0):Int×Int))) (D.app (List.replicate (min (n-m) m) v) (D.drop (D.addN (D.nat m) (D.len (List.replicate (min (n-m) m) v))) (List.replicate m v++List.replicate d ((0,0):Int×Int))))=
     List.replicate (m+min (n-m) m) v++List.replicate (d-min (n-m) m) ((0,0):Int×Int):=by
    show(List.replicate m v++List.replicate d ((0,0):Int×Int)).take m++(List.replicate (min (n-m) m) v++(List.replicate m v++List.replicate d ((0,0):Int×Int)).drop (m+(List.replicate (min (n-m) m) v).length))=_
    rw[List.take_append_of_le_length (by simp),List.take_replicate,Nat.min_self,List.length_replicate,List.drop_append,List.drop_replicate,List.drop_replicate,List.length_replicate,←List.append_assoc,List.replicate_append_replicate]
    rw[show m-(m+min (n-m) m)=0 by omega,show m+min (n-m) m-m=min (n-m) m by omega]
    rfl
   have hz:IntKind.i64.wrap ((m:Int)+(min (n-m) m:Nat))=((m+min (n-m) m:Nat):Int):=by
    rw[w64 (by omega) (by omega)];omega
   have ih:=ar.loop (k:=k) (v:=v) hn j (d-min (n-m) m) (m+min (n-m) m) (by omega) (by omega) (by omega)
   rw[hnew]
   simp only[de,bZ,cH,cm,cD,hlen,List.length_replicate,Int.toNat_natCast]
   rw[hz,ih]
   refine tG ((by omega)) (tG ((by omega)) (tG ((by omega)) (tG ((by omega)) (tG ((by omega)) rfl))))
theorem ar.is{k n:Nat}{v:Int×Int}(hk:4194304+4≤k)(hn:n≤1048576):ar k [v] n=some (List.replicate n v):=by
 obtain⟨k,rfl⟩: ∃k',k=k'+1:=⟨k-1,by omega⟩
 rw[ar.eq]
 refine Eq.trans (Pu.vt _ _ _ _) ?_
 rw[if_neg (by omega),ar.fT]
 have w1:IntKind.u64.wrap 1=1:=Pu.Fl (by omega) (by omega)
 have wn:IntKind.u64.wrap (n:Int)=n:=Pu.Fl (by omega) (by omega)
 have wi:IntKind.i64.wrap (n:Int)=n:=w64 (by omega) (by omega)
 show D.bnd (fY k (IntKind.u64.wrap 1) (IntKind.u64.wrap n)) _=_
 rw[w1,wn,fY.is (by omega) hn,cQ]
 refine Eq.trans (Pu.vt _ _ _ _) ?_
 rw[if_neg (by simp)]
 refine Eq.trans (Pu.vt _ _ _ _) ?_
 rw[if_neg (by show¬(9223372036854775807:Int)<n;omega),ar.fb]
 simp only[bZ,wi]
 refine tG ((by omega)) (tG ((by omega)) (tG ((show(n:Int).toNat≤1099511627776 by omega)) ?_))
 show ar.L2 k k (((([v]:List (Int×Int)).take (List.replicate (n:Int).toNat ((0,0):Int×Int)).length).length:Nat):Int) ((List.replicate (n:Int).toNat ((0,0):Int×Int)).take 0++(([v]:List (Int×Int)).take (List.replicate (n:Int).toNat ((0,0):Int×Int)).length++(List.replicate (n:Int).toNat ((0,0):Int×Int)).drop (([v]:List (Int×Int)).take (List.replicate (n:Int).toNat ((0,0):Int×Int)).length).length))=_
 rw[List.length_replicate,Int.toNat_natCast]
 obtain⟨k,rfl⟩: ∃k',k=k'+1:=⟨k-1,by omega⟩
 by_cases h0:n=0
 ·subst h0
  rw[ar.gB]
  rfl
 ·obtain⟨n,rfl⟩: ∃n',n=n'+1:=⟨n-1,by omega⟩
  have h:=ar.loop (k:=k+1) (v:=v) hn (k+1) n 1 (by omega) (by omega) (by omega)
  simpa[List.replicate_succ]using h
theorem bJ.row{k k1 i:Nat}{m:LJ}(hk:4194304+10≤k)(hi:i<m.length)(hi9:i≤9)(hl:(m.getD i []).length≤9)(hn: ∀n∈m.getD i [],0≤n∧n≤9): ∀(t j q:Nat) (out:List (Int×Int)),q+t=(m.getD i []).length→t<j→out.length≤100*i+10*q→
  bJ.L1 k k1 j i m.length i i (m.getD i []).length q out m=bJ.L0 k k1 m.length ((i+1:Nat):Int) (out++Pu.prR i q ((m.getD i []).drop q)) m
 |t,0,q,out,_,hj,_=>by omega
 |0,j+1,q,out,hq,_,_=>by
  have hw1:IntKind.i64.wrap ((i:Int)+1)=((i+1:Nat):Int):=by rw[w64 (by omega) (by omega)];omega
  rw[bJ.cO,List.drop_of_length_le (by omega)]
  simp only[de,bZ,hw1]
  rw[show Pu.prR i q []= []from rfl,List.append_nil]
  exact tX (by omega) rfl
 |t+1,j+1,q,out,hq,hj,ho=>by
  have hlt:q<(m.getD i []).length:=by omega
  have hx:=hn ((m.getD i []).getD q 0) (by rw[Pu.aj hlt];exact List.getElem_mem hlt)
  have hw1:IntKind.i64.wrap ((q:Int)+1)=((q+1:Nat):Int):=by rw[w64 (by omega) (by omega)];omega
  have hw2:IntKind.i64.wrap ((i:Int)+1)=((i+1:Nat):Int):=by rw[w64 (by omega) (by omega)];omega
  have hrep:=ar.is (k:=k) (n:=((m.getD i []).getD q 0).toNat) (v:=(((i+1:Nat):Int),((q+1:Nat):Int))) (by omega) (by omega)
  rw[show((((m.getD i []).getD q 0).toNat:Nat):Int)=(m.getD i []).getD q 0 by omega]at hrep
  have hap:(out++List.replicate ((m.getD i []).getD q 0).toNat (((i+1:Nat):Int),((q+1:Nat):Int))).length≤1099511627776:=by rw[List.length_append,List.length_replicate];omega
  rw[bJ.cO,Pu.drop_cons hlt 0]
  simp only[cD,cm,cH,eN,de,bZ,fx,Int.toNat_natCast,hw1,hw2]
  refine tG (by omega) (tG hi (tG (Int.natCast_nonneg q) (tG hlt (tG hi (tG hlt (bE hrep (tG hap ?_)))))))
  rw[bJ.row hk hi hi9 hl hn t j (q+1) _ (by omega) (by omega) (by rw[List.length_append,List.length_replicate];omega)]
  simp only[Pu.prR,List.append_assoc]
theorem bJ.loop{k:Nat}{m:LJ}(hk:4194304+10≤k)(hM:Pu.cM m=true): ∀(t j i:Nat) (out:List (Int×Int)),i+t=m.length→t<j→out.length≤100*i→
  bJ.L0 k j m.length i out m=some (out++Pu.prM i (m.drop i))
 |t,0,i,out,_,hj,_=>by omega
 |0,j+1,i,out,hi,_,_=>by
  rw[bJ.bp,List.drop_of_length_le (by omega)]
  rw[show Pu.prM i []= []from rfl,List.append_nil]
  exact tX (show¬(i:Int)<m.length by omega) rfl
 |t+1,j+1,i,out,hi,hj,ho=>by
  have hlt:i<m.length:=by omega
  obtain⟨h9,hx⟩:=Pu.gI hM
  have hxi:=hx (m.getD i []) (by rw[Pu.aj hlt];exact List.getElem_mem hlt)
  rw[bJ.bp,Pu.drop_cons hlt []]
  simp only[cD,cm,cH,eN,Int.toNat_natCast]
  refine tG (show(i:Int)<m.length by omega) (tG (Int.natCast_nonneg i) (tG hlt (tG hlt (tG hlt ?_))))
  have e:=bJ.row (k:=k) (k1:=j) (by omega) hlt (by omega) hxi.1 hxi.2 (m.getD i []).length k 0 out (by omega) (by omega) (by omega)
  rw[Int.natCast_zero,List.drop_zero]at e
  rw[e,bJ.loop hk hM t j (i+1) _ (by omega) (by omega) (by
   have hb:=Pu.vk (i:=i) (m.getD i []) 0 fun n hn=>(hxi.2 n hn).1
   have hs:=Pu.y5 (w:=m.getD i []) hxi.2
   have:=hxi.1
   rw[List.length_append];omega)]
  simp only[Pu.prM,List.append_assoc]
theorem bJ.is{k:Nat}{m:LJ}(hk:4194304+20≤k)(hM:Pu.cM m=true):bJ k m=some (Pu.prM 0 m):=by
 obtain⟨k,rfl⟩: ∃k',k=k'+1:=⟨k-1,by omega⟩
 have e:=bJ.loop (k:=k) (by omega) hM m.length k 0 [] (by omega) (by have:=(Pu.gI hM).1;omega) (by simp)
 rw[Int.natCast_zero,List.drop_zero,List.nil_append]at e
 rw[bJ.eq]
 exact e
theorem bT.loop{k:Nat}{l:List (Int×Int)}{x4:LJ}{x5:LI}(hl:l.length≤1000): ∀(t j i:Nat) (out:LI),i+t=l.length→t<j→out.length≤i→bT.L0 k j l.length i out l x4 x5=some (out++(l.drop i).map Prod.snd)
 |t,0,i,out,_,hj,_=>by omega
 |0,j+1,i,out,hi,_,_=>by
  rw[bT.bp,List.drop_of_length_le (by omega),List.map_nil,List.append_nil]
  exact tX (show¬(i:Int)<l.length by omega) rfl
 |t+1,j+1,i,out,hi,hj,ho=>by
  have hlt:i<l.length:=by omega
  have hw1:IntKind.i64.wrap ((i:Int)+1)=((i+1:Nat):Int):=by rw[w64 (by omega) (by omega)];omega
  have hap: ∀z:Int,(out++ [z]).length≤1099511627776:=fun z=>by rw[List.length_append,List.length_singleton];omega
  rw[bT.bp,Pu.drop_cons hlt (0,0),List.map_cons]
  simp only[cD,cm,cH,eN,de,bZ,fx,Int.toNat_natCast,hw1]
  refine tG (by omega) (tG (Int.natCast_nonneg i) (tG hlt (tG hlt (tG (by decide) (tG (by decide) (tG (hap _) ?_))))))
  rw[bT.loop hl t j (i+1) _ (by omega) (by omega) (by rw[List.length_append,List.length_singleton];omega),List.append_assoc]
  rfl
theorem bT.is{k:Nat}{m:LJ}(hk:4194304+40≤k)(hm:m.length≤1048576)(hr: ∀x∈m,x.length≤1048576):bT k m=some (Pu.kO m):=by
 obtain⟨k,rfl⟩: ∃k',k=k'+2:=⟨k-2,by omega⟩
 rw[bT.eq]
 refine bE (bw.is (by omega) hm hr) ?_
 unfold Pu.kO
 cases h:Pu.cM m with
 |false=>exact tM rfl
 |true=>
  have hp:=(Pu.dq.1 h).pok
  have h9:=hp.1
  have e:=bT.loop (k:=k) (l:=Pu.prM 0 m) (x4:=m) (x5:= []) (by omega) (Pu.prM 0 m).length k 0 [] (by omega) (by omega) (by simp)
  rw[Int.natCast_zero,List.drop_zero,List.nil_append]at e
  rw[if_pos rfl]
  exact tN (bE (bJ.is (by omega) h) e)
theorem cI.loop{k:Nat}{l:List (Int×Int)}{x4:LJ}{x5:LI}(hl:l.length≤1000): ∀(t j i:Nat) (out:LI),i+t=l.length→t<j→out.length≤i→cI.L0 k j l.length i out l x4 x5=some (out++(l.drop i).map Prod.fst)
 |t,0,i,out,_,hj,_=>by omega
 |0,j+1,i,out,hi,_,_=>by
  rw[cI.bp,List.drop_of_length_le (by omega),List.map_nil,List.append_nil]
  exact tX (show¬(i:Int)<l.length by omega) rfl
 |t+1,j+1,i,out,hi,hj,ho=>by
  have hlt:i<l.length:=by omega
  have hw1:IntKind.i64.wrap ((i:Int)+1)=((i+1:Nat):Int):=by rw[w64 (by omega) (by omega)];omega
  have hap: ∀z:Int,(out++ [z]).length≤1099511627776:=fun z=>by rw[List.length_append,List.length_singleton];omega
  rw[cI.bp,Pu.drop_cons hlt (0,0),List.map_cons]
  simp only[cD,cm,cH,eN,de,bZ,fx,Int.toNat_natCast,hw1]
  refine tG (by omega) (tG (Int.natCast_nonneg i) (tG hlt (tG hlt (tG (by decide) (tG (by decide) (tG (hap _) ?_))))))
  rw[cI.loop hl t j (i+1) _ (by omega) (by omega) (by rw[List.length_append,List.length_singleton];omega),List.append_assoc]
  rfl
theorem cI.is{k:Nat}{m:LJ}(hk:4194304+40≤k)(hm:m.length≤1048576)(hr: ∀x∈m,x.length≤1048576):cI k m=some (Pu.qk m):=by
 obtain⟨k,rfl⟩: ∃k',k=k'+2:=⟨k-2,by omega⟩
 rw[cI.eq]
 refine bE (bw.is (by omega) hm hr) ?_
 unfold Pu.qk
 cases h:Pu.cM m with
 |false=>exact tM rfl
 |true=>
  have hp:=(Pu.dq.1 h).pok
  have h9:=hp.1
  have e:=cI.loop (k:=k) (l:=Pu.prM 0 m) (x4:=m) (x5:= []) (by omega) (Pu.prM 0 m).length k 0 [] (by omega) (by omega) (by simp)
  rw[Int.natCast_zero,List.drop_zero,List.nil_append]at e
  rw[if_pos rfl]
  exact tN (bE (bJ.is (by omega) h) e)
theorem cV.is{k:Nat}{n x:Int}(hk:1≤k):cV k n x=some (decide (x<n),x):=by
 obtain⟨k,rfl⟩: ∃k',k=k'+1:=⟨k-1,by omega⟩
 rw[cV.eq]
 rfl
theorem an.loop{k:Nat}{r:LI}{x:Int}(hk:1≤k)(hr:r.length≤1048577): ∀(m j i:Nat),i+m=r.length→m<j→i≤r.findIdx (fun n=>decide (x<n))→
  an.L0 k j r.length i r x=some (if r.findIdx (fun n=>decide (x<n))<r.length then((r.findIdx (fun n=>decide (x<n)):Nat):Int)else-1,x)
 |m,0,i,_,hj,_=>by omega
 |0,j+1,i,hm,_,hi=>by
  rw[an.bp]
  have e:i=r.length:=by omega
  have h: ¬r.findIdx (fun n=>decide (x<n))<r.length:=by omega
  subst e
  rw[if_neg h]
  simp
 |m+1,j+1,i,hm,hj,hi=>by
  rw[an.bp]
  have hlt:i<r.length:=by omega
  simp (disch:=omega) only[↓aB,sss,if_true,if_false,hlt,cV.is]
  by_cases c:x<r.getD i 0
  ·have e:r.findIdx (fun n=>decide (x<n))=i:=by
    refine Nat.le_antisymm ?_ hi
    exact Pu.findIdx_le hlt (by simpa using c)
   simp only[c,↓aB,sss,if_true,if_false,e,hlt]
  ·have hne:r.findIdx (fun n=>decide (x<n))≠i:=fun e=>by
    have:=Pu.rf (p:=fun n=>decide (x<n)) (r:=r) (by rw[e];exact hlt)
    rw[e]at this
    exact c (by simpa using this)
   have ih:=an.loop (k:=k) (x:=x) hk hr m j (i+1) (by omega) (by omega) (by omega)
   rw[Int.natCast_succ]at ih
   simp only[c,↓aB,sss,if_true,if_false,ih]
theorem an.is{k:Nat}{r:LI}{x:Int}(hk:4194304+1≤k)(hr:r.length≤1048577):
  an k x r=some (if r.findIdx (fun n=>decide (x<n))<r.length then((r.findIdx (fun n=>decide (x<n)):Nat):Int)else-1,x):=by
 obtain⟨k,rfl⟩: ∃k',k=k'+1:=⟨k-1,by omega⟩
 rw[an.eq]
 exact an.loop (k:=k) (by omega) hr r.length k 0 (by omega) (by omega) (by omega)
theorem bj.loop{k:Nat}{inner:LI}(hk:4194304+1≤k): ∀(m j i:Nat) (x:Int) (rows:LJ),i+m=rows.length→m<j→rows.length≤1048576→(∀r∈rows,r.length≤1048576)→
  bj.L0 k j rows.length i x rows inner=some (((i+(Pu.aC (rows.drop i) x).2:Nat):Int),(inner,rows.take i++(Pu.aC (rows.drop i) x).1))
 |m,0,i,x,rows,_,hj,_,_=>by omega
 |0,j+1,i,x,rows,hm,_,hl,hr=>by
  rw[bj.bp]
  have e:i=rows.length:=by omega
  subst e
  have h1:rows.length+1≤1099511627776:=by omega
  simp (disch:=omega) only[↓aB,sss,if_true,if_false,Nat.lt_irrefl,h1,List.drop_length,List.take_length,Pu.aC,List.length_append,List.length_cons,List.length_nil,Int.natCast_add,Int.natCast_one,Int.natCast_zero,Int.add_zero,Int.zero_add,Nat.zero_add,Nat.add_zero,Int.add_sub_cancel]
 |m+1,j+1,i,x,rows,hm,hj,hl,hr=>by
  rw[bj.bp]
  have hlt:i<rows.length:=by omega
  have hx:=hr _ (List.getElem_mem hlt)
  rw[←Pu.aj hlt []]at hx
  have hi:=an.is (k:=k) (r:=rows.getD i []) (x:=x) (by omega) (by omega)
  rw[Pu.drop_cons hlt []]
  unfold Pu.aC
  generalize hf:(rows.getD i []).findIdx (fun n=>decide (x<n))=f at*
  by_cases c:f<(rows.getD i []).length
  ·rw[if_pos c]at hi⊢
   have ih:=bj.loop (inner:=inner) hk m j (i+1) ((rows.getD i []).getD f 0) (rows.set i ((rows.getD i []).set f x)) (by rw[List.length_set];omega) (by omega) (by rw[List.length_set];exact hl) (fun r h=>by
    rcases List.mem_or_eq_of_mem_set h with h|rfl
    ·exact hr r h
    ·rw[List.length_set];exact hx)
   rw[Pu.q9 hlt,Pu.qT,List.length_set,Int.natCast_succ]at ih
   have hn: ¬(f:Int)<0:=by omega
   simp (disch:=omega) only[↓aB,sss,if_true,if_false,hlt,hi,hn,c,ih]
   simp only[List.append_assoc,List.singleton_append]
   congr 2
   omega
  ·rw[if_neg c]at hi⊢
   have hn:(-1:Int)<0:=by omega
   have h1:(rows.getD i []++ [x]).length≤1099511627776:=by simp only[List.length_append,List.length_cons,List.length_nil];omega
   simp (disch:=omega) only[↓aB,sss,if_true,if_false,hlt,hi,hn,h1,Nat.add_zero]
   rw[Pu.xX hlt]
theorem bj.is{k:Nat}{inner:LI}{x:Int}{rows:LJ}(hk:4194304+2≤k)(hl:rows.length≤1048576)(hr: ∀r∈rows,r.length≤1048576):
  bj k x inner rows=some ((((Pu.aC rows x).2:Nat):Int),(inner,(Pu.aC rows x).1)):=by
 obtain⟨k,rfl⟩: ∃k',k=k'+1:=⟨k-1,by omega⟩
 rw[bj.eq]
 have h:=bj.loop (k:=k) (inner:=inner) (by omega) rows.length k 0 x rows (by omega) (by omega) hl hr
 rw[Int.natCast_zero]at h
 simpa using h
theorem ba.add{k k1:Nat}{i a n:Nat}{W v:LI}{x4:LI}{x5:LJ}{x6:LI}{x7:LJ}{pi:LI}{P:LJ}{qi:LI}{F:LJ}{z:Int}(hi:i<v.length)(hz:v.getD i 0=z)(ha:a<F.length)(hF: ∀r,(F.getD r []).length≤1000)(hw:i≤1000):
  ba.J1 k k1 i a n i v W x4 x5 x6 x7 pi P qi F=ba.L0 k k1 n ((i+1:Nat):Int) v W x4 x5 x6 x7 pi P qi (F.set a (F.getD a []++ [z])):=by
 rw[ba.fb]
 have h9:=hF a
 have hws:IntKind.i64.wrap ((i:Int)+1)=((i+1:Nat):Int):=by rw[w64 (by omega) (by omega)];omega
 have hap:(F.getD a []++ [z]).length≤1099511627776:=by rw[List.length_append,List.length_singleton];omega
 simp only[cD,cm,eN,gm,fx,de,bZ,Int.toNat_natCast,hws,hz]
 have a0:=Int.natCast_nonneg a
 exact tG a0 (tG ha (tG ha (tG (Int.natCast_nonneg i) (tG hi (tG hi (tG ha (tG hap (tG a0 (tG ha (tG ha (tG rfl rfl)))))))))))
theorem ba.loop{k:Nat}{W v:LI}{x4:LI}{x5:LJ}{x6:LI}{x7:LJ}(hk:4194304+20≤k)(hW:W.length≤9)(hx: ∀x∈W,1≤x∧x≤9)(hv:v.length=W.length): ∀(m j i:Nat) (P Q Q':LJ),i+m=W.length→m<j→Pu.Ins P Q' i→Pu.cR Q Q'→
  ba.L0 k j W.length i v W x4 x5 x6 x7 [] P [] Q=some (([],Pu.dx (W.drop i) P),([],Pu.jo ((v.zip W).drop i) P Q))
 |m,0,i,P,Q,Q',_,hj,_,_=>by omega
 |0,j+1,i,P,Q,Q',hi,_,_,_=>by
  rw[ba.bp]
  have hn: ¬(i:Int)<W.length:=by omega
  refine tX hn ?_
  rw[List.drop_of_length_le (by omega),List.drop_of_length_le (by rw[List.length_zip];omega)]
  rfl
 |m+1,j+1,i,P,Q,Q',hi,hj,h,hs=>by
  have hlt:i<W.length:=by omega
  have hn:(i:Int)<W.length:=by omega
  have hxi:=hx _ (List.getElem_mem hlt)
  rw[←Pu.aj hlt 0]at hxi
  obtain⟨s1,_,_⟩:=h.step hxi (by omega)
  have ha:=(Pu.n9 P (W.getD i 0)).1
  rw[h.same.1,←hs.1]at ha
  have ih:=ba.loop (x4:=x4) (x5:=x5) (x6:=x6) (x7:=x7) hk hW hx hv m j (i+1) (Pu.aC P (W.getD i 0)).1 (Pu.eF Q (Pu.aC P (W.getD i 0)).2 (v.getD i 0)) _ (by omega) (by omega) s1 (Pu.BL hs ha _ _)
  have hP:=Pu.dt (Pu.tL h (by omega))
  have hQ:=Pu.dt h.pl
  have hP1:P.length≤9:=hP.1
  have hQ1:Q.length≤9:=by rw[hs.1];exact hQ.1
  have hins:=bj.is (k:=k) (inner:= []) (x:=W.getD i 0) (rows:=P) (by omega) (by omega) (fun r hr=>by have:=hP.2 r hr;omega)
  have hul:i<v.length:=by omega
  rw[ba.bp,Pu.drop_cons hlt 0,Pu.zW hul hlt]
  show _=some (([],Pu.dx (W.drop (i+1)) (Pu.aC P (W.getD i 0)).1),([],Pu.jo ((v.zip W).drop (i+1)) (Pu.aC P (W.getD i 0)).1 (Pu.eF Q (Pu.aC P (W.getD i 0)).2 (v.getD i 0))))
  rw[←ih]
  simp only[cD,cm,cH,eN,Int.toNat_natCast]
  refine tG hn (tG (Int.natCast_nonneg i) (tG hlt (tG hlt (bE hins ?_))))
  simp only
  have hq9: ∀r,(Q.getD r []).length≤9:=fun r=>by rw[hs.2];exact hQ.at r
  generalize(Pu.aC P (W.getD i 0)).2=a at*
  unfold Pu.eF
  by_cases c:a=Q.length
  ·have hc:((a:Nat):Int)=(Q.length:Int):=by omega
   have hap:(Q++ [[]]).length≤1099511627776:=by rw[List.length_append,List.length_singleton];omega
   have hF: ∀r,((Q++ [[]]).getD r []).length≤1000:=fun r=>by
    by_cases hr:r<Q.length
    ·simp only[List.getD_eq_getElem?_getD,List.getElem?_append_left hr]
     have:=hq9 r
     simp only[List.getD_eq_getElem?_getD]at this
     omega
    ·simp only[List.getD_eq_getElem?_getD,List.getElem?_append_right (Nat.le_of_not_lt hr)]
     cases r-Q.length<;>simp
   refine tG hc (tG hap ?_)
   simp only[fx]
   rw[ba.add hul rfl (by rw[List.length_append,List.length_singleton];omega) hF (by omega),if_pos c]
   congr 1
   rw[c]
   simp
  ·have hc: ¬((a:Nat):Int)=(Q.length:Int):=by omega
   refine tX hc ?_
   rw[ba.add hul rfl (by omega) (fun r=>by have:=hq9 r;omega) (by omega),if_neg c]
theorem ba.isL{k:Nat}{W v:LI}(hk:4194304+30≤k)(h:Pu.isWord W=true)(hv:v.length=W.length):ba k W v=some (([],Pu.dx W []),([],Pu.jo (v.zip W) [] [])):=by
 obtain⟨k,rfl⟩: ∃k',k=k'+1:=⟨k-1,by omega⟩
 obtain⟨h1,h2⟩:=Pu.pL h
 have hl:=ba.loop (k:=k) (x4:= []) (x5:= []) (x6:= []) (x7:= []) (by omega) h1 h2 hv W.length k 0 [] [] [] (by omega) (by omega) Pu.Ins.nil ⟨rfl,fun _=>rfl⟩
 rw[Int.natCast_zero,List.drop_zero,List.drop_zero]at hl
 rw[ba.eq]
 exact hl
theorem cY.is{k:Nat}{m:LJ}(hk:4194304+60≤k)(hm:m.length≤1048576)(hr: ∀x∈m,x.length≤1048576):cY k m=some (Pu.bN m):=by
 obtain⟨k,rfl⟩: ∃k',k=k'+1:=⟨k-1,by omega⟩
 rw[cY.eq]
 refine bE (bw.is (by omega) hm hr) ?_
 unfold Pu.bN
 cases h:Pu.cM m with
 |false=>exact tM rfl
 |true=>
  have hp:=(Pu.dq.1 h).pok
  have h1:=bT.is (k:=k) (m:=m) (by omega) hm hr
  have h2:=cI.is (k:=k) (m:=m) (by omega) hm hr
  unfold Pu.kO at h1
  unfold Pu.qk at h2
  rw[h,if_pos rfl]at h1 h2
  have h3:=ba.isL (k:=k) (W:=Pu.wd (Pu.prM 0 m)) (v:=(Pu.prM 0 m).map Prod.fst) (by omega) hp.word (by simp[Pu.wd])
  rw[Pu.CB]at h3
  rw[if_pos rfl]
  exact tN (bE h1 (bE h2 (bE h3 rfl)))
theorem fg.is{k:Nat}{x lo hi:Int}(hk:1≤k):fg k x lo hi=some (Pu.within x lo hi):=by
 obtain⟨k,rfl⟩: ∃k',k=k'+1:=⟨k-1,by omega⟩
 rw[fg.eq]
 by_cases h:lo≤x<;>simp[Pu.within,h]
theorem bk.row{k k1:Nat}{m:LJ}{i:Nat}(hk:2≤k)(hi:i<m.length)(hm:m.length≤1048576)(hr: ∀x∈m,x.length≤1048576): ∀(n j q:Nat) (s:Int),q+n=(m.getD i []).length→n<j→0≤s→s≤9→
  bk.L1 k k1 j s i q m=match Pu.ur s ((m.getD i []).drop q)with
   |none=>some false
   |some s'=>bk.L0 k k1 s' ((i+1:Nat):Int) m
 |n,0,q,s,_,hj,_,_=>by omega
 |0,j+1,q,s,hq,_,_,_=>by
  have hw1:IntKind.i64.wrap ((i:Int)+1)=((i+1:Nat):Int):=by rw[w64 (by omega) (by omega)];omega
  rw[bk.cO,List.drop_of_length_le (by omega)]
  simp only[cD,cm,cH,eN,de,bZ,Int.toNat_natCast,hw1]
  exact tG (Int.natCast_nonneg i) (tG hi (tG hi (tG hi (tX (by omega) rfl))))
 |n+1,j+1,q,s,hq,hj,h0,h9=>by
  have hlt:q<(m.getD i []).length:=by omega
  have hl:=hr (m.getD i []) (by rw[Pu.aj hi];exact List.getElem_mem hi)
  have hw1:IntKind.i64.wrap ((q:Int)+1)=((q+1:Nat):Int):=by rw[w64 (by omega) (by omega)];omega
  have hin:=fg.is (k:=k) (x:=(m.getD i []).getD q 0) (lo:=0) (hi:=9) (by omega)
  rw[bk.cO,Pu.drop_cons hlt 0]
  simp only[cD,cm,cH,eN,de,bZ,Int.toNat_natCast,hw1]
  unfold Pu.ur
  have i0:=Int.natCast_nonneg i
  have q0:=Int.natCast_nonneg q
  refine tG i0 (tG hi (tG hi (tG hi (tG (by omega) (tG i0 (tG hi (tG hi (tG hi (tG q0 (tG hlt (tG hi (tG hlt (bE hin ?_)))))))))))))
  cases c:Pu.within ((m.getD i []).getD q 0) 0 9 with
  |false=>rw[if_neg (by decide)];exact tM rfl
  |true=>
   have hb:=Pu.within_iff.1 c
   have hw2:IntKind.i64.wrap (s+(m.getD i []).getD q 0)=s+(m.getD i []).getD q 0:=w64 (by omega) (by omega)
   rw[if_pos rfl,hw2]
   refine tN (tG i0 (tG hi (tG hi (tG hi (tG q0 (tG hlt (tG hi (tG hlt ?_))))))))
   by_cases d:9<s+(m.getD i []).getD q 0
   ·rw[if_pos d];exact tG d rfl
   ·rw[if_neg d]
    refine tX d ?_
    exact bk.row hk hi hm hr n j (q+1) _ (by omega) (by omega) (by omega) (by omega)
theorem bk.loop{k:Nat}{m:LJ}(hk:4194304+5≤k)(hm:m.length≤1048576)(hr: ∀x∈m,x.length≤1048576): ∀(n j i:Nat) (s:Int),i+n=m.length→n<j→0≤s→s≤9→
  bk.L0 k j s i m=some (Pu.xw (m.getD 0 []).length s (m.drop i)&&(decide (m.length≤9)&&(decide (m.length=0)||decide ((m.getD 0 []).length≤9))))
 |n,0,i,s,_,hj,_,_=>by omega
 |0,j+1,i,s,hi,_,_,_=>by
  rw[bk.bp,List.drop_of_length_le (by omega)]
  have hn: ¬(i:Int)<m.length:=by omega
  simp only[cD,cm,cH,eN]
  refine tX hn ?_
  show _=some (true&&_)
  rw[Bool.true_and]
  have t0:(0:Int).toNat=0:=rfl
  rw[t0]
  by_cases c:m.length≤9
  ·rw[decide_eq_true c,Bool.true_and]
   refine tG (show(m.length:Int)≤9 by omega) ?_
   by_cases d:m.length=0
   ·rw[decide_eq_true d,Bool.true_or]
    exact tG (show(m.length:Int)=0 by omega) rfl
   ·have h0:0<m.length:=by omega
    rw[decide_eq_false d,Bool.false_or]
    refine tX (show¬(m.length:Int)=0 by omega) (tG (by omega) (tG h0 (tG h0 (tG h0 ?_))))
    show some (decide (((m.getD 0 []).length:Int)≤9))=_
    congr 1
    rw[Bool.eq_iff_iff,decide_eq_true_eq,decide_eq_true_eq]
    omega
  ·rw[decide_eq_false c,Bool.false_and]
   exact tX (show¬(m.length:Int)≤9 by omega) rfl
 |n+1,j+1,i,s,hi,hj,hs0,hs=>by
  have hlt:i<m.length:=by omega
  have hn:(i:Int)<m.length:=by omega
  have h0:0<m.length:=by omega
  have hl:=hr (m.getD i []) (by rw[Pu.aj hlt];exact List.getElem_mem hlt)
  rw[bk.bp,Pu.drop_cons hlt []]
  simp only[cD,cm,cH,eN,Int.toNat_natCast]
  have t0:(0:Int).toNat=0:=rfl
  rw[t0]
  unfold Pu.xw
  refine tG hn (tG (Int.natCast_nonneg i) (tG hlt (tG hlt (tG hlt (tG (by omega) (tG h0 (tG h0 (tG h0 ?_))))))))
  by_cases c:(m.getD i []).length=(m.getD 0 []).length
  ·have c':((m.getD i []).length:Int)=((m.getD 0 []).length:Int):=by omega
   rw[if_pos c]
   refine tE c' ?_
   have e:=bk.row (k:=k) (k1:=j) (by omega) hlt hm hr (m.getD i []).length k 0 s (by omega) (by omega) hs0 hs
   rw[Int.natCast_zero,List.drop_zero]at e
   rw[e]
   cases hg:Pu.ur s (m.getD i [])with
   |none=>simp
   |some s'=>
    have hb:0≤s'∧s'≤9:=by
     rw[Pu.wO _ _ hs0 hs]at hg
     split at hg
     ·next q=>
      injection hg with hg
      have:=Pu.jS (m.getD i []) fun x hx=>(Pu.within_iff.1 (List.all_eq_true.1 q.1 x hx)).1
      omega
     ·cases hg
    exact bk.loop hk hm hr n j (i+1) s' (by omega) (by omega) hb.1 hb.2
  ·have c': ¬((m.getD i []).length:Int)=((m.getD 0 []).length:Int):=by omega
   rw[if_neg c,Bool.false_and]
   show D.test (D.no (decide (((m.getD i []).length:Int)=((m.getD 0 []).length:Int)))) _ _=_
   rw[decide_eq_false c']
   exact tM rfl
theorem bk.is{k:Nat}{m:LJ}(hk:4194304+6≤k)(hm:m.length≤1048576)(hr: ∀x∈m,x.length≤1048576):bk k m=some (Pu.cM m):=by
 obtain⟨k,rfl⟩: ∃k',k=k'+1:=⟨k-1,by omega⟩
 rw[bk.eq,Pu.zF]
 have h:=bk.loop (k:=k) (by omega) hm hr m.length k 0 0 (by omega) (by omega) (by omega) (by omega)
 rw[Int.natCast_zero,List.drop_zero]at h
 exact h
theorem aD.cell{k k1 k2 i q:Nat}{top:Bool}{m:LJ}(hi:i<m.length)(hq:q<(m.getD i []).length)(hi9:i≤9)(hq9:q≤9): ∀(t j c:Nat) (out:LI),(c+t:Nat)=((m.getD i []).getD q 0).toNat→0≤(m.getD i []).getD q 0→c+t≤9→t<j→out.length+t≤20000→
  aD.L3 k k1 k2 j top i q c m out=aD.L2 k k1 k2 top i ((q+1:Nat):Int) m (out++List.replicate t (Pu.side top (((i+1:Nat):Int),((q+1:Nat):Int))))
 |t,0,c,out,_,_,_,hj,_=>by omega
 |0,j+1,c,out,hc,h0,h9,_,_=>by
  have hw1:IntKind.i64.wrap ((q:Int)+1)=((q+1:Nat):Int):=by rw[w64 (by omega) (by omega)];omega
  have i0:=Int.natCast_nonneg i
  have q0:=Int.natCast_nonneg q
  rw[aD.nO]
  simp only[cD,cm,cH,eN,de,bZ,Int.toNat_natCast,hw1]
  rw[List.replicate_zero,List.append_nil]
  exact tG i0 (tG hi (tG hi (tG hi (tG q0 (tG hq (tG hi (tG hq (tX (by omega) rfl))))))))
 |t+1,j+1,c,out,hc,h0,h9,hj,ho=>by
  have hw1:IntKind.i64.wrap ((q:Int)+1)=((q+1:Nat):Int):=by rw[w64 (by omega) (by omega)];omega
  have hw2:IntKind.i64.wrap ((i:Int)+1)=((i+1:Nat):Int):=by rw[w64 (by omega) (by omega)];omega
  have hw3:IntKind.i64.wrap ((c:Int)+1)=((c+1:Nat):Int):=by rw[w64 (by omega) (by omega)];omega
  have i0:=Int.natCast_nonneg i
  have q0:=Int.natCast_nonneg q
  have hap: ∀z:Int,(out++ [z]).length≤1099511627776:=fun z=>by rw[List.length_append,List.length_singleton];omega
  have ih:=aD.cell (k:=k) (k1:=k1) (k2:=k2) (top:=top) hi hq hi9 hq9 t j (c+1) (out++ [Pu.side top (((i+1:Nat):Int),((q+1:Nat):Int))]) (by omega) h0 (by omega) (by omega) (by rw[List.length_append,List.length_singleton];omega)
  rw[List.append_assoc,List.singleton_append,←List.replicate_succ]at ih
  rw[aD.nO,←ih]
  simp only[cD,cm,cH,eN,de,bZ,fx,Int.toNat_natCast,hw1,hw2]
  refine tG i0 (tG hi (tG hi (tG hi (tG q0 (tG hq (tG hi (tG hq (tG (by omega) ?_))))))))
  cases top with
  |true=>
   refine tY (tG (hap _) ?_)
   rw[aD.G5]
   simp only[de,bZ,hw3]
   rfl
  |false=>
   refine tF (tG (hap _) ?_)
   rw[aD.G5]
   simp only[de,bZ,hw3]
   rfl
theorem aD.row{k k1 i:Nat}{top:Bool}{m:LJ}(hk:100≤k)(hi:i<m.length)(hi9:i≤9)(hl:(m.getD i []).length≤9)(hn: ∀n∈m.getD i [],0≤n∧n≤9): ∀(t j q:Nat) (out:LI),q+t=(m.getD i []).length→t<j→out.length≤100*i+10*q→
  aD.L2 k k1 j top i q m out=aD.L0 k k1 top ((i+1:Nat):Int) m (out++(Pu.prR i q ((m.getD i []).drop q)).map (Pu.side top))
 |t,0,q,out,_,hj,_=>by omega
 |0,j+1,q,out,hq,_,_=>by
  have hw1:IntKind.i64.wrap ((i:Int)+1)=((i+1:Nat):Int):=by rw[w64 (by omega) (by omega)];omega
  rw[aD.gB,List.drop_of_length_le (by omega)]
  simp only[cD,cm,cH,eN,de,bZ,Int.toNat_natCast,hw1]
  rw[show(Pu.prR i q []).map (Pu.side top)= []from rfl,List.append_nil]
  exact tG (Int.natCast_nonneg i) (tG hi (tG hi (tG hi (tX (by omega) rfl))))
 |t+1,j+1,q,out,hq,hj,ho=>by
  have hlt:q<(m.getD i []).length:=by omega
  have hx:=hn ((m.getD i []).getD q 0) (by rw[Pu.aj hlt];exact List.getElem_mem hlt)
  rw[aD.gB,Pu.drop_cons hlt 0]
  simp only[cD,cm,cH,eN,Int.toNat_natCast]
  refine tG (Int.natCast_nonneg i) (tG hi (tG hi (tG hi (tG (by omega) ?_))))
  have e:=aD.cell (k:=k) (k1:=k1) (k2:=j) (top:=top) hi hlt hi9 (by omega) ((m.getD i []).getD q 0).toNat k 0 out (by omega) hx.1 (by omega) (by omega) (by omega)
  rw[Int.natCast_zero]at e
  rw[e,aD.row hk hi hi9 hl hn t j (q+1) _ (by omega) (by omega) (by rw[List.length_append,List.length_replicate];omega)]
  simp only[Pu.prR,List.map_append,List.map_replicate,List.append_assoc]
theorem aD.loop{k:Nat}{top:Bool}{m:LJ}(hk:4194304+10≤k)(hM:Pu.cM m=true): ∀(t j i:Nat) (out:LI),i+t=m.length→t<j→out.length≤100*i→
  aD.L0 k j top i m out=some (out++(Pu.prM i (m.drop i)).map (Pu.side top))
 |t,0,i,out,_,hj,_=>by omega
 |0,j+1,i,out,hi,_,_=>by
  rw[aD.bp,List.drop_of_length_le (by omega)]
  rw[show(Pu.prM i []).map (Pu.side top)= []from rfl,List.append_nil]
  exact tX (show¬(i:Int)<m.length by omega) rfl
 |t+1,j+1,i,out,hi,hj,ho=>by
  have hlt:i<m.length:=by omega
  obtain⟨h9,hx⟩:=Pu.gI hM
  have hxi:=hx (m.getD i []) (by rw[Pu.aj hlt];exact List.getElem_mem hlt)
  have hm:=bk.is (k:=k) (m:=m) (by omega) (by omega) (fun x h=>by have:=(hx x h).1;omega)
  rw[hM]at hm
  rw[aD.bp,Pu.drop_cons hlt []]
  refine tG (show(i:Int)<m.length by omega) (bE hm (tY ?_))
  have e:=aD.row (k:=k) (k1:=j) (top:=top) (by omega) hlt (by omega) hxi.1 hxi.2 (m.getD i []).length k 0 out (by omega) (by omega) (by omega)
  rw[Int.natCast_zero,List.drop_zero]at e
  rw[aD.fb,e,aD.loop hk hM t j (i+1) _ (by omega) (by omega) (by
   have hb:=Pu.vk (i:=i) (m.getD i []) 0 fun n hn=>(hxi.2 n hn).1
   have hs:=Pu.y5 (w:=m.getD i []) hxi.2
   have:=hxi.1
   rw[List.length_append,List.length_map];omega)]
  simp only[Pu.prM,List.map_append,List.append_assoc]
theorem aD.is{k:Nat}{top:Bool}{m:LJ}(hk:4194304+12≤k)(hm:m.length≤1048576)(hr: ∀x∈m,x.length≤1048576):aD k m top=some (if Pu.cM m=true then(Pu.prM 0 m).map (Pu.side top)else []):=by
 obtain⟨k,rfl⟩: ∃k',k=k'+1:=⟨k-1,by omega⟩
 rw[aD.eq]
 cases h:Pu.cM m with
 |true=>
  have e:=aD.loop (k:=k) (top:=top) (by omega) h m.length k 0 [] (by omega) (by have:=(Pu.gI h).1;omega) (by simp)
  rw[Int.natCast_zero,List.drop_zero,List.nil_append]at e
  rw[if_pos rfl]
  exact e
 |false=>
  have hm:=bk.is (k:=k) (m:=m) (by omega) hm hr
  rw[h]at hm
  obtain⟨j,rfl⟩: ∃j,k=j+1:=⟨k-1,by omega⟩
  have h0:(0:Int)<m.length:=by
   cases m with
   |nil=>cases h
   |cons a l=>simp only[List.length_cons];omega
  rw[aD.bp,if_neg (by decide)]
  exact tG h0 (bE hm (tF rfl))
theorem cJ.loop{k:Nat}{t:Pu.Tab}{x3 x4:LI}{x5:LJ}(ht:t.2.length≤1048576)(hr: ∀x∈t.2,x.length≤1048576): ∀(m j i:Nat),i+m=t.2.length→m<j→
  cJ.L0 k j i t.1 t.2 x3 x5 x4 (t.2.take i)=some (x4,t.2)
 |m,0,i,_,hj=>by omega
 |0,j+1,i,hm,_=>by
  rw[cJ.bp]
  have e:i=t.2.length:=by omega
  subst e
  simp
 |m+1,j+1,i,hm,hj=>by
  rw[cJ.bp]
  have hlt:i<t.2.length:=by omega
  have hx:=hr _ (List.getElem_mem hlt)
  rw[←Pu.aj hlt []]at hx
  have ih:=cJ.loop (k:=k) (x3:=x3) (x4:=x4) (x5:=x5) ht hr m j (i+1) (by omega) (by omega)
  rw[Int.natCast_succ,Pu.take_succ hlt []]at ih
  have hl:(t.2.take i++ [t.2.getD i []]).length≤1099511627776:=by simp;omega
  have hx':(t.2.getD i []).length≤1099511627776:=by omega
  simp (disch:=omega) only[↓aB,sss,if_true,if_false,hlt,hl,hx',List.nil_append,ih]
theorem cJ.is{k:Nat}{t:Pu.Tab}(hk:4194304+1≤k)(h1:t.1.length≤1048576)(ht:t.2.length≤1048576)(hr: ∀x∈t.2,x.length≤1048576):cJ k t=some t:=by
 obtain⟨k,rfl⟩: ∃k',k=k'+1:=⟨k-1,by omega⟩
 rw[cJ.eq]
 have h:=cJ.loop (k:=k) (t:=t) (x3:= []) (x4:=t.1) (x5:= []) ht hr t.2.length k 0 (by omega) (by omega)
 rw[Int.natCast_zero,List.take_zero]at h
 have hl:t.1.length≤1099511627776:=by omega
 simp only[↓aB,sss,if_true,if_false,List.nil_append,hl,h]
theorem aY.inner{k k1:Nat}{x:Int}{i:Nat}{x3 x5:LI}{x4 rows:LJ}(hlt:i<rows.length)(hx:(rows.getD i []).length≤1048576): ∀(m j q:Nat),q+m=(rows.getD i []).length→m<j→q≤(rows.getD i []).findIdx (fun n=>decide (x<n))→
  aY.L1 k k1 j x i q x3 x4 x5 rows=aY.J3 k k1 x i (((rows.getD i []).findIdx (fun n=>decide (x<n)):Nat):Int) x3 x4 x5 rows
 |m,0,q,_,hj,_=>by omega
 |0,j+1,q,hm,_,hq=>by
  rw[aY.cO]
  have hle:(rows.getD i []).findIdx (fun n=>decide (x<n))≤(rows.getD i []).length:=List.findIdx_le_length
  have e:(rows.getD i []).findIdx (fun n=>decide (x<n))=q:=by omega
  have hn: ¬q<(rows.getD i []).length:=by omega
  simp (disch:=omega) only[↓aB,sss,if_true,if_false,hlt,hn,e]
 |m+1,j+1,q,hm,hj,hq=>by
  rw[aY.cO]
  have hn:q<(rows.getD i []).length:=by omega
  simp (disch:=omega) only[↓aB,sss,if_true,if_false,hlt,hn,aY.kx]
  by_cases c:(rows.getD i []).getD q 0≤x
  ·have hne:(rows.getD i []).findIdx (fun n=>decide (x<n))≠q:=fun e=>by
    have:=Pu.rf (p:=fun n=>decide (x<n)) (r:=rows.getD i []) (by rw[e];exact hn)
    rw[e]at this
    simp only[decide_eq_true_eq]at this
    omega
   have ih:=aY.inner (k:=k) (k1:=k1) (x:=x) (x3:=x3) (x4:=x4) (x5:=x5) hlt hx m j (q+1) (by omega) (by omega) (by omega)
   rw[Int.natCast_succ]at ih
   simp (disch:=omega) only[↓aB,sss,if_true,if_false,c,ih]
  ·have e:(rows.getD i []).findIdx (fun n=>decide (x<n))=q:=by
    refine Nat.le_antisymm (Pu.findIdx_le hn ?_) hq
    simp only[decide_eq_true_eq];omega
   simp only[c,↓aB,sss,if_true,if_false,e]
theorem aY.loop{k:Nat}{inner x3:LI}{x4:LJ}(hk:4194304≤k): ∀(m j i:Nat) (x:Int) (rows:LJ),i+m=rows.length→m<j→rows.length≤1048576→(∀r∈rows,r.length≤1048576)→
  aY.L0 k j x i x3 x4 inner rows=some ((inner,rows.take i++(Pu.aC (rows.drop i) x).1),((i+(Pu.aC (rows.drop i) x).2:Nat):Int))
 |m,0,i,x,rows,_,hj,_,_=>by omega
 |0,j+1,i,x,rows,hm,_,hl,hr=>by
  rw[aY.bp]
  have e:i=rows.length:=by omega
  subst e
  have h1:rows.length+1≤1099511627776:=by omega
  simp (disch:=omega) only[↓aB,sss,if_true,if_false,Nat.lt_irrefl,h1,List.drop_length,List.take_length,Pu.aC,List.length_append,List.length_cons,List.length_nil,Int.natCast_add,Int.natCast_one,Int.natCast_zero,Int.add_zero,Int.zero_add,Nat.zero_add,Nat.add_zero,Int.add_sub_cancel]
 |m+1,j+1,i,x,rows,hm,hj,hl,hr=>by
  rw[aY.bp]
  have hlt:i<rows.length:=by omega
  have hx:=hr _ (List.getElem_mem hlt)
  rw[←Pu.aj hlt []]at hx
  have hin:=aY.inner (k:=k) (k1:=j) (x:=x) (x3:=x3) (x4:=x4) (x5:=inner) hlt hx (rows.getD i []).length k 0 (by omega) (by omega) (by omega)
  rw[Int.natCast_zero]at hin
  rw[Pu.drop_cons hlt []]
  unfold Pu.aC
  generalize hf:(rows.getD i []).findIdx (fun n=>decide (x<n))=f at*
  have hle:f≤(rows.getD i []).length:=by rw[←hf];exact List.findIdx_le_length
  simp (disch:=omega) only[↓aB,sss,if_true,if_false,hlt,hin]
  rw[aY.sC]
  by_cases c:f<(rows.getD i []).length
  ·rw[if_pos c]
   have ih:=aY.loop (inner:=inner) (x3:=x3) (x4:=x4) hk m j (i+1) ((rows.getD i []).getD f 0) (rows.set i ((rows.getD i []).set f x)) (by rw[List.length_set];omega) (by omega) (by rw[List.length_set];exact hl) (fun r h=>by
    rcases List.mem_or_eq_of_mem_set h with h|rfl
    ·exact hr r h
    ·rw[List.length_set];exact hx)
   rw[Pu.q9 hlt,Pu.qT,Int.natCast_succ]at ih
   have hn: ¬(f:Int)=((rows.getD i []).length:Int):=by omega
   simp (disch:=omega) only[↓aB,sss,if_true,if_false,hlt,hn,c,ih]
   simp only[List.append_assoc,List.singleton_append]
   congr 2
   omega
  ·rw[if_neg c]
   have hn:(f:Int)=((rows.getD i []).length:Int):=by omega
   have h1:(rows.getD i []++ [x]).length≤1099511627776:=by simp only[List.length_append,List.length_cons,List.length_nil];omega
   simp (disch:=omega) only[↓aB,sss,if_true,if_false,hlt,hn,h1,Nat.add_zero]
   rw[Pu.xX hlt]
theorem aY.is{k:Nat}{t:Pu.Tab}{x:Int}(hk:4194304+2≤k)(h1:t.1.length≤1048576)(hl:t.2.length≤1048576)(hr: ∀r∈t.2,r.length≤1048576):
  aY k t x=some ((t.1,(Pu.aC t.2 x).1),(((Pu.aC t.2 x).2:Nat):Int)):=by
 obtain⟨k,rfl⟩: ∃k',k=k'+1:=⟨k-1,by omega⟩
 rw[aY.eq,cJ.is (by omega) h1 hl hr,cQ]
 have h:=aY.loop (k:=k) (inner:=t.1) (x3:= []) (x4:= []) (by omega) t.2.length k 0 x t.2 (by omega) (by omega) hl hr
 rw[Int.natCast_zero]at h
 simpa using h
theorem bV.add{k k1:Nat}{i a:Nat}{W:LI}{x3:LI}{x4:LJ}{x5:LI}{x6:LJ}{pi:LI}{P:LJ}{qi:LI}{F:LJ}(ha:a<F.length)(hF: ∀r,(F.getD r []).length≤1000)(hw:i≤1000):
  bV.J1 k k1 i a W x3 x4 x5 x6 pi P qi F=bV.L0 k k1 ((i+1:Nat):Int) W x3 x4 x5 x6 pi P qi (F.set a (F.getD a []++ [((i+1:Nat):Int)])):=by
 rw[bV.fb]
 have h9:=hF a
 have hws:IntKind.i64.wrap ((i:Int)+1)=((i+1:Nat):Int):=by rw[w64 (by omega) (by omega)];omega
 have hap:(F.getD a []++ [((i+1:Nat):Int)]).length≤1099511627776:=by rw[List.length_append,List.length_singleton];omega
 simp only[cD,cm,eN,gm,fx,de,bZ,Int.toNat_natCast,hws]
 have a0:=Int.natCast_nonneg a
 exact tG a0 (tG ha (tG ha (tG ha (tG hap (tG a0 (tG ha (tG ha (tG rfl rfl))))))))
theorem bV.loop{k:Nat}{W:LI}{x3:LI}{x4:LJ}{x5:LI}{x6:LJ}(hk:4194304+20≤k)(hW:W.length≤9)(hx: ∀x∈W,1≤x∧x≤9): ∀(m j i:Nat) (P Q:LJ),i+m=W.length→m<j→Pu.Ins P Q i→
  bV.L0 k j i W x3 x4 x5 x6 [] P [] Q=some (([],Pu.dx (W.drop i) P),([],Pu.eO (W.drop i) P Q i))
 |m,0,i,P,Q,_,hj,_=>by omega
 |0,j+1,i,P,Q,hi,_,_=>by
  rw[bV.bp]
  have hn: ¬(i:Int)<W.length:=by omega
  refine tX hn ?_
  rw[List.drop_of_length_le (by omega)]
  rfl
 |m+1,j+1,i,P,Q,hi,hj,h=>by
  have hlt:i<W.length:=by omega
  have hn:(i:Int)<W.length:=by omega
  have hxi:=hx _ (List.getElem_mem hlt)
  rw[←Pu.aj hlt 0]at hxi
  obtain⟨s1,_,_⟩:=h.step hxi (by omega)
  have ih:=bV.loop (x3:=x3) (x4:=x4) (x5:=x5) (x6:=x6) hk hW hx m j (i+1) (Pu.aC P (W.getD i 0)).1 (Pu.eF Q (Pu.aC P (W.getD i 0)).2 ((i+1:Nat):Int)) (by omega) (by omega) s1
  have hP:=Pu.dt (Pu.tL h (by omega))
  have hQ:=Pu.dt h.pl
  have hP1:P.length≤9:=hP.1
  have hQ1:Q.length≤9:=hQ.1
  have hins:=aY.is (k:=k) (t:=([],P)) (x:=W.getD i 0) (by omega) (by simp) (by simp only;omega) (fun r hr=>by have:=hP.2 r hr;omega)
  have ha:=(Pu.n9 P (W.getD i 0)).1
  rw[h.same.1]at ha
  rw[bV.bp,Pu.drop_cons hlt 0]
  show _=some (([],Pu.dx (W.drop (i+1)) (Pu.aC P (W.getD i 0)).1),([],Pu.eO (W.drop (i+1)) (Pu.aC P (W.getD i 0)).1 (Pu.eF Q (Pu.aC P (W.getD i 0)).2 ((i+1:Nat):Int)) (i+1)))
  rw[←ih]
  simp only[cD,cm,cH,eN,Int.toNat_natCast]
  refine tG hn (tG (Int.natCast_nonneg i) (tG hlt (tG hlt (bE hins ?_))))
  simp only
  have hq9: ∀r,(Q.getD r []).length≤9:=fun r=>hQ.at r
  generalize(Pu.aC P (W.getD i 0)).2=a at*
  unfold Pu.eF
  by_cases c:a=Q.length
  ·have hc:((a:Nat):Int)=(Q.length:Int):=by omega
   have hap:(Q++ [[]]).length≤1099511627776:=by rw[List.length_append,List.length_singleton];omega
   have hF: ∀r,((Q++ [[]]).getD r []).length≤1000:=fun r=>by
    by_cases hr:r<Q.length
    ·simp only[List.getD_eq_getElem?_getD,List.getElem?_append_left hr]
     have:=hq9 r
     simp only[List.getD_eq_getElem?_getD]at this
     omega
    ·simp only[List.getD_eq_getElem?_getD,List.getElem?_append_right (Nat.le_of_not_lt hr)]
     cases r-Q.length<;>simp
   refine tG hc (tG hap ?_)
   simp only[fx]
   rw[bV.add (by rw[List.length_append,List.length_singleton];omega) hF (by omega),if_pos c]
   congr 1
   rw[c]
   simp
  ·have hc: ¬((a:Nat):Int)=(Q.length:Int):=by omega
   refine tX hc ?_
   rw[bV.add (by omega) (fun r=>by have:=hq9 r;omega) (by omega),if_neg c]
theorem bV.is{k:Nat}{W:LI}(hk:4194304+30≤k)(h:Pu.isWord W=true):bV k W=some (([],Pu.dx W []),([],Pu.eO W [] [] 0)):=by
 obtain⟨k,rfl⟩: ∃k',k=k'+1:=⟨k-1,by omega⟩
 obtain⟨h1,h2⟩:=Pu.pL h
 have hl:=bV.loop (k:=k) (x3:= []) (x4:= []) (x5:= []) (x6:= []) (by omega) h1 h2 W.length k 0 [] [] (by omega) (by omega) Pu.Ins.nil
 rw[Int.natCast_zero,List.drop_zero]at hl
 rw[bV.eq]
 exact hl
theorem aX.row{k k1 r:Nat}{top:LI}{x3 x5 pi qi:LI}{x4 x6 P Q:LJ}{R:LI}(hQ9:Q.length≤9)(hr:r<Q.length)(hR:R.length≤9)(hn: ∀v∈R,1≤v∧v≤top.length)(ht:top.length≤9): ∀(t j q:Nat),q+t=R.length→t<j→
  aX.L1 k k1 j r q top x3 x4 x5 x6 pi P qi (Q.set r ((R.take q).map (fun v=>top.getD (v-1).toNat 0)++R.drop q))=aX.L0 k k1 ((r+1:Nat):Int) top x3 x4 x5 x6 pi P qi (Q.set r (R.map fun v=>top.getD (v-1).toNat 0))
 |t,0,q,_,hj=>by omega
 |t,j+1,q,hq,hj=>by
  have hr': ∀l:LI,r<(Q.set r l).length:=fun l=>by rw[List.length_set];exact hr
  have hget: ∀l:LI,(Q.set r l).getD r []=l:=fun l=>by rw[Pu.aj (hr' l),List.getElem_set_self]
  have hlen:((R.take q).map (fun v=>top.getD (v-1).toNat 0)++R.drop q).length=R.length:=by rw[List.length_append,List.length_map,List.length_take,List.length_drop];omega
  have r0:=Int.natCast_nonneg r
  have q0:=Int.natCast_nonneg q
  rw[aX.cO]
  simp only[cD,cm,cH,eN,Int.toNat_natCast,hget]
  refine tG r0 (tG (hr' _) (tG (hr' _) (tG (hr' _) ?_)))
  cases t with
  |zero=>
   have hw1:IntKind.i64.wrap ((r:Int)+1)=((r+1:Nat):Int):=by rw[w64 (by omega) (by omega)];omega
   refine tX (by rw[hlen];omega) ?_
   simp only[de,bZ,hw1]
   rw[List.take_of_length_le (by omega),List.drop_of_length_le (by omega),List.append_nil]
  |succ t=>
   have hlt:q<R.length:=by omega
   have hv:=hn (R.getD q 0) (by rw[Pu.aj hlt];exact List.getElem_mem hlt)
   have hw1:IntKind.i64.wrap ((q:Int)+1)=((q+1:Nat):Int):=by rw[w64 (by omega) (by omega)];omega
   have hcur:((R.take q).map (fun v=>top.getD (v-1).toNat 0)++R.drop q).getD q 0=R.getD q 0:=by
    have:((R.take q).map fun v=>top.getD (v-1).toNat 0).length=q:=by rw[List.length_map,List.length_take];omega
    rw[List.getD_eq_getElem?_getD,List.getElem?_append_right (by omega),this,Nat.sub_self,List.getElem?_drop,List.getD_eq_getElem?_getD,Nat.add_zero]
   have hw2:IntKind.i64.wrap (R.getD q 0-1)=R.getD q 0-1:=w64 (by omega) (by omega)
   have hset:((R.take q).map (fun v=>top.getD (v-1).toNat 0)++R.drop q).set q (top.getD (R.getD q 0-1).toNat 0)=(R.take (q+1)).map (fun v=>top.getD (v-1).toNat 0)++R.drop (q+1):=by
    have:((R.take q).map fun v=>top.getD (v-1).toNat 0).length=q:=by rw[List.length_map,List.length_take];omega
    rw[List.set_append_right _ _ (by omega),this,Nat.sub_self,Pu.drop_cons hlt 0,List.set_cons_zero,Pu.take_succ hlt 0,List.map_append,List.append_assoc]
    rfl
   have ih:=aX.row (k:=k) (k1:=k1) (top:=top) (x3:=x3) (x4:=x4) (x5:=x5) (x6:=x6) (pi:=pi) (qi:=qi) (P:=P) hQ9 hr hR hn ht t j (q+1) (by omega) (by omega)
   have hqS:q<((R.take q).map (fun v=>top.getD (v-1).toNat 0)++R.drop q).length:=by rw[hlen];exact hlt
   rw[←ih,←hset]
   simp only[gd,de,bZ,gm,hcur,hw1,hw2,List.set_set]
   have htn:(R.getD q 0-1).toNat<top.length:=by omega
   exact tG (by rw[hlen];omega) (tG r0 (tG (hr' _) (tG (hr' _) (tG r0 (tG (hr' _) (tG (hr' _) (tG (hr' _) (tG q0 (tG hqS (tG (hr' _) (tG hqS (tG (by omega) (tG htn (tG htn (tG (hr' _) (tG q0 (tG hqS (tG (hr' _) (tG hqS rfl)))))))))))))))))))
theorem aX.loop{k:Nat}{top:LI}{x3 x5 pi qi:LI}{x4 x6 P S:LJ}(hk:100≤k)(hS:S.length≤9)(hR: ∀R∈S,R.length≤9∧ ∀v∈R,1≤v∧v≤top.length)(ht:top.length≤9): ∀(t j r:Nat),r+t=S.length→t<j→
  aX.L0 k j r top x3 x4 x5 x6 pi P qi ((S.take r).map (List.map fun v=>top.getD (v-1).toNat 0)++S.drop r)=some ((pi,P),((qi,S.map (List.map fun v=>top.getD (v-1).toNat 0)),true))
 |t,0,r,_,hj=>by omega
 |t,j+1,r,hr,hj=>by
  have hl:((S.take r).map (List.map fun v=>top.getD (v-1).toNat 0)).length=r:=by rw[List.length_map,List.length_take];omega
  have hlen:((S.take r).map (List.map fun v=>top.getD (v-1).toNat 0)++S.drop r).length=S.length:=by rw[List.length_append,hl,List.length_drop];omega
  rw[aX.bp]
  cases t with
  |zero=>
   refine tX (show¬(r:Int)<(((S.take r).map (List.map fun v=>top.getD (v-1).toNat 0)++S.drop r).length:Nat) by rw[hlen];omega) ?_
   rw[List.take_of_length_le (by omega),List.drop_of_length_le (by omega),List.append_nil]
  |succ t=>
   have hlt:r<S.length:=by omega
   have hRr:=hR (S.getD r []) (by rw[Pu.aj hlt];exact List.getElem_mem hlt)
   have ih:=aX.loop (top:=top) (x3:=x3) (x4:=x4) (x5:=x5) (x6:=x6) (pi:=pi) (qi:=qi) (P:=P) hk hS hR ht t j (r+1) (by omega) (by omega)
   have e:=aX.row (k:=k) (k1:=j) (r:=r) (top:=top) (x3:=x3) (x4:=x4) (x5:=x5) (x6:=x6) (pi:=pi) (qi:=qi) (P:=P) (Q:=(S.take r).map (List.map fun v=>top.getD (v-1).toNat 0)++S.drop r) (R:=S.getD r []) (by rw[hlen];exact hS) (by rw[hlen];exact hlt) hRr.1 hRr.2 ht (S.getD r []).length k 0 (by omega) (by omega)
   have s0: ∀l:LI,((S.take r).map (List.map fun v=>top.getD (v-1).toNat 0)++S.drop r).set r l=(S.take r).map (List.map fun v=>top.getD (v-1).toNat 0)++l::S.drop (r+1):=fun l=>by
    rw[List.set_append_right _ _ (by omega),hl,Nat.sub_self,Pu.drop_cons hlt [],List.set_cons_zero]
   rw[s0,s0,List.take_zero,List.map_nil,List.nil_append,List.drop_zero,←Pu.drop_cons hlt [],Int.natCast_zero]at e
   rw[Pu.take_succ hlt [],List.map_append,List.append_assoc]at ih
   exact tG (show(r:Int)<(((S.take r).map (List.map fun v=>top.getD (v-1).toNat 0)++S.drop r).length:Nat) by rw[hlen];omega) (e.trans ih)
theorem aX.is{k:Nat}{m:LJ}(hk:4194304+60≤k)(hm:m.length≤1048576)(hr: ∀x∈m,x.length≤1048576):aX k m=some (Pu.bN m):=by
 obtain⟨k,rfl⟩: ∃k',k=k'+1:=⟨k-1,by omega⟩
 rw[aX.eq]
 refine bE (bk.is (by omega) hm hr) ?_
 unfold Pu.bN
 cases h:Pu.cM m with
 |false=>exact tM rfl
 |true=>
  have hp:=(Pu.dq.1 h).pok
  have h1:=aD.is (k:=k) (top:=true) (m:=m) (by omega) hm hr
  have h2:=aD.is (k:=k) (top:=false) (m:=m) (by omega) hm hr
  rw[h,if_pos rfl]at h1 h2
  have h3:=bV.is (k:=k) (W:=Pu.wd (Pu.prM 0 m)) (by omega) hp.word
  obtain⟨p1,p2,p3⟩:=Pu.o9 hp
  have hb:=(Pu.fH p1 p2).2
  have hR:=Pu.dt p1
  simp only at hb hR
  have e:=aX.loop (k:=k) (top:=(Pu.prM 0 m).map Prod.fst) (x3:= []) (x4:= []) (x5:= []) (x6:= []) (pi:= []) (qi:= []) (P:=Pu.dx (Pu.wd (Pu.prM 0 m)) []) (S:=Pu.eO (Pu.wd (Pu.prM 0 m)) [] [] 0) (by omega) hR.1 (fun R hRm=>⟨hR.2 R hRm,fun v hv=>by
   have:=hb v (List.mem_flatten.2 ⟨R,hRm,hv⟩)
   rw[p3]at this
   rw[List.length_map];exact this⟩) (by rw[List.length_map];exact hp.1) (Pu.eO (Pu.wd (Pu.prM 0 m)) [] [] 0).length k 0 (by omega) (by have:=hR.1;omega)
  rw[Int.natCast_zero,List.take_zero,List.map_nil,List.nil_append,List.drop_zero]at e
  rw[if_pos rfl]
  refine tN (bE h1 (bE h2 (bE h3 (e.trans ?_))))
  rw[Pu.rec_eq]
  have hf:(fun v:Int=>((Pu.prM 0 m).map Prod.fst).getD (v-1).toNat 0)=Pu.qI (Pu.prM 0 m):=by
   funext v
   unfold Pu.qI
   simp only[List.getD_eq_getElem?_getD,List.getElem?_map]
   cases(Pu.prM 0 m)[(v-1).toNat]?<;>rfl
  rw[hf]
theorem dI.is{k:Nat}{n i h:Int}{b:LI}(hk:3≤k)(hb:b.length≤1048576)(hi:0≤i)(hi':i≤b.length)(hn:n≤256):
  ∃r i' h',dI k n i h b=some (r,((),(i',h')))∧0≤i'∧i'≤b.length:=by
 obtain⟨k,rfl⟩: ∃k',k=k'+1:=⟨k-1,by omega⟩
 rw[dI.eq]
 obtain⟨r,i',h',e,h1,h2,h3,h4,h5⟩:=bz.is (k:=k) (h:=h) (b:=b) (by omega) hb hi hi' hn
 rw[e]
 exact⟨_,_,_,rfl,h4,h5⟩
theorem cp.inner{k k1:Nat}{n p:Int}{r:LJ}(hr: ∀x∈r,x.length≤1000)(hp:1≤p∧p≤1000)(hlen:r.length≤1000): ∀(m j i:Nat) (acc:LJ),i+m=r.length→m<j→acc.length+m≤100000→
  cp.L1 k k1 j n p i acc r=cp.L0 k k1 n (p-1) (acc++(r.drop i).map (p:: ·))
 |m,0,i,acc,_,hj,_=>by omega
 |0,j+1,i,acc,hi,_,_=>by
  rw[cp.cO]
  have e:i=r.length:=by omega
  subst e
  have ew:IntKind.i64.wrap (p-1)=p-1:=w64 (by omega) (by omega)
  simp[ew]
 |m+1,j+1,i,acc,hi,hj,ha=>by
  rw[cp.cO]
  have hlt:i<r.length:=by omega
  have hx:(r.getD i []).length≤1000:=by rw[Pu.aj hlt []];exact hr _ (List.getElem_mem hlt)
  have ih:=cp.inner (k:=k) (k1:=k1) (n:=n) hr hp hlen m j (i+1) (acc++ [p::r.getD i []]) (by omega) (by omega) (by rw[List.length_append];simp;omega)
  rw[Int.natCast_succ]at ih
  rw[Pu.drop_cons hlt []]
  have l1:(p::r.getD i []).length≤1099511627776:=by rw[List.length_cons];omega
  have l2:(acc++ [p::r.getD i []]).length≤1099511627776:=by rw[List.length_append];simp;omega
  simp (disch:=omega) only[↓aB,sss,if_true,if_false,hlt,l1,l2,List.cons_append,List.nil_append,ih,List.map_cons,List.append_assoc]
theorem cp.isP(n:Nat): ∀(k:Nat) (m:Int),n≤9→4194304+n+2≤k→1≤m→m≤1000→
  ∃L,cp k n m=some L∧1≤L.length∧L.length≤Pu.zB n∧ ∀x∈L,Pu.E4 n m x:=by
 induction n using Nat.strongRecOn with
 |ind n IH=>
 intro k m hn hk hm hm'
 obtain⟨k,rfl⟩: ∃k',k=k'+1:=⟨k-1,by omega⟩
 rw[cp.eq]
 by_cases h0:n=0
 ·subst h0
  refine⟨[[]],by simp,by simp,by simp[Pu.zB],fun x hx=> ?_⟩
  simp only[List.mem_singleton]at hx
  subst hx
  exact⟨⟨by simp,fun y hy=>by cases hy⟩,fun s _ _=>rfl,rfl⟩
 ·have hne: ¬(n:Int)=0:=by omega
  simp only[↓aB,sss,if_true,if_false,hne]
  rw[gn.is (by omega),cQ]
  have loop: ∀(p j:Nat) (acc:LJ),p≤n→(p:Int)≤m→p<j→acc.length+Pu.CI n p≤512→(∀x∈acc,Pu.E4 n m x)→
    ∃L,cp.L0 k j n p acc=some L∧acc.length+min p 1≤L.length∧L.length≤acc.length+Pu.CI n p∧ ∀x∈L,Pu.E4 n m x:=by
   intro p
   induction p with
   |zero=>
    intro j acc _ _ hj ha hg
    obtain⟨j,rfl⟩: ∃j',j=j'+1:=⟨j-1,by omega⟩
    rw[cp.bp]
    exact⟨acc,by simp,by simp,by simp,hg⟩
   |succ p ihp=>
    intro j acc hp hpm hj ha hg
    obtain⟨j,rfl⟩: ∃j',j=j'+1:=⟨j-1,by omega⟩
    rw[cp.bp]
    have ew:IntKind.i64.wrap ((n:Int)-((p+1:Nat):Int))=((n-(p+1):Nat):Int):=by
     rw[w64 (by omega) (by omega)];omega
    obtain⟨R,hR,r1,r2,r3⟩:=IH (n-(p+1)) (by omega) k ((p+1:Nat):Int) (by omega) (by omega) (by omega) (by omega)
    have h1:(1:Int)≤((p+1:Nat):Int):=by omega
    have ha':acc.length+(Pu.zB (n-(p+1))+Pu.CI n p)≤512:=ha
    have hin:=cp.inner (k:=k) (k1:=j) (n:=n) (p:=((p+1:Nat):Int)) (r:=R) (fun x hx=>by have:=(r3 x hx).1.1;omega) ⟨h1,by omega⟩ (by omega) R.length k 0 acc (by omega) (by omega) (by omega)
    rw[Int.natCast_zero,List.drop_zero,show((p+1:Nat):Int)-1=(p:Int) by omega]at hin
    simp only[↓aB,sss,if_true,if_false,h1,ew,hR]
    rw[hin]
    obtain⟨L,hL,l1,l2,l3⟩:=ihp j (acc++R.map (((p+1:Nat):Int):: ·)) (by omega) (by omega) (by omega) (by rw[List.length_append,List.length_map];omega) (fun x hx=>by
     rcases List.mem_append.1 hx with h|h
     ·exact hg x h
     ·obtain⟨y,hy,rfl⟩:=List.mem_map.1 h
      obtain⟨⟨q1,q2⟩,q3,q4⟩:=r3 y hy
      refine⟨⟨by rw[List.length_cons];omega,fun z hz=> ?_⟩,fun s hs hs9=> ?_,?_⟩
      ·rcases List.mem_cons.1 hz with rfl|hz
       ·omega
       ·exact q2 z hz
      ·simp only[Pu.fS,Bool.and_eq_true,decide_eq_true_eq]
       exact⟨by omega,hpm,by omega,q3 _ (by omega) (by omega)⟩
      ·simp only[Pu.dA,q4];omega)
    rw[List.length_append,List.length_map]at l1 l2
    refine⟨L,hL,by omega,?_,l3⟩
    show L.length≤acc.length+(Pu.zB (n-(p+1))+Pu.CI n p)
    omega
  have hS:=fun p hp=>Pu.Gs (n:=n) (p:=p) hn (by omega) hp
  have hB:=Pu.CT hn
  obtain⟨p,hp⟩: ∃p:Nat,min (n:Int) m=p:=⟨(min (n:Int) m).toNat,by omega⟩
  rw[hp]
  obtain⟨L,hL,l1,l2,l3⟩:=loop p k [] (by omega) (by omega) (by omega) (by have:=hS p (by omega);simp;omega) (fun x hx=>by cases hx)
  have:=hS p (by omega)
  simp only[List.length_nil,Nat.zero_add]at l1 l2
  exact⟨L,hL,by omega,by omega,l3⟩
theorem dw.isP{k:Nat}{m i h:Int}{b:LI}(hk:4194304+12≤k)(hb:b.length≤1048576)(hi:0≤i)(hi':i≤b.length)(hm:1≤m)(hm':m≤9):
  ∃p i' h',dw k m i h b=some (p,((),(i',h')))∧(Pu.xq 9 p∧Pu.cx p=true∧Pu.dA p≤m)∧0≤i'∧i'≤b.length:=by
 obtain⟨k,rfl⟩: ∃k',k=k'+1:=⟨k-1,by omega⟩
 rw[dw.eq]
 have ew:IntKind.i64.wrap (m+1)=m+1:=w64 (by omega) (by omega)
 obtain⟨r,i1,h1,e1,a1,a2,a3,a4,a5⟩:=bz.is (k:=k) (n:=m+1) (h:=h) (b:=b) (by omega) hb hi hi' (by omega)
 have a3:=a3 (by omega)
 obtain⟨n,rfl⟩: ∃n:Nat,r=n:=⟨r.toNat,by omega⟩
 obtain⟨L,eL,c1,c2,c3⟩:=cp.isP n k m (by omega) (by omega) hm (by omega)
 have:=Pu.CT (n:=n) (by omega)
 obtain⟨q,i2,h2,e2,b1,b2,b3,b4,b5⟩:=bz.is (k:=k) (n:=L.length) (h:=h1) (b:=b) (by omega) hb a4 a5 (by omega)
 have b3:=b3 (by omega)
 have hn:q.toNat<L.length:=by omega
 refine⟨L.getD q.toNat [],i2,h2,?_,?_,b4,b5⟩
 ·simp only[↓aB,sss,if_true,if_false,ew,e1,eL,e2,b1,hn]
 ·rw[Pu.aj hn []]
  obtain⟨⟨d1,d2⟩,d3,d4⟩:=c3 _ (List.getElem_mem hn)
  exact⟨⟨by omega,d2⟩,Pu.Ak _ hm' (d3 0 (by omega) (by omega)),by omega⟩
theorem dw.is{k:Nat}{m i h:Int}{b:LI}(hk:4194304+12≤k)(hb:b.length≤1048576)(hi:0≤i)(hi':i≤b.length)(hm:1≤m)(hm':m≤9):
  ∃p i' h',dw k m i h b=some (p,((),(i',h')))∧Pu.xq 9 p∧0≤i'∧i'≤b.length:=by
 obtain⟨p,i',h',a,c,d⟩:=dw.isP (k:=k) (h:=h) hk hb hi hi' hm hm'
 exact⟨p,i',h',a,c.1,d⟩
theorem dD.is{k:Nat}{p:LI}{i:Int}(hk:1≤k):dD k p i=some (Pu.atI p i):=by
 obtain⟨k,rfl⟩: ∃k',k=k'+1:=⟨k-1,by omega⟩
 rw[dD.eq,dD.fT]
 by_cases h1:i<0
 ·simp only[↓aB,sss,if_true,if_false,h1,Pu.qd h1]
 ·by_cases h2:(p.length:Int)≤i
  ·simp only[↓aB,sss,if_true,if_false,h1,h2,Pu.BY h2]
  ·have h3:0≤i:=by omega
   have h4:i.toNat<p.length:=by omega
   simp only[↓aB,sss,if_true,if_false,h1,h2,h3,h4,Pu.atI]
theorem bL.is{k:Nat}{t:Pu.Tab}{r c:Int}(hk:2≤k)(hi:Pu.cx t.1=true)(h1: -1000000000≤c)(h2:c≤1000000000):bL k t r c=some (Pu.entry t r c):=by
 obtain⟨k,rfl⟩: ∃k',k=k'+1:=⟨k-1,by omega⟩
 have hb:=Pu.iH hi r
 rw[bL.eq,bL.fT,dD.is (by omega)]
 unfold Pu.entry
 by_cases c1:r<0
 ·simp only[↓aB,sss,if_true,if_false,c1]
 ·by_cases c2:(t.2.length:Int)≤r
  ·simp only[↓aB,sss,if_true,if_false,c1,c2]
  ·have c3:0≤r:=by omega
   have c4:r.toNat<t.2.length:=by omega
   simp (disch:=omega) only[↓aB,sss,if_true,if_false,c1,c2,c3,c4]
   by_cases d1:c-Pu.atI t.1 r<0
   ·simp only[↓aB,sss,if_true,if_false,d1,Pu.qd d1]
   ·by_cases d2:((t.2.getD r.toNat []).length:Int)≤c-Pu.atI t.1 r
    ·simp only[↓aB,sss,if_true,if_false,d1,d2,Pu.BY d2]
    ·have d3:0≤c-Pu.atI t.1 r:=by omega
     have d4:(c-Pu.atI t.1 r).toNat<(t.2.getD r.toNat []).length:=by omega
     rw[bL.fb]
     generalize c-Pu.atI t.1 r=z at*
     simp only[↓aB,sss,if_true,if_false,c3,c4,d1,d2,d3,d4,Pu.atI]
theorem iu.is{k:Nat}{a b:Int}(hk:1≤k):iu k a b=some (max a b):=by
 obtain⟨k,rfl⟩: ∃k',k=k'+1:=⟨k-1,by omega⟩
 rw[iu.eq]
 by_cases h:b<a
 ·simp only[↓aB,sss,if_true,if_false,h];congr 1;omega
 ·simp only[↓aB,sss,if_true,if_false,h];congr 1;omega
theorem jK.is{k:Nat}{b:Bool}(hk:1≤k):jK k b=some (if b=true then 1 else 0):=by
 obtain⟨k,rfl⟩: ∃k',k=k'+1:=⟨k-1,by omega⟩
 rw[jK.eq]
 cases b<;>rfl
theorem bL.ok{k:Nat}{t:Pu.Tab}{r c:Int}(hk:2≤k):Pu.Ok (bL k t r c) fun _=>True:=by
 obtain⟨k,rfl⟩: ∃k',k=k'+1:=⟨k-1,by omega⟩
 rw[bL.eq,bL.fT]
 simp only[nI,nk,jZ,kD,kB,cm,cH,cD,eN,gm,fx,gU,gY,iY,bZ,de,gd,lB,mO,mP,kC,kE,ju,js,fO,fP,List.nil_append,List.cons_append]
 refine Pu.Ok.t (fun _=>Pu.Ok.ret trivial) (fun c1=>Pu.Ok.t (fun _=>Pu.Ok.ret trivial) (fun c2=> ?_))
 refine Pu.Ok.oZ (dD.is (by omega)) ?_
 generalize IntKind.i64.wrap (c-Pu.atI t.1 r)=z
 refine Pu.Ok.t (fun _=>Pu.Ok.ret trivial) (fun d1=> ?_)
 (repeat (refine Pu.Ok.g (by first|omega|assumption|(simp only[List.length_append,List.length_cons,List.length_nil,List.length_set,List.length_take,List.length_drop,List.length_replicate]at*;omega)) ?_))
 refine Pu.Ok.t (fun _=>Pu.Ok.ret trivial) (fun d2=> ?_)
 rw[bL.fb]
 simp only[nI,nk,jZ,kD,kB,cm,cH,cD,eN,gm,fx,gU,gY,iY,bZ,de,gd,lB,mO,mP,kC,kE,ju,js,fO,fP,List.nil_append,List.cons_append]
 (repeat (refine Pu.Ok.g (by first|omega|assumption|(simp only[List.length_append,List.length_cons,List.length_nil,List.length_set,List.length_take,List.length_drop,List.length_replicate]at*;omega)) ?_))
 exact Pu.Ok.ret trivial
theorem aS.inner{k k1:Nat}{b o g p1:LI}{i:Nat}{c:LI}{d:LJ}{rs:LJ}(hk:4194304≤k)(hb:b.length≤1048576)(ho:Pu.xq 9 o)(hi:i<o.length)(hrs:rs.length≤9)
  (key: ∀(p h:Int) (row:LI),0≤p→p≤b.length→row.length≤9→Pu.Ok (aS.L0 k k1 ((i:Int)+1) p h o p1 b c d g (rs++ [row])) fun r=>r.1.1=g∧Pu.cy 9 9 r.1.2∧0≤r.2.2.1∧r.2.2.1≤b.length):
  ∀(m j:Nat) (x low p h:Int) (row:LI),(9-x).toNat≤m→m<j→0≤p→p≤b.length→0≤x→(row.length:Int)≤x→row.length≤9→
  Pu.Ok (aS.L1 k k1 j i low x p h row o p1 b c d g rs) fun r=>r.1.1=g∧Pu.cy 9 9 r.1.2∧0≤r.2.2.1∧r.2.2.1≤b.length
 |m,0,x,low,p,h,row,_,hj,_,_,_,_,_=>by omega
 |m,j+1,x,low,p,h,row,hi,hj,h0,h1,h2,h3,h4=>by
  rw[aS.cO]
  simp only[nI,nk,jZ,kD,kB,cm,cH,cD,eN,gm,fx,gU,gY,iY,bZ,de,gd,lB,mO,mP,kC,kE,ju,js,fO,fP,List.nil_append,List.cons_append]
  (repeat (refine Pu.Ok.g (by first|omega|assumption|(simp only[List.length_append,List.length_cons,List.length_nil,List.length_set,List.length_take,List.length_drop,List.length_replicate]at*;omega)) ?_))
  have hlt:i<o.length:=by omega
  have hx:=ho.2 _ (List.getElem_mem hlt)
  rw[←Pu.aj hlt 0]at hx
  have h9:=ho.1
  (try simp only[Int.toNat_natCast]);(try simp (disch:=omega) only[w64])
  refine Pu.Ok.t (fun hz=> ?_) (fun hz=> ?_)
  ·refine Pu.Ok.bnd (bL.ok (by omega)) fun r1 _=> ?_
   refine Pu.Ok.oZ (iu.is (by omega)) ?_
   obtain⟨r2,i2,h2',e2,b4,b5⟩:=dI.is (k:=k) (n:=3) (h:=h) (b:=b) (by omega) hb h0 h1 (by omega)
   refine Pu.Ok.oZ e2 (Pu.Ok.oZ (jK.is (by omega)) ?_)
   obtain⟨r3,i3,h3',e3,a1,a2,a3,a4,a5⟩:=bz.is (k:=k) (n:=2) (h:=h2') (b:=b) (by omega) hb b4 b5 (by omega)
   refine Pu.Ok.oZ e3 (Pu.Ok.oZ (gn.is (by omega)) ?_)
   dsimp only
   (repeat (refine Pu.Ok.g (by first|omega|assumption|(simp only[List.length_append,List.length_cons,List.length_nil,List.length_set,List.length_take,List.length_drop,List.length_replicate]at*;omega)) ?_))
   (try simp only[Int.toNat_natCast]);(try simp (disch:=omega) only[w64])
   exact aS.inner hk hb ho hlt hrs key (m-1) j _ _ i3 h3' _ (by omega) (by omega) a4 a5 (by omega) (by rw[List.length_append];simp;omega) (by rw[List.length_append];simp;omega)
  ·(repeat (refine Pu.Ok.g (by first|omega|assumption|(simp only[List.length_append,List.length_cons,List.length_nil,List.length_set,List.length_take,List.length_drop,List.length_replicate]at*;omega)) ?_))
   exact key p h row h0 h1 h4
theorem aS.loop{k:Nat}{b o g p1:LI}{c:LI}{d:LJ}(hk:4194304≤k)(hb:b.length≤1048576)(ho:Pu.xq 9 o)(hp: ∀x∈p1,1≤x∧x≤9): ∀(m j i:Nat) (p h:Int) (rs:LJ),i+m=o.length→m<j→0≤p→p≤b.length→Pu.cy i 9 rs→
  Pu.Ok (aS.L0 k j i p h o p1 b c d g rs) fun r=>r.1.1=g∧Pu.cy 9 9 r.1.2∧0≤r.2.2.1∧r.2.2.1≤b.length
 |m,0,i,p,h,rs,_,hj,_,_,_=>by omega
 |0,j+1,i,p,h,rs,hi,hj,h0,h1,hr=>by
  rw[aS.bp]
  simp only[nI,nk,jZ,kD,kB,cm,cH,cD,eN,gm,fx,gU,gY,iY,bZ,de,gd,lB,mO,mP,kC,kE,ju,js,fO,fP,List.nil_append,List.cons_append]
  have:=ho.1
  exact Pu.Ok.no (by omega) (Pu.Ok.ret ⟨rfl,hr.mono (by omega) (by omega),h0,h1⟩)
 |m+1,j+1,i,p,h,rs,hi,hj,h0,h1,hr=>by
  rw[aS.bp]
  simp only[nI,nk,jZ,kD,kB,cm,cH,cD,eN,gm,fx,gU,gY,iY,bZ,de,gd,lB,mO,mP,kC,kE,ju,js,fO,fP,List.nil_append,List.cons_append]
  (repeat (refine Pu.Ok.g (by first|omega|assumption|(simp only[List.length_append,List.length_cons,List.length_nil,List.length_set,List.length_take,List.length_drop,List.length_replicate]at*;omega)) ?_))
  refine Pu.Ok.oZ (dD.is (by omega)) ?_
  have h9:=ho.1
  have hz:0≤Pu.atI p1 i:=by
   rw[Pu.eH]
   by_cases hl:i<p1.length
   ·rw[Pu.aj hl];have:=hp _ (List.getElem_mem hl);omega
   ·rw[Pu.cu (by omega)];omega
  refine aS.inner hk hb ho (by omega) (by have:=hr.1;omega) ?_ 9 k _ _ p h [] (by omega) (by omega) h0 h1 hz (by simpa using hz) (by simp)
  intro p' h' row q0 q1 q2
  exact aS.loop hk hb ho hp m j (i+1) p' h' _ (by omega) (by omega) q0 q1 (hr.app q2)
theorem aS.ok{k:Nat}{i h:Int}{b o p:LI}(hk:4194304+2≤k)(hb:b.length≤1048576)(hi:0≤i)(hi':i≤b.length)(ho:Pu.xq 9 o)(hp:Pu.xq 9 p):
  Pu.Ok (aS k i h o p b) fun r=>r.1.1=p∧Pu.cy 9 9 r.1.2∧0≤r.2.2.1∧r.2.2.1≤b.length:=by
 obtain⟨k,rfl⟩: ∃k',k=k'+1:=⟨k-1,by omega⟩
 rw[aS.eq]
 simp only[nI,nk,jZ,kD,kB,cm,cH,cD,eN,gm,fx,gU,gY,iY,bZ,de,gd,lB,mO,mP,kC,kE,ju,js,fO,fP,List.nil_append,List.cons_append]
 have:=hp.1
 (repeat (refine Pu.Ok.g (by first|omega|assumption|(simp only[List.length_append,List.length_cons,List.length_nil,List.length_set,List.length_take,List.length_drop,List.length_replicate]at*;omega)) ?_))
 exact aS.loop (by omega) hb ho hp.2 o.length k 0 i h [] (by omega) (by have:=ho.1;omega) hi hi' ⟨by simp,fun x hx=>by cases hx⟩
theorem bg.loop{k:Nat}{p:LI}(hk:4194304≤k)(hp:p.length≤1048576): ∀(m j i:Nat) (s v:Int),i+m=p.length→m<j→(i=0→v=9)→(0<i→v=p.getD (i-1) 0)→v≤9→0≤s→s≤9→
  bg.L0 k j s i p=some (Pu.fS (p.drop i) v s)
 |m,0,i,s,v,_,hj,_,_,_,_,_=>by omega
 |0,j+1,i,s,v,hi,_,_,_,_,_,_=>by
  rw[bg.bp]
  have e:i=p.length:=by omega
  subst e
  simp[Pu.fS]
 |m+1,j+1,i,s,v,hi,hj,h0,h1,hv,hs,hs9=>by
  rw[bg.bp]
  have hlt:i<p.length:=by omega
  have hj1: ∀x:Int,x=p.getD i 0→1≤x→x≤v→bg.J1 k j s i p=some (decide (s+x≤9)&&Pu.fS (p.drop (i+1)) x (s+x)):=by
   intro x hx hx1 hx2
   rw[bg.fb]
   simp (disch:=omega) only[↓aB,sss,if_true,if_false,hlt,←hx]
   by_cases c:9<s+x
   ·have: ¬s+x≤9:=by omega
    simp[c,this]
   ·have c':s+x≤9:=by omega
    have ih:=bg.loop hk hp m j (i+1) (s+x) x (by omega) (by omega) (by omega) (by simp[hx]) (by omega) (by omega) c'
    rw[Int.natCast_succ]at ih
    simp[c,c',ih]
  rw[Pu.drop_cons hlt 0]
  simp (disch:=omega) only[↓aB,sss,if_true,if_false,hlt,fg.is,Pu.fS]
  generalize hx:p.getD i 0=x at*
  unfold Pu.within
  by_cases c1:1≤x
  ·by_cases c2:x≤v
   ·have c3:x≤9:=by omega
    have hj:=hj1 x rfl c1 c2
    by_cases hi0:i=0
    ·have hpos: ¬(0:Int)<i:=by omega
     simp (disch:=omega) only[↓aB,sss,if_true,if_false,c1,c2,c3,hpos,hj]
    ·have hv':=h1 (by omega)
     have e:((i:Int)-1)=((i-1:Nat):Int):=by omega
     have hlt':i-1<p.length:=by omega
     have hge: ¬p.getD (i-1) 0<x:=by rw[←hv'];omega
     have hpos:(0:Int)<i:=by omega
     simp (disch:=omega) only[e,↓aB,sss,if_true,if_false,hlt',c1,c2,c3,hj,hpos,hge]
   ·simp only[c1,c2,↓aB,sss,if_true,if_false]
    by_cases c3:x≤9
    ·have hi0:0<i:=by
      rcases Nat.eq_zero_or_pos i with h|h
      ·have:=h0 h;omega
      ·exact h
     have hv':=h1 hi0
     have e:((i:Int)-1)=((i-1:Nat):Int):=by omega
     have hlt':i-1<p.length:=by omega
     have hge:p.getD (i-1) 0<x:=by rw[←hv'];omega
     have hpos:(0:Int)<i:=by omega
     simp (disch:=omega) only[e,↓aB,sss,if_true,if_false,hlt',c3,hpos,hge]
    ·simp only[c3,↓aB,sss,if_true,if_false]
  ·simp only[c1,↓aB,sss,if_true,if_false]
theorem bg.is{k:Nat}{p:LI}(hk:4194304+1≤k)(hp:p.length≤1048576):bg k p=some (Pu.cx p):=by
 obtain⟨k,rfl⟩: ∃k',k=k'+1:=⟨k-1,by omega⟩
 rw[bg.eq]
 exact bg.loop (k:=k) (by omega) hp p.length k 0 0 9 (by omega) (by omega) (fun _=>rfl) (by omega) (by omega) (by omega) (by omega)
theorem b7.loop{k:Nat}{q p:LI}(hq:q.length≤1048576)(hl:q.length≤p.length)(hk:q.length<k):b7.L1 k k 0 q p=some ((List.range' 0 q.length).all fun i=>decide (q.getD i 0≤p.getD i 0)):=by
 have h:=Pu.mN (fun j i=>b7.L1 k j (i:Int) q p) q.length (fun i=>decide (q.getD i 0≤p.getD i 0)) (some false) (some true)
  (fun j i hi=>by
   have hi2:i<p.length:=by omega
   rw[b7.cO]
   simp (disch:=omega) only[↓aB,sss,if_true,if_false,hi,hi2,Int.natCast_add,Int.natCast_one]
   by_cases c:q.getD i 0≤p.getD i 0
   ·have c': ¬p.getD i 0<q.getD i 0:=by omega
    simp only[c,c',↓aB,sss,if_true,if_false]
   ·have c':p.getD i 0<q.getD i 0:=by omega
    simp only[c,c',↓aB,sss,if_true,if_false])
  (fun j=>by
   rw[b7.cO]
   simp only[↓aB,sss,if_true,if_false,Nat.lt_irrefl]) q.length k 0 (by omega) hk
 simp only[Int.natCast_zero]at h
 rw[h]
 cases(List.range' 0 q.length).all fun i=>decide (q.getD i 0≤p.getD i 0)<;>simp
theorem b7.is{k:Nat}{q p:LI}(hk:4194304+2≤k)(hq:q.length≤1048576)(hp:p.length≤1048576):b7 k q p=some (Pu.dV q p):=by
 obtain⟨k,rfl⟩: ∃k',k=k'+1:=⟨k-1,by omega⟩
 rw[b7.eq,bg.is (by omega) hq,cQ,b7.fT]
 unfold Pu.dV
 cases c1:Pu.cx q with
 |false=>simp only[↓aB,sss,if_true,if_false]
 |true=>
  simp only[↓aB,sss,if_true,if_false]
  rw[bg.is (by omega) hp,cQ]
  cases c2:Pu.cx p with
  |false=>simp only[↓aB,sss,if_true,if_false]
  |true=>
   simp only[↓aB,sss,if_true,if_false]
   by_cases c3:p.length<q.length
   ·have c3': ¬q.length≤p.length:=by omega
    simp only[c3,c3',↓aB,sss,if_true,if_false]
   ·have c3':q.length≤p.length:=by omega
    simp only[c3,c3',↓aB,sss,if_true,if_false]
    exact b7.loop hq c3' (by omega)
theorem iq.is{k:Nat}{s:LI×LI}(hk:4194304+3≤k)(hq:s.1.length≤1048576)(hp:s.2.length≤1048576):iq k s=some (Pu.dV s.2 s.1):=by
 obtain⟨k,rfl⟩: ∃k',k=k'+1:=⟨k-1,by omega⟩
 rw[iq.eq,b7.is (by omega) hp hq]
 rfl
theorem bG.loop{k:Nat}{t:Pu.Tab}{x3 x4:LI}(hk:4194304+3≤k)(hi:Pu.cx t.1=true)(h2:t.2.length≤9)(hr: ∀x∈t.2,x.length≤1048576): ∀(m j i:Nat) (acc:LI),i+m=t.2.length→m<j→acc.length=i→
  bG.L1 k j i t.1 t.2 x3 x4 acc t.1=some (if Pu.dV t.1 (acc++Pu.fE t.1 i (t.2.drop i))=true then((acc++Pu.fE t.1 i (t.2.drop i),t.1),true)else(([],[]),false))
 |m,0,i,acc,_,hj,_=>by omega
 |0,j+1,i,acc,hm,_,hacc=>by
  rw[bG.cO]
  have e:i=t.2.length:=by omega
  have h9:=(Pu.dn hi).2.2.1
  have hlt: ¬i<t.2.length:=by omega
  rw[iq.is (by omega) (by simp only;omega) (by simp only;omega),e]
  simp only[↓aB,sss,if_true,if_false,Nat.lt_irrefl,List.drop_length,Pu.fE,List.append_nil]
  cases Pu.dV t.1 acc<;>simp
 |m+1,j+1,i,acc,hm,hj,hacc=>by
  rw[bG.cO]
  have hlt:i<t.2.length:=by omega
  have hb:=Pu.iH hi i
  have hrow:=hr t.2[i] (List.getElem_mem hlt)
  rw[←Pu.aj hlt []]at hrow
  rw[dD.is (by omega)]
  have ih:=bG.loop (x3:=x3) (x4:=x4) hk hi h2 hr m j (i+1) (acc++ [Pu.atI t.1 i+(t.2.getD i []).length]) (by omega) (by omega) (by simp[hacc])
  rw[Int.natCast_succ]at ih
  rw[Pu.drop_cons hlt []]
  have hl:(acc++ [Pu.atI t.1 i+((t.2.getD i []).length:Int)]).length≤1099511627776:=by simp;omega
  simp (disch:=omega) only[↓aB,sss,if_true,if_false,hlt,hl,ih,Pu.fE]
  simp only[List.append_assoc,List.singleton_append,Pu.eH]
  rfl
theorem bG.is{k:Nat}{t:Pu.Tab}(hk:4194304+4≤k)(h1:t.1.length≤1048576)(h2:t.2.length≤1048576)(hr: ∀x∈t.2,x.length≤1048576):bG k t=some (Pu.shapeOf t):=by
 obtain⟨k,rfl⟩: ∃k',k=k'+1:=⟨k-1,by omega⟩
 rw[bG.eq,bg.is (by omega) h1,bG.fT]
 have hl:t.1.length≤1099511627776:=by omega
 simp only[↓aB,sss,if_true,if_false,List.nil_append,hl]
 unfold Pu.shapeOf
 cases c1:Pu.cx t.1 with
 |false=>
  have:Pu.dB t=false:=by unfold Pu.dB;rw[c1];rfl
  simp only[this,↓aB,sss,if_true,if_false]
 |true=>
  by_cases c2:t.2.length<t.1.length
  ·have:Pu.dB t=false:=by
    have: ¬t.1.length≤t.2.length:=by omega
    unfold Pu.dB;simp[this]
   simp only[this,c2,↓aB,sss,if_true,if_false]
  ·by_cases c3:9<t.2.length
   ·have:Pu.dB t=false:=by
     cases h:Pu.dB t with
     |false=>rfl
     |true=>have:=Pu.Bu h;omega
    have c3':(9:Int)<t.2.length:=by omega
    simp only[this,c2,c3',↓aB,sss,if_true,if_false]
   ·have c3': ¬(9:Int)<t.2.length:=by omega
    have c2':t.1.length≤t.2.length:=by omega
    have hloop:=bG.loop (k:=k) (t:=t) (x3:= []) (x4:= []) (by omega) c1 (by omega) hr t.2.length k 0 [] (by omega) (by omega) rfl
    rw[Int.natCast_zero]at hloop
    simp only[c2,c3',↓aB,sss,if_true,if_false]
    rw[hloop]
    have:Pu.dB t=Pu.dV t.1 (Pu.outer t):=by unfold Pu.dB;simp[c1,c2']
    rw[this]
    rfl
theorem aE.IF{k k1 k2:Nat}{t:Pu.Tab}{r:Nat}{c x v:Int}{o n:LI}(hk:3≤k)(hi:Pu.cx t.1=true)(h1:0≤c)(h2:c≤10000000)(hr:r≤1048576):
  aE.J2 k k1 k2 r c x v t.1 t.2 o n=if(Pu.within x 1 9&&(decide (v≤x)&&decide (Pu.entry t ((r:Int)-1) c<x)))=true then aE.L1 k k1 k2 r (c+1) t.1 t.2 o n else some false:=by
 have he:=bL.is (k:=k) (t:=t) (r:=(r:Int)-1) (c:=c) (by omega) hi (by omega) (by omega)
 rw[aE.kx,fg.is (by omega),aE.sC]
 simp (disch:=omega) only[↓aB,sss,if_true,if_false,he]
 cases Pu.within x 1 9 with
 |false=>simp
 |true=>
  by_cases c1:v≤x
  ·have c1': ¬x<v:=by omega
   by_cases c2:Pu.entry t ((r:Int)-1) c<x
   ·have c2': ¬x≤Pu.entry t ((r:Int)-1) c:=by omega
    simp[c1,c1',c2,c2']
   ·have c2':x≤Pu.entry t ((r:Int)-1) c:=by omega
    simp[c1,c1',c2,c2']
  ·have c1':x<v:=by omega
   simp[c1,c1']
theorem aE.inner{k k1:Nat}{t:Pu.Tab}{r:Nat}{n:LI}(hk:4194304≤k)(hi:Pu.cx t.1=true)(ht:t.2.length≤1048576)(hr: ∀x∈t.2,x.length≤1048576)(hlt:r<t.2.length):
  aE.L1 k k1 k r (t.1.getD r 0) t.1 t.2 (Pu.outer t) n=if((List.range' 0 (t.2.getD r []).length).all fun q=>Pu.g6 t r q)=true then aE.L0 k k1 ((r:Int)+1) t.1 t.2 (Pu.outer t) n else some false:=by
 have hx:=hr _ (List.getElem_mem hlt)
 rw[←Pu.aj hlt []]at hx
 have hb:=Pu.iH hi r
 rw[Pu.eH]at hb
 have hol:r<(Pu.outer t).length:=by unfold Pu.outer;rw[Pu.ly];exact hlt
 have ho:(Pu.outer t).getD r 0=t.1.getD r 0+((t.2.getD r []).length:Int):=by
  have:=Pu.fU t.1 t.2 0 r hlt
  rw[Nat.zero_add]at this
  exact this
 have h:=Pu.mN (fun j q=>aE.L1 k k1 j r (t.1.getD r 0+(q:Int)) t.1 t.2 (Pu.outer t) n) (t.2.getD r []).length (fun q=>Pu.g6 t r q) (some false) (aE.L0 k k1 ((r:Int)+1) t.1 t.2 (Pu.outer t) n)
  (fun j q hq=>by
   rw[aE.cO]
   have hc:t.1.getD r 0+(q:Int)<(Pu.outer t).getD r 0:=by rw[ho];omega
   have e1:=bL.is (k:=k) (t:=t) (r:=r) (c:=t.1.getD r 0+q) (by omega) hi (by omega) (by omega)
   have e2:=bL.is (k:=k) (t:=t) (r:=r) (c:=t.1.getD r 0+q-1) (by omega) hi (by omega) (by omega)
   rw[Pu.zV hlt]at e1
   rw[Pu.Cj hlt]at e2
   have ej:=fun v=>aE.IF (k:=k) (k1:=k1) (k2:=j) (t:=t) (r:=r) (c:=t.1.getD r 0+q) (x:=(t.2.getD r []).getD q 0) (v:=v) (o:=Pu.outer t) (n:=n) (by omega) hi (by omega) (by omega) (by omega)
   have en:t.1.getD r 0+(q:Int)+1=t.1.getD r 0+((q+1:Nat):Int):=by omega
   rw[en]at ej
   have key: ∀v:Int,v=(if q=0 then 0 else(t.2.getD r []).getD (q-1) 0)→(Pu.within ((t.2.getD r []).getD q 0) 1 9&&(decide (v≤(t.2.getD r []).getD q 0)&&decide (Pu.entry t ((r:Int)-1) (t.1.getD r 0+q)<(t.2.getD r []).getD q 0)))=Pu.g6 t r q:=by
    intro v hv
    unfold Pu.g6
    cases hw:Pu.within ((t.2.getD r []).getD q 0) 1 9 with
    |false=>rfl
    |true=>
     have hw1:1≤(t.2.getD r []).getD q 0:=by
      simp only[Pu.within,Bool.and_eq_true,decide_eq_true_eq]at hw;exact hw.1
     simp only[Bool.true_and]
     congr 1
     ·by_cases e:q=0
      ·have:v≤(t.2.getD r []).getD q 0:=by rw[hv,if_pos e];omega
       simp[e,this]
       simpa[e]using this
      ·rw[hv,if_neg e];simp[e]
     ·by_cases e:r=0
      ·subst e
       rw[Pu.Eg (by omega),decide_eq_true (show(0:Int)<(t.2.getD 0 []).getD q 0 by omega)]
       simp only[decide_true,Bool.true_or]
      ·simp[e]
   by_cases hc0:0<t.1.getD r 0+(q:Int)
   ·simp (disch:=omega) only[↓aB,sss,if_true,if_false,hol,hc,e1,hc0,e2,ej]
    rw[key _ rfl]
   ·simp (disch:=omega) only[↓aB,sss,if_true,if_false,hol,hc,e1,hc0,ej]
    rw[key 0 (by
           have:q=0:=by omega
           rw[if_pos this])])
  (fun j=>by
   rw[aE.cO]
   have hc: ¬t.1.getD r 0+((t.2.getD r []).length:Int)<(Pu.outer t).getD r 0:=by rw[ho];omega
   simp (disch:=omega) only[↓aB,sss,if_true,if_false,hol,hc]) (t.2.getD r []).length k 0 (by omega) (by omega)
 simp only[Int.natCast_zero,Int.add_zero]at h
 exact h
theorem aE.is{k:Nat}{t:Pu.Tab}(hk:4194304+5≤k)(h1:t.1.length≤1048576)(ht:t.2.length≤1048576)(hr: ∀x∈t.2,x.length≤1048576):aE k t=some (Pu.iK t):=by
 obtain⟨k,rfl⟩: ∃k',k=k'+1:=⟨k-1,by omega⟩
 rw[aE.eq,bG.is (by omega) h1 ht hr,cQ]
 unfold Pu.iK Pu.shapeOf
 cases hs:Pu.dB t with
 |false=>simp[hs]
 |true=>
  have hi:Pu.cx t.1=true:=by
   simp only[Pu.dB,Bool.and_eq_true]at hs;exact hs.1
  have hol:(Pu.outer t).length=t.2.length:=by unfold Pu.outer;rw[Pu.ly]
  have h:=Pu.mN (fun j r=>aE.L0 k j r t.1 t.2 (Pu.outer t) t.1) t.2.length (fun r=>(List.range' 0 (t.2.getD r []).length).all fun q=>Pu.g6 t r q) (some false) (some true)
   (fun j r hlt=>by
    rw[aE.bp,dD.is (by omega),Pu.eH]
    simp (disch:=omega) only[↓aB,sss,if_true,if_false,hol,hlt,aE.inner (k1:=j) (n:=t.1) (show 4194304≤k by omega) hi ht hr hlt,Int.natCast_add,Int.natCast_one])
   (fun j=>by
    rw[aE.bp]
    simp (disch:=omega) only[↓aB,sss,if_true,if_false,hol,Nat.lt_irrefl]) t.2.length k 0 (by omega) (by omega)
  simp only[Int.natCast_zero]at h
  simp only[if_true,↓aB,sss,if_true,if_false]
  rw[h]
  cases(List.range' 0 t.2.length).all fun r=>(List.range' 0 (t.2.getD r []).length).all fun q=>Pu.g6 t r q<;>simp
theorem eA.ok{k:Nat}{m i h:Int}{b:LI}(hk:4194304+14≤k)(hb:b.length≤1048576)(hi:0≤i)(hi':i≤b.length)(hm:1≤m)(hm':m≤9):
  Pu.Ok (eA k m i h b) fun r=>Dt 9 9 9 r.1∧0≤r.2.2.1∧r.2.2.1≤b.length:=by
 obtain⟨k,rfl⟩: ∃k',k=k'+1:=⟨k-1,by omega⟩
 rw[eA.eq]
 obtain⟨p,i1,h1,e1,hp,a4,a5⟩:=dw.is (k:=k) (m:=m) (h:=h) (b:=b) (by omega) hb hi hi' hm hm'
 refine Pu.Ok.oZ e1 ?_
 dsimp only
 refine Pu.Ok.bnd (aS.ok (by omega) hb a4 a5 hp ⟨by simp,fun x hx=>by cases hx⟩) ?_
 rintro⟨⟨q,rs⟩,_,i2,h2⟩ ⟨e2,hr,b4,b5⟩
 simp only at e2
 subst e2
 have ht:Dt 9 9 9 (([],rs):Pu.Tab):=⟨by simp,hr⟩
 obtain⟨c1,c2,c3⟩:=ht.tab (by omega) (by omega) (by omega)
 dsimp only
 refine Pu.Ok.oZ (aE.is (by omega) c1 c2 c3) ?_
 refine Pu.Ok.tn (fun _=>Pu.Ok.ret ⟨⟨by simp,by simp,fun x hx=> ?_⟩,b4,b5⟩) (fun _=>Pu.Ok.ret ⟨ht,b4,b5⟩)
 simp only[List.mem_cons,List.not_mem_nil,or_false]at hx
 rcases hx with rfl|rfl<;>simp
theorem au.Ba{k:Nat}{b x5 x7:LI}{x6 x8:LJ}(hk:4194304+100≤k)(hb:b.length≤1048576): ∀(m j i:Nat) (h:Int),i+m=b.length→m<j→Pu.Ok (au.L0 k j h i 0 0 b x5 x6 x7 x8) fun r=>Pu.gC r.1∧Pu.gC r.2.1:=by
 have rest: ∀{p h:Int} {a q:LI} {A Q:LJ},0≤p→p≤b.length→Pu.gC (a,A)→Pu.gC (q,Q)→Pu.Ok (au.J3 k p h x5 x6 x7 x8 b a A q Q) fun r=>Pu.gC r.1∧Pu.gC r.2.1:=fun{p h a q A Q} h0 h1 hA hQ=>by
  rw[au.sC]
  obtain⟨x,p1,h2,e1,_,a1,a2⟩:=cf.is (k:=HAdd.hAdd k 1) (l:= [4,5,9,2,0,10]) (i:=p) (h:=h) (b:=b) (by show _≤k+1;omega) hb h0 h1 (by simp) (by simp)
  refine Pu.Ok.oZ e1 ?_
  dsimp only
  obtain⟨y,p2,h3,e2,_⟩:=cf.is (k:=HAdd.hAdd k 1) (l:= [4,5,9,2,0,10]) (i:=p1) (h:=h2) (b:=b) (by show _≤k+1;omega) hb a1 a2 (by simp) (by simp)
  exact Pu.Ok.oZ e2 (Pu.Ok.ret ⟨hA,hQ⟩)
 have fin: ∀h,Pu.Ok (au.J2 k h 0 0 b x5 x6 x7 x8) fun r=>Pu.gC r.1∧Pu.gC r.2.1:=fun h=>by
  rw[au.kx]
  refine Pu.Ok.bnd (aN.ok (by show _≤k+1;omega) hb (by omega) (by omega)) ?_
  rintro⟨m,_,i1,h1⟩ ⟨hm,a4,a5⟩
  dsimp only at*
  have hp:=aX.is (k:=HAdd.hAdd k 1) (m:=m) (by show _≤k+1;omega) (by have:=hm.1;omega) (fun x hx=>by have:=hm.2 x hx;omega)
  obtain⟨t1,t2⟩:=Pu.zz m
  refine Pu.Ok.oZ hp ?_
  obtain⟨r2,i2,h2,e2,b4,b5⟩:=dI.is (k:=HAdd.hAdd k 1) (n:=8) (h:=h1) (b:=b) (by show _≤k+1;omega) hb a4 a5 (by omega)
  refine Pu.Ok.oZ e2 ?_
  dsimp only
  refine Pu.Ok.tb (fun _=> ?_) (fun _=>rest b4 b5 t1 t2)
  refine Pu.Ok.bnd (eA.ok (by show _≤k+1;omega) hb b4 b5 (by omega) (by omega)) ?_
  rintro⟨⟨q,rs⟩,_,i3,h3⟩ ⟨ht,a4,a5⟩
  exact rest a4 a5 t1 (ht.tab (by omega) (by omega) (by omega))
 intro m
 induction m with
 |zero=>
  intro j i h hi hj
  obtain⟨j,rfl⟩: ∃j',j=j'+1:=⟨j-1,by omega⟩
  rw[au.bp]
  simp only[nI,nk,jZ,kD,kB,cm,cH,cD,eN,gm,fx,gU,gY,iY,bZ,de,gd,lB,mO,mP,kC,kE,ju,js,fO,fP,List.nil_append,List.cons_append]
  exact Pu.Ok.no (by omega) (fin h)
 |succ m ih=>
  intro j i h hi hj
  obtain⟨j,rfl⟩: ∃j',j=j'+1:=⟨j-1,by omega⟩
  have hw:IntKind.i64.wrap ((i:Int)+1)=((i+1:Nat):Int):=w64 (by omega) (by omega)
  rw[au.bp]
  simp only[nI,nk,jZ,kD,kB,cm,cH,cD,eN,gm,fx,gU,gY,iY,bZ,de,gd,lB,mO,mP,kC,kE,ju,js,fO,fP,List.nil_append,List.cons_append]
  refine Pu.Ok.g (by omega) (Pu.Ok.t (fun _=> ?_) (fun _=>fin h))
  rw[au.fb]
  simp only[nI,nk,jZ,kD,kB,cm,cH,cD,eN,gm,fx,gU,gY,iY,bZ,de,gd,lB,mO,mP,kC,kE,ju,js,fO,fP,List.nil_append,List.cons_append]
  rw[hw]
  refine Pu.Ok.g (by omega) (Pu.Ok.g (by omega) (Pu.Ok.g (by omega) ?_))
  exact ih j (i+1) _ (by omega) (by omega)
theorem au.ok{k:Nat}{b:LI}(hk:4194304+110≤k)(hb:b.length≤1048576):Pu.Ok (au k b) fun r=>Pu.gC r.1∧Pu.gC r.2.1:=by
 obtain⟨k,rfl⟩: ∃k',k=k'+2:=⟨k-2,by omega⟩
 rw[au.eq]
 exact au.Ba (by omega) hb b.length k 0 _ (by omega) (by omega)
theorem bh.loop{k:Nat}{p:LI}(hk:4194304≤k)(hp:p.length≤1048576): ∀(m j i:Nat) (s v:Int),i+m=p.length→m<j→(i=0→v=9)→(0<i→v=p.getD (i-1) 0)→v≤9→0≤s→s≤9→
  bh.L0 k j s p.length i p=some (Pu.fS (p.drop i) v s)
 |m,0,i,s,v,_,hj,_,_,_,_,_=>by omega
 |0,j+1,i,s,v,hi,_,_,_,_,_,_=>by
  rw[bh.bp]
  have e:i=p.length:=by omega
  subst e
  simp[Pu.fS]
 |m+1,j+1,i,s,v,hi,hj,h0,h1,hv,hs,hs9=>by
  rw[bh.bp]
  have hlt:i<p.length:=by omega
  have hj1: ∀x:Int,x=p.getD i 0→1≤x→x≤v→bh.J1 k j s x p.length i p=some (decide (s+x≤9)&&Pu.fS (p.drop (i+1)) x (s+x)):=by
   intro x hx hx1 hx2
   rw[bh.fb]
   simp (disch:=omega) only[↓aB,sss,if_true,if_false]
   by_cases c:9<s+x
   ·have: ¬s+x≤9:=by omega
    simp[c,this]
   ·have c':s+x≤9:=by omega
    have ih:=bh.loop hk hp m j (i+1) (s+x) x (by omega) (by omega) (by omega) (by simp[hx]) (by omega) (by omega) c'
    rw[Int.natCast_succ]at ih
    simp[c,c',ih]
  rw[Pu.drop_cons hlt 0]
  simp (disch:=omega) only[↓aB,sss,if_true,if_false,hlt,cW.is,Pu.fS]
  generalize hx:p.getD i 0=x at*
  unfold Pu.within
  by_cases c1:1≤x
  ·by_cases c2:x≤v
   ·have c3:x≤9:=by omega
    have hj:=hj1 x rfl c1 c2
    by_cases hi0:i=0
    ·have hpos: ¬(0:Int)<i:=by omega
     simp (disch:=omega) only[↓aB,sss,if_true,if_false,c1,c2,c3,hpos,hj]
    ·have hv':=h1 (by omega)
     have e:((i:Int)-1)=((i-1:Nat):Int):=by omega
     have hlt':i-1<p.length:=by omega
     have hge: ¬p.getD (i-1) 0<x:=by rw[←hv'];omega
     have hpos:(0:Int)<i:=by omega
     simp (disch:=omega) only[e,↓aB,sss,if_true,if_false,hlt',c1,c2,c3,hj,hpos,hge]
   ·simp only[c1,c2,↓aB,sss,if_true,if_false]
    by_cases c3:x≤9
    ·have hi0:0<i:=by
      rcases Nat.eq_zero_or_pos i with h|h
      ·have:=h0 h;omega
      ·exact h
     have hv':=h1 hi0
     have e:((i:Int)-1)=((i-1:Nat):Int):=by omega
     have hlt':i-1<p.length:=by omega
     have hge:p.getD (i-1) 0<x:=by rw[←hv'];omega
     have hpos:(0:Int)<i:=by omega
     simp (disch:=omega) only[e,↓aB,sss,if_true,if_false,hlt',c3,hpos,hge]
    ·simp only[c3,↓aB,sss,if_true,if_false]
  ·simp only[c1,↓aB,sss,if_true,if_false]
theorem bh.is{k:Nat}{p:LI}(hk:4194304+1≤k)(hp:p.length≤1048576):bh k p=some (Pu.cx p):=by
 obtain⟨k,rfl⟩: ∃k',k=k'+1:=⟨k-1,by omega⟩
 rw[bh.eq]
 exact bh.loop (k:=k) (by omega) hp p.length k 0 0 9 (by omega) (by omega) (fun _=>rfl) (by omega) (by omega) (by omega) (by omega)
theorem cr.is{k:Nat}{a:LI}(hk:1≤k)(ha:a.length≤1099511627776):cr k a=some a:=by
 obtain⟨k,rfl⟩: ∃k',k=k'+1:=⟨k-1,by omega⟩
 rw[cr.eq]
 by_cases h:a.length=0
 ·have:a= []:=List.eq_nil_of_length_eq_zero h
  subst this
  simp[HG,Ee]
 ·simp[h,ha]
theorem iv.is{k:Nat}{p:LI}{i:Int}(hk:2≤k)(hp:p.length≤1048576):iv k p i=some (Pu.atI p i):=by
 obtain⟨k,rfl⟩: ∃k',k=k'+1:=⟨k-1,by omega⟩
 rw[iv.eq,cW.is (by omega)]
 unfold Pu.within
 by_cases h1:0≤i
 ·have h0: ¬i<0:=by omega
  by_cases h2:i≤(p.length:Int)-1
  ·have h4:i.toNat<p.length:=by omega
   simp (disch:=omega) only[↓aB,sss,if_true,if_false,h0,h1,h2,h4,Pu.atI]
  ·simp (disch:=omega) only[↓aB,sss,if_true,if_false,h1,h2,Pu.BY (p:=p) (i:=i) (by omega)]
 ·simp (disch:=omega) only[↓aB,sss,if_true,if_false,h1,Pu.qd (p:=p) (i:=i) (by omega)]
theorem b8.loop{k:Nat}{q p:LI}(hq:q.length≤1048576)(hp:p.length≤1048576)(hk:4194304+2≤k):b8.L1 k k q.length 0 p q=some ((List.range' 0 q.length).all fun i=>decide (q.getD i 0≤p.getD i 0)):=by
 have h:=Pu.mN (fun j i=>b8.L1 k j q.length (i:Int) p q) q.length (fun i=>decide (q.getD i 0≤p.getD i 0)) (some false) (some true)
  (fun j i hi=>by
   rw[b8.cO,iv.is (by omega) hp,Pu.eH]
   simp (disch:=omega) only[↓aB,sss,if_true,if_false,hi,Int.natCast_add,Int.natCast_one]
   by_cases c:q.getD i 0≤p.getD i 0
   ·have c': ¬p.getD i 0<q.getD i 0:=by omega
    simp only[c,c',↓aB,sss,if_true,if_false]
   ·have c':p.getD i 0<q.getD i 0:=by omega
    simp only[c,c',↓aB,sss,if_true,if_false])
  (fun j=>by
   rw[b8.cO]
   simp only[↓aB,sss,if_true,if_false,Nat.lt_irrefl]) q.length k 0 (by omega) (by omega)
 simp only[Int.natCast_zero]at h
 rw[h]
 cases(List.range' 0 q.length).all fun i=>decide (q.getD i 0≤p.getD i 0)<;>simp
theorem b8.is{k:Nat}{q p:LI}(hk:4194304+3≤k)(hq:q.length≤1048576)(hp:p.length≤1048576):b8 k q p=some (Pu.dV q p):=by
 obtain⟨k,rfl⟩: ∃k',k=k'+1:=⟨k-1,by omega⟩
 rw[b8.eq,bh.is (by omega) hq,cQ,b8.fT,Pu.A0]
 cases c1:Pu.cx q with
 |false=>simp only[↓aB,sss,if_true,if_false]
 |true=>
  simp only[↓aB,sss,if_true,if_false]
  rw[bh.is (by omega) hp,cQ]
  cases c2:Pu.cx p with
  |false=>simp only[↓aB,sss,if_true,if_false]
  |true=>
   simp only[↓aB,sss,if_true,if_false]
   exact b8.loop hq hp (by omega)
theorem im.is{k:Nat}{s:LI×LI}(hk:4194304+4≤k)(hq:s.1.length≤1048576)(hp:s.2.length≤1048576):im k s=some (Pu.dV s.2 s.1):=by
 obtain⟨k,rfl⟩: ∃k',k=k'+1:=⟨k-1,by omega⟩
 rw[im.eq,b8.is (by omega) hp hq]
 rfl
theorem bR.loop{k:Nat}{t:Pu.Tab}{x3 x4:LI}(hk:4194304+4≤k)(hi:Pu.cx t.1=true)(h2:t.2.length≤1048576)(hr: ∀x∈t.2,x.length≤1048576): ∀(m j i:Nat) (acc:LI),i+m=t.2.length→m<j→acc.length=i→
  bR.L1 k j t.2.length i t.2 t.1 x3 x4 acc t.1=some (if Pu.dV t.1 (acc++Pu.fE t.1 i (t.2.drop i))=true then((acc++Pu.fE t.1 i (t.2.drop i),t.1),true)else(([],[]),false))
 |m,0,i,acc,_,hj,_=>by omega
 |0,j+1,i,acc,hm,_,hacc=>by
  rw[bR.cO]
  have e:i=t.2.length:=by omega
  have h9:=(Pu.dn hi).2.2.1
  have hlt: ¬i<t.2.length:=by omega
  rw[im.is (by omega) (by simp only;omega) (by simp only;omega),e]
  simp only[↓aB,sss,if_true,if_false,Nat.lt_irrefl,List.drop_length,Pu.fE,List.append_nil]
  cases Pu.dV t.1 acc<;>simp
 |m+1,j+1,i,acc,hm,hj,hacc=>by
  rw[bR.cO]
  have hlt:i<t.2.length:=by omega
  have hb:=Pu.iH hi i
  have h9:=(Pu.dn hi).2.2.1
  have hrow:=hr t.2[i] (List.getElem_mem hlt)
  rw[←Pu.aj hlt []]at hrow
  rw[iv.is (by omega) (by omega)]
  have ih:=bR.loop (x3:=x3) (x4:=x4) hk hi h2 hr m j (i+1) (acc++ [Pu.atI t.1 i+(t.2.getD i []).length]) (by omega) (by omega) (by simp[hacc])
  rw[Int.natCast_succ]at ih
  rw[Pu.drop_cons hlt []]
  have hl:(acc++ [Pu.atI t.1 i+((t.2.getD i []).length:Int)]).length≤1099511627776:=by simp;omega
  simp (disch:=omega) only[↓aB,sss,if_true,if_false,hlt,hl,ih,Pu.fE]
  simp only[List.append_assoc,List.singleton_append,Pu.eH]
  rfl
theorem bR.is{k:Nat}{t:Pu.Tab}(hk:4194304+5≤k)(h1:t.1.length≤1048576)(h2:t.2.length≤1048576)(hr: ∀x∈t.2,x.length≤1048576):bR k t=some (Pu.shapeOf t):=by
 obtain⟨k,rfl⟩: ∃k',k=k'+1:=⟨k-1,by omega⟩
 rw[bR.eq,bh.is (by omega) h1,bR.fT,cr.is (by omega) (by omega)]
 simp only[↓aB,sss,if_true,if_false]
 unfold Pu.shapeOf
 cases c1:Pu.cx t.1 with
 |false=>
  have:Pu.dB t=false:=by unfold Pu.dB;rw[c1];rfl
  simp only[this,↓aB,sss,if_true,if_false]
 |true=>
  by_cases c2:t.2.length<t.1.length
  ·have:Pu.dB t=false:=by
    have: ¬t.1.length≤t.2.length:=by omega
    unfold Pu.dB;simp[this]
   simp only[this,c2,↓aB,sss,if_true,if_false]
  ·have c2':t.1.length≤t.2.length:=by omega
   have hloop:=bR.loop (k:=k) (t:=t) (x3:= []) (x4:= []) (by omega) c1 h2 hr t.2.length k 0 [] (by omega) (by omega) rfl
   rw[Int.natCast_zero]at hloop
   simp only[c2,↓aB,sss,if_true,if_false]
   rw[hloop]
   have:Pu.dB t=Pu.dV t.1 (Pu.outer t):=by unfold Pu.dB;simp[c1,c2']
   rw[this]
   rfl
theorem dK.is{k:Nat}{t:Pu.Tab}{r c:Int}(hk:3≤k)(hi:Pu.cx t.1=true)(ht:t.2.length≤1048576)(hr: ∀x∈t.2,x.length≤1048576)(h1: -1000000000≤c)(h2:c≤1000000000):dK k t r c=some (Pu.entry t r c):=by
 obtain⟨k,rfl⟩: ∃k',k=k'+1:=⟨k-1,by omega⟩
 have hb:=Pu.iH hi r
 have h9:=(Pu.dn hi).2.2.1
 rw[dK.eq,cW.is (by omega)]
 unfold Pu.entry Pu.within
 by_cases c1:r<0
 ·have c1': ¬0≤r:=by omega
  simp (disch:=omega) only[↓aB,sss,if_true,if_false,c1,c1']
 ·have c3:0≤r:=by omega
  by_cases c2:(t.2.length:Int)≤r
  ·have c2': ¬r≤(t.2.length:Int)-1:=by omega
   simp (disch:=omega) only[↓aB,sss,if_true,if_false,c1,c3,c2,c2']
  ·have c2':r≤(t.2.length:Int)-1:=by omega
   have c4:r.toNat<t.2.length:=by omega
   have hx:=hr _ (List.getElem_mem c4)
   rw[←Pu.aj c4 []]at hx
   simp (disch:=omega) only[↓aB,sss,if_true,if_false,c1,c2,c2',c3,c4,iv.is]
theorem aK.inner{k k1:Nat}{t:Pu.Tab}{r:Nat}(hk:4194304≤k)(hi:Pu.cx t.1=true)(ht:t.2.length≤1048576)(hr: ∀x∈t.2,x.length≤1048576)(hlt:r<t.2.length)(n:Int):
  aK.L1 k k1 k r r n r r (t.2.getD r []).length 0 t.2 t.1=if((List.range' 0 (t.2.getD r []).length).all fun q=>Pu.g6 t r q)=true then aK.L0 k k1 n ((r:Int)+1) t.2 t.1 else some false:=by
 have hx:=hr _ (List.getElem_mem hlt)
 rw[←Pu.aj hlt []]at hx
 have hb:=Pu.iH hi r
 have h9:=(Pu.dn hi).2.2.1
 have h:=Pu.mN (fun j q=>aK.L1 k k1 j r r n r r (t.2.getD r []).length (q:Int) t.2 t.1) (t.2.getD r []).length (fun q=>Pu.g6 t r q) (some false) (aK.L0 k k1 n ((r:Int)+1) t.2 t.1)
  (fun j q hq=>by
   have e3:=dK.is (k:=k) (t:=t) (r:=(r:Int)-1) (c:=t.1.getD r 0+q) (by omega) hi ht hr (by rw[Pu.eH]at hb;omega) (by rw[Pu.eH]at hb;omega)
   have ea:=iv.is (k:=k) (p:=t.1) (i:=r) (by omega) (by omega)
   rw[Pu.eH]at ea
   rw[Pu.eH]at hb
   rw[aK.cO]
   simp (maxSteps:=10000000) (disch:=omega) only[↓aB,sss,if_true,if_false,hlt,hq,cW.is,ea,e3,aK.kx,Int.natCast_add,Int.natCast_one]
   unfold Pu.g6
   generalize hx0:(t.2.getD r []).getD q 0=x at*
   cases Pu.within x 1 9 with
   |false=>simp
   |true=>
    have up:(if(0:Int)<r then(if x≤Pu.entry t ((r:Int)-1) (t.1.getD r 0+q)then some false else aK.L1 k k1 j r r n r r (t.2.getD r []).length ((q:Int)+1) t.2 t.1)else aK.L1 k k1 j r r n r r (t.2.getD r []).length ((q:Int)+1) t.2 t.1)=
      if(decide (r=0)||decide (Pu.entry t ((r:Int)-1) (t.1.getD r 0+q)<x))=true then aK.L1 k k1 j r r n r r (t.2.getD r []).length ((q:Int)+1) t.2 t.1 else some false:=by
     by_cases e:r=0
     ·subst e;simp
     ·have e':(0:Int)<r:=by omega
      by_cases c:x≤Pu.entry t ((r:Int)-1) (t.1.getD r 0+q)
      ·have c': ¬Pu.entry t ((r:Int)-1) (t.1.getD r 0+q)<x:=by omega
       simp only[e',c,c',e,if_true,if_false,decide_false,Bool.or_false,Bool.false_eq_true]
      ·have c':Pu.entry t ((r:Int)-1) (t.1.getD r 0+q)<x:=by omega
       simp only[e',c,c',e,if_true,if_false,decide_true,decide_false,Bool.false_or]
    by_cases e:q=0
    ·have e': ¬(0:Int)<q:=by omega
     simp only[e',e,↓aB,sss,if_true,if_false,Bool.true_or]
     rw[e]at up
     exact up
    ·have e':(0:Int)<q:=by omega
     have eq:(q:Int)-1=((q-1:Nat):Int):=by omega
     have hq':q-1<(t.2.getD r []).length:=by omega
     simp (disch:=omega) only[e',e,↓aB,sss,if_true,if_false,eq,hq',Bool.false_or]
     by_cases c:x<(t.2.getD r []).getD (q-1) 0
     ·have c': ¬(t.2.getD r []).getD (q-1) 0≤x:=by omega
      simp only[c,c',↓aB,sss,if_true,if_false]
     ·have c':(t.2.getD r []).getD (q-1) 0≤x:=by omega
      simp only[c,c',↓aB,sss,if_true,if_false]
      exact up)
  (fun j=>by
   rw[aK.cO]
   simp (maxSteps:=10000000) (disch:=omega) only[↓aB,sss,if_true,if_false,Nat.lt_irrefl]) (t.2.getD r []).length k 0 (by omega) (by omega)
 simp only[Int.natCast_zero]at h
 exact h
theorem aK.is{k:Nat}{t:Pu.Tab}(hk:4194304+6≤k)(h1:t.1.length≤1048576)(ht:t.2.length≤1048576)(hr: ∀x∈t.2,x.length≤1048576):aK k t=some (Pu.iK t):=by
 obtain⟨k,rfl⟩: ∃k',k=k'+1:=⟨k-1,by omega⟩
 rw[aK.eq,bR.is (by omega) h1 ht hr,cQ]
 unfold Pu.iK Pu.shapeOf
 cases hs:Pu.dB t with
 |false=>simp[hs]
 |true=>
  have hi:Pu.cx t.1=true:=by
   simp only[Pu.dB,Bool.and_eq_true]at hs;exact hs.1
  have h:=Pu.mN (fun j r=>aK.L0 k j t.2.length r t.2 t.1) t.2.length (fun r=>(List.range' 0 (t.2.getD r []).length).all fun q=>Pu.g6 t r q) (some false) (some true)
   (fun j r hlt=>by
    rw[aK.bp]
    simp (disch:=omega) only[↓aB,sss,if_true,if_false,hlt,aK.inner (k1:=j) (show 4194304≤k by omega) hi ht hr hlt,Int.natCast_add,Int.natCast_one])
   (fun j=>by
    rw[aK.bp]
    simp (disch:=omega) only[↓aB,sss,if_true,if_false,Nat.lt_irrefl]) t.2.length k 0 (by omega) (by omega)
  simp only[Int.natCast_zero]at h
  simp only[if_true,↓aB,sss,if_true,if_false]
  rw[h]
  cases(List.range' 0 t.2.length).all fun r=>(List.range' 0 (t.2.getD r []).length).all fun q=>Pu.g6 t r q<;>simp
theorem fQ.is{k:Nat}{t:Pu.Tab}(hk:4194304+7≤k)(h1:t.1.length≤1048576)(ht:t.2.length≤1048576)(hr: ∀x∈t.2,x.length≤1048576):fQ k t=some (Pu.aP t):=by
 obtain⟨k,rfl⟩: ∃k',k=k'+1:=⟨k-1,by omega⟩
 rw[fQ.eq,aK.is (by omega) h1 ht hr,cQ]
 unfold Pu.aP
 by_cases h:t.1.length=0<;>simp[h]
theorem bo.loop{k:Nat}{a b:LI}(hl:a.length=b.length)(ha:a.length≤1048576): ∀(m j i:Nat),i+m=a.length→m<j→bo.L0 k j a.length i a b=some (decide (a.drop i=b.drop i))
 |m,0,i,_,hj=>by omega
 |0,j+1,i,hi,_=>by
  rw[bo.bp]
  have e:i=a.length:=by omega
  subst e
  simp[hl]
 |m+1,j+1,i,hi,hj=>by
  rw[bo.bp]
  have h1:i<a.length:=by omega
  have h2:i<b.length:=by omega
  have ih:=bo.loop (k:=k) hl ha m j (i+1) (by omega) (by omega)
  rw[Int.natCast_succ]at ih
  rw[Pu.drop_cons h1 0,Pu.drop_cons h2 0]
  by_cases e:a.getD i 0=b.getD i 0<;>simp (disch:=omega) only[↓aB,sss,if_true,if_false,h1,h2,ih,e,List.cons.injEq,true_and,false_and]
theorem bo.is{k:Nat}{a b:LI}(hk:4194304+1≤k)(ha:a.length≤1048576):bo k a b=some (decide (a=b)):=by
 obtain⟨k,rfl⟩: ∃k',k=k'+1:=⟨k-1,by omega⟩
 rw[bo.eq]
 by_cases hl:a.length=b.length
 ·have h:=bo.loop (k:=k) hl ha a.length k 0 (by omega) (by omega)
  rw[Int.natCast_zero]at h
  simp only[List.drop_zero]at h
  have hl':(a.length:Int)=b.length:=by omega
  have e:D.eq (a.length:Int) (b.length:Int)=true:=decide_eq_true hl'
  simp only[cH,cm,e,mO,Bool.not_true,aB,Bool.false_eq_true,if_false,h]
 ·have hne:a≠b:=fun e=>hl (by rw[e])
  have hl': ¬(a.length:Int)=b.length:=by omega
  simp[hl',hne]
theorem fK.is{k:Nat}{a b:LI×LI}(hk:4194304+2≤k)(h1:a.1.length≤1048576)(h2:a.2.length≤1048576):fK k a b=some (decide (a=b)):=by
 obtain⟨k,rfl⟩: ∃k',k=k'+1:=⟨k-1,by omega⟩
 obtain⟨a1,a2⟩:=a
 obtain⟨b1,b2⟩:=b
 rw[fK.eq,bo.is (by omega) h1,bo.is (by omega) h2]
 by_cases e:a1=b1<;>simp[e]
theorem eU.is{k:Nat}{a b:Pu.Tab}(hk:4194304+10≤k)(ha:Pu.gC a)(hb:Pu.gC b):eU k a b=some (decide ((Pu.shapeOf a).1=(Pu.shapeOf b).1)):=by
 obtain⟨k,rfl⟩: ∃k',k=k'+1:=⟨k-1,by omega⟩
 have hs:(Pu.shapeOf a).1.1.length≤1048576∧(Pu.shapeOf a).1.2.length≤1048576:=by
  unfold Pu.shapeOf
  split
  ·exact⟨by rw[Pu.cN];exact ha.2.1,ha.1⟩
  ·simp
 rw[eU.eq,show((a.1,a.2):Pu.Tab)=a from rfl,show((b.1,b.2):Pu.Tab)=b from rfl,bR.is (by omega) ha.1 ha.2.1 ha.2.2,bR.is (by omega) hb.1 hb.2.1 hb.2.2,cQ,cQ]
 rw[show(((Pu.shapeOf a).1.1,(Pu.shapeOf a).1.2):LI×LI)=(Pu.shapeOf a).1 from rfl,show(((Pu.shapeOf b).1.1,(Pu.shapeOf b).1.2):LI×LI)=(Pu.shapeOf b).1 from rfl,fK.is (by omega) hs.1 hs.2,cQ]
theorem ak.app{k:Nat}{a:LJ}(ha:a.length≤1048576)(hf:a.flatten.length≤1099511627776): ∀(m j i:Nat),i+m=a.length→m<j→
  ak.L4 k j a.length i (a.take i).flatten a=some a.flatten
 |m,0,i,_,hj=>by omega
 |0,j+1,i,hm,_=>by
  rw[ak.wI]
  have e:i=a.length:=by omega
  subst e
  simp
 |m+1,j+1,i,hm,hj=>by
  rw[ak.wI]
  have hlt:i<a.length:=by omega
  have ih:=ak.app (k:=k) ha hf m j (i+1) (by omega) (by omega)
  rw[Int.natCast_succ,Pu.take_succ hlt []]at ih
  have hl:((a.take i).flatten++a.getD i []).length≤1099511627776:=by
   refine Nat.le_trans ?_ hf
   have e:a.flatten=(a.take i).flatten++(a.drop i).flatten:=by rw[←List.flatten_append,List.take_append_drop]
   rw[e,Pu.drop_cons hlt []]
   simp only[List.flatten_cons,List.length_append]
   omega
  simp only[List.flatten_append,List.flatten_cons,List.flatten_nil,List.append_nil]at ih
  simp (disch:=omega) only[↓aB,sss,if_true,if_false,hlt,hl,ih]
theorem ak.tail{k:Nat}{a:LJ}{y:LI}(hk:4194304≤k)(ha:a.length≤1048576)(hf:a.flatten.length≤1099511627776):ak.L3 k (HAdd.hAdd k 1) 0 0 a.length 0 y a=some a.flatten:=by
 rw[ak.nO]
 by_cases h0:a.length=0
 ·have:a= []:=List.eq_nil_of_length_eq_zero h0
  subst this
  simp
 ·have hlt:0<a.length:=by omega
  have h:=ak.app (k:=k) ha hf (a.length-1) k 1 (by omega) (by omega)
  have e:(a.take 1).flatten=a.getD 0 []:=by rw[Pu.take_succ hlt []];simp
  rw[e]at h
  have hl:(a.getD 0 []).length≤1099511627776:=by
   refine Nat.le_trans ?_ hf
   have e2:a.flatten=(a.take 1).flatten++(a.drop 1).flatten:=by rw[←List.flatten_append,List.take_append_drop]
   rw[e2,e]
   simp
  have hlt':(0:Int)<a.length:=by omega
  simp (disch:=omega) only[↓aB,sss,if_true,if_false,hlt,hlt',hl,List.take_zero,List.nil_append,Int.toNat_zero,Int.zero_add]
  simpa using h
theorem ak.loop{k:Nat}{a:LJ}(hk:4194304≤k)(ha:a.length≤1048576)(hf:a.flatten.length≤1099511627776): ∀(m j i:Nat),i+m=a.length→m<j→
  ak.L0 k j (a.take i).flatten.length a.length i a=some a.flatten
 |m,0,i,_,hj=>by omega
 |0,j+1,i,hm,_=>by
  rw[ak.bp,ak.kx]
  have e:i=a.length:=by omega
  subst e
  rw[List.take_length]
  have hn: ¬((a.flatten.length:Nat):Int)<0:=by omega
  simp (disch:=omega) only[↓aB,sss,if_true,if_false,Nat.lt_irrefl,hn,Int.sub_zero,Int.sub_self]
  by_cases h0:a.flatten.length=0
  ·have h0': ¬(0:Int)<(a.flatten.length:Nat):=by omega
   have h:=ak.app (k:=k) ha hf a.length (k+1) 0 (by omega) (by omega)
   simp only[h0',↓aB,sss,if_true,if_false]
   simpa using h
  ·have h0':(0:Int)<(a.flatten.length:Nat):=by omega
   have h1:(1:Int)≤(a.flatten.length:Nat):=by omega
   simp (disch:=omega) only[h0',h1,hf,↓aB,sss,if_true,if_false,Int.toNat_zero,Nat.le_refl,Int.le_refl,List.length_replicate,Nat.zero_le,fP,Nat.sub_self]
   exact ak.tail hk ha hf
 |m+1,j+1,i,hm,hj=>by
  rw[ak.bp]
  have hlt:i<a.length:=by omega
  have ih:=ak.loop (k:=k) hk ha hf m j (i+1) (by omega) (by omega)
  rw[Int.natCast_succ,Pu.take_succ hlt []]at ih
  have hl:((a.take i).flatten++a.getD i []).length≤1099511627776:=by
   refine Nat.le_trans ?_ hf
   have e:a.flatten=(a.take i).flatten++(a.drop i).flatten:=by rw[←List.flatten_append,List.take_append_drop]
   rw[e,Pu.drop_cons hlt []]
   simp only[List.flatten_cons,List.length_append]
   omega
  simp only[List.flatten_append,List.flatten_cons,List.flatten_nil,List.append_nil,List.length_append,Int.natCast_add]at ih hl
  have hn: ¬(((a.take i).flatten.length:Int)+(a.getD i []).length<0):=by omega
  simp (disch:=omega) only[↓aB,sss,if_true,if_false,hlt,hn,ak.fb,ih]
theorem ak.is{k:Nat}{a:LJ}(hk:4194304+2≤k)(ha:a.length≤1048576)(hf:a.flatten.length≤1099511627776):ak k a=some a.flatten:=by
 obtain⟨k,rfl⟩: ∃k',k=k'+2:=⟨k-2,by omega⟩
 rw[ak.eq]
 exact ak.loop (k:=k) (by omega) ha hf a.length (k+1) 0 (by omega) (by omega)
theorem bS.inner{k k1:Nat}{x:Int}{n i:Int}{l:LI}(h1:1≤x)(h9:x≤1000)(Q:Option LI→Prop)(hQ: ∀out:LI,x≤out.length→(out.length:Int)=(out.length:Int)→True): ∀(m j:Nat) (out:LI),(out.length:Int)+m=max (out.length:Int) x→m<j→
  ∃out':LI,(out'.length:Int)=max (out.length:Int) x∧bS.L1 k k1 j x n i out l=bS.L0 k k1 n (IntKind.i64.wrap (i+1)) out' l
 |m,0,_,_,hj=>by omega
 |0,j+1,out,hm,_=>by
  have hn: ¬(out.length:Int)<x:=by omega
  have hw:IntKind.i64.wrap (x-1)=x-1:=w64 (by omega) (by omega)
  have g1:0≤x-1:=by omega
  have g2:(x-1).toNat<out.length:=by omega
  rw[bS.cO]
  simp only[cD,cm,cH,eN,de,gd,gm,bZ,hw]
  refine⟨_,?_,tX hn (tG g1 (tG g2 (tG g2 (tG g1 (tG g2 (tG g2 rfl))))))⟩
  rw[List.length_set]
  omega
 |m+1,j+1,out,hm,hj=>by
  have hn:(out.length:Int)<x:=by omega
  have hl:(out++ [(0:Int)]).length=out.length+1:=by rw[List.length_append,List.length_singleton]
  obtain⟨out',o1,o2⟩:=bS.inner (k:=k) (k1:=k1) (n:=n) (i:=i) (l:=l) h1 h9 Q hQ m j (out++ [0]) (by rw[hl];omega) (by omega)
  rw[hl]at o1
  have b:(out++ [(0:Int)]).length≤1099511627776:=by rw[hl];omega
  rw[bS.cO]
  simp only[cD,cm,cH,fx]
  exact⟨out',by omega,tG hn (tG b o2)⟩
theorem bS.loop{k:Nat}{l:LI}(hk:4194304≤k)(hl:l.length≤1000)(hv: ∀v∈l,1≤v∧v≤9): ∀(m j i:Nat) (out:LI),i+m=l.length→m<j→out.length≤9→
  ∃w:LI,bS.L0 k j l.length i out l=some w∧(w.length:Int)=Pu.nQ out.length (l.drop i)
 |m,0,i,out,_,hj,_=>by omega
 |0,j+1,i,out,hi,_,_=>by
  have hn: ¬(i:Int)<l.length:=by omega
  rw[bS.bp]
  refine⟨out,tX hn rfl,?_⟩
  rw[List.drop_of_length_le (by omega)]
  rfl
 |m+1,j+1,i,out,hi,hj,ho=>by
  have hlt:i<l.length:=by omega
  have hn:(i:Int)<l.length:=by omega
  have hx:=hv (l.getD i 0) (by rw[Pu.aj hlt];exact List.getElem_mem hlt)
  have hw:IntKind.i64.wrap ((i:Int)+1)=((i+1:Nat):Int):=by rw[w64 (by omega) (by omega)];omega
  obtain⟨out',o1,o2⟩:=bS.inner (k:=k) (k1:=j) (x:=l.getD i 0) (n:=l.length) (i:=i) (l:=l) hx.1 (by omega) (fun _=>True) (fun _ _ _=>trivial) (max (out.length:Int) (l.getD i 0)-out.length).toNat k out (by omega) (by omega)
  obtain⟨w,w1,w2⟩:=bS.loop hk hl hv m j (i+1) out' (by omega) (by omega) (by omega)
  rw[hw,w1]at o2
  rw[bS.bp]
  simp only[cD,cm,cH,eN,Int.toNat_natCast]
  refine⟨w,tG hn (tG (Int.natCast_nonneg i) (tG hlt (tG hlt o2))),?_⟩
  rw[w2,o1,Pu.drop_cons hlt 0]
  rfl
theorem bS.is{k:Nat}{l:LI}(hk:4194304+2≤k)(hl:l.length≤1000)(hv: ∀v∈l,1≤v∧v≤9): ∃w:LI,bS k l=some w∧(w.length:Int)=Pu.nQ 0 l:=by
 obtain⟨k,rfl⟩: ∃k',k=k'+1:=⟨k-1,by omega⟩
 have:=bS.loop (k:=k) (by omega) hl hv l.length k 0 [] (by omega) (by omega) (by simp)
 rw[bS.eq]
 exact this
theorem fp.is{k:Nat}{t:Pu.Tab}(hk:4194304+20≤k)(ht:Pu.aP t=true): ∃w:LI,fp k t=some w∧(w.length:Int)=Pu.nQ 0 t.2.flatten:=by
 obtain⟨k,rfl⟩: ∃k',k=k'+1:=⟨k-1,by omega⟩
 have hr:=Pu.dt ht
 have h9:=Pu.gQ ht
 have o1:t.1.length≤1048576:=by rw[Pu.cn ht];simp
 have o2:t.2.length≤1048576:=by have:=hr.1;omega
 have o3: ∀x∈t.2,x.length≤1048576:=fun x hx=>by have:=hr.2 x hx;omega
 have h1:=aK.is (k:=k) (t:=t) (by omega) o1 o2 o3
 have h':=ht
 simp only[Pu.aP,Bool.and_eq_true]at h'
 rw[h'.1]at h1
 have h2:=ak.is (k:=k) (a:=t.2) (by omega) o2 (by omega)
 obtain⟨w,w1,w2⟩:=bS.is (k:=k) (l:=t.2.flatten) (by omega) (by omega) (fun v hv=>by
  obtain⟨r,x,a,b,rfl⟩:=Pu.k9 hv
  exact(Pu.eV ht).1 r x a b)
 rw[fp.eq,show((t.1,t.2):Pu.Tab)=t from rfl]
 exact⟨w,bE h1 (tN (bE h2 (bE w1 rfl))),w2⟩
theorem bO.loop{k:Nat}{t:Pu.Tab}{x3 x4:LI}{x5:LJ}(hk:1≤k)(ht:t.2.length≤1048576)(hr: ∀x∈t.2,x.length≤1048576): ∀(m j i:Nat),i+m=t.2.length→m<j→
  bO.L0 k j t.2.length i t.2 x3 x5 x4 (t.2.take i)=some (x4,t.2)
 |m,0,i,_,hj=>by omega
 |0,j+1,i,hm,_=>by
  rw[bO.bp]
  have e:i=t.2.length:=by omega
  subst e
  simp
 |m+1,j+1,i,hm,hj=>by
  rw[bO.bp]
  have hlt:i<t.2.length:=by omega
  have hx:=hr _ (List.getElem_mem hlt)
  rw[←Pu.aj hlt []]at hx
  have ih:=bO.loop (k:=k) (x3:=x3) (x4:=x4) (x5:=x5) hk ht hr m j (i+1) (by omega) (by omega)
  rw[Int.natCast_succ,Pu.take_succ hlt []]at ih
  have hl:(t.2.take i++ [t.2.getD i []]).length≤1099511627776:=by simp;omega
  simp (disch:=omega) only[↓aB,sss,if_true,if_false,hlt,hl,cr.is,ih]
theorem bO.is{k:Nat}{t:Pu.Tab}(hk:4194304+1≤k)(h1:t.1.length≤1048576)(ht:t.2.length≤1048576)(hr: ∀x∈t.2,x.length≤1048576):bO k t=some t:=by
 obtain⟨k,rfl⟩: ∃k',k=k'+1:=⟨k-1,by omega⟩
 rw[bO.eq,cr.is (by omega) (by omega)]
 have h:=bO.loop (k:=k) (t:=t) (x3:= []) (x4:=t.1) (x5:= []) (by omega) ht hr t.2.length k 0 (by omega) (by omega)
 rw[Int.natCast_zero,List.take_zero]at h
 exact h
theorem bW.loop{k:Nat}{Q:LJ}{inn:LI}{a:Nat}{K:Int}(h9:Pu.cy 9 9 Q)(hp: ∀r,r<Q.length→1≤(Q.getD r []).length)(ha:a<Q.length)(htop:(Q.getD a []).getD ((Q.getD a []).length-1) 0=K)
  (hlt: ∀r,r<Q.length→r≠a→(Q.getD r []).getD ((Q.getD r []).length-1) 0<K∨((Q.getD r []).getD ((Q.getD r []).length-1) 0=K∧(Q.getD r []).length<(Q.getD a []).length)): ∀(m j i b:Nat),i+m=Q.length→m<j→b<Q.length→(b=a∨i≤a)→bW.L0 k j b Q.length i Q inn=some (a:Int)
 |m,0,i,b,_,hj,_,_=>by omega
 |0,j+1,i,b,hi,_,hb,hinv=>by
  rw[bW.bp]
  have e:i=Q.length:=by omega
  have hn: ¬(i:Int)<Q.length:=by omega
  have hba:b=a:=hinv.resolve_right (by omega)
  exact tX hn (by rw[hba])
 |m+1,j+1,i,b,hi,hj,hb,hinv=>by
  have hl9:=h9.1
  have hn:(i:Int)<Q.length:=by omega
  have hil:i<Q.length:=by omega
  have hri:=hp i hil
  have hrb:=hp b hb
  have hi9:=h9.at i
  have hb9:=h9.at b
  have wi:IntKind.i64.wrap (((Q.getD i []).length:Int)-1)=(((Q.getD i []).length-1:Nat):Int):=by rw[w64 (by omega) (by omega)];omega
  have wb:IntKind.i64.wrap (((Q.getD b []).length:Int)-1)=(((Q.getD b []).length-1:Nat):Int):=by rw[w64 (by omega) (by omega)];omega
  have ws:IntKind.i64.wrap ((i:Int)+1)=((i+1:Nat):Int):=by rw[w64 (by omega) (by omega)];omega
  have li:(Q.getD i []).length-1<(Q.getD i []).length:=by omega
  have lb:(Q.getD b []).length-1<(Q.getD b []).length:=by omega
  have hnext: ∀b':Nat,b'<Q.length→(b'=a∨i+1≤a)→bW.J1 k j b' Q.length i Q inn=some (a:Int):=fun b' h1 h2=>by
   rw[bW.fb,de,bZ,ws]
   exact bW.loop h9 hp ha htop hlt m j (i+1) b' (by omega) (by omega) h1 h2
  rw[bW.bp]
  simp only[cD,cm,cH,eN,gd,bZ,Int.toNat_natCast,wi,wb]
  refine tG hn (tG (Int.natCast_nonneg i) (tG hil (tG hil (tG (Int.natCast_nonneg b) (tG hb (tG hb (tG hil (tG hil ?_))))))))
  refine tG (Int.natCast_nonneg _) (tG li (tG hil (tG li (tG hb (tG hb (tG (Int.natCast_nonneg _) (tG lb (tG hb (tG lb ?_)))))))))
  by_cases eb:b=a
  ·subst eb
   by_cases ei:i=b
   ·subst ei
    refine tX (Int.lt_irrefl _) (tG rfl (tG hil (tG hb (tX (Int.lt_irrefl _) (hnext i hb (.inl rfl))))))
   ·by_cases c1:(Q.getD b []).getD ((Q.getD b []).length-1) 0<(Q.getD i []).getD ((Q.getD i []).length-1) 0
    ·have:=hlt i hil ei
     omega
    ·refine tX c1 ?_
     by_cases c2:(Q.getD i []).getD ((Q.getD i []).length-1) 0=(Q.getD b []).getD ((Q.getD b []).length-1) 0
     ·have:=hlt i hil ei
      exact tG c2 (tG hil (tG hb (tX (by omega) (hnext b hb (.inl rfl)))))
     ·exact tX c2 (hnext b hb (.inl rfl))
  ·have hia:i≤a:=hinv.resolve_left eb
   have hbK:=hlt b hb eb
   by_cases ei:i=a
   ·subst ei
    rcases hbK with hbK|hbK
    ·exact tG (by omega) (hnext i hil (.inl rfl))
    ·refine tX (by omega) (tG (by omega) (tG hil (tG hb (tG (by omega) (hnext i hil (.inl rfl))))))
   ·by_cases c1:(Q.getD b []).getD ((Q.getD b []).length-1) 0<(Q.getD i []).getD ((Q.getD i []).length-1) 0
    ·exact tG c1 (hnext i hil (.inr (by omega)))
    ·refine tX c1 ?_
     by_cases c2:(Q.getD i []).getD ((Q.getD i []).length-1) 0=(Q.getD b []).getD ((Q.getD b []).length-1) 0
     ·refine tG c2 (tG hil (tG hb ?_))
      by_cases c3:((Q.getD b []).length:Int)<(Q.getD i []).length
      ·exact tG c3 (hnext i hil (.inr (by omega)))
      ·exact tX c3 (hnext b hb (.inr (by omega)))
     ·exact tX c2 (hnext b hb (.inr (by omega)))
theorem bW.is{k:Nat}{Q:LJ}{inn:LI}{a:Nat}{K:Int}(hk:4194304+1≤k)(h9:Pu.cy 9 9 Q)(hp: ∀r,r<Q.length→1≤(Q.getD r []).length)(ha:a<Q.length)(htop:(Q.getD a []).getD ((Q.getD a []).length-1) 0=K)
  (hlt: ∀r,r<Q.length→r≠a→(Q.getD r []).getD ((Q.getD r []).length-1) 0<K∨((Q.getD r []).getD ((Q.getD r []).length-1) 0=K∧(Q.getD r []).length<(Q.getD a []).length)):bW k (inn,Q)=some (a:Int):=by
 obtain⟨k,rfl⟩: ∃k',k=k'+1:=⟨k-1,by omega⟩
 have hl9:=h9.1
 have h:=bW.loop (k:=k) (inn:=inn) h9 hp ha htop hlt Q.length k 0 0 (by omega) (by omega) (by omega) (.inr (Nat.zero_le _))
 rw[bW.eq]
 exact h
theorem aM.loop{k:Nat}: ∀(m j i n:Nat) (l:List (Int×Int)),n≤i+2*m→m<j→n≤l.length→l.length≤1000→i≤n→ ∃l',aM.L0 k j i ((n:Int)-1) l=some ((),l')∧l'.length=l.length∧ ∀c,l'.getD c (0,0)=if i≤c∧c<n then l.getD (i+n-1-c) (0,0)else l.getD c (0,0)
 |m,0,i,n,l,_,hj,_,_,_=>by omega
 |m,j+1,i,n,l,hm,hj,hn,hl,hin=>by
  rw[aM.bp]
  by_cases c:i+1<n
  ·have hc:(i:Int)<(n:Int)-1:=by omega
   obtain⟨e,he⟩: ∃e:Nat,n=e+1:=⟨n-1,by omega⟩
   subst he
   have e1:((e+1:Nat):Int)-1=(e:Int):=by omega
   rw[e1]at hc⊢
   have hi:i<l.length:=by omega
   have hel:e<l.length:=by omega
   have ws:IntKind.i64.wrap ((i:Int)+1)=((i+1:Nat):Int):=by rw[w64 (by omega) (by omega)];omega
   have we:IntKind.i64.wrap ((e:Int)-1)=(e:Int)-1:=w64 (by omega) (by omega)
   have hel2:e<(l.set i (l.getD e (0,0))).length:=by rw[List.length_set];exact hel
   obtain⟨m,rfl⟩: ∃m',m=m'+1:=⟨m-1,by omega⟩
   obtain⟨l',q1,q2,q3⟩:=aM.loop (k:=k) m j (i+1) e ((l.set i (l.getD e (0,0))).set e (l.getD i (0,0))) (by omega) (by omega) (by rw[List.length_set,List.length_set];omega) (by rw[List.length_set,List.length_set];exact hl) (by omega)
   refine⟨l',?_,by rw[q2,List.length_set,List.length_set],fun c=> ?_⟩
   ·simp only[cD,cm,eN,gm,de,gd,bZ,Int.toNat_natCast,ws,we]
    rw[show(((l.getD e (0,0)).1,(l.getD e (0,0)).2):Int×Int)=l.getD e (0,0)from rfl,show(((l.getD i (0,0)).1,(l.getD i (0,0)).2):Int×Int)=l.getD i (0,0)from rfl]
    exact tG hc (tG (Int.natCast_nonneg e) (tG hel (tG hel (tG (Int.natCast_nonneg i) (tG hi (tG hi (tG (Int.natCast_nonneg i) (tG hi (tG hi (tG (Int.natCast_nonneg e) (tG hel2 (tG hel2 q1))))))))))))
   ·have hget: ∀c,((l.set i (l.getD e (0,0))).set e (l.getD i (0,0))).getD c (0,0)=if c=e then l.getD i (0,0)else if c=i then l.getD e (0,0)else l.getD c (0,0):=by
     intro c
     by_cases a1:c=e
     ·subst a1;rw[if_pos rfl,Pu.aj (by rw[List.length_set];exact hel2),List.getElem_set_self]
     ·rw[if_neg a1,Pu.getD_set_ne (Ne.symm a1)]
      by_cases a2:c=i
      ·subst a2;rw[if_pos rfl,Pu.aj (by rw[List.length_set];exact hi),List.getElem_set_self]
      ·rw[if_neg a2,Pu.getD_set_ne (Ne.symm a2)]
    rw[q3]
    by_cases d1:i+1≤c∧c<e
    ·rw[if_pos d1,if_pos (by omega),hget,if_neg (by omega),if_neg (by omega)]
     congr 1;omega
    ·rw[if_neg d1,hget]
     by_cases d2:c=e
     ·subst d2;rw[if_pos rfl,if_pos (by omega)];congr 1;omega
     ·rw[if_neg d2]
      by_cases d3:c=i
      ·subst d3;rw[if_pos rfl,if_pos (by omega)];congr 1;omega
      ·rw[if_neg d3,if_neg (by omega)]
  ·have hc: ¬(i:Int)<(n:Int)-1:=by omega
   refine⟨l,tX hc rfl,rfl,fun c=> ?_⟩
   split
   ·congr 1;omega
   ·rfl
theorem aM.is{k:Nat}{l:List (Int×Int)}(hk:4194304+1≤k)(hl:l.length≤1000):aM k l=some ((),l.reverse):=by
 obtain⟨k,rfl⟩: ∃k',k=k'+1:=⟨k-1,by omega⟩
 obtain⟨l',q1,q2,q3⟩:=aM.loop (k:=k) l.length k 0 l.length l (by omega) (by omega) (Nat.le_refl _) hl (Nat.zero_le _)
 have e:l'=l.reverse:=by
  refine List.ext_getElem (by rw[q2,List.length_reverse]) fun c h1 h2=> ?_
  have:=q3 c
  rw[if_pos (by omega),Pu.aj h1,Pu.aj (show 0+l.length-1-c<l.length by omega)]at this
  rw[this,List.getElem_reverse]
  congr 1;omega
 have hw:IntKind.i64.wrap ((l.length:Int)-1)=(l.length:Int)-1:=w64 (by omega) (by omega)
 rw[aM.eq,cH,cm,gd,bZ,hw,←e]
 exact q1
theorem ae.Bh{k k1:Nat}{y:Int}{r:Nat}{rs:LJ}{inn:LI}(hr:r<rs.length)(hs:Pu.cy 1000 1000 rs): ∀(m j:Nat),m≤(rs.getD r []).length→m<j→
  ae.L5 k k1 j ((m:Int)-1) r y r rs inn=match Pu.dY (rs.getD r []) y m with
   |some q=>ae.L3 k k1 ((rs.getD r []).getD q 0) ((r:Int)-1) inn (rs.set r ((rs.getD r []).set q y))
   |none=>ae.L3 k k1 y ((r:Int)-1) inn rs
 |m,0,_,hj=>by omega
 |0,j+1,_,_=>by
  rw[ae.C3]
  have hl:=hs.1
  have hn: ¬((0:Int)≤((0:Nat):Int)-1):=by omega
  simp (disch:=omega) only[↓aB,sss,if_true,if_false,hn,Pu.dY,ae.GS]
 |m+1,j+1,hm,hj=>by
  rw[ae.C3]
  have hl:=hs.1
  have hx:=hs.at r
  have e:((m+1:Nat):Int)-1=(m:Int):=by omega
  have h1:m<(rs.getD r []).length:=by omega
  have ih:=ae.Bh (k:=k) (k1:=k1) (y:=y) (inn:=inn) hr hs m j (by omega) (by omega)
  rw[e]
  unfold Pu.dY
  by_cases c:(rs.getD r []).getD m 0<y
  ·simp (disch:=omega) only[↓aB,sss,if_true,if_false,hr,h1,c,ae.GS]
  ·simp (disch:=omega) only[↓aB,sss,if_true,if_false,hr,h1,c,ih]
theorem ae.xV{k:Nat}{inn:LI}(hk:2000≤k): ∀(r j:Nat) (y:Int) (rs:LJ),r≤rs.length→Pu.cy 1000 1000 rs→r<j→
  ae.L3 k j y ((r:Int)-1) inn rs=some ((Pu.eW r rs y).2,(inn,(Pu.eW r rs y).1))
 |r,0,_,_,_,_,hj=>by omega
 |0,j+1,y,rs,_,_,_=>by
  rw[ae.nO]
  have hn: ¬((0:Int)≤((0:Nat):Int)-1):=by omega
  simp only[↓aB,sss,if_true,if_false,hn,Pu.eW]
 |r+1,j+1,y,rs,hr,hs,hj=>by
  rw[ae.nO]
  have e:((r+1:Nat):Int)-1=(r:Int):=by omega
  have hlt:r<rs.length:=by omega
  have hx:=hs.at r
  have hl:=hs.1
  have h5:=ae.Bh (k:=k) (k1:=j) (y:=y) (inn:=inn) hlt hs (rs.getD r []).length k (by omega) (by omega)
  rw[e]
  unfold Pu.eW
  cases hq:Pu.dY (rs.getD r []) y (rs.getD r []).length with
  |some q=>
   rw[hq]at h5
   simp (disch:=omega) only[↓aB,sss,if_true,if_false,hlt,h5]
   exact ae.xV hk r j _ _ (by rw[List.length_set];omega) (hs.set r (by rw[List.length_set];exact hx)) (by omega)
  |none=>
   rw[hq]at h5
   simp (disch:=omega) only[↓aB,sss,if_true,if_false,hlt,h5]
   exact ae.xV hk r j _ _ (by omega) hs (by omega)
theorem ae.AO{k k1:Nat}{y:Int}{r n:Nat}{rs:LJ}{inn:LI}(hr:r<rs.length)(hn:r<n)(hs:Pu.cy 1000 1000 rs): ∀(m j:Nat),m≤(rs.getD r []).length→m<j→
  ae.L4 k k1 j ((m:Int)-1) r y r 0 n rs inn=match Pu.dY (rs.getD r []) y m with
   |some q=>ae.L2 k k1 ((rs.getD r []).getD q 0) ((r:Int)-1) 0 n inn (rs.set r ((rs.getD r []).set q y))
   |none=>ae.L2 k k1 y ((r:Int)-1) 0 n inn rs
 |m,0,_,hj=>by omega
 |0,j+1,_,_=>by
  rw[ae.wI]
  have hl:=hs.1
  have hn: ¬((0:Int)≤((0:Nat):Int)-1):=by omega
  simp (disch:=omega) only[↓aB,sss,if_true,if_false,hn,Pu.dY,ae.G4]
 |m+1,j+1,hm,hj=>by
  rw[ae.wI]
  have hl:=hs.1
  have hx:=hs.at r
  have e:((m+1:Nat):Int)-1=(m:Int):=by omega
  have h1:m<(rs.getD r []).length:=by omega
  have ih:=ae.AO (k:=k) (k1:=k1) (y:=y) (inn:=inn) hr hn hs m j (by omega) (by omega)
  rw[e]
  unfold Pu.dY
  by_cases c:(rs.getD r []).getD m 0<y
  ·simp (disch:=omega) only[↓aB,sss,if_true,if_false,fO,Nat.zero_add,hr,hn,h1,c,ae.G4]
  ·simp (disch:=omega) only[↓aB,sss,if_true,if_false,fO,Nat.zero_add,hr,hn,h1,c,ih]
theorem ae.yk{k:Nat}{n:Nat}{inn:LI}(hk:2000≤k): ∀(r j:Nat) (y:Int) (rs:LJ),r≤rs.length→r≤n→Pu.cy 1000 1000 rs→r<j→
  ae.L2 k j y ((r:Int)-1) 0 n inn rs=some ((Pu.eW r rs y).2,(inn,(Pu.eW r rs y).1.take n))
 |r,0,_,_,_,_,_,hj=>by omega
 |0,j+1,y,rs,_,_,_,_=>by
  rw[ae.gB]
  have hn: ¬((0:Int)≤((0:Nat):Int)-1):=by omega
  simp only[↓aB,sss,if_true,if_false,hn,Pu.eW,List.drop_zero]
 |r+1,j+1,y,rs,hr,hrn,hs,hj=>by
  rw[ae.gB]
  have e:((r+1:Nat):Int)-1=(r:Int):=by omega
  have hlt:r<rs.length:=by omega
  have hn:r<n:=by omega
  have hx:=hs.at r
  have hl:=hs.1
  have h5:=ae.AO (k:=k) (k1:=j) (y:=y) (n:=n) (inn:=inn) hlt hn hs (rs.getD r []).length k (by omega) (by omega)
  rw[e]
  unfold Pu.eW
  cases hq:Pu.dY (rs.getD r []) y (rs.getD r []).length with
  |some q=>
   rw[hq]at h5
   simp (disch:=omega) only[↓aB,sss,if_true,if_false,fO,Nat.zero_add,hlt,hn,h5]
   exact ae.yk hk r j _ _ (by rw[List.length_set];omega) (by omega) (hs.set r (by rw[List.length_set];exact hx)) (by omega)
  |none=>
   rw[hq]at h5
   simp (disch:=omega) only[↓aB,sss,if_true,if_false,fO,Nat.zero_add,hlt,hn,h5]
   exact ae.yk hk r j _ _ (by omega) (by omega) hs (by omega)
theorem ae.is{k:Nat}{rs:LJ}{n:Nat}{inn:LI}(hk:4194304+1≤k)(hs:Pu.cy 9 9 rs)(hn:n<rs.length)(hl:1≤(rs.getD n []).length):
  ae k n inn rs=some ((Pu.bM rs n).2,(inn,(Pu.bM rs n).1)):=by
 obtain⟨k,rfl⟩: ∃k',k=k'+1:=⟨k-1,by omega⟩
 rw[ae.eq]
 have h9:=hs.1
 have hx:=hs.at n
 have hs':Pu.cy 1000 1000 (rs.set n ((rs.getD n []).take ((rs.getD n []).length-1))):=(hs.mono (by omega) (by omega)).set n (by rw[List.length_take];omega)
 have ew:IntKind.i64.wrap (((rs.getD n []).length:Int)-1)=(((rs.getD n []).length-1:Nat):Int):=by rw[w64 (by omega) (by omega)];omega
 have h3:=ae.xV (k:=k) (inn:=inn) (by omega) n k ((rs.getD n []).getD ((rs.getD n []).length-1) 0) _ (by rw[List.length_set];omega) hs' (by omega)
 have h2:=ae.yk (k:=k) (n:=n) (inn:=inn) (by omega) n k ((rs.getD n []).getD ((rs.getD n []).length-1) 0) _ (by rw[List.length_set];omega) (by omega) hs' (by omega)
 have q1:(rs.getD n []).length-1<(rs.getD n []).length:=by omega
 have q2:(rs.getD n []).length-1≤(rs.getD n []).length:=by omega
 have q3:n≤(rs.set n ((rs.getD n []).take ((rs.getD n []).length-1))).length:=by rw[List.length_set];omega
 unfold Pu.bM
 by_cases c:(rs.getD n []).length=1
 ·have c':(((rs.getD n []).length-1:Nat):Int)=0:=by omega
  rw[if_pos c]
  simp (disch:=omega) only[↓aB,sss,if_true,if_false,fP,Nat.sub_zero,List.drop_zero,hn,ew,q1,q2,q3,ae.fT,h2]
  simp only[c',decide_true,if_true]
 ·have c': ¬(((rs.getD n []).length-1:Nat):Int)=0:=by omega
  simp (disch:=omega) only[↓aB,sss,if_true,if_false,fP,Nat.sub_zero,List.drop_zero,hn,ew,q1,q2,q3,c,c',ae.fb,h3]
theorem aR.GX{k:Nat}{q:Pu.Tab}{f:Int→Int}{inn qin:LI}(hk:4194304+40≤k): ∀(m j n:Nat) (acc:List (Int×Int)) (P F X:LJ),Pu.Unr q m P X→Pu.lP (F.take n) X f→n≤F.length→m<j→m≤9→acc.length+m≤9→n≤9→
  aR.L3 k j 0 n acc inn P qin F=some (acc++Pu.prf q f m P).reverse
 |m,0,n,acc,P,F,X,_,_,_,hj,_,_,_=>by omega
 |0,j+1,n,acc,P,F,X,h,s,hn,_,_,ha,_=>by
  have h0:n=0:=by
   have hlen:(F.take n).length=n:=by rw[List.length_take];omega
   refine Nat.eq_zero_of_not_pos fun hp=> ?_
   have hX:0<X.length:=by rw[s.same.1];omega
   have h1:=Pu.oz h.pl (r:=0) hX
   have h2:=Pu.gz (rs:=X) (r:=0) (x:=0) hX h1
   have:=h.fl
   rw[List.eq_nil_of_length_eq_zero this]at h2
   cases h2
  rw[aR.nO]
  have hr:=aM.is (k:=k) (l:=acc) (by omega) (by omega)
  have hn0: ¬(0:Int)<((n:Nat):Int):=by omega
  refine tX hn0 (bE hr ?_)
  simp[Pu.prf,Pu.prs]
 |m+1,j+1,n,acc,P,F,X,h,s,hn,hj,h9,ha,hn9=>by
  obtain⟨a,a1,a2,a3,a4,t1,t2,hQ9,hP1,hP2,a6,a7⟩:=s.step h
  have hlen:(F.take n).length=n:=by rw[List.length_take];omega
  have hlo:=bW.is (k:=k) (Q:=F.take n) (inn:=qin) (a:=a) (K:=f ((m+1:Nat):Int)) (by omega) hQ9 t1 a2 a4 t2
  rw[hlen]at a2
  have haF:a<F.length:=by omega
  have hget:(F.take n).getD a []=F.getD a []:=Pu.hO a2 []
  rw[hget]at a3
  have a4':(F.getD a []).getD ((F.getD a []).length-1) 0=f ((m+1:Nat):Int):=by
   have:=a4
   rw[hget]at this
   exact this
  have hr9:=hQ9.at a
  simp only[hget]at hr9
  have hrm:=ae.is (k:=k) (inn:=inn) (by omega) h.p9 hP1 hP2
  have hw:IntKind.i64.wrap (((F.getD a []).length:Int)-1)=(((F.getD a []).length-1:Nat):Int):=by rw[w64 (by omega) (by omega)];omega
  have hlt:(F.getD a []).length-1<(F.getD a []).length:=by omega
  have hap:(acc++ [(f ((m+1:Nat):Int),(Pu.bM P a).2)]).length≤1099511627776:=by rw[List.length_append,List.length_singleton];omega
  have hJ1: ∀(n':Nat) (F':LJ),F'.take n'=Pu.cw (F.take n) a→n'≤F'.length→n'≤9→aR.J1 k j a (f ((m+1:Nat):Int)) 0 n' acc inn P qin F'=some (acc++Pu.prf q f (m+1) P).reverse:=by
   intro n' F' e1 e2 e3
   have ih:=aR.GX (inn:=inn) (qin:=qin) hk m j n' (acc++ [(f ((m+1:Nat):Int),(Pu.bM P a).2)]) (Pu.bM P a).1 F' (Pu.cw X a) a6 (by rw[e1];exact a7) e2 (by omega) (by omega) (by rw[List.length_append,List.length_singleton];omega) e3
   rw[aR.fb]
   refine bE hrm ?_
   refine tG hap ?_
   simp only[fx]
   rw[ih,show Pu.prf q f (m+1) P=(f ((m+1:Nat):Int),(Pu.bM P (Pu.rowOf q ((m+1:Nat):Int)).toNat).2)::Pu.prf q f m (Pu.bM P (Pu.rowOf q ((m+1:Nat):Int)).toNat).1 from rfl]
   rw[a1,Int.toNat_natCast,List.append_assoc,List.singleton_append]
  rw[aR.nO]
  have hn0:(0:Int)<((n:Nat):Int):=by omega
  simp only[cD,cm,cH,eN,gd,bZ,gU,gY,fO,fP,gm,List.drop_zero,Nat.zero_add,Nat.sub_zero]
  refine tG hn0 (bE hlo ?_)
  simp only[Int.toNat_natCast,hw,a4']
  have i0:=Int.natCast_nonneg a
  have i1:=Int.natCast_nonneg ((F.getD a []).length-1)
  refine tG i0 (tG a2 (tG haF (tG haF (tG i0 (tG a2 (tG haF (tG haF (tG i1 (tG hlt (tG haF (tG hlt (tG i0 (tG a2 (tG haF (tG haF (tG i1 (tG (Nat.le_of_lt hlt) (tG i0 (tG a2 (tG haF (tG haF (tG rfl ?_))))))))))))))))))))))
  have hts:(F.set a ((F.getD a []).take ((F.getD a []).length-1))).take n=(F.take n).set a ((F.getD a []).take ((F.getD a []).length-1)):=List.take_set
  by_cases c:(F.getD a []).length=1
  ·have c':(((F.getD a []).length-1:Nat):Int)=0:=by omega
   refine tG c' (tG i0 (tG (Nat.le_of_lt a2) (hJ1 a _ ?_ (by rw[List.length_set];omega) (by omega))))
   unfold Pu.cw
   rw[hget,if_pos c,←hts,List.take_take,Nat.min_eq_left (by omega)]
  ·have c': ¬(((F.getD a []).length-1:Nat):Int)=0:=by omega
   refine tX c' (hJ1 n _ ?_ (by rw[List.length_set];omega) hn9)
   unfold Pu.cw
   rw[hget,if_neg c,hts]
theorem aR.Bw{k:Nat}{q:Pu.Tab}{f:Int→Int}{inn qin:LI}(hk:4194304+40≤k): ∀(m j:Nat) (acc:List (Int×Int)) (P Q X:LJ),Pu.Unr q m P X→Pu.lP Q X f→m<j→m≤9→acc.length+m≤9→
  aR.L0 k j acc inn P qin Q=some (acc++Pu.prf q f m P).reverse
 |m,0,acc,P,Q,X,_,_,hj,_,_=>by omega
 |0,j+1,acc,P,Q,X,h,s,_,_,ha=>by
  have h0:Q.length=0:=by
   refine Nat.eq_zero_of_not_pos fun hp=> ?_
   have hX:0<X.length:=by rw[s.same.1];exact hp
   have h1:=Pu.oz h.pl (r:=0) hX
   have h2:=Pu.gz (rs:=X) (r:=0) (x:=0) hX h1
   have:=h.fl
   rw[List.eq_nil_of_length_eq_zero this]at h2
   cases h2
  rw[aR.bp]
  have hr:=aM.is (k:=k) (l:=acc) (by omega) (by omega)
  have hn0: ¬(0:Int)<(Q.length:Int):=by omega
  refine tX hn0 (bE hr ?_)
  simp[Pu.prf,Pu.prs]
 |m+1,j+1,acc,P,F,X,h,s,hj,h9,ha=>by
  obtain⟨a,a1,a2,a3,a4,t1,t2,hQ9,hP1,hP2,a6,a7⟩:=s.step h
  have hlo:=bW.is (k:=k) (Q:=F) (inn:=qin) (a:=a) (K:=f ((m+1:Nat):Int)) (by omega) hQ9 t1 a2 a4 t2
  have hF9:F.length≤9:=hQ9.1
  have a4':(F.getD a []).getD ((F.getD a []).length-1) 0=f ((m+1:Nat):Int):=a4
  have hr9:(F.getD a []).length≤9:=hQ9.at a
  have hrm:=ae.is (k:=k) (inn:=inn) (by omega) h.p9 hP1 hP2
  have hw:IntKind.i64.wrap (((F.getD a []).length:Int)-1)=(((F.getD a []).length-1:Nat):Int):=by rw[w64 (by omega) (by omega)];omega
  have hlt:(F.getD a []).length-1<(F.getD a []).length:=by omega
  have hap:(acc++ [(f ((m+1:Nat):Int),(Pu.bM P a).2)]).length≤1099511627776:=by rw[List.length_append,List.length_singleton];omega
  have hfin:(acc++ [(f ((m+1:Nat):Int),(Pu.bM P a).2)]++Pu.prf q f m (Pu.bM P a).1)=acc++Pu.prf q f (m+1) P:=by
   rw[show Pu.prf q f (m+1) P=(f ((m+1:Nat):Int),(Pu.bM P (Pu.rowOf q ((m+1:Nat):Int)).toNat).2)::Pu.prf q f m (Pu.bM P (Pu.rowOf q ((m+1:Nat):Int)).toNat).1 from rfl,a1,Int.toNat_natCast,List.append_assoc,List.singleton_append]
  rw[aR.bp]
  have hn0:(0:Int)<(F.length:Int):=by omega
  simp only[cD,cm,cH,eN,gd,bZ,gU,gY,fP,gm,List.drop_zero,Nat.sub_zero]
  refine tG hn0 (bE hlo ?_)
  simp only[Int.toNat_natCast,hw,a4']
  have i0:=Int.natCast_nonneg a
  have i1:=Int.natCast_nonneg ((F.getD a []).length-1)
  refine tG i0 (tG a2 (tG a2 (tG a2 (tG i0 (tG a2 (tG a2 (tG a2 (tG i1 (tG hlt (tG a2 (tG hlt (tG i0 (tG a2 (tG a2 (tG a2 (tG i1 (tG (Nat.le_of_lt hlt) (tG i0 (tG a2 (tG a2 (tG a2 (tG rfl ?_))))))))))))))))))))))
  by_cases c:(F.getD a []).length=1
  ·have c':(((F.getD a []).length-1:Nat):Int)=0:=by omega
   have a2':a≤(F.set a ((F.getD a []).take ((F.getD a []).length-1))).length:=by rw[List.length_set];omega
   refine tG c' (tG i0 (tG a2' ?_))
   have ih:=aR.GX (inn:=inn) (qin:=qin) hk m j a (acc++ [(f ((m+1:Nat):Int),(Pu.bM P a).2)]) (Pu.bM P a).1 (F.set a ((F.getD a []).take ((F.getD a []).length-1))) (Pu.cw X a) a6 (by
    have e:(F.set a ((F.getD a []).take ((F.getD a []).length-1))).take a=Pu.cw F a:=by unfold Pu.cw;rw[if_pos c]
    rw[e];exact a7) a2' (by omega) (by omega) (by rw[List.length_append,List.length_singleton];omega) (by omega)
   rw[hfin]at ih
   rw[aR.fb]
   exact bE hrm (tG hap ih)
  ·have c': ¬(((F.getD a []).length-1:Nat):Int)=0:=by omega
   refine tX c' ?_
   have ih:=aR.Bw (inn:=inn) (qin:=qin) hk m j (acc++ [(f ((m+1:Nat):Int),(Pu.bM P a).2)]) (Pu.bM P a).1 (F.set a ((F.getD a []).take ((F.getD a []).length-1))) (Pu.cw X a) a6 (by
    have e:F.set a ((F.getD a []).take ((F.getD a []).length-1))=Pu.cw F a:=by unfold Pu.cw;rw[if_neg c]
    rw[e];exact a7) (by omega) (by omega) (by rw[List.length_append,List.length_singleton];omega)
   rw[hfin]at ih
   rw[aR.kx]
   exact bE hrm (tG hap ih)
theorem aR.is{k:Nat}{p q:Pu.Tab}{X:LJ}{f:Int→Int}(hk:4194304+50≤k)(hp:Pu.aP p=true)(hq:Pu.aP q=true)(hx:Pu.aP ([],X)=true)(hs:Pu.ep ([],X)=true)(hS:Pu.lP q.2 X f)(ho:Pu.outer p=Pu.outer q):aR k p q=some (Pu.prf ([],X) f q.2.flatten.length p.2).reverse:=by
 obtain⟨k,rfl⟩: ∃k',k=k'+1:=⟨k-1,by omega⟩
 have okT: ∀t:Pu.Tab,Pu.aP t=true→Pu.gC t:=fun t h=>by
  have hr:=Pu.dt h
  exact⟨by rw[Pu.cn h];simp,by have:=hr.1;omega,fun r hm=>by have:=hr.2 r hm;omega⟩
 have o1:=okT p hp
 have o2:=okT q hq
 have h1:=bO.is (k:=k) (t:=p) (by omega) o1.1 o1.2.1 o1.2.2
 have h2:=bO.is (k:=k) (t:=q) (by omega) o2.1 o2.2.1 o2.2.2
 have h9:=Pu.gQ hq
 have hxq:Pu.outer p=Pu.outer (([],X):Pu.Tab):=ho.trans (Pu.nx (Pu.cn hq) rfl hS.same.1.symm fun r=>(hS.same.2 r).symm)
 have hu:=Pu.pY hp hx hs hxq
 have hf:X.flatten.length=q.2.flatten.length:=Pu.jc hS.same
 simp only at hu
 rw[hf]at hu
 rw[aR.eq,show((p.1,p.2):Pu.Tab)=p from rfl,show((q.1,q.2):Pu.Tab)=q from rfl]
 refine bE h1 (bE h2 ?_)
 have:=aR.Bw (k:=k) (inn:=p.1) (qin:=q.1) (by omega) q.2.flatten.length k [] p.2 q.2 X hu hS (by omega) h9 (by simpa using h9)
 rw[List.nil_append]at this
 exact this
theorem aH.qU{k:Nat}{R C:Nat}{p q:Pu.Tab}(hR:R≤9)(hC:C≤9){l:List (Int×Int)}(hu:aR k p q=some l): ∀(m j i:Nat),i+m=R→m<j→aH.L1 k j C R i (List.replicate i (List.replicate C (0:Int))++List.replicate m []) p.1 p.2 q.1 q.2=aH.L2 k k l.length 0 (Pu.jV R C) l
 |m,0,i,_,hj=>by omega
 |0,j+1,i,hi,_=>by
  have hn: ¬(i:Int)<(R:Int):=by omega
  have e:i=R:=by omega
  rw[aH.cO,show((p.1,p.2):Pu.Tab)=p from rfl,show((q.1,q.2):Pu.Tab)=q from rfl]
  refine tX hn (bE hu ?_)
  simp only[cD,cm,cH]
  rw[e,List.replicate_zero,List.append_nil]
  rfl
 |m+1,j+1,i,hi,hj=>by
  have hn:(i:Int)<(R:Int):=by omega
  have hw:IntKind.i64.wrap ((i:Int)+1)=((i+1:Nat):Int):=by rw[w64 (by omega) (by omega)];omega
  have ih:=aH.qU (k:=k) (p:=p) (q:=q) hR hC hu m j (i+1) (by omega) (by omega)
  have b1:C≤1099511627776:=by omega
  have b2:i<(List.replicate i (List.replicate C (0:Int))++List.replicate (m+1) []).length:=by rw[List.length_append,List.length_replicate,List.length_replicate];omega
  have hset:(List.replicate i (List.replicate C (0:Int))++List.replicate (m+1) []).set i (List.replicate C 0)=List.replicate (i+1) (List.replicate C (0:Int))++List.replicate m []:=by
   rw[List.set_append_right _ _ (by rw[List.length_replicate];exact Nat.le_refl _),List.length_replicate,Nat.sub_self,List.replicate_succ,List.set_cons_zero,List.replicate_succ',List.append_assoc,List.singleton_append]
  rw[aH.cO]
  simp only[cD,cm,cH,iY,de,gm,bZ,hw,Int.toNat_natCast]
  rw[hset]
  exact tG hn (tG (Int.natCast_nonneg C) (tG (Int.le_refl _) (tG b1 (tG (Int.natCast_nonneg i) (tG b2 (tG b2 ih))))))
theorem aH.pD{k:Nat}{R C:Nat}{l:List (Int×Int)}(hR:R≤9)(hC:C≤9)(h9:l.length≤9): ∀(m j i:Nat) (M:LJ) (b:Int),i+m=l.length→m<j→Pu.sL R C b M→b+m≤1000→
  (∀x∈l.drop i,1≤x.1∧x.1≤R∧1≤x.2∧x.2≤C)→aH.L2 k j l.length i M l=some (Pu.uf M (l.drop i),true)
 |m,0,i,M,b,_,hj,_,_,_=>by omega
 |0,j+1,i,M,b,hi,_,_,_,_=>by
  have hn: ¬(i:Int)<(l.length:Int):=by omega
  rw[aH.gB]
  refine tX hn ?_
  rw[List.drop_of_length_le (by omega)]
  rfl
 |m+1,j+1,i,M,b,hi,hj,hM,hb,hx=>by
  have hli:i<l.length:=by omega
  have hz:=Pu.drop_cons hli (0,0)
  rw[hz]at hx⊢
  obtain⟨x1,x2,x3,x4⟩:=hx _ (List.mem_cons_self ..)
  obtain⟨g1,g2,g3,g4,w1,w2,w3⟩:=Pu.yc hM (by omega) hR hC x1 x2 x3 x4
  have hM':=Pu.vj hM x1 x2 x3 x4
  have ih:=aH.pD (k:=k) hR hC h9 m j (i+1) _ (b+1) (by omega) (by omega) hM' (by omega) (fun x h=>hx x (List.mem_cons_of_mem _ h))
  unfold Pu.uh at ih
  have hn:(i:Int)<(l.length:Int):=by omega
  have i0:=Int.natCast_nonneg i
  have hw:IntKind.i64.wrap ((i:Int)+1)=((i+1:Nat):Int):=by rw[w64 (by omega) (by omega)];omega
  have z0:(0:Int)≤0:=by omega
  have z1:(0:Int)≤1:=by omega
  have z2:(0:Int)<((2:Nat):Int):=by omega
  have z3:(1:Int)<((2:Nat):Int):=by omega
  rw[aH.gB]
  simp only[cD,cm,cH,eN,de,gd,gm,bZ,hw,Int.toNat_natCast,w1,w2,w3]
  exact tG hn (tG i0 (tG hli (tG hli (tG z0 (tG z2 (tG g1 (tG g2 (tG g2 (tG z1 (tG z3 (tG g2 (tG g3 (tG g4 (tG g2 (tG g4 (tG g2 (tG g3 (tG g4 (tG g2 (tG g4 ih))))))))))))))))))))
theorem aH.is{k:Nat}{p q:Pu.Tab}{r c:Int}(hk:4194304+80≤k)(hp:Pu.gC p)(hq:Pu.gC q):aH k p q r c=some (Pu.cX p q r c):=by
 obtain⟨k,rfl⟩: ∃k',k=k'+1:=⟨k-1,by omega⟩
 have h1:=fQ.is (k:=k) (t:=p) (by omega) hp.1 hp.2.1 hp.2.2
 have h2:=fQ.is (k:=k) (t:=q) (by omega) hq.1 hq.2.1 hq.2.2
 have h4:=eU.is (k:=k) (a:=p) (b:=q) (by omega) hp hq
 have hi1:=cW.is (k:=k) (x:=r) (lo:=1) (hi:=9) (by omega)
 have hi2:=cW.is (k:=k) (x:=c) (lo:=1) (hi:=9) (by omega)
 have shp: ∀t:Pu.Tab,Pu.aP t=true→Pu.shapeOf t=((Pu.outer t,[]),true):=fun t h=>by
  have h':=h
  simp only[Pu.aP,Bool.and_eq_true]at h'
  unfold Pu.shapeOf
  rw[if_pos (Pu.kL h'.1),Pu.cn h]
 have e1:((p.1,p.2):Pu.Tab)=p:=rfl
 have e2:((q.1,q.2):Pu.Tab)=q:=rfl
 rw[aH.eq,e1,e2]
 unfold Pu.cX
 refine bE h1 ?_
 cases c3:Pu.aP p with
 |false=>rw[if_neg (fun h=>by cases h.1)];exact tM rfl
 |true=>
  refine tN (bE h2 ?_)
  cases c4:Pu.aP q with
  |false=>rw[if_neg (fun h=>by cases h.2.1)];exact tM rfl
  |true=>
   rw[shp p c3,shp q c4]at h4
   refine tN (bE h4 ?_)
   by_cases c6:Pu.outer p=Pu.outer q
   ·rw[decide_eq_true (by simp only[c6])]
    refine tN (bE hi1 ?_)
    by_cases c7:1≤r∧r≤9
    ·rw[show Pu.within r 1 9=true by unfold Pu.within;rw[decide_eq_true c7.1,decide_eq_true c7.2];rfl]
     refine tN (bE hi2 ?_)
     by_cases c8:1≤c∧c≤9
     ·rw[show Pu.within c 1 9=true by unfold Pu.within;rw[decide_eq_true c8.1,decide_eq_true c8.2];rfl]
      have h9q:=Pu.gQ c4
      obtain⟨u,u1,u2⟩:=fp.is (k:=k) (by omega) c4
      obtain⟨v,v1,v2⟩:=fp.is (k:=k) (by omega) c3
      refine tN (bE u1 ?_)
      simp only[cD,cm,cH]
      rw[u2]
      by_cases c9:Pu.nQ 0 q.2.flatten≤r
      ·refine tX (by omega) (bE v1 ?_)
       rw[v2]
       by_cases c10:Pu.nQ 0 p.2.flatten≤c
       ·rw[if_pos ⟨trivial,trivial,c6,c7,c8,c9,c10⟩]
        obtain⟨a1,a2,a3,a4,a5,a6,a7⟩:=Pu.sr c3 c4 c6 c9 c10
        have hu:=aR.is (k:=k) (p:=p) (q:=q) (X:=Pu.iw q.2) (by omega) c3 c4 a1 a2 a6 c6
        rw[Pu.De _ _ _ _ (by omega),List.take_of_length_le (by omega)]at hu
        refine tX (by omega) ?_
        obtain⟨R,rfl⟩: ∃R:Nat,r=R:=⟨r.toNat,by omega⟩
        obtain⟨C,rfl⟩: ∃C:Nat,c=C:=⟨c.toNat,by omega⟩
        have hwl:=Pu.oB ([],Pu.iw q.2) q.2.flatten.length p.2
        have hzl:((Pu.mE q.2.flatten).zip (Pu.wop ([],Pu.iw q.2) q.2.flatten.length p.2)).length=q.2.flatten.length:=by rw[List.length_zip,a5,hwl];omega
        have q1:=aH.qU (k:=k) (R:=R) (C:=C) (by omega) (by omega) hu R k 0 (by omega) (by omega)
        have q2:=aH.pD (k:=k) (R:=R) (C:=C) (l:=(Pu.mE q.2.flatten).zip (Pu.wop ([],Pu.iw q.2) q.2.flatten.length p.2)) (by omega) (by omega) (by omega) q.2.flatten.length k 0 (Pu.jV R C) 0 (by omega) (by omega) (Pu.mB R C) (by omega) (by rw[List.drop_zero];exact a7)
        rw[List.drop_zero]at q2
        rw[List.replicate_zero,List.nil_append]at q1
        have b1:R≤1099511627776:=by omega
        rw[aH.fT]
        simp only[cD,cm,cH,iY,Int.toNat_natCast,List.length_replicate]
        exact tG (Int.natCast_nonneg R) (tG (Int.le_refl _) (tG b1 (q1.trans q2)))
       ·rw[if_neg (fun h=>c10 h.2.2.2.2.2.2)]
        exact tG (by omega) rfl
      ·rw[if_neg (fun h=>c9 h.2.2.2.2.2.1)]
       exact tG (by omega) rfl
     ·rw[show Pu.within c 1 9=false by unfold Pu.within;rw[Bool.and_eq_false_iff,decide_eq_false_iff_not,decide_eq_false_iff_not];omega,if_neg (fun h=>c8 h.2.2.2.2.1)]
      exact tM rfl
    ·rw[show Pu.within r 1 9=false by unfold Pu.within;rw[Bool.and_eq_false_iff,decide_eq_false_iff_not,decide_eq_false_iff_not];omega,if_neg (fun h=>c7 h.2.2.2.1)]
     exact tM rfl
   ·rw[if_neg (fun h=>c6 h.2.2.1),decide_eq_false (fun h=>c6 (congrArg Prod.fst h))]
    exact tM rfl
theorem dQ.is{k:Nat}{t:Pu.Tab}(hk:4194304+6≤k)(h1:t.1.length≤1048576)(ht:t.2.length≤1048576)(hr: ∀x∈t.2,x.length≤1048576):dQ k t=some (Pu.aP t):=by
 obtain⟨k,rfl⟩: ∃k',k=k'+1:=⟨k-1,by omega⟩
 rw[dQ.eq,aE.is (by omega) h1 ht hr,cQ]
 unfold Pu.aP
 cases Pu.iK t<;>simp
theorem ct.loop{k:Nat}{a b:LI}(hl:a.length=b.length)(ha:a.length≤1048576): ∀(m j i:Nat),i+m=a.length→m<j→ct.L0 k j i a b=some (decide (a.drop i=b.drop i))
 |m,0,i,_,hj=>by omega
 |0,j+1,i,hi,_=>by
  rw[ct.bp]
  have e:i=a.length:=by omega
  subst e
  simp[hl]
 |m+1,j+1,i,hi,hj=>by
  rw[ct.bp]
  have h1:i<a.length:=by omega
  have h2:i<b.length:=by omega
  have ih:=ct.loop (k:=k) hl ha m j (i+1) (by omega) (by omega)
  rw[Int.natCast_succ]at ih
  rw[Pu.drop_cons h1 0,Pu.drop_cons h2 0]
  by_cases e:a.getD i 0=b.getD i 0<;>simp (disch:=omega) only[aB,nI,nk,jZ,cm,cH,cD,eN,bZ,de,mO,mP,w64,Int.toNat_natCast,decide_eq_true_eq,Int.ofNat_lt,h1,h2,if_true,Int.natCast_nonneg,decide_true,ih,e,List.cons.injEq,true_and,false_and,decide_false,Bool.not_true,Bool.not_false,if_false,Bool.false_eq_true]
theorem ct.is{k:Nat}{a b:LI}(hk:4194304+1≤k)(ha:a.length≤1048576):ct k a b=some (decide (a=b)):=by
 obtain⟨k,rfl⟩: ∃k',k=k'+1:=⟨k-1,by omega⟩
 rw[ct.eq]
 by_cases hl:a.length=b.length
 ·have h:=ct.loop (k:=k) hl ha a.length k 0 (by omega) (by omega)
  rw[Int.natCast_zero]at h
  simp only[List.drop_zero]at h
  have hl':(a.length:Int)=b.length:=by omega
  simp only[aB,mO,mP,cH,cm,hl',decide_true,Bool.not_true,Bool.false_eq_true,if_false,h]
 ·have hne:a≠b:=fun e=>hl (by rw[e])
  have hl': ¬(a.length:Int)=b.length:=by omega
  simp[hl',hne]
theorem ed.is{k:Nat}{a b:LI×LI}(hk:4194304+2≤k)(h1:a.1.length≤1048576)(h2:a.2.length≤1048576):ed k a b=some (decide (a=b)):=by
 obtain⟨k,rfl⟩: ∃k',k=k'+1:=⟨k-1,by omega⟩
 obtain⟨a1,a2⟩:=a
 obtain⟨b1,b2⟩:=b
 rw[ed.eq,ct.is (by omega) h1,ct.is (by omega) h2]
 by_cases e:a1=b1<;>simp[e]
theorem bQ.loop{k:Nat}{t:Pu.Tab}{x2:LI}(ht:t.2.length≤1048576)(hf:t.2.flatten.length≤1099511627776): ∀(m j i:Nat),i+m=t.2.length→m<j→
  bQ.L0 k j i (t.2.take i).flatten x2 t.2=some t.2.flatten
 |m,0,i,_,hj=>by omega
 |0,j+1,i,hm,_=>by
  rw[bQ.bp]
  have e:i=t.2.length:=by omega
  subst e
  simp
 |m+1,j+1,i,hm,hj=>by
  rw[bQ.bp]
  have hlt:i<t.2.length:=by omega
  have ih:=bQ.loop (k:=k) (x2:=x2) ht hf m j (i+1) (by omega) (by omega)
  rw[Int.natCast_succ,Pu.take_succ hlt []]at ih
  have hl:((t.2.take i).flatten++t.2.getD i []).length≤1099511627776:=by
   refine Nat.le_trans ?_ hf
   have e:t.2.flatten=(t.2.take i).flatten++(t.2.drop i).flatten:=by rw[←List.flatten_append,List.take_append_drop]
   rw[e,Pu.drop_cons hlt []]
   simp only[List.flatten_cons,List.length_append]
   omega
  simp only[List.flatten_append,List.flatten_cons,List.flatten_nil,List.append_nil]at ih
  simp (disch:=omega) only[↓aB,sss,if_true,if_false,hlt,hl,ih]
theorem bQ.is{k:Nat}{t:Pu.Tab}(hk:4194304+1≤k)(ht:t.2.length≤1048576)(hf:t.2.flatten.length≤1099511627776):bQ k t=some t.2.flatten:=by
 obtain⟨k,rfl⟩: ∃k',k=k'+1:=⟨k-1,by omega⟩
 rw[bQ.eq]
 exact bQ.loop (k:=k) ht hf t.2.length k 0 (by omega) (by omega)
theorem cF.loop{k:Nat}{l:LI}(hk:1≤k)(h9:l.length≤1000): ∀(m j i:Nat) (acc:Int),i+m=l.length→m<j→cF.L0 k j acc i l=some (Pu.nQ acc (l.drop i))
 |m,0,i,acc,_,hj=>by omega
 |0,j+1,i,acc,hi,_=>by
  rw[cF.bp]
  have hn: ¬(i:Int)<l.length:=by omega
  refine tX hn ?_
  rw[List.drop_of_length_le (by omega)]
  rfl
 |m+1,j+1,i,acc,hi,hj=>by
  have hlt:i<l.length:=by omega
  have hn:(i:Int)<l.length:=by omega
  have hw:IntKind.i64.wrap ((i:Int)+1)=((i+1:Nat):Int):=by rw[w64 (by omega) (by omega)];omega
  have ih:=cF.loop hk h9 m j (i+1) (max acc (l.getD i 0)) (by omega) (by omega)
  rw[cF.bp]
  simp only[cD,cm,cH,eN,de,bZ,Int.toNat_natCast,hw]
  refine tG hn (tG (Int.natCast_nonneg i) (tG hlt (tG hlt (bE (iu.is hk) ?_))))
  rw[ih,Pu.drop_cons hlt 0]
  rfl
theorem cF.is{k:Nat}{l:LI}(hk:4194304+2≤k)(h9:l.length≤1000):cF k l=some (Pu.nQ 0 l):=by
 obtain⟨k,rfl⟩: ∃k',k=k'+1:=⟨k-1,by omega⟩
 have:=cF.loop (k:=k) (by omega) h9 l.length k 0 0 (by omega) (by omega)
 rw[cF.eq]
 exact this
theorem ah.Dy(Q:LJ)(v:Int)(c r:Nat)(s:Nat×LJ):(Pu.fB Q v c r s).1≤s.1+1:=by
 unfold Pu.fB;split<;>simp
theorem ah.yv{Q:LJ}{v:Int}{c r:Nat}{s:Nat×LJ}(h:Pu.cR s.2 Q):Pu.cR (Pu.fB Q v c r s).2 Q:=by
 unfold Pu.fB
 split
 ·exact⟨by rw[Pu.ja];exact h.1,fun i=>by rw[Pu.cG];exact h.2 i⟩
 ·exact h
theorem ah.HF(Q:LJ)(v:Int)(c:Nat): ∀(m r:Nat) (s:Nat×LJ),Pu.cR s.2 Q→(Pu.lQ Q v c m r s).1≤s.1+m∧Pu.cR (Pu.lQ Q v c m r s).2 Q
 |0,_,s,h=>⟨Nat.le_refl _,h⟩
 |m+1,r,s,h=>by
  have h1:=ah.Dy Q v c r s
  have h2:=ah.HF Q v c m (r+1) (Pu.fB Q v c r s) (ah.yv h)
  exact⟨by have:=h2.1;show(Pu.lQ Q v c m (r+1) (Pu.fB Q v c r s)).1≤_;omega,h2.2⟩
theorem ah.Ij(Q:LJ)(v:Int)(h9:Q.length≤9): ∀(m c:Nat) (s:Nat×LJ),Pu.cR s.2 Q→(Pu.oO Q v m c s).1≤s.1+9*m∧Pu.cR (Pu.oO Q v m c s).2 Q
 |0,_,s,h=>⟨Nat.le_refl _,h⟩
 |m+1,c,s,h=>by
  have h1:=ah.HF Q v c Q.length 0 s h
  have h2:=ah.Ij Q v h9 m (c+1) (Pu.lQ Q v c Q.length 0 s) h1.2
  exact⟨by have:=h2.1;have:=h1.1;show(Pu.oO Q v m (c+1) (Pu.lQ Q v c Q.length 0 s)).1≤_;omega,h2.2⟩
theorem ah.pD{k k1 k2:Nat}{q:Pu.Tab}{v:Int}{c:Nat}{inn outer:LI}{x6:LI}{x7:LJ}(hk:4194304+4≤k)(hq:Pu.aP q=true)(ho:outer.length=q.2.length)(hc:c<9)(hv:1≤v): ∀(m j r:Nat) (s:Nat×LJ),r+m=q.2.length→m<j→Pu.cR s.2 q.2→s.1+m≤100000→
  ah.L2 k k1 k2 j s.1 v c r q.1 q.2 x6 x7 inn s.2 outer []=ah.L1 k k1 k2 (Pu.lQ q.2 v c m r s).1 v ((c+1:Nat):Int) q.1 q.2 x6 x7 inn (Pu.lQ q.2 v c m r s).2 outer []
 |m,0,r,s,_,hj,_,_=>by omega
 |0,j+1,r,s,hr,_,_,_=>by
  have hn: ¬(r:Int)<outer.length:=by omega
  have hw:IntKind.i64.wrap ((c:Int)+1)=((c+1:Nat):Int):=by rw[w64 (by omega) (by omega)];omega
  rw[ah.gB]
  refine tX hn ?_
  simp only[de,bZ,hw]
  rfl
 |m+1,j+1,r,s,hr,hj,hs,hb=>by
  have h9:=Pu.dt hq
  have h9l:=h9.1
  have hrl:r<q.2.length:=by omega
  have hn:(r:Int)<outer.length:=by omega
  have hle:=ah.Dy q.2 v c r s
  have ih:=ah.pD (k:=k) (k1:=k1) (k2:=k2) (inn:=inn) (x6:=x6) (x7:=x7) hk hq ho hc hv m j (r+1) (Pu.fB q.2 v c r s) (by omega) (by omega) (ah.yv hs) (by omega)
  have hwr:IntKind.i64.wrap ((r:Int)+1)=((r+1:Nat):Int):=by rw[w64 (by omega) (by omega)];omega
  have hwn:IntKind.i64.wrap ((s.1:Int)+1)=((s.1+1:Nat):Int):=by rw[w64 (by omega) (by omega)];omega
  have hwc:IntKind.i64.wrap ((c:Int)-0)=(c:Int):=by rw[w64 (by omega) (by omega)];omega
  have hin:=Pu.cn hq
  have hpi:Pu.cx q.1=true:=by rw[hin];rfl
  have hen:=bL.is (k:=k) (t:=q) (r:=(r:Int)) (c:=(c:Int)) (by omega) hpi (by omega) (by omega)
  have hentry:Pu.entry q r c=Pu.cel q.2 r c:=by
   rw[Pu.ml hrl,hin]
   unfold Pu.cel
   rw[show(c:Int)-([]:LI).getD r 0=(c:Int) by simp,Pu.eH]
  rw[hentry]at hen
  have hat:=dD.is (k:=k) (p:= []) (i:=(r:Int)) (by omega)
  have hat0:Pu.atI [] (r:Int)=0:=by rw[Pu.eH];rfl
  rw[hat0]at hat
  have hnext: ∀s':Nat×LJ,s'=Pu.fB q.2 v c r s→ah.J3 k k1 k2 j s'.1 v c r q.1 q.2 x6 x7 inn s'.2 outer []=ah.L1 k k1 k2 (Pu.lQ q.2 v c (m+1) r s).1 v ((c+1:Nat):Int) q.1 q.2 x6 x7 inn (Pu.lQ q.2 v c (m+1) r s).2 outer []:=fun s' e=>by
   rw[ah.sC,e]
   simp only[de,bZ,hwr]
   exact ih
  rw[ah.gB]
  refine tG hn (bE hen ?_)
  by_cases e:Pu.cel q.2 r c=v
  ·have hcl:c<(q.2.getD r []).length:=by
    refine Nat.lt_of_not_le fun h=> ?_
    unfold Pu.cel at e
    rw[Pu.cu h]at e
    omega
   have hsr:r<s.2.length:=by rw[hs.1];exact hrl
   have hsc:c<(s.2.getD r []).length:=by rw[hs.2];exact hcl
   have hst:Pu.fB q.2 v c r s=(s.1+1,Pu.lI s.2 r c ((s.1+1:Nat):Int)):=by unfold Pu.fB;rw[if_pos ⟨hcl,e⟩]
   have h:=hnext (s.1+1,s.2.set r ((s.2.getD r []).set c ((s.1+1:Nat):Int))) (by rw[hst];rfl)
   refine tG e (tG (Int.natCast_nonneg r) ?_)
   simp only[cD,cm,eN,de,gd,gm,bZ,hwn,Int.toNat_natCast]
   refine tG hsr (tG hsr (bE hat ?_))
   simp only[hwc,Int.toNat_natCast]
   exact tG hsr (tG (Int.natCast_nonneg c) (tG hsc (tG hsr (tG hsc h))))
  ·have hst:Pu.fB q.2 v c r s=s:=by unfold Pu.fB;rw[if_neg (fun h=>e h.2)]
   exact tX e (hnext s hst.symm)
theorem ah.qU{k k1:Nat}{q:Pu.Tab}{v:Int}{inn outer:LI}{x6:LI}{x7:LJ}(hk:4194304+4≤k)(hq:Pu.aP q=true)(ho:outer.length=q.2.length)(hv:1≤v)(hv9:v≤9): ∀(m j c:Nat) (s:Nat×LJ),c+m=9→m<j→Pu.cR s.2 q.2→s.1+9*m≤10000→
  ah.L1 k k1 j s.1 v c q.1 q.2 x6 x7 inn s.2 outer []=ah.L0 k k1 (Pu.oO q.2 v m c s).1 (v+1) q.1 q.2 x6 x7 inn (Pu.oO q.2 v m c s).2 outer []
 |m,0,c,s,_,hj,_,_=>by omega
 |0,j+1,c,s,hc,_,_,_=>by
  have hn: ¬(c:Int)<9:=by omega
  have hw:IntKind.i64.wrap (v+1)=v+1:=w64 (by omega) (by omega)
  rw[ah.cO]
  refine tX hn ?_
  simp only[de,bZ,hw]
  rfl
 |m+1,j+1,c,s,hc,hj,hs,hb=>by
  have h9l:=(Pu.dt hq).1
  have hn:(c:Int)<9:=by omega
  have hR:=ah.HF q.2 v c q.2.length 0 s hs
  have ih:=ah.qU (k:=k) (k1:=k1) (inn:=inn) (x6:=x6) (x7:=x7) hk hq ho hv hv9 m j (c+1) (Pu.lQ q.2 v c q.2.length 0 s) (by omega) (by omega) hR.2 (by have:=hR.1;omega)
  have hl:=ah.pD (k:=k) (k1:=k1) (k2:=j) (inn:=inn) (x6:=x6) (x7:=x7) hk hq ho (show c<9 by omega) hv q.2.length k 0 s (by omega) (by omega) hs (by omega)
  rw[ah.cO]
  exact tG hn (hl.trans ih)
theorem ah.Bw{k:Nat}{q:Pu.Tab}{inn outer:LI}{x6:LI}{x7:LJ}(hk:4194304+14≤k)(hq:Pu.aP q=true)(ho:outer.length=q.2.length): ∀(m j:Nat) (v:Int) (s:Nat×LJ),v+m=10→1≤v→m<j→Pu.cR s.2 q.2→s.1+81*m≤10000→
  ah.L0 k j s.1 v q.1 q.2 x6 x7 inn s.2 outer []=some ((inn,(Pu.qQ q.2 m v s).2),true)
 |m,0,v,s,_,_,hj,_,_=>by omega
 |0,j+1,v,s,hv,_,_,_,_=>by
  have hn: ¬v≤9:=by omega
  rw[ah.bp]
  exact tX hn rfl
 |m+1,j+1,v,s,hv,h1,hj,hs,hb=>by
  have h9l:=(Pu.dt hq).1
  have hn:v≤9:=by omega
  have hR:=ah.Ij q.2 v h9l 9 0 s hs
  have ih:=ah.Bw (k:=k) (inn:=inn) (x6:=x6) (x7:=x7) hk hq ho m j (v+1) (Pu.oO q.2 v 9 0 s) (by omega) (by omega) (by omega) hR.2 (by have:=hR.1;omega)
  have hl:=ah.qU (k:=k) (k1:=j) (inn:=inn) (x6:=x6) (x7:=x7) (by omega) hq ho h1 hn 9 k 0 s (by omega) (by omega) hs (by omega)
  rw[ah.bp]
  exact tG hn (hl.trans ih)
theorem ah.is{k:Nat}{q:Pu.Tab}(hk:4194304+20≤k)(hq:Pu.aP q=true):ah k q=some (([],Pu.iw q.2),true):=by
 obtain⟨k,rfl⟩: ∃k',k=k'+1:=⟨k-1,by omega⟩
 have hr:=Pu.dt hq
 have o1:q.1.length≤1048576:=by rw[Pu.cn hq];simp
 have o2:q.2.length≤1048576:=by have:=hr.1;omega
 have o3: ∀x∈q.2,x.length≤1048576:=fun x hx=>by have:=hr.2 x hx;omega
 have h1:=aE.is (k:=k) (t:=q) (by omega) o1 o2 o3
 have h2:=cJ.is (k:=k) (t:=q) (by omega) o1 o2 o3
 have h3:=bG.is (k:=k) (t:=q) (by omega) o1 o2 o3
 have h':=hq
 simp only[Pu.aP,Bool.and_eq_true]at h'
 rw[h'.1]at h1
 have hsh:Pu.shapeOf q=((Pu.outer q,[]),true):=by
  unfold Pu.shapeOf
  rw[if_pos (Pu.kL h'.1),Pu.cn hq]
 rw[hsh]at h3
 rw[ah.eq,show((q.1,q.2):Pu.Tab)=q from rfl]
 refine bE h1 (tN (bE h2 (bE h3 ?_)))
 have:=ah.Bw (k:=k) (q:=q) (inn:=q.1) (outer:=Pu.outer q) (x6:= []) (x7:= []) (by omega) hq (Pu.cN q) 9 k 1 (0,q.2) (by omega) (by omega) (by omega) ⟨rfl,fun _=>rfl⟩ (by simp)
 rw[show((q.1,(Pu.qQ q.2 9 1 (0,q.2)).2):Pu.Tab)=([],Pu.iw q.2) by rw[Pu.cn hq];rfl]at this
 exact this
theorem bD.loop{k:Nat}{l:LI}(h1: ∀x∈l,1≤x∧x≤9)(hl:l.length≤9): ∀(m j i:Nat) (seen:List Bool),i+m=l.length→m<j→seen.length=10→(∀v:Nat,v<10→seen.getD v false=Pu.has (l.take i) v)→
  bD.L0 k j i l seen=some (Pu.lT l.length (l.take i) (l.drop i))
 |m,0,i,seen,_,hj,_,_=>by omega
 |0,j+1,i,seen,hm,_,_,_=>by
  rw[bD.bp]
  have e:i=l.length:=by omega
  subst e
  simp[Pu.lT]
 |m+1,j+1,i,seen,hm,hj,hs,hv=>by
  rw[bD.bp]
  have hlt:i<l.length:=by omega
  have hx:=h1 _ (List.getElem_mem hlt)
  rw[←Pu.aj hlt 0]at hx
  rw[Pu.drop_cons hlt 0]
  simp only[Pu.lT]
  have hx10:(l.getD i 0).toNat<seen.length:=by omega
  have hx0:(0:Int)≤l.getD i 0:=by omega
  have hvx:=hv (l.getD i 0).toNat (by omega)
  have ex:(((l.getD i 0).toNat:Nat):Int)=l.getD i 0:=by omega
  rw[ex]at hvx
  by_cases c:l.getD i 0≤l.length
  ·have c': ¬(l.length:Int)<l.getD i 0:=by omega
   cases hh:Pu.has (l.take i) (l.getD i 0)with
   |true=>
    rw[hh]at hvx
    simp (disch:=omega) only[↓aB,sss,if_true,if_false,hlt,c,c',hx0,hx10,hvx]
   |false=>
    rw[hh]at hvx
    have ih:=bD.loop (k:=k) h1 hl m j (i+1) (seen.set (l.getD i 0).toNat true) (by omega) (by omega) (by simpa using hs) (fun v hv10=>by
     rw[Pu.take_succ hlt 0]
     by_cases e:v=(l.getD i 0).toNat
     ·subst e
      have:Pu.has (l.take i++ [l.getD i 0]) (((l.getD i 0).toNat:Nat):Int)=true:=by rw[Pu.qv,ex];exact List.mem_append.2 (.inr (List.mem_singleton.2 rfl))
      rw[this,Pu.aj (by rw[List.length_set];omega),List.getElem_set_self]
     ·have e1:(seen.set (l.getD i 0).toNat true).getD v false=seen.getD v false:=by
       rw[Pu.aj (by rw[List.length_set];omega),List.getElem_set_ne (by omega)]
       exact(Pu.aj (by omega) false).symm
      rw[e1,hv v hv10]
      have hne: ¬(v:Int)=l.getD i 0:=by omega
      unfold Pu.has
      rw[List.any_append]
      simp only[List.any_cons,List.any_nil,hne,decide_false,Bool.or_false])
    rw[Int.natCast_succ,Pu.take_succ hlt 0]at ih
    simp (disch:=omega) only[↓aB,sss,if_true,if_false,hlt,c,c',hx0,hx10,hvx,bD.fb,ih]
  ·have c':(l.length:Int)<l.getD i 0:=by omega
   simp (disch:=omega) only[↓aB,sss,if_true,if_false,hlt,c,c']
theorem bD.is{k:Nat}{t:Pu.Tab}(hk:4194304+6≤k)(h1:t.1.length≤1048576)(ht:t.2.length≤1048576)(hr: ∀x∈t.2,x.length≤1048576):bD k t=some (Pu.ep t):=by
 obtain⟨k,rfl⟩: ∃k',k=k'+1:=⟨k-1,by omega⟩
 rw[bD.eq,aE.is (by omega) h1 ht hr,cQ]
 unfold Pu.ep
 cases hi:Pu.iK t with
 |false=>simp
 |true=>
  have h9:=Pu.EJ hi
  have he:=Pu.oY hi
  simp only[↓aB,sss,if_true,if_false]
  rw[bQ.is (by omega) ht (by omega),cQ]
  have h:=bD.loop (k:=k) (l:=t.2.flatten) he h9 t.2.flatten.length k 0 (List.replicate 10 false) (by omega) (by omega) (by simp) (fun v hv=>by
   rw[Pu.aj (by simpa using hv),List.getElem_replicate];rfl)
  rw[Int.natCast_zero]at h
  rw[if_pos (by omega),if_pos (by omega),if_pos (by decide)]
  show bD.L0 k k 0 t.2.flatten (List.replicate 10 false)=_
  rw[h,List.take_zero,List.drop_zero,Pu.BT fun x hx=>(he x hx).1]
theorem dk.loop{k:Nat}{w:LI}(hw:w.length≤1048576)(hb: ∀x∈w,-1000000≤x∧x≤1000000): ∀(m j i:Nat) (s:Int),i+m=w.length→m<j→ -1000000*i≤s→s≤1000000*i→dk.L0 k j s i w=some (s+Pu.dA (w.drop i))
 |m,0,i,s,_,hj,_,_=>by omega
 |0,j+1,i,s,hm,_,_,_=>by
  rw[dk.bp]
  have e:i=w.length:=by omega
  subst e
  simp[Pu.dA]
 |m+1,j+1,i,s,hm,hj,hs1,hs2=>by
  rw[dk.bp]
  have hlt:i<w.length:=by omega
  have hx:=hb _ (List.getElem_mem hlt)
  rw[←Pu.aj hlt 0]at hx
  have ih:=dk.loop (k:=k) hw hb m j (i+1) (s+w.getD i 0) (by omega) (by omega) (by omega) (by omega)
  rw[Int.natCast_succ]at ih
  rw[Pu.drop_cons hlt 0]
  simp (disch:=omega) only[↓aB,sss,if_true,if_false,hlt,ih,Pu.dA,Int.add_assoc]
theorem dk.is{k:Nat}{w:LI}(hk:4194304+1≤k)(hw:w.length≤1048576)(hb: ∀x∈w,-1000000≤x∧x≤1000000):dk k w=some (Pu.dA w):=by
 obtain⟨k,rfl⟩: ∃k',k=k'+1:=⟨k-1,by omega⟩
 rw[dk.eq]
 have h:=dk.loop (k:=k) hw hb w.length k 0 0 (by omega) (by omega) (by omega) (by omega)
 rw[Int.natCast_zero]at h
 rw[h,Int.zero_add,List.drop_zero]
theorem bn.inner{k k1:Nat}{n:Int}{r:Nat}{a:LI}{rows:LJ}(hlt:r<rows.length)(hx:(rows.getD r []).length≤1048576)(hk:4194304≤k)(hl:rows.length≤1048576):
  bn.L1 k k1 k n r 0 a rows=if Pu.has (rows.getD r []) n=true then some (r:Int)else bn.L0 k k1 n ((r:Int)+1) a rows:=by
 have h:=Pu.rR (rows.getD r []) 0 (fun y=>decide (n=y)) (fun j i=>bn.L1 k k1 j n r i a rows) (fun _=>some (r:Int)) (bn.L0 k k1 n ((r:Int)+1) a rows)
  (fun j i hi=>by
   rw[bn.cO]
   by_cases c:n=(rows.getD r []).getD i 0
   ·simp (disch:=omega) only[↓aB,sss,if_true,if_false,hlt,hi,←c]
   ·have c': ¬(rows.getD r []).getD i 0=n:=fun e=>c e.symm
    simp (disch:=omega) only[↓aB,sss,if_true,if_false,hlt,hi,c,c',Int.natCast_add,Int.natCast_one])
  (fun j=>by
   rw[bn.cO]
   simp (disch:=omega) only[↓aB,sss,if_true,if_false,hlt,Nat.lt_irrefl]) (rows.getD r []).length k 0 (by omega) (by omega) (by omega)
 simp only[Int.natCast_zero]at h
 rw[h]
 have e:Pu.has (rows.getD r []) n=decide ((rows.getD r []).findIdx (fun y=>decide (n=y))<(rows.getD r []).length):=by
  unfold Pu.has
  exact Pu.F7 _ _
 rw[e]
 simp only[decide_eq_true_eq]
theorem bn.is{k:Nat}{t:Pu.Tab}{n:Int}(hk:4194304+7≤k)(h1:t.1.length≤1048576)(ht:t.2.length≤1048576)(hr: ∀x∈t.2,x.length≤1048576):bn k t n=some (if Pu.ep t=true then Pu.rowOf t n else-1):=by
 obtain⟨k,rfl⟩: ∃k',k=k'+1:=⟨k-1,by omega⟩
 rw[bn.eq,bD.is (by omega) h1 ht hr,cQ]
 cases hs:Pu.ep t with
 |false=>simp
 |true=>
  have h:=Pu.rR t.2 [] (fun r=>Pu.has r n) (fun j i=>bn.L0 k j n i t.1 t.2) (fun i=>some (i:Int)) (some (-1))
   (fun j i hi=>by
    have hx:=hr _ (List.getElem_mem hi)
    rw[←Pu.aj hi []]at hx
    rw[bn.bp]
    simp (disch:=omega) only[↓aB,sss,if_true,if_false,hi]
    rw[bn.inner hi hx (by omega) ht,Int.natCast_add,Int.natCast_one])
   (fun j=>by
    rw[bn.bp]
    simp (disch:=omega) only[↓aB,sss,if_true,if_false,Nat.lt_irrefl]) t.2.length k 0 (by omega) (by omega) (by omega)
  simp only[Int.natCast_zero]at h
  simp only[↓aB,sss,if_true,if_false]
  rw[h]
  unfold Pu.rowOf Pu.zX
  split<;>rfl
theorem ao.Bh{k k1:Nat}{y:Int}{r:Nat}{rs d2:LJ}{inn d1:LI}(hr:r<rs.length)(hs:Pu.cy 1000 1000 rs): ∀(m j q:Nat),m≤(rs.getD r []).length→m<j→Pu.dY (rs.getD r []) y m=some q→
  ao.L5 k k1 j y r ((m:Int)-1) d1 d2 inn rs=ao.L3 k k1 ((rs.getD r []).getD q 0) ((r:Int)-1) d1 d2 inn (rs.set r ((rs.getD r []).set q y))
 |m,0,_,_,hj,_=>by omega
 |0,j+1,q,_,_,hq=>by simp[Pu.dY]at hq
 |m+1,j+1,q,hm,hj,hq=>by
  rw[ao.C3]
  have hl:=hs.1
  have hx:=hs.at r
  have e:((m+1:Nat):Int)-1=(m:Int):=by omega
  have h1:m<(rs.getD r []).length:=by omega
  rw[e]
  unfold Pu.dY at hq
  by_cases c:(rs.getD r []).getD m 0<y
  ·rw[if_pos c]at hq
   injection hq with hq
   subst hq
   have c': ¬y≤(rs.getD r []).getD m 0:=by omega
   simp (disch:=omega) only[↓aB,sss,if_true,if_false,hr,h1,c']
  ·rw[if_neg c]at hq
   have c':y≤(rs.getD r []).getD m 0:=by omega
   have ih:=ao.Bh (k:=k) (k1:=k1) (y:=y) (inn:=inn) (d1:=d1) (d2:=d2) hr hs m j q (by omega) (by omega) hq
   simp (disch:=omega) only[↓aB,sss,if_true,if_false,hr,h1,c',ih]
theorem ao.xV{k:Nat}{inn d1:LI}{d2:LJ}(hk:2000≤k): ∀(r j:Nat) (y:Int) (rs:LJ),r≤rs.length→Pu.cy 1000 1000 rs→r<j→Pu.Er r rs y→
  ao.L3 k j y ((r:Int)-1) d1 d2 inn rs=some ((inn,(Pu.eW r rs y).1),(Pu.eW r rs y).2)
 |r,0,_,_,_,_,hj,_=>by omega
 |0,j+1,y,rs,_,_,_,_=>by
  rw[ao.nO]
  have hn: ¬((0:Int)≤((0:Nat):Int)-1):=by omega
  simp only[↓aB,sss,if_true,if_false,hn,Pu.eW]
 |r+1,j+1,y,rs,hr,hs,hj,hg=>by
  rw[ao.nO]
  have e:((r+1:Nat):Int)-1=(r:Int):=by omega
  have hlt:r<rs.length:=by omega
  have hx:=hs.at r
  have hl:=hs.1
  obtain⟨q,hq,hg⟩:=hg
  have h5:=ao.Bh (k:=k) (k1:=j) (y:=y) (inn:=inn) (d1:=d1) (d2:=d2) hlt hs (rs.getD r []).length k q (by omega) (by omega) hq
  rw[e]
  unfold Pu.eW
  rw[hq]
  simp (disch:=omega) only[↓aB,sss,if_true,if_false,hlt,h5]
  exact ao.xV hk r j _ _ (by rw[List.length_set];omega) (hs.set r (by rw[List.length_set];exact hx)) (by omega) hg
theorem ao.AO{k k1:Nat}{y:Int}{r:Nat}{n:Nat}{rs d2:LJ}{inn d1:LI}(hr:r<rs.length)(hn:r<n)(hs:Pu.cy 1000 1000 rs): ∀(m j q:Nat),m≤(rs.getD r []).length→m<j→Pu.dY (rs.getD r []) y m=some q→
  ao.L4 k k1 j y r ((m:Int)-1) 0 n d1 d2 inn rs=ao.L2 k k1 ((rs.getD r []).getD q 0) ((r:Int)-1) 0 n d1 d2 inn (rs.set r ((rs.getD r []).set q y))
 |m,0,_,_,hj,_=>by omega
 |0,j+1,q,_,_,hq=>by simp[Pu.dY]at hq
 |m+1,j+1,q,hm,hj,hq=>by
  rw[ao.wI]
  have hl:=hs.1
  have hx:=hs.at r
  have e:((m+1:Nat):Int)-1=(m:Int):=by omega
  have h1:m<(rs.getD r []).length:=by omega
  rw[e]
  unfold Pu.dY at hq
  by_cases c:(rs.getD r []).getD m 0<y
  ·rw[if_pos c]at hq
   injection hq with hq
   subst hq
   have c': ¬y≤(rs.getD r []).getD m 0:=by omega
   simp (disch:=omega) only[↓aB,sss,if_true,if_false,fO,Nat.zero_add,hr,hn,h1,c']
  ·rw[if_neg c]at hq
   have c':y≤(rs.getD r []).getD m 0:=by omega
   have ih:=ao.AO (k:=k) (k1:=k1) (y:=y) (inn:=inn) (d1:=d1) (d2:=d2) hr hn hs m j q (by omega) (by omega) hq
   simp (disch:=omega) only[↓aB,sss,if_true,if_false,fO,Nat.zero_add,hr,hn,h1,c',ih]
theorem ao.yk{k:Nat}{n:Nat}{inn d1:LI}{d2:LJ}(hk:2000≤k): ∀(r j:Nat) (y:Int) (rs:LJ),r≤rs.length→r≤n→Pu.cy 1000 1000 rs→r<j→Pu.Er r rs y→
  ao.L2 k j y ((r:Int)-1) 0 n d1 d2 inn rs=some ((inn,(Pu.eW r rs y).1.take n),(Pu.eW r rs y).2)
 |r,0,_,_,_,_,_,hj,_=>by omega
 |0,j+1,y,rs,_,_,_,_,_=>by
  rw[ao.gB]
  have hn: ¬((0:Int)≤((0:Nat):Int)-1):=by omega
  simp only[↓aB,sss,if_true,if_false,hn,Pu.eW,List.drop_zero]
 |r+1,j+1,y,rs,hr,hrn,hs,hj,hg=>by
  rw[ao.gB]
  have e:((r+1:Nat):Int)-1=(r:Int):=by omega
  have hlt:r<rs.length:=by omega
  have hn:r<n:=by omega
  have hx:=hs.at r
  have hl:=hs.1
  obtain⟨q,hq,hg⟩:=hg
  have h5:=ao.AO (k:=k) (k1:=j) (y:=y) (inn:=inn) (d1:=d1) (d2:=d2) (n:=n) hlt hn hs (rs.getD r []).length k q (by omega) (by omega) hq
  rw[e]
  unfold Pu.eW
  rw[hq]
  simp (disch:=omega) only[↓aB,sss,if_true,if_false,fO,Nat.zero_add,hlt,hn,h5]
  exact ao.yk hk r j _ _ (by rw[List.length_set];omega) (by omega) (hs.set r (by rw[List.length_set];exact hx)) (by omega) hg
theorem ao.is{k:Nat}{t:Pu.Tab}{n:Nat}(hk:4194304+3≤k)(h1:t.1.length≤1048576)(hs:Pu.cy 9 9 t.2)(hn:n<t.2.length)(hl:1≤(t.2.getD n []).length)
  (hg:Pu.Er n (t.2.set n ((t.2.getD n []).take ((t.2.getD n []).length-1))) ((t.2.getD n []).getD ((t.2.getD n []).length-1) 0)):
  ao k t n=some ((t.1,(Pu.bM t.2 n).1),(Pu.bM t.2 n).2):=by
 obtain⟨k,rfl⟩: ∃k',k=k'+1:=⟨k-1,by omega⟩
 have h9:=hs.1
 have hx:=hs.at n
 have hcp:=cJ.is (k:=k) (t:=t) (by omega) h1 (by omega) (fun r hr=>by have:=hs.2 r hr;omega)
 rw[ao.eq,show((t.1,t.2):Pu.Tab)=t from rfl,hcp,cQ]
 obtain⟨inn,rs⟩:=t
 dsimp only at*
 have hs':Pu.cy 1000 1000 (rs.set n ((rs.getD n []).take ((rs.getD n []).length-1))):=(hs.mono (by omega) (by omega)).set n (by rw[List.length_take];omega)
 have ew:IntKind.i64.wrap (((rs.getD n []).length:Int)-1)=(((rs.getD n []).length-1:Nat):Int):=by rw[w64 (by omega) (by omega)];omega
 have h3:=fun d1 d2=>ao.xV (k:=k) (inn:=inn) (d1:=d1) (d2:=d2) (by omega) n k ((rs.getD n []).getD ((rs.getD n []).length-1) 0) _ (by rw[List.length_set];omega) hs' (by omega) hg
 have h2:=fun d1 d2=>ao.yk (k:=k) (n:=n) (inn:=inn) (d1:=d1) (d2:=d2) (by omega) n k ((rs.getD n []).getD ((rs.getD n []).length-1) 0) _ (by rw[List.length_set];omega) (by omega) hs' (by omega) hg
 have q1:(rs.getD n []).length-1<(rs.getD n []).length:=by omega
 have q2:(rs.getD n []).length-1≤(rs.getD n []).length:=by omega
 have q3:n≤(rs.set n ((rs.getD n []).take ((rs.getD n []).length-1))).length:=by rw[List.length_set];omega
 unfold Pu.bM
 by_cases c:(rs.getD n []).length=1
 ·have c':(((rs.getD n []).length-1:Nat):Int)=0:=by omega
  rw[if_pos c]
  simp (disch:=omega) only[↓aB,sss,if_true,if_false,fP,Nat.sub_zero,List.drop_zero,hn,ew,q1,q2,q3,ao.fT,h2]
  simp only[c',decide_true,if_true]
 ·have c': ¬(((rs.getD n []).length-1:Nat):Int)=0:=by omega
  simp (disch:=omega) only[↓aB,sss,if_true,if_false,fP,Nat.sub_zero,List.drop_zero,hn,ew,q1,q2,q3,c,c',ao.fb,h3]
theorem aW.IM{k:Nat}{q:Pu.Tab}{inn:LI}{m:Nat}{P Q:LJ}(hk:4194304+40≤k)(hq:Pu.aP q=true)(hs:Pu.ep q=true)(hin:inn.length≤1048576)(h:Pu.Unr q (m+1) P Q):
  ∃a:Nat,Pu.rowOf q ((m+1:Nat):Int)=a∧bn k q ((m+1:Nat):Int)=some (a:Int)∧ao k (inn,P) a=some ((inn,(Pu.bM P a).1),(Pu.bM P a).2)∧Pu.Unr q m (Pu.bM P a).1 (Pu.cw Q a):=by
 obtain⟨a,a1,a2,a3,_,_,a6⟩:=h.step
 have hz:=Pu.dt hq
 have hz1:=hz.1
 have hro:=bn.is (k:=k) (t:=q) (n:=((m+1:Nat):Int)) (by omega) (by rw[Pu.cn hq];simp) (by omega) (fun r hr=>by have:=hz.2 r hr;omega)
 rw[if_pos hs,a1]at hro
 have hP1:a<P.length:=by rw[h.same.1];exact a2
 have hP2:1≤(P.getD a []).length:=by rw[h.same.2];exact a3
 exact⟨a,a1,hro,ao.is (by omega) hin h.p9 hP1 hP2 (Pu.ER h.col hP1 hP2),a6⟩
theorem aW.pD{k:Nat}{q:Pu.Tab}{x1:LI}{inn:LI}(hk:4194304+40≤k)(hq:Pu.aP q=true)(hs:Pu.ep q=true)(hin:inn.length≤1048576): ∀(m j:Nat) (out:LI) (P Q:LJ),Pu.Unr q m P Q→m<j→m≤out.length→m≤9→
  aW.L2 k j m out q.1 q.2 inn P=some (Pu.wop q m P++out.drop m,true)
 |m,0,out,P,Q,_,hj,_,_=>by omega
 |0,j+1,out,P,Q,_,_,_,_=>by
  rw[aW.gB]
  have hn: ¬(1:Int)≤((0:Nat):Int):=by omega
  exact tX hn rfl
 |m+1,j+1,out,P,Q,h,hj,ho,h9=>by
  obtain⟨a,a1,a2,a3,a4⟩:=aW.IM (inn:=inn) hk hq hs hin h
  have ih:=aW.pD (x1:=x1) hk hq hs hin m j (out.set m (Pu.bM P a).2) (Pu.bM P a).1 (Pu.cw Q a) a4 (by omega) (by rw[List.length_set];omega) (by omega)
  rw[aW.gB,show((q.1,q.2):Pu.Tab)=q from rfl]
  have hn:(1:Int)≤((m+1:Nat):Int):=by omega
  have hw:IntKind.i64.wrap (((m+1:Nat):Int)-1)=(m:Int):=by rw[w64 (by omega) (by omega)];omega
  have hlt:m<out.length:=by omega
  refine tG hn (bE a2 (bE a3 ?_))
  simp only[cD,cm,gd,bZ,gm,hw,Int.toNat_natCast]
  refine tG (Int.natCast_nonneg m) (tG hlt (tG hlt ?_))
  rw[ih,show Pu.wop q (m+1) P=Pu.wop q m (Pu.bM P (Pu.rowOf q ((m+1:Nat):Int)).toNat).1++ [(Pu.bM P (Pu.rowOf q ((m+1:Nat):Int)).toNat).2]from rfl]
  rw[a1,Int.toNat_natCast,Pu.drop_cons (show m<(out.set m (Pu.bM P a).2).length by rw[List.length_set];exact hlt) 0,Pu.aj (by rw[List.length_set];exact hlt),List.getElem_set_self,List.drop_set_of_lt (by omega),List.append_assoc,List.singleton_append]
theorem aW.qU{k:Nat}{q:Pu.Tab}{inn:LI}(hk:4194304+40≤k)(hq:Pu.aP q=true)(hs:Pu.ep q=true)(hin:inn.length≤1048576){m j:Nat}{out:LI}{P Q:LJ}(h:Pu.Unr q m P Q)(hj:m<j)(ho:m≤out.length)(h9:m≤9):
  aW.L1 k j m out q.1 q.2 inn P=some (Pu.wop q m P++out.drop m,true):=by
 obtain⟨j,rfl⟩: ∃j',j=j'+1:=⟨j-1,by omega⟩
 cases m with
 |zero=>
  rw[aW.cO]
  have hn: ¬(1:Int)≤((0:Nat):Int):=by omega
  exact tX hn rfl
 |succ m=>
  have h2:=aW.pD (x1:= []) hk hq hs hin (m+1) (j+1) out P Q h hj ho h9
  rw[aW.gB]at h2
  rw[aW.cO]
  exact h2
theorem aW.is{k:Nat}{p q:Pu.Tab}(hk:4194304+50≤k)(hp:Pu.gC p)(hq:Pu.gC q):aW k p q=some (Pu.oF p q):=by
 obtain⟨k,rfl⟩: ∃k',k=k'+1:=⟨k-1,by omega⟩
 have e1:((p.1,p.2):Pu.Tab)=p:=rfl
 have e2:((q.1,q.2):Pu.Tab)=q:=rfl
 have hs1:=bG.is (k:=k) (t:=p) (by omega) hp.1 hp.2.1 hp.2.2
 have hs2:=bG.is (k:=k) (t:=q) (by omega) hq.1 hq.2.1 hq.2.2
 have hl1:=dQ.is (k:=k) (t:=p) (by omega) hp.1 hp.2.1 hp.2.2
 have hl2:=dQ.is (k:=k) (t:=q) (by omega) hq.1 hq.2.1 hq.2.2
 have hst:=bD.is (k:=k) (t:=q) (by omega) hq.1 hq.2.1 hq.2.2
 have shp: ∀t:Pu.Tab,Pu.aP t=true→Pu.shapeOf t=((Pu.outer t,[]),true):=fun t h=>by
  have h':=h
  simp only[Pu.aP,Bool.and_eq_true]at h'
  unfold Pu.shapeOf
  rw[if_pos (Pu.kL h'.1),Pu.cn h]
 have shn: ∀t:Pu.Tab,(Pu.shapeOf t).2=false→ ¬Pu.aP t=true:=fun t h h'=>by rw[shp t h']at h;cases h
 rw[aW.eq,e1,e2]
 refine bE hs1 (bE hs2 ?_)
 unfold Pu.oF
 cases c1:(Pu.shapeOf p).2 with
 |false=>rw[if_neg (fun h=>shn p c1 h.1)];exact tM rfl
 |true=>
  refine tN ?_
  cases c2:(Pu.shapeOf q).2 with
  |false=>rw[if_neg (fun h=>shn q c2 h.2.1)];exact tM rfl
  |true=>
   refine tN (bE hl1 ?_)
   cases c3:Pu.aP p with
   |false=>rw[if_neg (fun h=>by cases h.1)];exact tM rfl
   |true=>
    refine tN (bE hl2 ?_)
    cases c4:Pu.aP q with
    |false=>rw[if_neg (fun h=>by cases h.2.1)];exact tM rfl
    |true=>
     refine tN (bE hst ?_)
     cases c5:Pu.ep q with
     |false=>rw[if_neg (fun h=>by cases h.2.2.1)];exact tM rfl
     |true=>
      rw[shp p c3,shp q c4]
      have hpr:=Pu.dt c3
      have hpr1:=hpr.1
      have hes:=ed.is (k:=k) (a:=(Pu.outer p,[])) (b:=(Pu.outer q,[])) (by omega) (by simp only[Pu.cN];omega) (by simp)
      refine tN (bE hes ?_)
      by_cases c6:Pu.outer p=Pu.outer q
      ·rw[if_pos ⟨rfl,rfl,rfl,c6⟩,decide_eq_true (by rw[c6])]
       refine tN ?_
       have hpo:=Pu.iS c3
       have h9:=Pu.gQ c4
       have hsum:Pu.dA (Pu.outer p)=(q.2.flatten.length:Int):=by rw[c6,Pu.tC c4]
       have hsz:=dk.is (k:=k) (w:=Pu.outer p) (by omega) (by rw[Pu.cN];omega) (fun x hx=>by have:=(Pu.dn hpo).1 x hx;omega)
       rw[hsum]at hsz
       have hl:=aW.qU (k:=k) (q:=q) (inn:=p.1) (by omega) c4 c5 hp.1 (m:=q.2.flatten.length) (j:=k) (out:=List.replicate q.2.flatten.length 0) (Pu.pY c3 c4 c5 c6) (by omega) (by simp) h9
       rw[aW.fT]
       refine bE hsz ?_
       have hmx:q.2.flatten.length≤1099511627776:=by omega
       simp only[cD,iY,Int.toNat_natCast]
       refine tG (Int.natCast_nonneg _) (tG (Int.le_refl _) (tG hmx ?_))
       rw[hl,List.drop_of_length_le (by simp),List.append_nil]
      ·rw[if_neg (fun h=>c6 h.2.2.2),decide_eq_false (fun h=>c6 (congrArg Prod.fst h))]
       exact tM rfl
theorem aQ.inner{k k1:Nat}{l out:LI}{i:Nat}(hi:i<l.length)(h9:out.length≤1000): ∀(a j:Nat),a≤out.length→a<j→
  aQ.L1 k k1 j i a l out=aQ.J3 k k1 i (Pu.lZ out (l.getD i 0) a) l out
 |a,0,_,hj=>by omega
 |0,j+1,_,_=>by
  rw[aQ.cO]
  have hn: ¬(0:Int)<((0:Nat):Int):=by omega
  exact tX hn rfl
 |a+1,j+1,ha,hj=>by
  have ih:=aQ.inner (k:=k) (k1:=k1) (l:=l) (out:=out) hi h9 a j (by omega) (by omega)
  have hw:IntKind.i64.wrap (((a+1:Nat):Int)-1)=(a:Int):=by rw[w64 (by omega) (by omega)];omega
  have hn:(0:Int)<((a+1:Nat):Int):=by omega
  have hlt:a<out.length:=by omega
  rw[aQ.cO]
  simp only[cD,cm,cH,eN,gd,bZ,hw,Int.toNat_natCast]
  refine tG hn (tG (Int.natCast_nonneg a) (tG hlt (tG hlt (tG (Int.natCast_nonneg i) (tG hi (tG hi ?_))))))
  by_cases c:l.getD i 0<out.getD a 0
  ·refine tG c ?_
   rw[aQ.kx]
   simp only[gd,bZ,hw]
   rw[ih,show Pu.lZ out (l.getD i 0) (a+1)=Pu.lZ out (l.getD i 0) a from by rw[show Pu.lZ out (l.getD i 0) (a+1)=(if l.getD i 0<out.getD a 0 then Pu.lZ out (l.getD i 0) a else a+1)from rfl,if_pos c]]
  ·refine tX c ?_
   rw[show Pu.lZ out (l.getD i 0) (a+1)=a+1 from by rw[show Pu.lZ out (l.getD i 0) (a+1)=(if l.getD i 0<out.getD a 0 then Pu.lZ out (l.getD i 0) a else a+1)from rfl,if_neg c]]
theorem aQ.loop{k:Nat}{l:LI}(hk:4194304≤k)(h9:l.length≤500): ∀(m j i:Nat) (out:LI),i+m=l.length→m<j→out.length=i→aQ.L0 k j i l out=some ((l.drop i).foldl Pu.uZ out)
 |m,0,i,out,_,hj,_=>by omega
 |0,j+1,i,out,hi,_,_=>by
  rw[aQ.bp]
  have hn: ¬(i:Int)<l.length:=by omega
  refine tX hn ?_
  rw[List.drop_of_length_le (by omega)]
  rfl
 |m+1,j+1,i,out,hi,hj,ho=>by
  have hlt:i<l.length:=by omega
  have hn:(i:Int)<l.length:=by omega
  have hw:IntKind.i64.wrap ((i:Int)+1)=((i+1:Nat):Int):=by rw[w64 (by omega) (by omega)];omega
  have hlen:(Pu.uZ out (l.getD i 0)).length=i+1:=by rw[(Pu.xU out (l.getD i 0)).length_eq,List.length_cons,ho]
  have ih:=aQ.loop hk h9 m j (i+1) (Pu.uZ out (l.getD i 0)) (by omega) (by omega) hlen
  have hin:=aQ.inner (k:=k) (k1:=j) (l:=l) (out:=out) hlt (by omega) out.length k (Nat.le_refl _) (by omega)
  have hp:=Pu.yS out (l.getD i 0) out.length
  rw[aQ.bp]
  refine tG hn ?_
  simp only[cD,cm,cH]
  rw[hin,aQ.sC]
  have hins:Pu.uZ out (l.getD i 0)=out.take (Pu.lZ out (l.getD i 0) out.length)++ [l.getD i 0]++out.drop (Pu.lZ out (l.getD i 0) out.length):=rfl
  generalize Pu.lZ out (l.getD i 0) out.length=p at*
  simp only[cD,cm,cH,eN,de,bZ,fx,gU,gY,fP,hw,Int.toNat_natCast,List.drop_zero,Nat.sub_zero,List.nil_append]
  have ht:(out.drop p).take (out.length-p)=out.drop p:=List.take_of_length_le (by rw[List.length_drop];omega)
  rw[ht]
  have b1:(out.drop p).length≤1099511627776:=by rw[List.length_drop];omega
  have b2:(out.take p++ [l.getD i 0]).length≤1099511627776:=by rw[List.length_append,List.length_take,List.length_singleton];omega
  have b3:(out.take p++ [l.getD i 0]++out.drop p).length≤1099511627776:=by rw[←hins,hlen];omega
  refine tG (Int.natCast_nonneg p) (tG hp (tG b1 (tG (Int.natCast_nonneg p) (tG hp (tG (Int.natCast_nonneg i) (tG hlt (tG hlt (tG b2 (tG b3 ?_)))))))))
  rw[←hins,ih,Pu.drop_cons hlt 0,List.foldl_cons]
theorem aQ.is{k:Nat}{l:LI}(hk:4194304+2≤k)(h9:l.length≤500):aQ k l=some (Pu.mE l):=by
 obtain⟨k,rfl⟩: ∃k',k=k'+1:=⟨k-1,by omega⟩
 have:=aQ.loop (k:=k) (by omega) h9 l.length k 0 [] (by omega) (by omega) rfl
 rw[aQ.eq]
 exact this
theorem aL.qU{k:Nat}{R C:Nat}{w top:LI}(hR:R≤9)(hC:C≤9): ∀(m j i:Nat),i+m=R→m<j→aL.L1 k j R C i w top (List.replicate i (List.replicate C 0))=aL.L2 k k 0 w top (Pu.jV R C)
 |m,0,i,_,hj=>by omega
 |0,j+1,i,hi,_=>by
  have hn: ¬(i:Int)<(R:Int):=by omega
  have e:i=R:=by omega
  rw[aL.cO]
  refine tX hn ?_
  rw[e]
  rfl
 |m+1,j+1,i,hi,hj=>by
  have hn:(i:Int)<(R:Int):=by omega
  have hw:IntKind.i64.wrap ((i:Int)+1)=((i+1:Nat):Int):=by rw[w64 (by omega) (by omega)];omega
  have ih:=aL.qU (k:=k) (w:=w) (top:=top) hR hC m j (i+1) (by omega) (by omega)
  rw[List.replicate_succ']at ih
  have b1:C≤1099511627776:=by omega
  have b2:(List.replicate i (List.replicate C (0:Int))++ [List.replicate C 0]).length≤1099511627776:=by rw[List.length_append,List.length_replicate,List.length_singleton];omega
  rw[aL.cO]
  simp only[cD,cm,cH,iY,de,fx,bZ,hw,Int.toNat_natCast]
  exact tG hn (tG (Int.natCast_nonneg C) (tG (Int.le_refl _) (tG b1 (tG b2 ih))))
theorem aL.pD{k:Nat}{R C:Nat}{w top:LI}(hR:R≤9)(hC:C≤9)(hl:top.length=w.length)(h9:w.length≤9): ∀(m j i:Nat) (M:LJ) (b:Int),i+m=w.length→m<j→Pu.sL R C b M→b+m≤1000→
  (∀x∈(top.zip w).drop i,1≤x.1∧x.1≤R∧1≤x.2∧x.2≤C)→aL.L2 k j i w top M=some (Pu.uf M ((top.zip w).drop i),true)
 |m,0,i,M,b,_,hj,_,_,_=>by omega
 |0,j+1,i,M,b,hi,_,_,_,_=>by
  have hn: ¬(i:Int)<(w.length:Int):=by omega
  rw[aL.gB]
  refine tX hn ?_
  rw[List.drop_of_length_le (by rw[List.length_zip];omega)]
  rfl
 |m+1,j+1,i,M,b,hi,hj,hM,hb,hx=>by
  have hwi:i<w.length:=by omega
  have hti:i<top.length:=by omega
  have hz:=Pu.zW hti hwi
  rw[hz]at hx⊢
  obtain⟨x1,x2,x3,x4⟩:=hx _ (List.mem_cons_self ..)
  obtain⟨g1,g2,g3,g4,w1,w2,w3⟩:=Pu.yc hM (by omega) hR hC x1 x2 x3 x4
  have hM':=Pu.vj hM x1 x2 x3 x4
  have ih:=aL.pD (k:=k) hR hC hl h9 m j (i+1) _ (b+1) (by omega) (by omega) hM' (by omega) (fun x h=>hx x (List.mem_cons_of_mem _ h))
  unfold Pu.uh at ih
  simp only at g1 g2 g3 g4 w1 w2 w3 ih
  have hn:(i:Int)<(w.length:Int):=by omega
  have i0:=Int.natCast_nonneg i
  have hw:IntKind.i64.wrap ((i:Int)+1)=((i+1:Nat):Int):=by rw[w64 (by omega) (by omega)];omega
  rw[aL.gB]
  simp only[cD,cm,cH,eN,de,gd,gm,bZ,hw,Int.toNat_natCast,w1,w2,w3]
  exact tG hn (tG i0 (tG hti (tG hti (tG g1 (tG g2 (tG g2 (tG i0 (tG hwi (tG hwi (tG i0 (tG hti (tG hti (tG g1 (tG g2 (tG g2 (tG i0 (tG hwi (tG hwi (tG g2 (tG g3 (tG g4 (tG g2 (tG g4 (tG g2 (tG g3 (tG g4 (tG g2 (tG g4 ih))))))))))))))))))))))))))))
theorem aL.is{k:Nat}{p q:Pu.Tab}{r c:Int}(hk:4194304+80≤k)(hp:Pu.gC p)(hq:Pu.gC q):aL k p q r c=some (Pu.cX p q r c):=by
 obtain⟨k,rfl⟩: ∃k',k=k'+1:=⟨k-1,by omega⟩
 have e1:((p.1,p.2):Pu.Tab)=p:=rfl
 have e2:((q.1,q.2):Pu.Tab)=q:=rfl
 have hs1:=bG.is (k:=k) (t:=p) (by omega) hp.1 hp.2.1 hp.2.2
 have hs2:=bG.is (k:=k) (t:=q) (by omega) hq.1 hq.2.1 hq.2.2
 have hl1:=dQ.is (k:=k) (t:=p) (by omega) hp.1 hp.2.1 hp.2.2
 have hl2:=dQ.is (k:=k) (t:=q) (by omega) hq.1 hq.2.1 hq.2.2
 have hi1:=fg.is (k:=k) (x:=r) (lo:=1) (hi:=9) (by omega)
 have hi2:=fg.is (k:=k) (x:=c) (lo:=1) (hi:=9) (by omega)
 have shp: ∀t:Pu.Tab,Pu.aP t=true→Pu.shapeOf t=((Pu.outer t,[]),true):=fun t h=>by
  have h':=h
  simp only[Pu.aP,Bool.and_eq_true]at h'
  unfold Pu.shapeOf
  rw[if_pos (Pu.kL h'.1),Pu.cn h]
 have shn: ∀t:Pu.Tab,(Pu.shapeOf t).2=false→ ¬Pu.aP t=true:=fun t h h'=>by rw[shp t h']at h;cases h
 rw[aL.eq,e1,e2]
 refine bE hs1 (bE hs2 ?_)
 unfold Pu.cX
 cases c1:(Pu.shapeOf p).2 with
 |false=>rw[if_neg (fun h=>shn p c1 h.1)];exact tM rfl
 |true=>
  refine tN ?_
  cases c2:(Pu.shapeOf q).2 with
  |false=>rw[if_neg (fun h=>shn q c2 h.2.1)];exact tM rfl
  |true=>
   refine tN (bE hl1 ?_)
   cases c3:Pu.aP p with
   |false=>rw[if_neg (fun h=>by cases h.1)];exact tM rfl
   |true=>
    refine tN (bE hl2 ?_)
    cases c4:Pu.aP q with
    |false=>rw[if_neg (fun h=>by cases h.2.1)];exact tM rfl
    |true=>
     rw[shp p c3,shp q c4]
     have hpr:=Pu.dt c3
     have hpr1:=hpr.1
     have hqr:=Pu.dt c4
     have hqr1:=hqr.1
     have hes:=ed.is (k:=k) (a:=(Pu.outer p,[])) (b:=(Pu.outer q,[])) (by omega) (by simp only[Pu.cN];omega) (by simp)
     refine tN (bE hes ?_)
     by_cases c6:Pu.outer p=Pu.outer q
     ·rw[decide_eq_true (by rw[c6])]
      refine tN (bE hi1 ?_)
      by_cases c7:1≤r∧r≤9
      ·rw[show Pu.within r 1 9=true by unfold Pu.within;rw[decide_eq_true c7.1,decide_eq_true c7.2];rfl]
       refine tN (bE hi2 ?_)
       by_cases c8:1≤c∧c≤9
       ·rw[show Pu.within c 1 9=true by unfold Pu.within;rw[decide_eq_true c8.1,decide_eq_true c8.2];rfl]
        have h9p:=Pu.gQ c3
        have h9q:=Pu.gQ c4
        have hn1:=bQ.is (k:=k) (t:=q) (by omega) hq.2.1 (by omega)
        have hn2:=bQ.is (k:=k) (t:=p) (by omega) hp.2.1 (by omega)
        have hm1:=cF.is (k:=k) (l:=q.2.flatten) (by omega) (by omega)
        have hm2:=cF.is (k:=k) (l:=p.2.flatten) (by omega) (by omega)
        refine tN (bE hn1 (bE hm1 ?_))
        by_cases c9:Pu.nQ 0 q.2.flatten≤r
        ·refine tX (by omega) (bE hn2 (bE hm2 ?_))
         by_cases c10:Pu.nQ 0 p.2.flatten≤c
         ·rw[if_pos ⟨rfl,rfl,c6,c7,c8,c9,c10⟩]
          obtain⟨a1,a2,a3,a4,a5,a6,a7⟩:=Pu.sr c3 c4 c6 c9 c10
          have har:=Pu.dt a1
          have har1:(Pu.iw q.2).length≤9:=har.1
          have hst:=ah.is (k:=k) (q:=q) (by omega) c4
          have hwp:=aW.is (k:=k) (p:=p) (q:=([],Pu.iw q.2)) (by omega) hp ⟨by simp,by simp only;omega,fun x hx=>by have:=har.2 x hx;omega⟩
          have hwo:Pu.oF p ([],Pu.iw q.2)=(Pu.wop ([],Pu.iw q.2) q.2.flatten.length p.2,true):=by
           unfold Pu.oF
           rw[if_pos ⟨c3,a1,a2,a3⟩,a4]
          rw[hwo]at hwp
          have hso:=aQ.is (k:=k) (l:=q.2.flatten) (by omega) (by omega)
          refine tX (by omega) ?_
          rw[aL.fT,e1,e2]
          refine bE hst (bE hwp (bE hn1 (bE hso ?_)))
          obtain⟨R,rfl⟩: ∃R:Nat,r=R:=⟨r.toNat,by omega⟩
          obtain⟨C,rfl⟩: ∃C:Nat,c=C:=⟨c.toNat,by omega⟩
          have hwl:=Pu.oB ([],Pu.iw q.2) q.2.flatten.length p.2
          have q1:=aL.qU (k:=k) (R:=R) (C:=C) (w:=Pu.wop ([],Pu.iw q.2) q.2.flatten.length p.2) (top:=Pu.mE q.2.flatten) (by omega) (by omega) R k 0 (by omega) (by omega)
          have q2:=aL.pD (k:=k) (R:=R) (C:=C) (w:=Pu.wop ([],Pu.iw q.2) q.2.flatten.length p.2) (top:=Pu.mE q.2.flatten) (by omega) (by omega) (by rw[a5,hwl]) (by rw[hwl];exact h9q) q.2.flatten.length k 0 (Pu.jV R C) 0 (by rw[hwl];omega) (by omega) (Pu.mB R C) (by omega) (by rw[List.drop_zero];exact a7)
          rw[List.drop_zero]at q2
          rw[Int.toNat_natCast,Int.toNat_natCast]
          exact q1.trans q2
         ·rw[if_neg (fun h=>c10 h.2.2.2.2.2.2)]
          exact tG (by omega) rfl
        ·rw[if_neg (fun h=>c9 h.2.2.2.2.2.1)]
         exact tG (by omega) rfl
       ·rw[show Pu.within c 1 9=false by unfold Pu.within;rw[Bool.and_eq_false_iff,decide_eq_false_iff_not,decide_eq_false_iff_not];omega,if_neg (fun h=>c8 h.2.2.2.2.1)]
        exact tM rfl
      ·rw[show Pu.within r 1 9=false by unfold Pu.within;rw[Bool.and_eq_false_iff,decide_eq_false_iff_not,decide_eq_false_iff_not];omega,if_neg (fun h=>c7 h.2.2.2.1)]
       exact tM rfl
     ·rw[if_neg (fun h=>c6 h.2.2.1),decide_eq_false (fun h=>c6 (congrArg Prod.fst h))]
      exact tM rfl
theorem aO.Ba{k:Nat}{b:LI}{x3:LJ}(hk:4194304+40≤k)(hb:b.length≤1048576): ∀(m j i:Nat) (h:Int),i+m=b.length→m<j→Pu.Ok (aO.L0 k j h i b x3) fun r=>Pu.cy 9 9 r:=by
 have fin: ∀h,Pu.Ok (aO.J2 k h b x3) fun r=>Pu.cy 9 9 r:=fun h=>by
  rw[aO.kx]
  exact Pu.Ok.bnd (aN.ok (by show _≤k+1;omega) hb (by omega) (by omega)) fun r hr=>Pu.Ok.ret hr.1
 intro m
 induction m with
 |zero=>
  intro j i h hi hj
  obtain⟨j,rfl⟩: ∃j',j=j'+1:=⟨j-1,by omega⟩
  rw[aO.bp]
  simp only[nI,nk,jZ,kD,kB,cm,cH,cD,eN,gm,fx,gU,gY,iY,bZ,de,gd,lB,mO,mP,kC,kE,ju,js,fO,fP,List.nil_append,List.cons_append]
  exact Pu.Ok.no (by omega) (fin h)
 |succ m ih=>
  intro j i h hi hj
  obtain⟨j,rfl⟩: ∃j',j=j'+1:=⟨j-1,by omega⟩
  have hw:IntKind.i64.wrap ((i:Int)+1)=((i+1:Nat):Int):=w64 (by omega) (by omega)
  rw[aO.bp]
  simp only[nI,nk,jZ,kD,kB,cm,cH,cD,eN,gm,fx,gU,gY,iY,bZ,de,gd,lB,mO,mP,kC,kE,ju,js,fO,fP,List.nil_append,List.cons_append]
  refine Pu.Ok.g (by omega) (Pu.Ok.t (fun _=> ?_) (fun _=>fin h))
  rw[aO.fb]
  simp only[nI,nk,jZ,kD,kB,cm,cH,cD,eN,gm,fx,gU,gY,iY,bZ,de,gd,lB,mO,mP,kC,kE,ju,js,fO,fP,List.nil_append,List.cons_append]
  rw[hw]
  refine Pu.Ok.g (by omega) (Pu.Ok.g (by omega) (Pu.Ok.g (by omega) ?_))
  exact ih j (i+1) _ (by omega) (by omega)
theorem aO.ok{k:Nat}{b:LI}(hk:4194304+50≤k)(hb:b.length≤1048576):Pu.Ok (aO k b) fun r=>Pu.cy 9 9 r:=by
 obtain⟨k,rfl⟩: ∃k',k=k'+2:=⟨k-2,by omega⟩
 rw[aO.eq]
 exact aO.Ba (by omega) hb b.length k 0 _ (by omega) (by omega)
theorem aU.row{k k1 i c:Nat}{m:LJ}(hi:i<m.length)(hi9:i≤9)(hl:(m.getD i []).length=c)(hc:c≤9): ∀(t j q:Nat),q+t=c→t<j→
  aU.L2 k k1 j m.length i i c q (Pu.nf m c i q) m=aU.L1 k k1 m.length ((i+1:Nat):Int) (Pu.qN m c (i+1)) m
 |t,0,q,_,hj=>by omega
 |0,j+1,q,hq,_=>by
  have hw1:IntKind.i64.wrap ((i:Int)+1)=((i+1:Nat):Int):=by rw[w64 (by omega) (by omega)];omega
  rw[aU.gB]
  simp only[de,bZ,hw1]
  rw[show q=c by omega,Pu.D4 hi]
  exact tX (by omega) rfl
 |t+1,j+1,q,hq,hj=>by
  have hlt:q<(m.getD i []).length:=by omega
  have hqc:q<c:=by omega
  have hw1:IntKind.i64.wrap ((q:Int)+1)=((q+1:Nat):Int):=by rw[w64 (by omega) (by omega)];omega
  have q0:=Int.natCast_nonneg q
  have hqT:q<(Pu.nf m c i q).length:=by rw[Pu.md];exact hqc
  have hap:((Pu.nf m c i q).getD q []++ [(m.getD i []).getD q 0]).length≤1099511627776:=by
   rw[List.length_append,List.length_singleton,Pu.ql hqc,if_neg (by omega),List.append_nil,List.length_map,List.length_take];omega
  have ih:=aU.row (k:=k) (k1:=k1) hi hi9 hl hc t j (q+1) (by omega) (by omega)
  rw[aU.gB,←ih,←Pu.B9 hqc]
  simp only[cD,cm,cH,eN,de,bZ,fx,gm,Int.toNat_natCast,hw1]
  exact tG (by omega) (tG hi (tG q0 (tG hlt (tG hi (tG hlt (tG q0 (tG hqT (tG hqT (tG hqT (tG hap (tG q0 (tG hqT (tG hqT (tG rfl rfl))))))))))))))
theorem aU.loop{k:Nat}{m:LJ}(hk:100≤k)(h:Pu.cM m=true)(h0:m.length≠0): ∀(t j i:Nat),i+t=m.length→t<j→
  aU.L1 k j m.length i (Pu.qN m (m.getD 0 []).length i) m=some (Pu.lR m,true)
 |t,0,i,_,hj=>by omega
 |0,j+1,i,hi,_=>by
  rw[aU.cO,show i=m.length by omega,Pu.EA]
  exact tX (show¬(m.length:Int)<m.length by omega) rfl
 |t+1,j+1,i,hi,hj=>by
  have hlt:i<m.length:=by omega
  have hM:=Pu.dq.1 h
  have hmem:m.getD i []∈m:=by rw[Pu.aj hlt];exact List.getElem_mem hlt
  have hl:=hM.row _ hmem
  have h9:=hM.c9 _ hmem
  have hr9:=hM.r9
  have e:=aU.row (k:=k) (k1:=j) (c:=(m.getD 0 []).length) hlt (by omega) hl (by omega) (m.getD 0 []).length k 0 (by omega) (by omega)
  rw[Int.natCast_zero,Pu.Ct,aU.loop hk h h0 t j (i+1) (by omega) (by omega)]at e
  rw[aU.cO]
  simp only[cD,cm,cH,eN,Int.toNat_natCast,hl]
  exact tG (by omega) (tG (Int.natCast_nonneg i) (tG hlt (tG hlt (tG hlt e))))
theorem aU.is{k:Nat}{m:LJ}(hk:4194304+20≤k)(hm:m.length≤1048576)(hr: ∀x∈m,x.length≤1048576):aU k m=some (Pu.dM m):=by
 obtain⟨k,rfl⟩: ∃k',k=k'+1:=⟨k-1,by omega⟩
 rw[aU.eq]
 refine bE (bw.is (by omega) hm hr) ?_
 unfold Pu.dM
 have t0:(0:Int).toNat=0:=rfl
 cases h:Pu.cM m with
 |false=>rw[if_neg (fun e=>by cases e.1)];exact tM rfl
 |true=>
  refine tN ?_
  by_cases h0:m.length=0
  ·rw[if_neg (fun e=>e.2.1 h0)]
   exact tG (show(m.length:Int)=0 by omega) rfl
  ·have hp:0<m.length:=by omega
   refine tX (show¬(m.length:Int)=0 by omega) ?_
   simp only[cD,cm,cH,eN,t0]
   refine tG (by omega) (tG hp (tG hp (tG hp ?_)))
   by_cases h1:(m.getD 0 []).length=0
   ·rw[if_neg (fun e=>e.2.2 h1)]
    exact tG (show((m.getD 0 []).length:Int)=0 by omega) rfl
   ·have h9:=(Pu.gI h).2 (m.getD 0 []) (by rw[Pu.aj hp];exact List.getElem_mem hp)
    have e:=aU.loop (k:=k) (by omega) h h0 m.length k 0 (by omega) (by have:=(Pu.gI h).1;omega)
    rw[Int.natCast_zero,Pu.BR]at e
    rw[if_pos (show True∧m.length≠0∧(m.getD 0 []).length≠0 from⟨trivial,h0,h1⟩)]
    refine tX (show¬((m.getD 0 []).length:Int)=0 by omega) ?_
    rw[aU.fT]
    simp only[cD,cm,cH,eN,iY,t0,Int.toNat_natCast]
    exact tG (by omega) (tG hp (tG hp (tG hp (tG (by omega) (tG (by omega) (tG (by omega) e))))))
theorem aT.col{k k1 q:Nat}{m out:LJ}(hq: ∀x∈m,q<x.length)(hm:m.length≤9)(hq9:q≤9)(ho:out.length≤100): ∀(t j i:Nat),i+t=m.length→t<j→
  aT.L2 k k1 j q i m out ((m.take i).map fun r=>r.getD q 0)=aT.L1 k k1 ((q+1:Nat):Int) m (out++ [m.map fun r=>r.getD q 0])
 |t,0,i,_,hj=>by omega
 |0,j+1,i,hi,_=>by
  have hw1:IntKind.i64.wrap ((q:Int)+1)=((q+1:Nat):Int):=by rw[w64 (by omega) (by omega)];omega
  have hap:(out++ [m.map fun r=>r.getD q 0]).length≤1099511627776:=by rw[List.length_append,List.length_singleton];omega
  rw[aT.gB,List.take_of_length_le (by omega)]
  simp only[de,bZ,fx,cm,hw1]
  exact tX (show¬(i:Int)<m.length by omega) (tG hap rfl)
 |t+1,j+1,i,hi,hj=>by
  have hlt:i<m.length:=by omega
  have hql:=hq (m.getD i []) (by rw[Pu.aj hlt];exact List.getElem_mem hlt)
  have hw1:IntKind.i64.wrap ((i:Int)+1)=((i+1:Nat):Int):=by rw[w64 (by omega) (by omega)];omega
  have q0:=Int.natCast_nonneg q
  have hap:(((m.take i).map fun r=>r.getD q 0)++ [(m.getD i []).getD q 0]).length≤1099511627776:=by
   rw[List.length_append,List.length_singleton,List.length_map,List.length_take];omega
  have ih:=aT.col (k:=k) (k1:=k1) hq hm hq9 ho t j (i+1) (by omega) (by omega)
  rw[Pu.take_succ hlt [],List.map_append]at ih
  rw[aT.gB]
  simp only[cD,cm,cH,eN,de,bZ,fx,Int.toNat_natCast,hw1]
  refine tG (by omega) (tG (Int.natCast_nonneg i) (tG hlt (tG hlt (tG hlt (tG q0 (tG hql (tG hlt (tG hql (tG hap ?_)))))))))
  exact ih
theorem aT.loop{k:Nat}{m:LJ}(hk:100≤k)(h:Pu.cM m=true)(h0:m.length≠0): ∀(t j q:Nat),q+t=(m.getD 0 []).length→t<j→
  aT.L1 k j q m ((List.range q).map fun j=>m.map fun r=>r.getD j 0)=some (Pu.lR m,true)
 |t,0,q,_,hj=>by omega
 |0,j+1,q,hq,_=>by
  have hp:0<m.length:=by omega
  have t0:(0:Int).toNat=0:=rfl
  rw[aT.cO,show q=(m.getD 0 []).length by omega]
  simp only[cD,cm,cH,eN,t0]
  exact tG (by omega) (tG hp (tG hp (tG hp (tX (by omega) rfl))))
 |t+1,j+1,q,hq,hj=>by
  have hp:0<m.length:=by omega
  have t0:(0:Int).toNat=0:=rfl
  have hM:=Pu.dq.1 h
  have h9:=hM.c9 (m.getD 0 []) (by rw[Pu.aj hp];exact List.getElem_mem hp)
  have e:=aT.col (k:=k) (k1:=j) (q:=q) (m:=m) (out:=(List.range q).map fun j=>m.map fun r=>r.getD j 0) (fun x hx=>by rw[hM.row x hx];omega) hM.r9 (by omega) (by simp;omega) m.length k 0 (by omega) (by have:=hM.r9;omega)
  have ih:=aT.loop hk h h0 t j (q+1) (by omega) (by omega)
  rw[List.range_succ,List.map_append]at ih
  rw[Int.natCast_zero,List.take_zero,List.map_nil]at e
  rw[aT.cO]
  simp only[cD,cm,cH,eN,t0]
  refine tG (by omega) (tG hp (tG hp (tG hp (tG (by omega) ?_))))
  rw[e]
  exact ih
theorem aT.is{k:Nat}{m:LJ}(hk:4194304+20≤k)(hm:m.length≤1048576)(hr: ∀x∈m,x.length≤1048576):aT k m=some (Pu.dM m):=by
 obtain⟨k,rfl⟩: ∃k',k=k'+1:=⟨k-1,by omega⟩
 rw[aT.eq]
 refine bE (bk.is (by omega) hm hr) ?_
 unfold Pu.dM
 have t0:(0:Int).toNat=0:=rfl
 cases h:Pu.cM m with
 |false=>rw[if_neg (fun e=>by cases e.1)];exact tM rfl
 |true=>
  refine tN ?_
  by_cases h0:m.length=0
  ·rw[if_neg (fun e=>e.2.1 h0)]
   exact tG (show(m.length:Int)=0 by omega) rfl
  ·have hp:0<m.length:=by omega
   refine tX (show¬(m.length:Int)=0 by omega) ?_
   simp only[cD,cm,cH,eN,t0]
   refine tG (by omega) (tG hp (tG hp (tG hp ?_)))
   by_cases h1:(m.getD 0 []).length=0
   ·rw[if_neg (fun e=>e.2.2 h1)]
    exact tG (show((m.getD 0 []).length:Int)=0 by omega) rfl
   ·have h9:=(Pu.gI h).2 (m.getD 0 []) (by rw[Pu.aj hp];exact List.getElem_mem hp)
    have e:=aT.loop (k:=k) (by omega) h h0 (m.getD 0 []).length k 0 (by omega) (by omega)
    rw[Int.natCast_zero]at e
    rw[if_pos (show True∧m.length≠0∧(m.getD 0 []).length≠0 from⟨trivial,h0,h1⟩)]
    refine tX (show¬((m.getD 0 []).length:Int)=0 by omega) ?_
    rw[aT.fT]
    exact e
theorem a9.loop{k:Nat}{p q:LI}{a b:LJ}(hk:4194304+1≤k)(hl:a.length=b.length)(ha:a.length≤1048576)(hr: ∀x∈a,x.length≤1048576): ∀(m j i:Nat),i+m=a.length→m<j→a9.L1 k j i p a q b=some (decide (a.drop i=b.drop i))
 |m,0,i,_,hj=>by omega
 |0,j+1,i,hi,_=>by
  rw[a9.cO]
  have e:i=a.length:=by omega
  subst e
  simp[hl]
 |m+1,j+1,i,hi,hj=>by
  rw[a9.cO]
  have h1:i<a.length:=by omega
  have h2:i<b.length:=by omega
  have ih:=a9.loop (k:=k) (p:=p) (q:=q) hk hl ha hr m j (i+1) (by omega) (by omega)
  rw[Int.natCast_succ]at ih
  have hx:(a.getD i []).length≤1048576:=by rw[Pu.aj h1 []];exact hr _ (List.getElem_mem h1)
  have hs:=ct.is (k:=k) (b:=b.getD i []) hk hx
  rw[Pu.drop_cons h1 [],Pu.drop_cons h2 []]
  by_cases e:a.getD i []=b.getD i []
  ·rw[e]at hs
   simp (disch:=omega) only[↓aB,sss,if_true,if_false,h1,h2,hs,ih,e,List.cons.injEq,true_and,false_and,eq_self]
  ·simp (disch:=omega) only[↓aB,sss,if_true,if_false,h1,h2,hs,ih,e,List.cons.injEq,true_and,false_and]
theorem a9.is{k:Nat}{a b:LI×LJ}(hk:4194304+2≤k)(h1:a.1.length≤1048576)(ha:a.2.length≤1048576)(hr: ∀x∈a.2,x.length≤1048576):a9 k a b=some (decide (a=b)):=by
 obtain⟨k,rfl⟩: ∃k',k=k'+1:=⟨k-1,by omega⟩
 obtain⟨a1,a2⟩:=a
 obtain⟨b1,b2⟩:=b
 have hs:=ct.is (k:=k) (a:=a1) (b:=b1) (by omega) h1
 rw[a9.eq,hs,cQ,a9.fT]
 by_cases e1:a1=b1
 ·subst e1
  by_cases hl:a2.length=b2.length
  ·have h:=a9.loop (k:=k) (p:=a1) (q:=a1) (a:=a2) (b:=b2) (by omega) hl ha hr a2.length k 0 (by omega) (by simp only at ha;omega)
   rw[Int.natCast_zero]at h
   simp only[List.drop_zero]at h
   have hl':(a2.length:Int)=b2.length:=by omega
   simp only[↓aB,sss,if_true,if_false,hl',h,Prod.mk.injEq,true_and,eq_self]
  ·have hne:a2≠b2:=fun e=>hl (by rw[e])
   have hl': ¬(a2.length:Int)=b2.length:=by omega
   simp[hl',hne]
 ·simp[e1]
theorem cd.loop{k:Nat}{a b:LI}(hl:a.length=b.length)(ha:a.length≤1048576): ∀(m j i:Nat),i+m=a.length→m<j→cd.L0 k j i a b=some (decide (a.drop i=b.drop i))
 |m,0,i,_,hj=>by omega
 |0,j+1,i,hi,_=>by
  rw[cd.bp]
  have e:i=a.length:=by omega
  subst e
  simp[hl]
 |m+1,j+1,i,hi,hj=>by
  rw[cd.bp]
  have h1:i<a.length:=by omega
  have h2:i<b.length:=by omega
  have ih:=cd.loop (k:=k) hl ha m j (i+1) (by omega) (by omega)
  rw[Int.natCast_succ]at ih
  rw[Pu.drop_cons h1 0,Pu.drop_cons h2 0]
  by_cases e:a.getD i 0=b.getD i 0<;>simp (disch:=omega) only[aB,nI,nk,jZ,cm,cH,cD,eN,bZ,de,mO,mP,w64,Int.toNat_natCast,decide_eq_true_eq,Int.ofNat_lt,h1,h2,if_true,Int.natCast_nonneg,decide_true,ih,e,List.cons.injEq,true_and,false_and,decide_false,Bool.not_true,Bool.not_false,if_false,Bool.false_eq_true]
theorem cd.is{k:Nat}{a b:LI}(hk:4194304+1≤k)(ha:a.length≤1048576):cd k a b=some (decide (a=b)):=by
 obtain⟨k,rfl⟩: ∃k',k=k'+1:=⟨k-1,by omega⟩
 rw[cd.eq]
 by_cases hl:a.length=b.length
 ·have h:=cd.loop (k:=k) hl ha a.length k 0 (by omega) (by omega)
  rw[Int.natCast_zero]at h
  simp only[List.drop_zero]at h
  have hl':(a.length:Int)=b.length:=by omega
  simp only[aB,mO,mP,cH,cm,hl',decide_true,Bool.not_true,Bool.false_eq_true,if_false,h]
 ·have hne:a≠b:=fun e=>hl (by rw[e])
  have hl': ¬(a.length:Int)=b.length:=by omega
  simp[hl',hne]
theorem b6.loop{k:Nat}{L:LJ}(hk:4194304+10≤k)(hl:L.length≤1000)(hL: ∀t∈L,t.length≤1048576): ∀(m j i:Nat),i+m=L.length→m<j→b6.L0 k j i L L=some true
 |m,0,i,_,hj=>by omega
 |0,j+1,i,hi,_=>by
  rw[b6.bp]
  exact tX (show¬(i:Int)<L.length by omega) rfl
 |m+1,j+1,i,hi,hj=>by
  have hlt:i<L.length:=by omega
  have hw:IntKind.i64.wrap ((i:Int)+1)=((i+1:Nat):Int):=w64 (by omega) (by omega)
  have he:=cd.is (k:=k) (a:=L.getD i []) (b:=L.getD i []) (by omega) (hL _ (by rw[Pu.aj hlt];exact List.getElem_mem _))
  rw[decide_eq_true rfl]at he
  have ih:=b6.loop hk hl hL m j (i+1) (by omega) (by omega)
  rw[b6.bp]
  simp only[cD,eN,de,bZ,hw,Int.toNat_natCast]
  have h0:(0:Int)≤(i:Int):=by omega
  exact tG (show(i:Int)<L.length by omega) (tG h0 (tG hlt (tG hlt (tG h0 (tG hlt (tG hlt (tG hlt (tG hlt (bE he (tN ih))))))))))
theorem b6.self{k:Nat}{L:LJ}(hk:4194304+11≤k)(hl:L.length≤1000)(hL: ∀t∈L,t.length≤1048576):b6 k L L=some true:=by
 obtain⟨k,rfl⟩: ∃k',k=k'+1:=⟨k-1,by omega⟩
 rw[b6.eq]
 exact tE rfl (b6.loop (by omega) hl hL L.length k 0 (by omega) (by omega))
theorem iy.is{k:Nat}{m:LJ}(hk:4194304+20≤k)(hm:m.length≤1048576)(hr: ∀x∈m,x.length≤1048576):iy k m=some (Pu.qk m):=by
 obtain⟨k,rfl⟩: ∃k',k=k'+1:=⟨k-1,by omega⟩
 rw[iy.eq]
 exact bE (aD.is (by omega) hm hr) rfl
theorem fM.is{k:Nat}{m:LJ}(hk:4194304+20≤k)(hm:m.length≤1048576)(hr: ∀x∈m,x.length≤1048576):fM k m=some (Pu.kO m):=by
 obtain⟨k,rfl⟩: ∃k',k=k'+1:=⟨k-1,by omega⟩
 rw[fM.eq]
 exact bE (aD.is (by omega) hm hr) rfl
theorem bc.at{k:Nat}{p:LI}(hk:4194304+200≤k):bc (k+1) p=some true:=by
 rw[bc.eq]
 refine bE (mA.is (by omega)) ?_
 by_cases c:(1048576:Int)<p.length
 ·rw[decide_eq_true c];exact tY rfl
 ·rw[decide_eq_false c]
  have hp:p.length≤1048576:=by omega
  obtain⟨m,e1,hm⟩:=aJ.ok (k:=k) (b:=p) (by omega) hp
  obtain⟨⟨a,q,r,s⟩,e2,ha,hq⟩:=au.ok (k:=k) (b:=p) (by omega) hp
  obtain⟨t,e3,ht⟩:=aO.ok (k:=k) (b:=p) (by omega) hp
  have ha:Pu.gC a:=ha
  have hq:Pu.gC q:=hq
  have self: ∀{u:Pu.Tab},Pu.gC u→a9 k u u=some true:=fun{u} h=>by
   have:=a9.is (k:=k) (a:=u) (b:=u) (by omega) h.1 h.2.1 h.2.2
   rw[decide_eq_true rfl]at this
   exact this
  have ints: ∀{l:LI},l.length≤2000→cd k l l=some true:=fun{l} h=>by
   have:=cd.is (k:=k) (a:=l) (b:=l) (by omega) (by omega)
   rw[decide_eq_true rfl]at this
   exact this
  have lists: ∀{l:LJ},l.length≤9→(∀x∈l,x.length≤9)→b6 k l l=some true:=fun{l} h h'=>b6.self (by omega) (by omega) fun x hx=>by have:=h' x hx;omega
  have pm: ∀{l:LJ},l.length≤9→(∀x∈l,x.length≤9)→cY k l=some (Pu.bN l):=fun{l} h h'=>cY.is (by omega) (by omega) fun x hx=>by have:=h' x hx;omega
  have hm1:m.length≤1048576:=by have:=hm.1;omega
  have hm2: ∀x∈m,x.length≤1048576:=fun x hx=>by have:=hm.2 x hx;omega
  have ht1:t.length≤1048576:=by have:=ht.1;omega
  have ht2: ∀x∈t,x.length≤1048576:=fun x hx=>by have:=ht.2 x hx;omega
  have f1:=pm hm.1 hm.2
  have f2:=aX.is (k:=k) (m:=m) (by omega) hm1 hm2
  obtain⟨o1,o2⟩:=Pu.zz m
  have g1:=aH.is (k:=k) (p:=a) (q:=q) (r:=r) (c:=s) (by omega) ha hq
  have g2:=aL.is (k:=k) (p:=a) (q:=q) (r:=r) (c:=s) (by omega) ha hq
  have gl:=Pu.u7 (p:=a) (q:=q) (r:=r) (c:=s)
  have t1:=aU.is (k:=k) (m:=t) (by omega) ht1 ht2
  have t2:=aT.is (k:=k) (m:=t) (by omega) ht1 ht2
  have tl:=Pu.DK t
  have i1:=bw.is (k:=k) (m:=m) (by omega) hm1 hm2
  have i2:=bk.is (k:=k) (m:=m) (by omega) hm1 hm2
  have w1:=cI.is (k:=k) (m:=m) (by omega) hm1 hm2
  have w2:=iy.is (k:=k) (m:=m) (by omega) hm1 hm2
  have w3:=bT.is (k:=k) (m:=m) (by omega) hm1 hm2
  have w4:=fM.is (k:=k) (m:=m) (by omega) hm1 hm2
  have wl:=Pu.EH m
  have J2:bc.J2 k (Pu.dM t).2 t (Pu.dM t).1=some true:=by
   rw[bc.kx]
   cases hb:(Pu.dM t).2 with
   |false=>exact tM rfl
   |true=>
    obtain⟨c1,c2⟩:=Pu.Ju hb
    have j1:=pm tl.1 tl.2
    have j2:=pm ht.1 ht.2
    obtain⟨u1,u2⟩:=Pu.zz t
    rw[c2]at j1
    have h2:(Pu.bN t).2.2=true:=by rw[Pu.jX c1]
    refine tN (bE j1 (bE j2 (tY ?_)))
    rw[h2]
    exact tY (bE (self u2) (tY (bE (self u1) rfl)))
  have J1:bc.J1 k (Pu.cX a q r s).2 (Pu.dM t).2 (Pu.cX a q r s).1 t (Pu.dM t).1 a.1 a.2 q.1 q.2=some true:=by
   rw[bc.fb]
   cases hb:(Pu.cX a q r s).2 with
   |false=>exact tF J2
   |true=>
    have j1:=pm gl.1 gl.2
    rw[Pu.H7 hb]at j1
    exact tY (bE j1 (tN (bE (self ha) (tN (bE (self hq) (tN J2))))))
  have J0:bc.J0 k (Pu.bN m).2.2 (Pu.cX a q r s).2 (Pu.dM t).2 m (Pu.cX a q r s).1 t (Pu.dM t).1 (Pu.bN m).1.1 (Pu.bN m).1.2 (Pu.bN m).2.1.1 (Pu.bN m).2.1.2 a.1 a.2 q.1 q.2=some true:=by
   rw[bc.fT]
   have t0:(0:Int).toNat=0:=rfl
   cases hb:Pu.cM m with
   |false=>
    have:(Pu.bN m).2.2=false:=by unfold Pu.bN;rw[hb];rfl
    rw[this];exact tF J1
   |true=>
    have:(Pu.bN m).2.2=true:=by rw[Pu.jX hb]
    rw[this]
    refine tY ?_
    by_cases h0:0<m.length
    ·refine tG (show(0:Int)<m.length by omega) ?_
     simp only[cD,cm,cH,eN,t0]
     refine tG (by omega) (tG h0 (tG h0 (tG h0 ?_)))
     by_cases h1:0<(m.getD 0 []).length
     ·refine tG (show(0:Int)<(m.getD 0 []).length by omega) (tG (by omega) (tG h0 (tG h0 (tG h0 ?_))))
      have j1:=aH.is (k:=k) (p:=(Pu.bN m).1) (q:=(Pu.bN m).2.1) (r:=(m.length:Nat)) (c:=((m.getD 0 []).length:Nat)) (by omega) o1 o2
      rw[Pu.Jt hb h0 h1]at j1
      obtain⟨r1,r2,r3⟩:=Pu.qb (Pu.dq.1 hb).pok (Pu.l6 m 0)
      have k1:=aK.is (k:=k) (t:=(Pu.bN m).1) (by omega) o1.1 o1.2.1 o1.2.2
      have k2:=aK.is (k:=k) (t:=(Pu.bN m).2.1) (by omega) o2.1 o2.2.1 o2.2.2
      rw[Pu.jX hb]at k1 k2
      simp only[Pu.aP,Bool.and_eq_true]at r1 r3
      rw[r3.1]at k1
      rw[r1.1]at k2
      refine bE j1 (tN (bE (lists hm.1 hm.2) (tN ?_)))
      rw[Pu.jX hb]
      exact bE k1 (tN (bE k2 (tN J1)))
     ·exact tX (show¬(0:Int)<(m.getD 0 []).length by omega) J1
    ·exact tX (show¬(0:Int)<m.length by omega) J1
  exact tF (bE e1 (bE f1 (bE f2 (bE e2 (bE g1 (bE g2 (bE e3 (bE t1 (bE t2 (tB (bE (self o1) (tN (bE (self o2) (tN (tB (bE (lists gl.1 gl.2) (tN (tB (bE (lists tl.1 tl.2) (tN (bE i1 (bE i2 (tB (bE w1 (bE w2 (bE (ints (by omega)) (tN (bE w3 (bE w4 (bE (ints (by omega)) (tN J0)))))))))))))))))))))))))))))))
theorem bc.is{p:LI}(h1:p.length≤maxLen): ∃k,bc k p=some true:=⟨_,bc.at (Nat.le_refl (4194304+200))⟩
end Go.Am.Seat
