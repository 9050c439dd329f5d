/- What the functions make of data, as plain words; each holds for all data within the bounds that it names. -/
import Derived.Test.YtloognjnfelgfaaGreatDoorEqsFnExamples
import Derived.Test.YtloognjnfelgfaaGreatDoorPu
set_option linter.unusedSimpArgs false
set_option linter.unusedVariables false
set_option linter.unnecessarySimpa false
set_option linter.unusedSectionVars false
namespace Go.Am.Seat
open Go Go.Am Go.Am.Pu
attribute [local instance] D.real
set_option linter.unusedSimpArgs false
set_option linter.unusedVariables false
set_option maxRecDepth 4000
theorem lQ.is{k:Nat}{p:LI}(hk:1≤k):lQ k p=some (decide ((1048576:Int)<p.length)):=by
 obtain⟨k,rfl⟩: ∃k',k=k'+1:=⟨k-1,by omega⟩
 rw[lQ.eq]
 rfl
theorem dm.is{k:Nat}{i h:Int}{b:LI}(hk:1≤k)(hb:b.length≤1048576)(hi:0≤i)(hi':i≤b.length):
  ∃r i' h',dm k i h b=some (r,((),(i',h')))∧0≤r∧r≤255∧0≤i'∧i'≤b.length:=by
 obtain⟨k,rfl⟩: ∃k',k=k'+1:=⟨k-1,by omega⟩
 rw[dm.eq]
 have e33:(0:Int)≤33:=by decide
 have e45:(0:Int)≤45:=by decide
 by_cases hlt:i<b.length
 ·have hn:i.toNat<b.length:=by omega
  have ew:IntKind.i64.wrap (i+1)=i+1:=w64 (by omega) (by omega)
  refine⟨_,i+1,_,by simp only[↓aN,sss,if_true,if_false,e33,e45,hlt,hi,hn,ew];rfl,(Pu.xV _).1,(Pu.xV _).2,?_,?_⟩
  ·omega
  ·omega
 ·exact⟨_,_,_,by simp only[↓aN,sss,if_true,if_false,e33,e45,hlt];rfl,(Pu.xV _).1,(Pu.xV _).2,hi,hi'⟩
theorem bo.is{k:Nat}{n i h:Int}{b:LI}(hk:2≤k)(hb:b.length≤1048576)(hi:0≤i)(hi':i≤b.length)(hn:n≤256):
  ∃r i' h',bo k n i h b=some (r,((),(i',h')))∧0≤r∧(n≤0→r=0)∧(0<n→r<n)∧0≤i'∧i'≤b.length:=by
 obtain⟨k,rfl⟩: ∃k',k=k'+1:=⟨k-1,by omega⟩
 rw[bo.eq]
 by_cases h0:n≤0
 ·exact⟨0,i,h,by simp only[↓aN,sss,if_true,if_false,h0],by omega,fun _=>rfl,fun h=>by omega,hi,hi'⟩
 ·obtain⟨r,i',h',e,h1,h2,h3,h4⟩:=dm.is (k:=k) (h:=h) (b:=b) (by omega) hb hi hi'
  have hne: ¬n=0:=by omega
  refine⟨r.tmod n,i',h',by simp only[↓aN,sss,if_true,if_false,h0,hn,e,hne];rfl,Int.tmod_nonneg _ h1,fun h=>by omega,fun _=>Int.tmod_lt_of_pos _ (by omega),h3,h4⟩
theorem an.loop{k:Nat}{b:LI}{e:Int}(hb:b.length≤1048576): ∀(m j i:Nat) (h:Int),i+m=4000→m<j→ ∃h',an.L0 k j h i e b=an.J2 k h' e b
 |m,0,i,h,_,hj=>by omega
 |0,j+1,i,h,hi,_=>by
  rw[an.bm,Pu.mH,Pu.mH]
  have h4: ¬(i:Int)<4000:=by omega
  refine⟨h,?_⟩
  rw[if_neg h4,ite_self]
 |m+1,j+1,i,h,hi,hj=>by
  rw[an.bm,Pu.mH,Pu.mH]
  have h4:(i:Int)<4000:=by omega
  by_cases hlt:i<b.length
  ·have ew:IntKind.i64.wrap ((i:Int)+1)=((i+1:Nat):Int):=by rw[w64 (by omega) (by omega)];omega
   have hlt':(i:Int)<D.ofN (D.len b):=by show(i:Int)<(b.length:Int);omega
   rw[if_pos hlt',if_pos h4,an.fJ]
   obtain⟨h',ih⟩:=an.loop (k:=k) (e:=e) hb m j (i+1) (D.andI .i64 (D.wrap .i64 (D.add (D.wrap .i64 (D.add (D.wrap .i64 (D.mul h 131)) (D.wrap .i64 (D.rd b (D.nat (i:Int)) 0)))) 7)) 1073741823) (by omega) (by omega)
   refine⟨h',?_⟩
   have t1:D.le 0 (i:Int)=true:=decide_eq_true (by omega)
   have t2:D.ltN (D.nat (i:Int)) (D.len b)=true:=decide_eq_true (by show(i:Int).toNat<b.length;omega)
   rw[aN,if_pos t1,aN,if_pos t2,aN,if_pos t2]
   have ew':D.wrap .i64 (D.add (i:Int) 1)=((i+1:Nat):Int):=ew
   rw[ew']
   exact ih
  ·have hlt': ¬(i:Int)<D.ofN (D.len b):=by show¬(i:Int)<(b.length:Int);omega
   exact⟨h,by rw[if_neg hlt']⟩
theorem an.ok{k:Nat}{b:LI}(hk:4194304+40≤k)(hb:b.length≤1048576):Pu.Ok (an k b) fun _=>True:=by
 obtain⟨k,rfl⟩: ∃k',k=k'+2:=⟨k-2,by omega⟩
 rw[an.eq]
 obtain⟨h',e⟩:=an.loop (k:=k) (e:=0) hb 4000 k 0 (D.wrap .i64 (D.add 26583 (D.ofN (D.len b)))) (by omega) (by omega)
 rw[Int.natCast_zero]at e
 rw[e,an.jW]
 obtain⟨r,i',h'',e1,_⟩:=bo.is (k:=k+1) (n:=9) (i:=0) (h:=h') (b:=b) (by omega) hb (by omega) (by omega) (by omega)
 exact Pu.Ok.cI e1 (Pu.Ok.ret trivial)
theorem bI.loop{k:Nat}{l n:Int}{b:LI}(hk:3≤k)(hb:b.length≤1048576)(hl:l≤256)(hn:n≤100): ∀(m j i:Nat) (p h:Int) (out:LI),n≤(i:Int)+m→m<j→out.length≤i→i≤100→0≤p→p≤b.length→Pu.Ok (bI.L0 k j l n i p h out b) fun r=>r.1.length≤200∧0≤r.2.2.1∧r.2.2.1≤b.length
 |m,0,i,p,h,out,_,hj,_,_,_,_=>by omega
 |m,j+1,i,p,h,out,hm,hj,ho,hi,h0,h1=>by
  rw[bI.bm]
  by_cases c:(i:Int)<n
  ·obtain⟨r1,i1,h1',e1,a1,a2,a3,a4,a5⟩:=bo.is (k:=k) (n:=l) (h:=h) (b:=b) (by omega) hb h0 h1 hl
   obtain⟨m,rfl⟩: ∃m',m=m'+1:=⟨m-1,by omega⟩
   have hws:IntKind.i64.wrap ((i:Int)+1)=((i+1:Nat):Int):=by rw[w64 (by omega) (by omega)];omega
   obtain⟨y,y1,y2⟩:=bI.loop (k:=k) hk hb hl hn m j (i+1) i1 h1' (out++ [IntKind.i64.wrap (1+r1)]) (by omega) (by omega) (by rw[List.length_append,List.length_singleton];omega) (by omega) a4 a5
   have hap:(out++ [IntKind.i64.wrap (1+r1)]).length≤1099511627776:=by rw[List.length_append,List.length_singleton];omega
   simp only[bT,a8,bR,bL,hws]
   exact⟨y,tG c (bE e1 (tG hap y1)),y2⟩
  ·exact⟨_,tX c rfl,by dsimp only;omega,h0,h1⟩
theorem bI.ok{k:Nat}{l i h:Int}{b:LI}(hk:4194304+5≤k)(hb:b.length≤1048576)(hl:l≤256)(hi:0≤i)(hi':i≤b.length):Pu.Ok (bI k 7 l i h b) fun r=>r.1.length≤200∧0≤r.2.2.1∧r.2.2.1≤b.length:=by
 obtain⟨k,rfl⟩: ∃k',k=k'+1:=⟨k-1,by omega⟩
 have hw:D.wrap .i64 (D.add 7 1)=8:=by show IntKind.i64.wrap (7+1)=8;rw[w64 (by omega) (by omega)];rfl
 obtain⟨r1,i1,h1,e1,a1,a2,a3,a4,a5⟩:=bo.is (k:=k) (n:=8) (h:=h) (b:=b) (by omega) hb hi hi' (by omega)
 have:=a3 (by omega)
 obtain⟨y,y1,y2⟩:=bI.loop (k:=k) (l:=l) (n:=r1) (b:=b) (by omega) hb hl (by omega) 8 k 0 i1 h1 [] (by omega) (by omega) (by simp) (by omega) a4 a5
 rw[Int.natCast_zero]at y1
 rw[bI.eq,hw]
 exact⟨y,bE e1 y1,y2⟩
theorem eL.is{k:Nat}{n i h:Int}{b:LI}(hk:3≤k)(hb:b.length≤1048576)(hi:0≤i)(hi':i≤b.length)(hn:n≤256):
  ∃r i' h',eL k n i h b=some (r,((),(i',h')))∧0≤i'∧i'≤b.length:=by
 obtain⟨k,rfl⟩: ∃k',k=k'+1:=⟨k-1,by omega⟩
 rw[eL.eq]
 obtain⟨r,i',h',e,h1,h2,h3,h4,h5⟩:=bo.is (k:=k) (h:=h) (b:=b) (by omega) hb hi hi' hn
 rw[e]
 exact⟨_,_,_,rfl,h4,h5⟩
theorem fP.is{k:Nat}{x lo hi:Int}(hk:1≤k):fP k x lo hi=some (Pu.within x lo hi):=by
 obtain⟨k,rfl⟩: ∃k',k=k'+1:=⟨k-1,by omega⟩
 rw[fP.eq]
 by_cases h:lo≤x<;>simp[Pu.within,h]
theorem aS.loop{k:Nat}{w:LI}(hk:1≤k)(hw:w.length≤1048576): ∀(m j i:Nat),i+m=w.length→m<j→aS.L0 k j i w=some (decide (w.length≤9)&&(w.drop i).all fun n=>Pu.within n 1 9)
 |m,0,i,_,hj=>by omega
 |0,j+1,i,hi,_=>by
  rw[aS.bm]
  have hn: ¬(i:Int)<w.length:=by omega
  refine tX hn ?_
  rw[List.drop_of_length_le (by omega)]
  simp
  omega
 |m+1,j+1,i,hi,hj=>by
  have hlt:i<w.length:=by omega
  have hn:(i:Int)<w.length:=by omega
  have ih:=aS.loop hk hw m j (i+1) (by omega) (by omega)
  have hws:IntKind.i64.wrap ((i:Int)+1)=((i+1:Nat):Int):=by rw[w64 (by omega) (by omega)];omega
  rw[aS.bm,Pu.drop_cons hlt 0]
  simp only[bV,bL,bU,dj,bT,a8,Int.toNat_natCast,hws]
  refine tG hn (tG (Int.natCast_nonneg i) (tG hlt (tG hlt (bE (fP.is (by omega)) ?_))))
  cases c:Pu.within (w.getD i 0) 1 9 with
  |false=>refine tM ?_;simp only[List.all_cons,c,Bool.false_and,Bool.and_false]
  |true=>refine tN ?_;rw[ih,List.all_cons,c,Bool.true_and]
theorem aS.is{k:Nat}{w:LI}(hk:4194304+2≤k)(hw:w.length≤1048576):aS k w=some (Pu.isWord w):=by
 obtain⟨k,rfl⟩: ∃k',k=k'+1:=⟨k-1,by omega⟩
 have h:=aS.loop (k:=k) (by omega) hw w.length k 0 (by omega) (by omega)
 rw[Int.natCast_zero,List.drop_zero]at h
 rw[aS.eq]
 exact h
theorem eA.is{k:Nat}{b:Bool}(hk:1≤k):eA k b=some (if b=true then 1 else 0):=by
 obtain⟨k,rfl⟩: ∃k',k=k'+1:=⟨k-1,by omega⟩
 rw[eA.eq]
 cases b<;>rfl
theorem aj.inner{k k1 i:Nat}{w out:LI}(hk:1≤k)(hw:w.length≤2000)(hi:i<w.length)(ho:out.length≤4000): ∀(m j q:Nat) (n:Int),q+m=w.length→m<j→n=((Pu.pc w i q+1:Nat):Int)→aj.L2 k k1 j i n q w out=aj.L0 k k1 ((i+1:Nat):Int) w (out++ [((Pu.plc w i+1:Nat):Int)])
 |m,0,q,n,_,hj,_=>by omega
 |0,j+1,q,n,hq,_,hn1=>by
  rw[aj.zG]
  have hn: ¬(q:Int)<w.length:=by omega
  have hws:IntKind.i64.wrap ((i:Int)+1)=((i+1:Nat):Int):=by rw[w64 (by omega) (by omega)];omega
  have hap:(out++ [n]).length≤1099511627776:=by rw[List.length_append,List.length_singleton];omega
  simp only[bL,bU,bT,a8,hws,bR]
  have e:Pu.plc w i=Pu.pc w i q:=by rw[←Pu.F1,show w.length=q by omega]
  rw[e,←hn1]
  exact tX hn (tG hap rfl)
 |m+1,j+1,q,n,hq,hj,hn1=>by
  have hlt:q<w.length:=by omega
  have hn:(q:Int)<w.length:=by omega
  have hle:=Pu.GC w i q
  have hws:IntKind.i64.wrap ((q:Int)+1)=((q+1:Nat):Int):=by rw[w64 (by omega) (by omega)];omega
  have hJ: ∀v:Int,0≤v→v≤1→((Pu.pc w i (q+1):Nat):Int)=((Pu.pc w i q:Nat):Int)+v→aj.J3 k k1 j i (IntKind.i64.wrap (n+v)) q w out=aj.L0 k k1 ((i+1:Nat):Int) w (out++ [((Pu.plc w i+1:Nat):Int)]):=fun v hv0 hv e=>by
   rw[aj.vL,bT,a8,hws]
   exact aj.inner hk hw hi ho m j (q+1) _ (by omega) (by omega) (by rw[w64 (by omega) (by omega),hn1];omega)
  rw[aj.zG]
  simp only[bV,bL,bU,dj,Int.toNat_natCast]
  by_cases c:w.getD q 0<w.getD i 0
  ·exact tG hn (tG (Int.natCast_nonneg q) (tG hlt (tG hlt (tG (Int.natCast_nonneg i) (tG hi (tG hi (tG c (bE (eA.is hk) (hJ 1 (by decide) (by decide) (by rw[Pu.GA c];rfl))))))))))
  ·by_cases c2:w.getD q 0=w.getD i 0
   ·have e:=hJ (if decide ((q:Int)<(i:Int))=true then 1 else 0) (by split<;>decide) (by split<;>decide) (by
     rw[Pu.F6 c2]
     cases decide ((q:Int)<(i:Int))with
     |true=>rfl
     |false=>exact(Int.add_zero _).symm)
    exact tG hn (tG (Int.natCast_nonneg q) (tG hlt (tG hlt (tG (Int.natCast_nonneg i) (tG hi (tG hi (tX c (tG (Int.natCast_nonneg q) (tG hlt (tG hlt (tG (Int.natCast_nonneg i) (tG hi (tG hi (tG c2 (bE (eA.is hk) e)))))))))))))))
   ·exact tG hn (tG (Int.natCast_nonneg q) (tG hlt (tG hlt (tG (Int.natCast_nonneg i) (tG hi (tG hi (tX c (tG (Int.natCast_nonneg q) (tG hlt (tG hlt (tG (Int.natCast_nonneg i) (tG hi (tG hi (tX c2 (bE (eA.is hk) (hJ 0 (by decide) (by decide) (by rw[Pu.GF c c2,Int.add_zero])))))))))))))))))
theorem aj.outer{k:Nat}{w:LI}(hk:4194304+10≤k)(hw:w.length≤2000)(h:Pu.isWord w=true): ∀(m j i:Nat) (out:LI),i+m=w.length→m<j→out.length≤i→aj.L0 k j i w out=some (out++(List.range' i m).map fun i=>((Pu.plc w i+1:Nat):Int))
 |m,0,i,out,_,hj,_=>by omega
 |0,j+1,i,out,hi,_,ho=>by
  rw[aj.bm]
  have hn: ¬(i:Int)<w.length:=by omega
  rw[List.range'_zero,List.map_nil,List.append_nil]
  exact tX hn rfl
 |m+1,j+1,i,out,hi,hj,ho=>by
  have hlt:i<w.length:=by omega
  have hn:(i:Int)<w.length:=by omega
  have hw2:=aS.is (k:=k) (w:=w) (by omega) (by omega)
  rw[h]at hw2
  have e:=aj.inner (k:=k) (k1:=j) (w:=w) (out:=out) (by omega) hw hlt (by omega) w.length k 0 1 (by omega) (by omega) rfl
  have y1:=aj.outer hk hw h m j (i+1) (out++ [((Pu.plc w i+1:Nat):Int)]) (by omega) (by omega) (by rw[List.length_append,List.length_singleton];omega)
  rw[Int.natCast_zero]at e
  rw[aj.bm]
  refine tG hn (bE hw2 (tY ?_))
  rw[aj.fJ,e,y1,List.range'_succ,List.map_cons,List.append_assoc]
  rfl
theorem aj.is{k:Nat}{w:LI}(hk:4194304+12≤k)(hw:w.length≤2000):aj k w=some (Pu.Fx w):=by
 obtain⟨k,rfl⟩: ∃k',k=k'+1:=⟨k-1,by omega⟩
 rw[aj.eq]
 unfold Pu.Fx
 cases h:Pu.isWord w with
 |true=>
  have h2:=aj.outer (k:=k) (by omega) hw h w.length k 0 [] (by omega) (by omega) (by simp)
  rw[Int.natCast_zero]at h2
  rw[h2,if_pos rfl,List.range_eq_range']
  rfl
 |false=>
  have h2:=aS.is (k:=k) (w:=w) (by omega) (by omega)
  rw[h]at h2
  obtain⟨j,rfl⟩: ∃j,k=j+1:=⟨k-1,by omega⟩
  have hn:(0:Int)<w.length:=by
   cases w with
   |nil=>cases h
   |cons a l=>simp only[List.length_cons];omega
  rw[aj.bm,if_neg (by decide)]
  exact tG hn (bE h2 (tF rfl))
theorem aj.ok{k:Nat}{w:LI}(hk:4194304+12≤k)(hw:w.length≤1000):Pu.Ok (aj k w) fun r=>r.length≤1000:=
 ⟨_,aj.is hk (by omega),by
  unfold Pu.Fx
  cases h:Pu.isWord w with
  |true=>rw[if_pos rfl,List.length_map,List.length_range];exact hw
  |false=>exact Nat.zero_le _⟩
theorem fc.ok{k:Nat}{i h:Int}{b:LI}(hk:4194304+20≤k)(hb:b.length≤1048576)(hi:0≤i)(hi':i≤b.length):Pu.Ok (fc k i h b) fun r=>r.1.length≤1000∧0≤r.2.2.1∧r.2.2.1≤b.length:=by
 obtain⟨k,rfl⟩: ∃k',k=k'+1:=⟨k-1,by omega⟩
 obtain⟨r0,i0,h0,e0,a1,a2,a3,a4,a5⟩:=bo.is (k:=k) (n:=4) (h:=h) (b:=b) (by omega) hb hi hi' (by omega)
 have hr:=a3 (by omega)
 have hw:D.wrap .i64 (D.add 2 r0)=2+r0:=by show IntKind.i64.wrap (2+r0)=2+r0;exact w64 (by omega) (by omega)
 obtain⟨w,w1,w2,w3,w4⟩:=bI.ok (k:=k) (l:=2+r0) (i:=i0) (h:=h0) (b:=b) (by omega) hb (by omega) a4 a5
 obtain⟨r2,i2,h2,e2,b4,b5⟩:=eL.is (k:=k) (n:=3) (i:=w.2.2.1) (h:=w.2.2.2) (b:=b) (by omega) hb w3 w4 (by omega)
 obtain⟨s,s1,s2⟩:=aj.ok (k:=k) (w:=w.1) (by omega) (by omega)
 rw[fc.eq]
 cases r2 with
 |false=>
  refine⟨(w.1,((),(i2,h2))),bE e0 ?_,by dsimp only;omega,b4,b5⟩
  simp only[hw]
  exact bE w1 (bE e2 (tF rfl))
 |true=>
  refine⟨(s,((),(i2,h2))),bE e0 ?_,s2,b4,b5⟩
  simp only[hw]
  exact bE w1 (bE e2 (tY (bE s1 rfl)))
theorem dJ.is{k:Nat}{l:LI}{i h:Int}{b:LI}(hk:3≤k)(hb:b.length≤1048576)(hi:0≤i)(hi':i≤b.length)(hl:0<l.length)(hl':l.length≤256):
  ∃r i' h',dJ k i h l b=some (r,((),(i',h')))∧r∈l∧0≤i'∧i'≤b.length:=by
 obtain⟨k,rfl⟩: ∃k',k=k'+1:=⟨k-1,by omega⟩
 rw[dJ.eq]
 obtain⟨r,i',h',e,h1,h2,h3,h4,h5⟩:=bo.is (k:=k) (n:=l.length) (h:=h) (b:=b) (by omega) hb hi hi' (by omega)
 have h3:=h3 (by omega)
 have hn:r.toNat<l.length:=by omega
 refine⟨l.getD r.toNat 0,i',h',?_,?_,h4,h5⟩
 ·simp only[↓aN,sss,if_true,if_false,e,h1,hn]
 ·rw[Pu.aB hn 0];exact List.getElem_mem hn
theorem bD.loop{k:Nat}{p h:Int}{b:LI}(hp:0≤p∧p≤b.length): ∀(m j:Nat) (out:LI),10≤out.length+m→m<j→out.length≤1000→Pu.Ok (bD.L0 k j out p h b) fun r=>r.1.length≤1010∧0≤r.2.2.1∧r.2.2.1≤b.length
 |m,0,out,_,hj,_=>by omega
 |m,j+1,out,hm,hj,ho=>by
  rw[bD.bm]
  by_cases c:(out.length:Int)<10
  ·obtain⟨m,rfl⟩: ∃m',m=m'+1:=⟨m-1,by omega⟩
   have hap:(out++ [1]).length≤1099511627776:=by rw[List.length_append,List.length_singleton];omega
   obtain⟨y,y1,y2⟩:=bD.loop (k:=k) (h:=h) hp m j (out++ [1]) (by rw[List.length_append,List.length_singleton];omega) (by omega) (by rw[List.length_append,List.length_singleton];omega)
   exact⟨y,tG c (tG hap y1),y2⟩
  ·exact⟨_,tX c rfl,by dsimp only;omega,hp.1,hp.2⟩
theorem bD.okI{k:Nat}{i h:Int}{b:LI}(hk:4194304+30≤k)(hb:b.length≤1048576)(hi:0≤i)(hi':i≤b.length):Pu.Ok (bD k i h b) fun r=>r.1.length≤1010∧0≤r.2.2.1∧r.2.2.1≤b.length:=by
 obtain⟨k,rfl⟩: ∃k',k=k'+1:=⟨k-1,by omega⟩
 obtain⟨w,w1,w2,w3,w4⟩:=fc.ok (k:=k) (i:=i) (h:=h) (b:=b) (by omega) hb hi hi'
 obtain⟨r1,i1,h1,e1,a1,a2,a3,a4,a5⟩:=bo.is (k:=k) (n:=14) (i:=w.2.2.1) (h:=w.2.2.2) (b:=b) (by omega) hb w3 w4 (by omega)
 rw[bD.eq]
 by_cases c:r1=0
 ·obtain⟨x,i2,h2,e2,_,q1,q2⟩:=dJ.is (k:=k) (l:= [0,10,-1,9]) (i:=i1) (h:=h1) (b:=b) (by omega) hb a4 a5 (by simp) (by simp)
  have hap:(w.1++ [x]).length≤1099511627776:=by rw[List.length_append,List.length_singleton];omega
  exact⟨(w.1++ [x],((),(i2,h2))),bE w1 (bE e1 (tG c (bE e2 (tG hap rfl)))),by dsimp only;rw[List.length_append,List.length_singleton];omega,q1,q2⟩
 ·by_cases c2:r1=1
  ·obtain⟨y,y1,y2⟩:=bD.loop (k:=k) (p:=i1) (h:=h1) (b:=b) ⟨a4,a5⟩ 10 k w.1 (by omega) (by omega) w2
   exact⟨y,bE w1 (bE e1 (tX c (tG c2 y1))),y2⟩
  ·exact⟨(w.1,((),(i1,h1))),bE w1 (bE e1 (tX c (tX c2 rfl))),by dsimp only;omega,a4,a5⟩
theorem bD.ok{k:Nat}{i h:Int}{b:LI}(hk:4194304+30≤k)(hb:b.length≤1048576)(hi:0≤i)(hi':i≤b.length):Pu.Ok (bD k i h b) fun r=>r.1.length≤1010:=
 Pu.Ok.mono (bD.okI hk hb hi hi') fun r h=>h.1
theorem aw.loop{k:Nat}{b e:LI}(hb:b.length≤1048576): ∀(m j i:Nat) (h:Int),i+m=4000→m<j→ ∃h',aw.L0 k j h i b e=aw.J2 k h' b e
 |m,0,i,h,_,hj=>by omega
 |0,j+1,i,h,hi,_=>by
  rw[aw.bm,Pu.mH,Pu.mH]
  have h4: ¬(i:Int)<4000:=by omega
  refine⟨h,?_⟩
  rw[if_neg h4,ite_self]
 |m+1,j+1,i,h,hi,hj=>by
  rw[aw.bm,Pu.mH,Pu.mH]
  have h4:(i:Int)<4000:=by omega
  by_cases hlt:i<b.length
  ·have ew:IntKind.i64.wrap ((i:Int)+1)=((i+1:Nat):Int):=by rw[w64 (by omega) (by omega)];omega
   have hlt':(i:Int)<D.ofN (D.len b):=by show(i:Int)<(b.length:Int);omega
   rw[if_pos hlt',if_pos h4,aw.fJ]
   obtain⟨h',ih⟩:=aw.loop (k:=k) (e:=e) hb m j (i+1) (D.andI .i64 (D.wrap .i64 (D.add (D.wrap .i64 (D.add (D.wrap .i64 (D.mul h 131)) (D.wrap .i64 (D.rd b (D.nat (i:Int)) 0)))) 7)) 1073741823) (by omega) (by omega)
   refine⟨h',?_⟩
   have t1:D.le 0 (i:Int)=true:=decide_eq_true (by omega)
   have t2:D.ltN (D.nat (i:Int)) (D.len b)=true:=decide_eq_true (by show(i:Int).toNat<b.length;omega)
   rw[aN,if_pos t1,aN,if_pos t2,aN,if_pos t2]
   have ew':D.wrap .i64 (D.add (i:Int) 1)=((i+1:Nat):Int):=ew
   rw[ew']
   exact ih
  ·have hlt': ¬(i:Int)<D.ofN (D.len b):=by show¬(i:Int)<(b.length:Int);omega
   exact⟨h,by rw[if_neg hlt']⟩
theorem aw.ok{k:Nat}{b:LI}(hk:4194304+40≤k)(hb:b.length≤1048576):Pu.Ok (aw k b) fun r=>r.length≤1010:=by
 obtain⟨k,rfl⟩: ∃k',k=k'+2:=⟨k-2,by omega⟩
 rw[aw.eq]
 obtain⟨h',e⟩:=aw.loop (k:=k) (e:=([]:LI)) hb 4000 k 0 (D.wrap .i64 (D.add 26583 (D.ofN (D.len b)))) (by omega) (by omega)
 rw[Int.natCast_zero]at e
 rw[e,aw.jW]
 obtain⟨y,y1,y2⟩:=bD.ok (k:=k+1) (i:=0) (h:=h') (b:=b) (by omega) hb (by omega) (by omega)
 exact⟨y.1,bE y1 rfl,y2⟩
theorem cV.is{k:Nat}{x lo hi:Int}(hk:1≤k):cV k x lo hi=some (Pu.within x lo hi):=by
 obtain⟨k,rfl⟩: ∃k',k=k'+1:=⟨k-1,by omega⟩
 rw[cV.eq]
 by_cases h:lo≤x<;>simp[Pu.within,h]
theorem cr.is{k:Nat}{n:Int}(hk:2≤k):cr k n=some (Pu.tx (Pu.eF n)):=by
 obtain⟨k,rfl⟩: ∃k',k=k'+1:=⟨k-1,by omega⟩
 apply Pu.ok_eq
 rw[cr.eq]
 refine Pu.Ok.cI (cV.is (by omega)) ?_
 unfold Pu.within
 by_cases c:1≤n∧n≤6
 ·have e:n=1∨n=2∨n=3∨n=4∨n=5∨n=6:=by omega
  rcases e with rfl|rfl|rfl|rfl|rfl|rfl<;>exact Pu.Ok.ret rfl
 ·have e:(decide (1≤n)&&decide (n≤6))=false:=by
   rw[Bool.and_eq_false_iff]
   by_cases h:1≤n
   ·right;exact decide_eq_false (by omega)
   ·left;exact decide_eq_false h
  rw[e]
  have e2:Pu.eF n= []:=by
   unfold Pu.eF
   rw[if_neg (by omega),if_neg (by omega),if_neg (by omega),if_neg (by omega),if_neg (by omega),if_neg (by omega)]
  rw[e2]
  exact Pu.Ok.ret rfl
theorem fD.is{k:Nat}{x:Int}(hk:2≤k):fD k x=some (!Pu.within x 1 9,()):=by
 obtain⟨k,rfl⟩: ∃k',k=k'+1:=⟨k-1,by omega⟩
 rw[fD.eq,cV.is (by omega)]
 rfl
theorem au.is{k:Nat}{r:LI}(hk:4194304+1≤k)(hr:r.length≤1048577):au k r=some (Pu.Cm (fun y=> !Pu.within y 1 9) r,()):=by
 obtain⟨k,rfl⟩: ∃k',k=k'+1:=⟨k-1,by omega⟩
 rw[au.eq]
 have h:=Pu.zv r 0 (fun y=> !Pu.within y 1 9) (fun j i=>au.L0 k j r.length i r) (fun i=>some ((i:Int),())) (some (-1,()))
  (fun j i hi=>by
   rw[au.bm,fD.is (by omega)]
   cases c:Pu.within (r.getD i 0) 1 9<;>simp (disch:=omega) only[↓aN,sss,if_true,if_false,hi,c,Int.natCast_add,Int.natCast_one])
  (fun j=>by
   rw[au.bm]
   simp only[↓aN,sss,if_true,if_false,Nat.lt_irrefl]) r.length k 0 (by omega) (by omega) (by omega)
 simp only[Int.natCast_zero]at h
 simp only[bU,bL]
 rw[h]
 unfold Pu.Cm
 split<;>rfl
theorem bg.is{k:Nat}{r:LI}(hk:4194304+2≤k)(hr:r.length≤1048577):bg k r=some (r.any fun y=> !Pu.within y 1 9,()):=by
 obtain⟨k,rfl⟩: ∃k',k=k'+1:=⟨k-1,by omega⟩
 rw[bg.eq,au.is (by omega) hr,eZ,dw,Pu.Ed]
theorem cG.is{k:Nat}{w:LI}(hk:4194304+3≤k)(hw:w.length≤1048576):cG k w=some (Pu.isWord w):=by
 obtain⟨k,rfl⟩: ∃k',k=k'+1:=⟨k-1,by omega⟩
 rw[cG.eq,bg.is (by omega) (by omega),eZ]
 unfold Pu.isWord
 have e:(!w.any fun y=> !Pu.within y 1 9)=w.all fun n=>Pu.within n 1 9:=by rw[List.all_eq_not_any_not]
 by_cases c:w.length≤9
 ·have c':(w.length:Int)≤9:=by omega
  simp only[↓aN,sss,if_true,if_false,c,c',e]
 ·have c': ¬(w.length:Int)≤9:=by omega
  simp only[↓aN,sss,if_true,if_false,c,c']
theorem strconv_Itoa.is{k:Nat}{n:Int}(hk:1≤k)(h0:0≤n)(h1:n<100):strconv_Itoa k n=some (Pu.tx (Pu.dcm n)):=by
 obtain⟨k,rfl⟩: ∃k',k=k'+1:=⟨k-1,by omega⟩
 rw[strconv_Itoa.eq]
 exact Pu.CA h0 h1
theorem dF.is{k:Nat}{n:Int}(hk:2≤k)(h0:0≤n)(h1:n<100):dF k n=some (Pu.tx (Pu.dcm n)):=by
 obtain⟨k,rfl⟩: ∃k',k=k'+1:=⟨k-1,by omega⟩
 rw[dF.eq,strconv_Itoa.is (by omega) h0 h1,eZ]
theorem strings_Join.is{k:Nat}{ws:List (List UInt8)}{sep:List UInt8}(hk:1≤k)(h1:ws.length≤1000)(h2: ∀w∈ws,w.length≤10000)(hs:sep.length≤10):strings_Join k (ws.map Pu.tx) (Pu.tx sep)=some (Pu.tx (Lib.join ws sep)):=by
 obtain⟨k,rfl⟩: ∃k',k=k'+1:=⟨k-1,by omega⟩
 rw[strings_Join.eq]
 exact Pu.Cw h1 h2 hs
theorem gW.is{k:Nat}{ws:List (List UInt8)}{sep:List UInt8}(hk:2≤k)(h1:ws.length≤1000)(h2: ∀w∈ws,w.length≤10000)(hs:sep.length≤10):gW k (ws.map Pu.tx) (Pu.tx sep)=some (Pu.tx (Lib.join ws sep)):=by
 obtain⟨k,rfl⟩: ∃k',k=k'+1:=⟨k-1,by omega⟩
 rw[gW.eq,strings_Join.is (by omega) h1 h2 hs,eZ]
theorem cy.loop{k:Nat}{sep:List UInt8}{l:LI}(hk:10≤k)(hs:sep.length≤10)(hn:l.length≤1000)(hl: ∀x∈l,0≤x∧x<100): ∀(m j i:Nat) (acc:List ByteArray),i+m=l.length→m<j→acc=(l.take i).map (fun n=>Pu.tx (Pu.dcm n))→Pu.Ok (cy.L0 k j (Pu.tx sep) (l.length:Int) i acc l) (· =Pu.tx (Lib.join (l.map Pu.dcm) sep))
 |m,0,i,acc,_,hj,_=>by omega
 |0,j+1,i,acc,hi,_,ha=>by
  rw[cy.bm]
  simp only[dv,dw,cg,b7,cf,bL,bU,bV,dj,b6,bR,bq,bp,ch,a8,bT,ck,cm,cN,dx,ca,cd,bt,bw,bu,bB,List.nil_append,List.cons_append]
  refine Pu.Ok.no (by omega) ?_
  have e:acc=(l.map Pu.dcm).map Pu.tx:=by
   rw[ha,List.take_of_length_le (by omega),List.map_map];rfl
  rw[e]
  refine Pu.Ok.cI (gW.is (by omega) (by rw[List.length_map];omega) (fun w hw=> ?_) hs) (Pu.Ok.ret rfl)
  obtain⟨x,hx,rfl⟩:=List.mem_map.1 hw
  have:=Pu.kW (hl x hx).2
  omega
 |m+1,j+1,i,acc,hi,hj,ha=>by
  rw[cy.bm]
  have hlen:acc.length=i:=by rw[ha,List.length_map,List.length_take];omega
  simp only[dv,dw,cg,b7,cf,bL,bU,bV,dj,b6,bR,bq,bp,ch,a8,bT,ck,cm,cN,dx,ca,cd,bt,bw,bu,bB,List.nil_append,List.cons_append]
  (try simp only[Int.toNat_natCast]);(try simp (disch:=omega) only[w64])
  (repeat (refine Pu.Ok.g (by first|omega|assumption|(simp only[List.length_append,List.length_cons,List.length_nil,List.length_set,List.length_take,List.length_drop,List.length_replicate]at*;omega)) ?_))
  have hm:l.getD i 0∈l:=by rw[Pu.aB (show i<l.length by omega) _];exact List.getElem_mem _
  refine Pu.Ok.cI (dF.is (by omega) (hl _ hm).1 (hl _ hm).2) ?_
  (repeat (refine Pu.Ok.g (by first|omega|assumption|(simp only[List.length_append,List.length_cons,List.length_nil,List.length_set,List.length_take,List.length_drop,List.length_replicate]at*;omega)) ?_))
  (try simp only[Int.toNat_natCast]);(try simp (disch:=omega) only[w64])
  refine cy.loop hk hs hn hl m j (i+1) _ (by omega) (by omega) ?_
  rw[ha,List.take_add_one,List.map_append,List.getElem?_eq_getElem (show i<l.length by omega),Pu.aB (show i<l.length by omega) _]
  rfl
theorem cy.is{k:Nat}{sep:List UInt8}{l:LI}(hk:2000≤k)(hs:sep.length≤10)(hn:l.length≤1000)(hl: ∀x∈l,0≤x∧x<100):cy k l (Pu.tx sep)=some (Pu.tx (Lib.join (l.map Pu.dcm) sep)):=by
 obtain⟨k,rfl⟩: ∃k',k=k'+1:=⟨k-1,by omega⟩
 apply Pu.ok_eq
 rw[cy.eq]
 exact cy.loop (k:=k) (by omega) hs hn hl l.length k 0 [] (by omega) (by omega) rfl
theorem fg.is{k:Nat}{w:LI}(hk:4194304+10≤k)(hw:w.length≤1048576):fg k w=some (Pu.tx (Pu.eI w)):=by
 obtain⟨k,rfl⟩: ∃k',k=k'+1:=⟨k-1,by omega⟩
 apply Pu.ok_eq
 rw[fg.eq]
 refine Pu.Ok.cI (cG.is (by omega) hw) ?_
 unfold Pu.eI
 simp only[dv,dw,cg,b7,cf,bL,bU,bV,dj,b6,bR,bq,bp,ch,a8,bT,ck,cm,cN,dx,ca,cd,bt,bw,bu,bB,List.nil_append,List.cons_append]
 refine Pu.Ok.tn (fun hb=> ?_) (fun hb=> ?_)
 ·rw[hb];exact Pu.Ok.ret rfl
 ·rw[hb]
  obtain⟨h1,h2⟩:=Pu.bY hb
  refine Pu.Ok.t (fun h=> ?_) (fun h=> ?_)
  ·have:w= []:=List.eq_nil_of_length_eq_zero (by omega)
   subst this
   exact Pu.Ok.ret rfl
  ·have h0:w≠ []:=fun e=>h (by rw[e];rfl)
   rw[if_pos rfl,if_neg h0]
   refine Pu.Ok.cI (cy.is (sep:= []) (by omega) (by decide) (by omega) (fun x hx=>⟨by have:=(h2 x hx).1;omega,by have:=(h2 x hx).2;omega⟩)) ?_
   rw[Pu.tk]
   exact Pu.Ok.ret rfl
theorem a7.Fq{k:Nat}{s:ByteArray}{w:LI}(hk:4194304+11≤k)(hw:w.length≤1000)(e:(if(s.toList==(Pu.tx [45]).toList)=true then []else Pu.cU s.data.toList)=w):Pu.Ok (a7.J1 k s w) (· =Pu.gm s):=by
 rw[a7.fJ]
 refine Pu.Ok.cI (fg.is (by omega) (by omega)) ?_
 unfold Pu.gm
 rw[e]
 simp only[w8,cN]
 refine Pu.Ok.tn (fun hb=> ?_) (fun hb=> ?_)
 ·rw[hb];exact Pu.Ok.ret rfl
 ·rw[hb];exact Pu.Ok.ret rfl
theorem a7.loop{k:Nat}{s:ByteArray}(hk:4194304+11≤k)(hs:s.size≤1000)(hd:(s.toList==(Pu.tx [45]).toList)=false): ∀(m j i:Nat) (acc:LI),i+m=s.size→m<j→acc=Pu.cU (s.data.toList.take i)→Pu.Ok (a7.L0 k j s (s.size:Int) i acc) (· =Pu.gm s)
 |m,0,i,acc,_,hj,_=>by omega
 |0,j+1,i,acc,hi,_,ha=>by
  rw[a7.bm]
  simp only[dv,dw,cg,b7,cf,bL,bU,bV,dj,b6,bR,bq,bp,ch,a8,bT,ck,cm,cN,dx,ca,cd,bt,bw,bu,bB,List.nil_append,List.cons_append]
  refine Pu.Ok.no (by omega) ?_
  have hsz:s.data.toList.length=s.size:=rfl
  have e:acc=Pu.cU s.data.toList:=by rw[ha,List.take_of_length_le (by omega)]
  refine a7.Fq hk (by rw[e];unfold Pu.cU;rw[List.length_map];omega) ?_
  rw[hd,e];rfl
 |m+1,j+1,i,acc,hi,hj,ha=>by
  rw[a7.bm]
  have hsz:s.data.toList.length=s.size:=rfl
  have hlen:acc.length=i:=by rw[ha];unfold Pu.cU;rw[List.length_map,List.length_take];omega
  simp only[Dl]
  simp only[dv,dw,cg,b7,cf,bL,bU,bV,dj,b6,bR,bq,bp,ch,a8,bT,ck,cm,cN,dx,ca,cd,bt,bw,bu,bB,List.nil_append,List.cons_append]
  (try simp only[Int.toNat_natCast]);(try simp (disch:=omega) only[w64])
  have hb:=(s.data.getD i 0).toNat_lt
  have e1:=w64 (n:=((s.data.getD i 0).toNat:Int)) (by omega) (by omega)
  have e2:=w64 (n:=((s.data.getD i 0).toNat:Int)-48) (by omega) (by omega)
  simp only[e1,e2]
  (repeat (refine Pu.Ok.g (by first|omega|assumption|(simp only[List.length_append,List.length_cons,List.length_nil,List.length_set,List.length_take,List.length_drop,List.length_replicate]at*;omega)) ?_))
  refine a7.loop hk hs hd m j (i+1) _ (by omega) (by omega) ?_
  rw[ha]
  unfold Pu.cU
  rw[List.take_add_one,List.map_append,List.getElem?_eq_getElem (show i<s.data.toList.length by omega)]
  have:s.data.getD i 0=s.data.toList[i]'(show i<s.data.toList.length by omega):=by
   have h':i<s.data.size:=by
    have:s.data.size=s.size:=rfl
    omega
   rw[Array.getD,dif_pos h'];rfl
  rw[this];rfl
theorem a7.is{k:Nat}{s:ByteArray}(hk:4194304+20≤k)(hs:s.size≤1000):a7 k s=some (Pu.gm s):=by
 obtain⟨k,rfl⟩: ∃k',k=k'+1:=⟨k-1,by omega⟩
 apply Pu.ok_eq
 rw[a7.eq]
 simp only[w8]
 have e45:(⟨#[45]⟩:ByteArray)=Pu.tx [45]:=rfl
 rw[e45]
 cases hd:(s.toList==(Pu.tx [45]).toList)with
 |false=>exact Pu.Ok.tn (fun _=>a7.loop (k:=k) (by omega) hs hd s.size k 0 [] (by omega) (by omega) rfl) (fun h=>by cases h)
 |true=>exact Pu.Ok.tn (fun h=>by cases h) (fun _=>a7.Fq (by omega) (by simp) (by rw[hd];rfl))
theorem dE.loop{k:Nat}{n:Nat}(hn:n≤1000): ∀(m j i:Nat),i+m=n→m<j→dE.L0 k j n i (Pu.mV i)=some (Pu.mV n)
 |m,0,i,_,hj=>by omega
 |0,j+1,i,hi,_=>by
  rw[dE.bm]
  have e:i=n:=by omega
  have hc: ¬(i:Int)<(n:Int):=by omega
  exact tX hc (by rw[e])
 |m+1,j+1,i,hi,hj=>by
  have hc:(i:Int)<(n:Int):=by omega
  have ih:=dE.loop (k:=k) hn m j (i+1) (by omega) (by omega)
  have hws:IntKind.i64.wrap ((i:Int)+1)=((i+1:Nat):Int):=by rw[w64 (by omega) (by omega)];omega
  have hu:Pu.mV i++ [((i+1:Nat):Int)]=Pu.mV (i+1):=by
   unfold Pu.mV
   rw[List.range_succ,List.map_append]
   rfl
  have hap:(Pu.mV i++ [((i+1:Nat):Int)]).length≤1099511627776:=by rw[hu,Pu.nh];omega
  rw[dE.bm]
  simp only[bT,a8,bR,bL,hws]
  refine tG hc (tG hap ?_)
  rw[hu,ih]
theorem dE.is{k n:Nat}(hk:4194304+1≤k)(hn:n≤1000):dE k n=some (Pu.mV n):=by
 obtain⟨k,rfl⟩: ∃k',k=k'+1:=⟨k-1,by omega⟩
 have h:=dE.loop (k:=k) hn n k 0 (by omega) (by omega)
 rw[Int.natCast_zero]at h
 rw[dE.eq]
 exact h
theorem cR.is{k:Nat}{n x:Int}(hk:1≤k):cR k n x=some (decide (x<n),x):=by
 obtain⟨k,rfl⟩: ∃k',k=k'+1:=⟨k-1,by omega⟩
 rw[cR.eq]
 rfl
theorem ai.loop{k:Nat}{r:LI}{x:Int}(hk:1≤k)(hr:r.length≤1048577): ∀(m j i:Nat),i+m=r.length→m<j→i≤r.findIdx (fun n=>decide (x<n))→
  ai.L0 k j r.length i r x=some (if r.findIdx (fun n=>decide (x<n))<r.length then((r.findIdx (fun n=>decide (x<n)):Nat):Int)else-1,x)
 |m,0,i,_,hj,_=>by omega
 |0,j+1,i,hm,_,hi=>by
  rw[ai.bm]
  have e:i=r.length:=by omega
  have h: ¬r.findIdx (fun n=>decide (x<n))<r.length:=by omega
  subst e
  rw[if_neg h]
  simp
 |m+1,j+1,i,hm,hj,hi=>by
  rw[ai.bm]
  have hlt:i<r.length:=by omega
  simp (disch:=omega) only[↓aN,sss,if_true,if_false,hlt,cR.is]
  by_cases c:x<r.getD i 0
  ·have e:r.findIdx (fun n=>decide (x<n))=i:=by
    refine Nat.le_antisymm ?_ hi
    exact Pu.findIdx_le hlt (by simpa using c)
   simp only[c,↓aN,sss,if_true,if_false,e,hlt]
  ·have hne:r.findIdx (fun n=>decide (x<n))≠i:=fun e=>by
    have:=Pu.qI (p:=fun n=>decide (x<n)) (r:=r) (by rw[e];exact hlt)
    rw[e]at this
    exact c (by simpa using this)
   have ih:=ai.loop (k:=k) (x:=x) hk hr m j (i+1) (by omega) (by omega) (by omega)
   rw[Int.natCast_succ]at ih
   simp only[c,↓aN,sss,if_true,if_false,ih]
theorem ai.is{k:Nat}{r:LI}{x:Int}(hk:4194304+1≤k)(hr:r.length≤1048577):
  ai k x r=some (if r.findIdx (fun n=>decide (x<n))<r.length then((r.findIdx (fun n=>decide (x<n)):Nat):Int)else-1,x):=by
 obtain⟨k,rfl⟩: ∃k',k=k'+1:=⟨k-1,by omega⟩
 rw[ai.eq]
 exact ai.loop (k:=k) (by omega) hr r.length k 0 (by omega) (by omega) (by omega)
theorem aO.loop{k:Nat}{inner:LI}(hk:4194304+1≤k): ∀(m j i:Nat) (x:Int) (rows:LJ),i+m=rows.length→m<j→rows.length≤1048576→(∀r∈rows,r.length≤1048576)→
  aO.L0 k j rows.length i x rows inner=some (((i+(Pu.bn (rows.drop i) x).2:Nat):Int),(inner,rows.take i++(Pu.bn (rows.drop i) x).1))
 |m,0,i,x,rows,_,hj,_,_=>by omega
 |0,j+1,i,x,rows,hm,_,hl,hr=>by
  rw[aO.bm]
  have e:i=rows.length:=by omega
  subst e
  have h1:rows.length+1≤1099511627776:=by omega
  simp (disch:=omega) only[↓aN,sss,if_true,if_false,Nat.lt_irrefl,h1,List.drop_length,List.take_length,Pu.bn,List.length_append,List.length_cons,List.length_nil,Int.natCast_add,Int.natCast_one,Int.natCast_zero,Int.add_zero,Int.zero_add,Nat.zero_add,Nat.add_zero,Int.add_sub_cancel]
 |m+1,j+1,i,x,rows,hm,hj,hl,hr=>by
  rw[aO.bm]
  have hlt:i<rows.length:=by omega
  have hx:=hr _ (List.getElem_mem hlt)
  rw[←Pu.aB hlt []]at hx
  have hi:=ai.is (k:=k) (r:=rows.getD i []) (x:=x) (by omega) (by omega)
  rw[Pu.drop_cons hlt []]
  unfold Pu.bn
  generalize hf:(rows.getD i []).findIdx (fun n=>decide (x<n))=f at*
  by_cases c:f<(rows.getD i []).length
  ·rw[if_pos c]at hi⊢
   have ih:=aO.loop (inner:=inner) hk m j (i+1) ((rows.getD i []).getD f 0) (rows.set i ((rows.getD i []).set f x)) (by rw[List.length_set];omega) (by omega) (by rw[List.length_set];exact hl) (fun r h=>by
    rcases List.mem_or_eq_of_mem_set h with h|rfl
    ·exact hr r h
    ·rw[List.length_set];exact hx)
   rw[Pu.pV hlt,Pu.pQ,List.length_set,Int.natCast_succ]at ih
   have hn: ¬(f:Int)<0:=by omega
   simp (disch:=omega) only[↓aN,sss,if_true,if_false,hlt,hi,hn,c,ih]
   simp only[List.append_assoc,List.singleton_append]
   congr 2
   omega
  ·rw[if_neg c]at hi⊢
   have hn:(-1:Int)<0:=by omega
   have h1:(rows.getD i []++ [x]).length≤1099511627776:=by simp only[List.length_append,List.length_cons,List.length_nil];omega
   simp (disch:=omega) only[↓aN,sss,if_true,if_false,hlt,hi,hn,h1,Nat.add_zero]
   rw[Pu.wS hlt]
theorem aO.is{k:Nat}{inner:LI}{x:Int}{rows:LJ}(hk:4194304+2≤k)(hl:rows.length≤1048576)(hr: ∀r∈rows,r.length≤1048576):
  aO k x inner rows=some ((((Pu.bn rows x).2:Nat):Int),(inner,(Pu.bn rows x).1)):=by
 obtain⟨k,rfl⟩: ∃k',k=k'+1:=⟨k-1,by omega⟩
 rw[aO.eq]
 have h:=aO.loop (k:=k) (inner:=inner) (by omega) rows.length k 0 x rows (by omega) (by omega) hl hr
 rw[Int.natCast_zero]at h
 simpa using h
theorem aE.add{k k1:Nat}{i a n:Nat}{W v:LI}{x4:LI}{x5:LJ}{x6:LI}{x7:LJ}{pi:LI}{P:LJ}{qi:LI}{F:LJ}{z:Int}(hi:i<v.length)(hz:v.getD i 0=z)(ha:a<F.length)(hF: ∀r,(F.getD r []).length≤1000)(hw:i≤1000):
  aE.J1 k k1 i a n i v W x4 x5 x6 x7 pi P qi F=aE.L0 k k1 n ((i+1:Nat):Int) v W x4 x5 x6 x7 pi P qi (F.set a (F.getD a []++ [z])):=by
 rw[aE.fJ]
 have h9:=hF a
 have hws:IntKind.i64.wrap ((i:Int)+1)=((i+1:Nat):Int):=by rw[w64 (by omega) (by omega)];omega
 have hap:(F.getD a []++ [z]).length≤1099511627776:=by rw[List.length_append,List.length_singleton];omega
 simp only[bV,bL,dj,b6,bR,bT,a8,Int.toNat_natCast,hws,hz]
 have a0:=Int.natCast_nonneg a
 exact tG a0 (tG ha (tG ha (tG (Int.natCast_nonneg i) (tG hi (tG hi (tG ha (tG hap (tG a0 (tG ha (tG ha (tG rfl rfl)))))))))))
theorem aE.loop{k:Nat}{W v:LI}{x4:LI}{x5:LJ}{x6:LI}{x7:LJ}(hk:4194304+20≤k)(hW:W.length≤9)(hx: ∀x∈W,1≤x∧x≤9)(hv:v.length=W.length): ∀(m j i:Nat) (P Q Q':LJ),i+m=W.length→m<j→Pu.Ins P Q' i→Pu.eU Q Q'→
  aE.L0 k j W.length i v W x4 x5 x6 x7 [] P [] Q=some (([],Pu.jZ (W.drop i) P),([],Pu.AT ((v.zip W).drop i) P Q))
 |m,0,i,P,Q,Q',_,hj,_,_=>by omega
 |0,j+1,i,P,Q,Q',hi,_,_,_=>by
  rw[aE.bm]
  have hn: ¬(i:Int)<W.length:=by omega
  refine tX hn ?_
  rw[List.drop_of_length_le (by omega),List.drop_of_length_le (by rw[List.length_zip];omega)]
  rfl
 |m+1,j+1,i,P,Q,Q',hi,hj,h,hs=>by
  have hlt:i<W.length:=by omega
  have hn:(i:Int)<W.length:=by omega
  have hxi:=hx _ (List.getElem_mem hlt)
  rw[←Pu.aB hlt 0]at hxi
  obtain⟨s1,_,_⟩:=h.step hxi (by omega)
  have ha:=(Pu.ug P (W.getD i 0)).1
  rw[h.same.1,←hs.1]at ha
  have ih:=aE.loop (x4:=x4) (x5:=x5) (x6:=x6) (x7:=x7) hk hW hx hv m j (i+1) (Pu.bn P (W.getD i 0)).1 (Pu.gT Q (Pu.bn P (W.getD i 0)).2 (v.getD i 0)) _ (by omega) (by omega) s1 (Pu.AJ hs ha _ _)
  have hP:=Pu.jK (Pu.sF h (by omega))
  have hQ:=Pu.jK h.pl
  have hP1:P.length≤9:=hP.1
  have hQ1:Q.length≤9:=by rw[hs.1];exact hQ.1
  have hins:=aO.is (k:=k) (inner:= []) (x:=W.getD i 0) (rows:=P) (by omega) (by omega) (fun r hr=>by have:=hP.2 r hr;omega)
  have hul:i<v.length:=by omega
  rw[aE.bm,Pu.drop_cons hlt 0,Pu.DY hul hlt]
  show _=some (([],Pu.jZ (W.drop (i+1)) (Pu.bn P (W.getD i 0)).1),([],Pu.AT ((v.zip W).drop (i+1)) (Pu.bn P (W.getD i 0)).1 (Pu.gT Q (Pu.bn P (W.getD i 0)).2 (v.getD i 0))))
  rw[←ih]
  simp only[bV,bL,bU,dj,Int.toNat_natCast]
  refine tG hn (tG (Int.natCast_nonneg i) (tG hlt (tG hlt (bE hins ?_))))
  simp only
  have hq9: ∀r,(Q.getD r []).length≤9:=fun r=>by rw[hs.2];exact hQ.at r
  generalize(Pu.bn P (W.getD i 0)).2=a at*
  unfold Pu.gT
  by_cases c:a=Q.length
  ·have hc:((a:Nat):Int)=(Q.length:Int):=by omega
   have hap:(Q++ [[]]).length≤1099511627776:=by rw[List.length_append,List.length_singleton];omega
   have hF: ∀r,((Q++ [[]]).getD r []).length≤1000:=fun r=>by
    by_cases hr:r<Q.length
    ·simp only[List.getD_eq_getElem?_getD,List.getElem?_append_left hr]
     have:=hq9 r
     simp only[List.getD_eq_getElem?_getD]at this
     omega
    ·simp only[List.getD_eq_getElem?_getD,List.getElem?_append_right (Nat.le_of_not_lt hr)]
     cases r-Q.length<;>simp
   refine tG hc (tG hap ?_)
   simp only[bR]
   rw[aE.add hul rfl (by rw[List.length_append,List.length_singleton];omega) hF (by omega),if_pos c]
   congr 1
   rw[c]
   simp
  ·have hc: ¬((a:Nat):Int)=(Q.length:Int):=by omega
   refine tX hc ?_
   rw[aE.add hul rfl (by omega) (fun r=>by have:=hq9 r;omega) (by omega),if_neg c]
theorem aE.isL{k:Nat}{W v:LI}(hk:4194304+30≤k)(h:Pu.isWord W=true)(hv:v.length=W.length):aE k W v=some (([],Pu.jZ W []),([],Pu.AT (v.zip W) [] [])):=by
 obtain⟨k,rfl⟩: ∃k',k=k'+1:=⟨k-1,by omega⟩
 obtain⟨h1,h2⟩:=Pu.bY h
 have hl:=aE.loop (k:=k) (x4:= []) (x5:= []) (x6:= []) (x7:= []) (by omega) h1 h2 hv W.length k 0 [] [] [] (by omega) (by omega) Pu.Ins.nil ⟨rfl,fun _=>rfl⟩
 rw[Int.natCast_zero,List.drop_zero,List.drop_zero]at hl
 rw[aE.eq]
 exact hl
theorem aE.is{k:Nat}{W:LI}(hk:4194304+30≤k)(h:Pu.isWord W=true):aE k W (Pu.mV W.length)=some (([],Pu.jZ W []),([],Pu.mq W [] [] 0)):=by
 rw[←Pu.Ch]
 exact aE.isL hk h (Pu.nh _)
theorem ef.is{k:Nat}{w:LI}(hk:4194304+40≤k)(hw:w.length≤1048576):ef k w=some (Pu.bc w):=by
 obtain⟨k,rfl⟩: ∃k',k=k'+1:=⟨k-1,by omega⟩
 have h1:=cG.is (k:=k) (w:=w) (by omega) hw
 rw[ef.eq]
 unfold Pu.bc
 refine bE h1 ?_
 cases c:Pu.isWord w with
 |false=>exact tM rfl
 |true=>
  have h9:=(Pu.bY c).1
  exact tN (bE (dE.is (n:=w.length) (by omega) (by omega)) (bE (aE.is (by omega) c) rfl))
theorem fG.is{k:Nat}{w:LI}(hk:4194304+40≤k)(hw:w.length≤1048576):fG k w=some (Pu.dk w):=by
 obtain⟨k,rfl⟩: ∃k',k=k'+1:=⟨k-1,by omega⟩
 have h1:=cG.is (k:=k) (w:=w) (by omega) hw
 rw[fG.eq]
 unfold Pu.dk
 refine bE h1 ?_
 cases c:Pu.isWord w with
 |false=>exact tM rfl
 |true=>
  have h9:=(Pu.bY c).1
  exact tN (bE (dE.is (n:=w.length) (by omega) (by omega)) (bE (aE.is (by omega) c) rfl))
theorem cp.is{k:Nat}{a:LI}(hk:1≤k)(ha:a.length≤1099511627776):cp k a=some a:=by
 obtain⟨k,rfl⟩: ∃k',k=k'+1:=⟨k-1,by omega⟩
 rw[cp.eq]
 by_cases h:a.length=0
 ·have:a= []:=List.eq_nil_of_length_eq_zero h
  subst this
  simp[FK,CE]
 ·simp[h,ha]
theorem aT.both{k:Nat}{w:LI}{x:Int}(hw:w.length≤9)(hx:1≤x∧x≤8): ∀(m j i:Nat) (low high:LI),i+m=w.length→m<j→low.length≤i→high.length≤i→
  Pu.Ok (aT.L1 k j x (w.length:Int) i low high w) (· =((Pu.gK w x m i low high).1,((Pu.gK w x m i low high).2,true)))∧ ∀(n:Nat) (base:LI),n≤base.length→base.take n=high→Pu.Ok (aT.L4 k j x 0 n (w.length:Int) i low base w) (· =((Pu.gK w x m i low high).1,((Pu.gK w x m i low high).2,true)))
 |m,0,i,low,high,_,hj,_,_=>by omega
 |0,j+1,i,low,high,hi,_,_,_=>by
  refine⟨?_,fun n base hn hb=> ?_⟩
  ·rw[aT.fN]
   simp only[dv,dw,cg,b7,cf,bL,bU,bV,dj,b6,bR,bq,bp,ch,a8,bT,ck,cm,cN,dx,ca,cd,bt,bw,bu,bB,List.nil_append,List.cons_append]
   exact Pu.Ok.no (by omega) (Pu.Ok.ret rfl)
  ·rw[aT.Fl]
   simp only[dv,dw,cg,b7,cf,bL,bU,bV,dj,b6,bR,bq,bp,ch,a8,bT,ck,cm,cN,dx,ca,cd,bt,bw,bu,bB,List.nil_append,List.cons_append]
   rw[List.drop_zero,hb]
   exact Pu.Ok.no (by omega) (Pu.Ok.ret rfl)
 |m+1,j+1,i,low,high,hi,hj,h1,h2=>by
  have ih:=fun low high a b=>aT.both (k:=k) hw hx m j (i+1) low high (by omega) (by omega) a b
  have e1:=w64 (n:=x+1) (by omega) (by omega)
  have e2:=w64 (n:=(i:Int)+1) (by omega) (by omega)
  have hi':i<w.length:=by omega
  have j1: ∀low high,low.length≤i+1→high.length≤i+1→Pu.Ok (aT.J2 k j x (w.length:Int) i low high w) (· =((Pu.gK w x m (i+1) low high).1,((Pu.gK w x m (i+1) low high).2,true))):=by
   intro low high a b
   rw[aT.jW]
   simp only[dv,dw,cg,b7,cf,bL,bU,bV,dj,b6,bR,bq,bp,ch,a8,bT,ck,cm,cN,dx,ca,cd,bt,bw,bu,bB,List.nil_append,List.cons_append]
   rw[e2]
   exact(ih low high a b).1
  have j2: ∀(n:Nat) (base low high:LI),low.length≤i+1→high.length≤i+1→n≤base.length→base.take n=high→Pu.Ok (aT.J3 k j x 0 n (w.length:Int) i low base w) (· =((Pu.gK w x m (i+1) low high).1,((Pu.gK w x m (i+1) low high).2,true))):=by
   intro n base low high a b c d
   rw[aT.vL]
   simp only[dv,dw,cg,b7,cf,bL,bU,bV,dj,b6,bR,bq,bp,ch,a8,bT,ck,cm,cN,dx,ca,cd,bt,bw,bu,bB,List.nil_append,List.cons_append]
   rw[e2]
   exact(ih low high a b).2 n base c d
  unfold Pu.gK
  refine⟨?_,fun n base hn hb=> ?_⟩
  ·rw[aT.fN]
   simp only[dv,dw,cg,b7,cf,bL,bU,bV,dj,b6,bR,bq,bp,ch,a8,bT,ck,cm,cN,dx,ca,cd,bt,bw,bu,bB,List.nil_append,List.cons_append]
   simp only[e1,Int.toNat_natCast]
   refine Pu.Ok.g (by omega) (Pu.Ok.g (by omega) (Pu.Ok.g (by omega) (Pu.Ok.g (by omega) ?_)))
   refine Pu.Ok.t (fun c1=> ?_) (fun c1=> ?_)
   ·rw[if_pos c1]
    refine Pu.Ok.g (by rw[List.length_append,List.length_singleton];omega) ?_
    exact j1 _ _ (by omega) (by rw[List.length_append,List.length_singleton];omega)
   ·rw[if_neg c1]
    refine Pu.Ok.t (fun c2=> ?_) (fun c2=> ?_)
    ·rw[if_pos c2]
     refine Pu.Ok.t (fun c3=> ?_) (fun c3=> ?_)
     ·have c3':0<high.length:=by omega
      rw[if_pos c3']
      have e3:=w64 (n:=(high.length:Int)-1) (by omega) (by omega)
      have e4:((high.length:Int)-1).toNat=high.length-1:=by omega
      simp only[e3,e4,Nat.sub_zero]
      refine Pu.Ok.g (by omega) (Pu.Ok.g (by omega) ?_)
      exact j2 (high.length-1) high low _ (by omega) (by rw[List.length_take];omega) (by omega) rfl
     ·have c3': ¬0<high.length:=by omega
      rw[if_neg c3']
      refine Pu.Ok.g c2 ?_
      refine Pu.Ok.g (by rw[List.length_append,List.length_singleton];omega) ?_
      exact j1 _ _ (by rw[List.length_append,List.length_singleton];omega) (by omega)
    ·rw[if_neg c2]
     refine Pu.Ok.no c2 ?_
     exact j1 _ _ (by omega) (by omega)
  ·rw[aT.Fl]
   have hh:high.length=n:=by rw[←hb,List.length_take];omega
   simp only[dv,dw,cg,b7,cf,bL,bU,bV,dj,b6,bR,bq,bp,ch,a8,bT,ck,cm,cN,dx,ca,cd,bt,bw,bu,bB,List.nil_append,List.cons_append]
   simp only[e1,Int.toNat_natCast,List.drop_zero,hb]
   refine Pu.Ok.g (by omega) (Pu.Ok.g (by omega) (Pu.Ok.g (by omega) (Pu.Ok.g (by omega) ?_)))
   refine Pu.Ok.t (fun c1=> ?_) (fun c1=> ?_)
   ·rw[if_pos c1]
    refine Pu.Ok.g (by rw[List.length_append,List.length_singleton];omega) ?_
    exact j1 _ _ (by omega) (by rw[List.length_append,List.length_singleton];omega)
   ·rw[if_neg c1]
    refine Pu.Ok.t (fun c2=> ?_) (fun c2=> ?_)
    ·rw[if_pos c2]
     refine Pu.Ok.t (fun c3=> ?_) (fun c3=> ?_)
     ·have c3':0<high.length:=by omega
      rw[if_pos c3']
      have e3:=w64 (n:=(n:Int)-1) (by omega) (by omega)
      have e4:((n:Int)-1).toNat=n-1:=by omega
      simp only[e3,e4,Nat.sub_zero,Nat.add_zero]
      refine Pu.Ok.g (by omega) (Pu.Ok.g (by omega) ?_)
      refine j2 (n-1) base low _ (by omega) (by rw[List.length_take];omega) (by omega) ?_
      rw[←hb,List.take_take,List.length_take]
      congr 1
      omega
     ·have c3': ¬0<high.length:=by omega
      rw[if_neg c3']
      refine Pu.Ok.g c2 ?_
      refine Pu.Ok.g (by rw[List.length_append,List.length_singleton];omega) ?_
      exact j2 n base _ _ (by rw[List.length_append,List.length_singleton];omega) (by omega) hn hb
    ·rw[if_neg c2]
     refine Pu.Ok.no c2 ?_
     exact j2 n base _ _ (by omega) (by omega) hn hb
theorem aT.is{k:Nat}{w:LI}{x:Int}(hk:4194304+10≤k)(hw:w.length≤1048576):aT k w x=some (if(Pu.isWord w&&Pu.within x 1 8)=true then((Pu.free w x).1,((Pu.free w x).2,true))else([],([],false))):=by
 obtain⟨k,rfl⟩: ∃k',k=k'+1:=⟨k-1,by omega⟩
 apply Pu.ok_eq
 rw[aT.eq]
 refine Pu.Ok.cI (cG.is (by omega) hw) ?_
 simp only[cN]
 refine Pu.Ok.tn (fun hb=> ?_) (fun hb=> ?_)
 ·rw[hb];exact Pu.Ok.ret rfl
 ·rw[hb,Bool.true_and]
  refine Pu.Ok.cI (cV.is (by omega)) ?_
  refine Pu.Ok.tn (fun hc=> ?_) (fun hc=> ?_)
  ·rw[hc];exact Pu.Ok.ret rfl
  ·rw[hc,if_pos rfl]
   simp only[Pu.within,Bool.and_eq_true,decide_eq_true_eq]at hc
   obtain⟨h1,h2⟩:=Pu.bY hb
   rw[aT.lp]
   exact(aT.both (k:=k) h1 hc w.length k 0 [] [] (by omega) (by omega) (by simp) (by simp)).1
theorem kL.is{k n:Nat}{w:LI}{x:Int}(hk:2≤k)(hw:w.length≤1048576)(hn:n<w.length):kL k w n x=some (w.set n x):=by
 obtain⟨k,rfl⟩: ∃k',k=k'+1:=⟨k-1,by omega⟩
 apply Pu.ok_eq
 rw[kL.eq]
 refine Pu.Ok.cI (cp.is (by omega) (by omega)) ?_
 simp only[dv,dw,cg,b7,cf,bL,bU,bV,dj,b6,bR,bq,bp,ch,a8,bT,ck,cm,cN,dx,ca,cd,bt,bw,bu,bB,List.nil_append,List.cons_append]
 (try simp only[Int.toNat_natCast]);(try simp (disch:=omega) only[w64])
 (repeat (refine Pu.Ok.g (by first|omega|assumption|(simp only[List.length_append,List.length_cons,List.length_nil,List.length_set,List.length_take,List.length_drop,List.length_replicate]at*;omega)) ?_))
 exact Pu.Ok.ret rfl
theorem fW.is{k:Nat}{w:LI}{x:Int}(hk:4194304+20≤k)(hw:w.length≤1048576):fW k w x=some (Pu.raise w x):=by
 obtain⟨k,rfl⟩: ∃k',k=k'+1:=⟨k-1,by omega⟩
 apply Pu.ok_eq
 rw[fW.eq]
 refine Pu.Ok.cI (aT.is (by omega) hw) ?_
 unfold Pu.raise
 by_cases hb:(Pu.isWord w&&Pu.within x 1 8)=true
 ·rw[if_pos hb,if_pos hb]
  simp only[dv,dw,cg,b7,cf,bL,bU,bV,dj,b6,bR,bq,bp,ch,a8,bT,ck,cm,cN,dx,ca,cd,bt,bw,bu,bB,List.nil_append,List.cons_append]
  refine Pu.Ok.t (fun c=> ?_) (fun c=> ?_)
  ·have:(Pu.free w x).2= []:=List.eq_nil_of_length_eq_zero (by omega)
   rw[if_pos this]
   exact Pu.Ok.ret rfl
  ·have hn:(Pu.free w x).2≠ []:=fun e=>c (by rw[e];rfl)
   rw[if_neg hn]
   obtain⟨n,e1,e2,e3⟩:=Pu.sQ hn
   have e0:(0:Int).toNat=0:=rfl
   simp only[e0,e1,Int.toNat_natCast]
   (repeat (refine Pu.Ok.g (by first|omega|assumption|(simp only[List.length_append,List.length_cons,List.length_nil,List.length_set,List.length_take,List.length_drop,List.length_replicate]at*;omega)) ?_))
   exact Pu.Ok.cI (kL.is (by omega) hw e2) (Pu.Ok.ret rfl)
 ·rw[if_neg hb,if_neg hb]
  exact Pu.Ok.ret rfl
theorem bz.loop{k:Nat}(hk:4194304+30≤k): ∀(m j:Nat) (x:Int) (w:LI),Pu.isWord w=true→1≤x→x≤9→Pu.gM w*9+(9-x)<m→m<j→Pu.Ok (bz.L0 k j x w) (· =(Pu.nX m x w,true))
 |m,0,x,w,_,_,_,_,hj=>by omega
 |0,j+1,x,w,hw,h1,h2,hm,_=>by have:=(Pu.rA hw).1;omega
 |m+1,j+1,x,w,hw,h1,h2,hm,hj=>by
  rw[bz.bm]
  have hl:=(Pu.bY hw).1
  unfold Pu.nX
  simp only[dv]
  refine Pu.Ok.t (fun c=> ?_) (fun c=> ?_)
  ·rw[if_pos c]
   refine Pu.Ok.cI (fW.is (by omega) (by omega)) ?_
   refine Pu.Ok.tb (fun hb=> ?_) (fun hb=> ?_)
   ·rw[if_pos hb]
    obtain⟨r1,r2,r3⟩:=Pu.vH (w:=w) (k:=x) (v:=(Pu.raise w x).1) (by rw[←hb])
    rw[bz.fJ]
    simp only[dv,dw,cg,b7,cf,bL,bU,bV,dj,b6,bR,bq,bp,ch,a8,bT,ck,cm,cN,dx,ca,cd,bt,bw,bu,bB,List.nil_append,List.cons_append]
    rw[w64 (by omega) (by omega)]
    exact bz.loop hk m j (0+1) _ r2 (by omega) (by omega) (by rw[r3];omega) (by omega)
   ·rw[if_neg (by rw[hb];decide)]
    rw[bz.fJ]
    simp only[dv,dw,cg,b7,cf,bL,bU,bV,dj,b6,bR,bq,bp,ch,a8,bT,ck,cm,cN,dx,ca,cd,bt,bw,bu,bB,List.nil_append,List.cons_append]
    rw[w64 (by omega) (by omega)]
    exact bz.loop hk m j (x+1) w hw (by omega) (by omega) (by omega) (by omega)
  ·rw[if_neg c];exact Pu.Ok.ret rfl
theorem bz.is{k:Nat}{w:LI}(hk:4194304+40≤k)(hw:w.length≤1048576):bz k w=some (Pu.kV w):=by
 obtain⟨k,rfl⟩: ∃k',k=k'+1:=⟨k-1,by omega⟩
 apply Pu.ok_eq
 rw[bz.eq]
 refine Pu.Ok.cI (cG.is (by omega) hw) ?_
 unfold Pu.kV
 simp only[cN]
 refine Pu.Ok.tn (fun hb=> ?_) (fun hb=> ?_)
 ·rw[hb];exact Pu.Ok.ret rfl
 ·rw[hb,if_pos rfl]
  refine Pu.Ok.cI (cp.is (by omega) (by omega)) ?_
  have:=Pu.rA hb
  exact bz.loop (k:=k) (by omega) 2000 k 1 w hb (by omega) (by omega) (by omega) (by omega)
theorem b9.loop{k:Nat}{w:LI}{n:Bool}(hw:w.length≤9)(hl: ∀x∈w,1≤x∧x≤9): ∀(m j:Nat) (c:LI),m≤w.length→m<j→c.length=10→(∀x∈c,0≤x∧x+m≤100)→Pu.Ok (b9.L0 k j ((m:Int)-1) n w c) (· =Pu.ta w m c)
 |m,0,c,_,hj,_,_=>by omega
 |0,j+1,c,hm,_,hc,_=>by
  rw[b9.bm]
  simp only[dv,dw,cg,b7,cf,bL,bU,bV,dj,b6,bR,bq,bp,ch,a8,bT,ck,cm,cN,dx,ca,cd,bt,bw,bu,bB,List.nil_append,List.cons_append]
  exact Pu.Ok.no (by omega) (Pu.Ok.ret rfl)
 |m+1,j+1,c,hm,hj,hc,hx=>by
  rw[b9.bm]
  have em:((m+1:Nat):Int)-1=m:=by omega
  rw[em]
  have hm':m<w.length:=by omega
  have hmem:w.getD m 0∈w:=by rw[Pu.aB hm' _];exact List.getElem_mem _
  have hx9:=hl _ hmem
  have hcn:(w.getD m 0).toNat<c.length:=by omega
  have hcm:c.getD (w.getD m 0).toNat 0∈c:=by rw[Pu.aB hcn _];exact List.getElem_mem _
  have hcv:=hx _ hcm
  simp only[dv,dw,cg,b7,cf,bL,bU,bV,dj,b6,bR,bq,bp,ch,a8,bT,ck,cm,cN,dx,ca,cd,bt,bw,bu,bB,List.nil_append,List.cons_append]
  have e1:=w64 (n:=c.getD (w.getD m 0).toNat 0+1) (by omega) (by omega)
  have e2:=w64 (n:=w.getD m 0-1) (by omega) (by omega)
  have e3:(w.getD m 0-1).toNat=(w.getD m 0).toNat-1:=by omega
  have e4:=w64 (n:=(m:Int)-1) (by omega) (by omega)
  simp only[Int.toNat_natCast,e1,e2,e3,e4,List.length_set]
  have hset: ∀x∈c.set (w.getD m 0).toNat (c.getD (w.getD m 0).toNat 0+1),0≤x∧x+m≤100:=by
   intro x h
   rcases List.mem_or_eq_of_mem_set h with h|rfl
   ·have:=hx x h;omega
   ·omega
  have ih:=b9.loop (k:=k) (n:=n) hw hl m j (c.set (w.getD m 0).toNat (c.getD (w.getD m 0).toNat 0+1)) (by omega) (by omega) (by rw[List.length_set];exact hc) hset
  unfold Pu.ta
  (repeat (refine Pu.Ok.g (by first|omega|assumption|(simp only[List.length_append,List.length_cons,List.length_nil,List.length_set,List.length_take,List.length_drop,List.length_replicate]at*;omega)) ?_))
  refine Pu.Ok.t (fun h1=> ?_) (fun h1=> ?_)
  ·(repeat (refine Pu.Ok.g (by first|omega|assumption|(simp only[List.length_append,List.length_cons,List.length_nil,List.length_set,List.length_take,List.length_drop,List.length_replicate]at*;omega)) ?_))
   refine Pu.Ok.t (fun h2=> ?_) (fun h2=> ?_)
   ·rw[if_pos ⟨h1,h2⟩];exact Pu.Ok.ret rfl
   ·rw[if_neg (fun h=>h2 h.2)];exact ih
  ·rw[if_neg (fun h=>h1 h.1)];exact ih
theorem b9.is{k:Nat}{w:LI}(hk:4194304+10≤k)(hw:w.length≤1048576):b9 k w=some (Pu.lat w):=by
 obtain⟨k,rfl⟩: ∃k',k=k'+1:=⟨k-1,by omega⟩
 apply Pu.ok_eq
 rw[b9.eq]
 refine Pu.Ok.cI (cG.is (by omega) hw) ?_
 unfold Pu.lat
 simp only[cN]
 refine Pu.Ok.tn (fun hb=> ?_) (fun hb=> ?_)
 ·rw[hb];exact Pu.Ok.ret rfl
 ·rw[hb,Bool.true_and]
  obtain⟨h1,h2⟩:=Pu.bY hb
  simp only[dv,dw,cg,b7,cf,bL,bU,bV,dj,b6,bR,bq,bp,ch,a8,bT,ck,cm,cN,dx,ca,cd,bt,bw,bu,bB,List.nil_append,List.cons_append]
  refine Pu.Ok.g (by decide) (Pu.Ok.g (by decide) (Pu.Ok.g (by decide) ?_))
  rw[w64 (n:=(w.length:Int)-1) (by omega) (by omega)]
  exact b9.loop (k:=k) h1 h2 w.length k (List.replicate 10 0) (Nat.le_refl _) (by omega) (by simp) (fun x hx=>by rw[List.eq_of_mem_replicate hx];omega)
theorem aM.loop{k:Nat}{p:LI}(hk:4194304≤k)(hp:p.length≤1048576): ∀(m j i:Nat) (s v:Int),i+m=p.length→m<j→(i=0→v=9)→(0<i→v=p.getD (i-1) 0)→v≤9→0≤s→s≤9→
  aM.L0 k j s p.length i p=some (Pu.ig (p.drop i) v s)
 |m,0,i,s,v,_,hj,_,_,_,_,_=>by omega
 |0,j+1,i,s,v,hi,_,_,_,_,_,_=>by
  rw[aM.bm]
  have e:i=p.length:=by omega
  subst e
  simp[Pu.ig]
 |m+1,j+1,i,s,v,hi,hj,h0,h1,hv,hs,hs9=>by
  rw[aM.bm]
  have hlt:i<p.length:=by omega
  have hj1: ∀x:Int,x=p.getD i 0→1≤x→x≤v→aM.J1 k j s x p.length i p=some (decide (s+x≤9)&&Pu.ig (p.drop (i+1)) x (s+x)):=by
   intro x hx hx1 hx2
   rw[aM.fJ]
   simp (disch:=omega) only[↓aN,sss,if_true,if_false]
   by_cases c:9<s+x
   ·have: ¬s+x≤9:=by omega
    simp[c,this]
   ·have c':s+x≤9:=by omega
    have ih:=aM.loop hk hp m j (i+1) (s+x) x (by omega) (by omega) (by omega) (by simp[hx]) (by omega) (by omega) c'
    rw[Int.natCast_succ]at ih
    simp[c,c',ih]
  rw[Pu.drop_cons hlt 0]
  simp (disch:=omega) only[↓aN,sss,if_true,if_false,hlt,cV.is,Pu.ig]
  generalize hx:p.getD i 0=x at*
  unfold Pu.within
  by_cases c1:1≤x
  ·by_cases c2:x≤v
   ·have c3:x≤9:=by omega
    have hj:=hj1 x rfl c1 c2
    by_cases hi0:i=0
    ·have hpos: ¬(0:Int)<i:=by omega
     simp (disch:=omega) only[↓aN,sss,if_true,if_false,c1,c2,c3,hpos,hj]
    ·have hv':=h1 (by omega)
     have e:((i:Int)-1)=((i-1:Nat):Int):=by omega
     have hlt':i-1<p.length:=by omega
     have hge: ¬p.getD (i-1) 0<x:=by rw[←hv'];omega
     have hpos:(0:Int)<i:=by omega
     simp (disch:=omega) only[e,↓aN,sss,if_true,if_false,hlt',c1,c2,c3,hj,hpos,hge]
   ·simp only[c1,c2,↓aN,sss,if_true,if_false]
    by_cases c3:x≤9
    ·have hi0:0<i:=by
      rcases Nat.eq_zero_or_pos i with h|h
      ·have:=h0 h;omega
      ·exact h
     have hv':=h1 hi0
     have e:((i:Int)-1)=((i-1:Nat):Int):=by omega
     have hlt':i-1<p.length:=by omega
     have hge:p.getD (i-1) 0<x:=by rw[←hv'];omega
     have hpos:(0:Int)<i:=by omega
     simp (disch:=omega) only[e,↓aN,sss,if_true,if_false,hlt',c3,hpos,hge]
    ·simp only[c3,↓aN,sss,if_true,if_false]
  ·simp only[c1,↓aN,sss,if_true,if_false]
theorem aM.is{k:Nat}{p:LI}(hk:4194304+1≤k)(hp:p.length≤1048576):aM k p=some (Pu.cM p):=by
 obtain⟨k,rfl⟩: ∃k',k=k'+1:=⟨k-1,by omega⟩
 rw[aM.eq]
 exact aM.loop (k:=k) (by omega) hp p.length k 0 0 9 (by omega) (by omega) (fun _=>rfl) (by omega) (by omega) (by omega) (by omega)
theorem gB.is{k:Nat}{p:LI}{i:Int}(hk:2≤k)(hp:p.length≤1048576):gB k p i=some (Pu.atI p i):=by
 obtain⟨k,rfl⟩: ∃k',k=k'+1:=⟨k-1,by omega⟩
 rw[gB.eq,cV.is (by omega)]
 unfold Pu.within
 by_cases h1:0≤i
 ·have h0: ¬i<0:=by omega
  by_cases h2:i≤(p.length:Int)-1
  ·have h4:i.toNat<p.length:=by omega
   simp (disch:=omega) only[↓aN,sss,if_true,if_false,h0,h1,h2,h4,Pu.atI]
  ·simp (disch:=omega) only[↓aN,sss,if_true,if_false,h1,h2,Pu.AS (p:=p) (i:=i) (by omega)]
 ·simp (disch:=omega) only[↓aN,sss,if_true,if_false,h1,Pu.uh (p:=p) (i:=i) (by omega)]
theorem bN.loop{k:Nat}{q p:LI}(hq:q.length≤1048576)(hp:p.length≤1048576)(hk:4194304+2≤k):bN.L1 k k q.length 0 p q=some ((List.range' 0 q.length).all fun i=>decide (q.getD i 0≤p.getD i 0)):=by
 have h:=Pu.lX (fun j i=>bN.L1 k j q.length (i:Int) p q) q.length (fun i=>decide (q.getD i 0≤p.getD i 0)) (some false) (some true)
  (fun j i hi=>by
   rw[bN.fN,gB.is (by omega) hp,Pu.gd]
   simp (disch:=omega) only[↓aN,sss,if_true,if_false,hi,Int.natCast_add,Int.natCast_one]
   by_cases c:q.getD i 0≤p.getD i 0
   ·have c': ¬p.getD i 0<q.getD i 0:=by omega
    simp only[c,c',↓aN,sss,if_true,if_false]
   ·have c':p.getD i 0<q.getD i 0:=by omega
    simp only[c,c',↓aN,sss,if_true,if_false])
  (fun j=>by
   rw[bN.fN]
   simp only[↓aN,sss,if_true,if_false,Nat.lt_irrefl]) q.length k 0 (by omega) (by omega)
 simp only[Int.natCast_zero]at h
 rw[h]
 cases(List.range' 0 q.length).all fun i=>decide (q.getD i 0≤p.getD i 0)<;>simp
theorem bN.is{k:Nat}{q p:LI}(hk:4194304+3≤k)(hq:q.length≤1048576)(hp:p.length≤1048576):bN k q p=some (Pu.eM q p):=by
 obtain⟨k,rfl⟩: ∃k',k=k'+1:=⟨k-1,by omega⟩
 rw[bN.eq,aM.is (by omega) hq,eZ,bN.lp,Pu.yO]
 cases c1:Pu.cM q with
 |false=>simp only[↓aN,sss,if_true,if_false]
 |true=>
  simp only[↓aN,sss,if_true,if_false]
  rw[aM.is (by omega) hp,eZ]
  cases c2:Pu.cM p with
  |false=>simp only[↓aN,sss,if_true,if_false]
  |true=>
   simp only[↓aN,sss,if_true,if_false]
   exact bN.loop hq hp (by omega)
theorem ir.is{k:Nat}{s:LI×LI}(hk:4194304+4≤k)(hq:s.1.length≤1048576)(hp:s.2.length≤1048576):ir k s=some (Pu.eM s.2 s.1):=by
 obtain⟨k,rfl⟩: ∃k',k=k'+1:=⟨k-1,by omega⟩
 rw[ir.eq,bN.is (by omega) hp hq]
 rfl
theorem bO.loop{k:Nat}{t:Pu.Tab}{x3 x4:LI}(hk:4194304+4≤k)(hi:Pu.cM t.1=true)(h2:t.2.length≤1048576)(hr: ∀x∈t.2,x.length≤1048576): ∀(m j i:Nat) (acc:LI),i+m=t.2.length→m<j→acc.length=i→
  bO.L1 k j t.2.length i t.2 t.1 x3 x4 acc t.1=some (if Pu.eM t.1 (acc++Pu.gz t.1 i (t.2.drop i))=true then((acc++Pu.gz t.1 i (t.2.drop i),t.1),true)else(([],[]),false))
 |m,0,i,acc,_,hj,_=>by omega
 |0,j+1,i,acc,hm,_,hacc=>by
  rw[bO.fN]
  have e:i=t.2.length:=by omega
  have h9:=(Pu.cW hi).2.2.1
  have hlt: ¬i<t.2.length:=by omega
  rw[ir.is (by omega) (by simp only;omega) (by simp only;omega),e]
  simp only[↓aN,sss,if_true,if_false,Nat.lt_irrefl,List.drop_length,Pu.gz,List.append_nil]
  cases Pu.eM t.1 acc<;>simp
 |m+1,j+1,i,acc,hm,hj,hacc=>by
  rw[bO.fN]
  have hlt:i<t.2.length:=by omega
  have hb:=Pu.fK hi i
  have h9:=(Pu.cW hi).2.2.1
  have hrow:=hr t.2[i] (List.getElem_mem hlt)
  rw[←Pu.aB hlt []]at hrow
  rw[gB.is (by omega) (by omega)]
  have ih:=bO.loop (x3:=x3) (x4:=x4) hk hi h2 hr m j (i+1) (acc++ [Pu.atI t.1 i+(t.2.getD i []).length]) (by omega) (by omega) (by simp[hacc])
  rw[Int.natCast_succ]at ih
  rw[Pu.drop_cons hlt []]
  have hl:(acc++ [Pu.atI t.1 i+((t.2.getD i []).length:Int)]).length≤1099511627776:=by simp;omega
  simp (disch:=omega) only[↓aN,sss,if_true,if_false,hlt,hl,ih,Pu.gz]
  simp only[List.append_assoc,List.singleton_append,Pu.gd]
  rfl
theorem bO.is{k:Nat}{t:Pu.Tab}(hk:4194304+5≤k)(h1:t.1.length≤1048576)(h2:t.2.length≤1048576)(hr: ∀x∈t.2,x.length≤1048576):bO k t=some (Pu.shapeOf t):=by
 obtain⟨k,rfl⟩: ∃k',k=k'+1:=⟨k-1,by omega⟩
 rw[bO.eq,aM.is (by omega) h1,bO.lp,cp.is (by omega) (by omega)]
 simp only[↓aN,sss,if_true,if_false]
 unfold Pu.shapeOf
 cases c1:Pu.cM t.1 with
 |false=>
  have:Pu.dP t=false:=by unfold Pu.dP;rw[c1];rfl
  simp only[this,↓aN,sss,if_true,if_false]
 |true=>
  by_cases c2:t.2.length<t.1.length
  ·have:Pu.dP t=false:=by
    have: ¬t.1.length≤t.2.length:=by omega
    unfold Pu.dP;simp[this]
   simp only[this,c2,↓aN,sss,if_true,if_false]
  ·have c2':t.1.length≤t.2.length:=by omega
   have hloop:=bO.loop (k:=k) (t:=t) (x3:= []) (x4:= []) (by omega) c1 h2 hr t.2.length k 0 [] (by omega) (by omega) rfl
   rw[Int.natCast_zero]at hloop
   simp only[c2,↓aN,sss,if_true,if_false]
   rw[hloop]
   have:Pu.dP t=Pu.eM t.1 (Pu.outer t):=by unfold Pu.dP;simp[c1,c2']
   rw[this]
   rfl
theorem dG.is{k:Nat}{t:Pu.Tab}{r c:Int}(hk:3≤k)(hi:Pu.cM t.1=true)(ht:t.2.length≤1048576)(hr: ∀x∈t.2,x.length≤1048576)(h1: -1000000000≤c)(h2:c≤1000000000):dG k t r c=some (Pu.entry t r c):=by
 obtain⟨k,rfl⟩: ∃k',k=k'+1:=⟨k-1,by omega⟩
 have hb:=Pu.fK hi r
 have h9:=(Pu.cW hi).2.2.1
 rw[dG.eq,cV.is (by omega)]
 unfold Pu.entry Pu.within
 by_cases c1:r<0
 ·have c1': ¬0≤r:=by omega
  simp (disch:=omega) only[↓aN,sss,if_true,if_false,c1,c1']
 ·have c3:0≤r:=by omega
  by_cases c2:(t.2.length:Int)≤r
  ·have c2': ¬r≤(t.2.length:Int)-1:=by omega
   simp (disch:=omega) only[↓aN,sss,if_true,if_false,c1,c3,c2,c2']
  ·have c2':r≤(t.2.length:Int)-1:=by omega
   have c4:r.toNat<t.2.length:=by omega
   have hx:=hr _ (List.getElem_mem c4)
   rw[←Pu.aB c4 []]at hx
   simp (disch:=omega) only[↓aN,sss,if_true,if_false,c1,c2,c2',c3,c4,gB.is]
theorem aF.inner{k k1:Nat}{t:Pu.Tab}{r:Nat}(hk:4194304≤k)(hi:Pu.cM t.1=true)(ht:t.2.length≤1048576)(hr: ∀x∈t.2,x.length≤1048576)(hlt:r<t.2.length)(n:Int):
  aF.L1 k k1 k r r n r r (t.2.getD r []).length 0 t.2 t.1=if((List.range' 0 (t.2.getD r []).length).all fun q=>Pu.gU t r q)=true then aF.L0 k k1 n ((r:Int)+1) t.2 t.1 else some false:=by
 have hx:=hr _ (List.getElem_mem hlt)
 rw[←Pu.aB hlt []]at hx
 have hb:=Pu.fK hi r
 have h9:=(Pu.cW hi).2.2.1
 have h:=Pu.lX (fun j q=>aF.L1 k k1 j r r n r r (t.2.getD r []).length (q:Int) t.2 t.1) (t.2.getD r []).length (fun q=>Pu.gU t r q) (some false) (aF.L0 k k1 n ((r:Int)+1) t.2 t.1)
  (fun j q hq=>by
   have e3:=dG.is (k:=k) (t:=t) (r:=(r:Int)-1) (c:=t.1.getD r 0+q) (by omega) hi ht hr (by rw[Pu.gd]at hb;omega) (by rw[Pu.gd]at hb;omega)
   have ea:=gB.is (k:=k) (p:=t.1) (i:=r) (by omega) (by omega)
   rw[Pu.gd]at ea
   rw[Pu.gd]at hb
   rw[aF.fN]
   simp (maxSteps:=10000000) (disch:=omega) only[↓aN,sss,if_true,if_false,hlt,hq,cV.is,ea,e3,aF.jW,Int.natCast_add,Int.natCast_one]
   unfold Pu.gU
   generalize hx0:(t.2.getD r []).getD q 0=x at*
   cases Pu.within x 1 9 with
   |false=>simp
   |true=>
    have up:(if(0:Int)<r then(if x≤Pu.entry t ((r:Int)-1) (t.1.getD r 0+q)then some false else aF.L1 k k1 j r r n r r (t.2.getD r []).length ((q:Int)+1) t.2 t.1)else aF.L1 k k1 j r r n r r (t.2.getD r []).length ((q:Int)+1) t.2 t.1)=
      if(decide (r=0)||decide (Pu.entry t ((r:Int)-1) (t.1.getD r 0+q)<x))=true then aF.L1 k k1 j r r n r r (t.2.getD r []).length ((q:Int)+1) t.2 t.1 else some false:=by
     by_cases e:r=0
     ·subst e;simp
     ·have e':(0:Int)<r:=by omega
      by_cases c:x≤Pu.entry t ((r:Int)-1) (t.1.getD r 0+q)
      ·have c': ¬Pu.entry t ((r:Int)-1) (t.1.getD r 0+q)<x:=by omega
       simp only[e',c,c',e,if_true,if_false,decide_false,Bool.or_false,Bool.false_eq_true]
      ·have c':Pu.entry t ((r:Int)-1) (t.1.getD r 0+q)<x:=by omega
       simp only[e',c,c',e,if_true,if_false,decide_true,decide_false,Bool.false_or]
    by_cases e:q=0
    ·have e': ¬(0:Int)<q:=by omega
     simp only[e',e,↓aN,sss,if_true,if_false,Bool.true_or]
     rw[e]at up
     exact up
    ·have e':(0:Int)<q:=by omega
     have eq:(q:Int)-1=((q-1:Nat):Int):=by omega
     have hq':q-1<(t.2.getD r []).length:=by omega
     simp (disch:=omega) only[e',e,↓aN,sss,if_true,if_false,eq,hq',Bool.false_or]
     by_cases c:x<(t.2.getD r []).getD (q-1) 0
     ·have c': ¬(t.2.getD r []).getD (q-1) 0≤x:=by omega
      simp only[c,c',↓aN,sss,if_true,if_false]
     ·have c':(t.2.getD r []).getD (q-1) 0≤x:=by omega
      simp only[c,c',↓aN,sss,if_true,if_false]
      exact up)
  (fun j=>by
   rw[aF.fN]
   simp (maxSteps:=10000000) (disch:=omega) only[↓aN,sss,if_true,if_false,Nat.lt_irrefl]) (t.2.getD r []).length k 0 (by omega) (by omega)
 simp only[Int.natCast_zero]at h
 exact h
theorem aF.is{k:Nat}{t:Pu.Tab}(hk:4194304+6≤k)(h1:t.1.length≤1048576)(ht:t.2.length≤1048576)(hr: ∀x∈t.2,x.length≤1048576):aF k t=some (Pu.iD t):=by
 obtain⟨k,rfl⟩: ∃k',k=k'+1:=⟨k-1,by omega⟩
 rw[aF.eq,bO.is (by omega) h1 ht hr,eZ]
 unfold Pu.iD Pu.shapeOf
 cases hs:Pu.dP t with
 |false=>simp[hs]
 |true=>
  have hi:Pu.cM t.1=true:=by
   simp only[Pu.dP,Bool.and_eq_true]at hs;exact hs.1
  have h:=Pu.lX (fun j r=>aF.L0 k j t.2.length r t.2 t.1) t.2.length (fun r=>(List.range' 0 (t.2.getD r []).length).all fun q=>Pu.gU t r q) (some false) (some true)
   (fun j r hlt=>by
    rw[aF.bm]
    simp (disch:=omega) only[↓aN,sss,if_true,if_false,hlt,aF.inner (k1:=j) (show 4194304≤k by omega) hi ht hr hlt,Int.natCast_add,Int.natCast_one])
   (fun j=>by
    rw[aF.bm]
    simp (disch:=omega) only[↓aN,sss,if_true,if_false,Nat.lt_irrefl]) t.2.length k 0 (by omega) (by omega)
  simp only[Int.natCast_zero]at h
  simp only[if_true,↓aN,sss,if_true,if_false]
  rw[h]
  cases(List.range' 0 t.2.length).all fun r=>(List.range' 0 (t.2.getD r []).length).all fun q=>Pu.gU t r q<;>simp
theorem strings_Repeat.is{k:Nat}{n:Int}(hk:1≤k)(h0:0≤n)(h1:n≤1000):strings_Repeat k (Pu.tx [46]) n=some (Pu.tx (List.replicate n.toNat 46)):=by
 obtain⟨k,rfl⟩: ∃k',k=k'+1:=⟨k-1,by omega⟩
 rw[strings_Repeat.eq]
 exact Pu.Dk h0 h1
theorem bF.loop{k:Nat}{t:Pu.Tab}(hk:3000≤k)(ht:Pu.iD t=true): ∀(m j i:Nat) (acc:List ByteArray),i+m=t.2.length→m<j→acc=((List.range i).map (Pu.oU t)).map Pu.tx→Pu.Ok (bF.L0 k j (t.2.length:Int) i acc t.2 t.1) (· =Pu.tx (Lib.join ((List.range t.2.length).map (Pu.oU t)) [47]))
 |m,0,i,acc,_,hj,_=>by omega
 |0,j+1,i,acc,hi,_,ha=>by
  rw[bF.bm]
  simp only[dv,dw,cg,b7,cf,bL,bU,bV,dj,b6,bR,bq,bp,ch,a8,bT,ck,cm,cN,dx,ca,cd,bt,bw,bu,bB,List.nil_append,List.cons_append]
  refine Pu.Ok.no (by omega) ?_
  have e:i=t.2.length:=by omega
  subst e
  have h9:=(Pu.iv ht).1
  rw[ha]
  refine Pu.Ok.cI (gW.is (sep:= [47]) (by omega) (by rw[List.length_map,List.length_range];omega) (fun w hw=> ?_) (by decide)) (Pu.Ok.ret rfl)
  obtain⟨x,hx,rfl⟩:=List.mem_map.1 hw
  have:=Pu.py ht x
  omega
 |m+1,j+1,i,acc,hi,hj,ha=>by
  rw[bF.bm]
  have hlen:acc.length=i:=by rw[ha,List.length_map,List.length_map,List.length_range]
  have h9:=(Pu.iv ht).1
  obtain⟨p1,p2,p3,p4⟩:=Pu.jN ht
  simp only[dv,dw,cg,b7,cf,bL,bU,bV,dj,b6,bR,bq,bp,ch,a8,bT,ck,cm,cN,dx,ca,cd,bt,bw,bu,bB,List.nil_append,List.cons_append]
  (try simp only[Int.toNat_natCast]);(try simp (disch:=omega) only[w64])
  (repeat (refine Pu.Ok.g (by first|omega|assumption|(simp only[List.length_append,List.length_cons,List.length_nil,List.length_set,List.length_take,List.length_drop,List.length_replicate]at*;omega)) ?_))
  have hb:=Pu.fK p1 i
  refine Pu.Ok.cI (gB.is (by omega) (by omega)) ?_
  have e46:(⟨#[46]⟩:ByteArray)=Pu.tx [46]:=rfl
  have e0:(⟨#[]⟩:ByteArray)=Pu.tx []:=rfl
  rw[e46,e0]
  refine Pu.Ok.cI (strings_Repeat.is (by omega) hb.1 (by omega)) ?_
  (repeat (refine Pu.Ok.g (by first|omega|assumption|(simp only[List.length_append,List.length_cons,List.length_nil,List.length_set,List.length_take,List.length_drop,List.length_replicate]at*;omega)) ?_))
  have hr:=(Pu.iv ht).at i
  refine Pu.Ok.cI (cy.is (by omega) (by decide) (by omega) (fun x hx=>by have:=Pu.sB ht hx;omega)) ?_
  rw[Pu.tk,Pu.lT,Pu.eT,Pu.eT]
  have hrl:=Pu.py ht i
  have hrl':(List.replicate (Pu.atI t.1 i).toNat (46:UInt8)).length+(Pu.gQ (t.2.getD i [])).length≤100:=by
   rw[←List.length_append];exact hrl
  refine Pu.Ok.g (by omega) ?_
  (repeat (refine Pu.Ok.g (by first|omega|assumption|(simp only[List.length_append,List.length_cons,List.length_nil,List.length_set,List.length_take,List.length_drop,List.length_replicate]at*;omega)) ?_))
  (try simp only[Int.toNat_natCast]);(try simp (disch:=omega) only[w64])
  refine bF.loop hk ht m j (i+1) _ (by omega) (by omega) ?_
  rw[ha,List.range_succ,List.map_append,List.map_append]
  rfl
theorem bF.is{k:Nat}{t:Pu.Tab}(hk:4194304+20≤k)(h1:t.1.length≤1048576)(h2:t.2.length≤1048576)(hr: ∀x∈t.2,x.length≤1048576):bF k t=some (Pu.tx (Pu.jU t)):=by
 obtain⟨k,rfl⟩: ∃k',k=k'+1:=⟨k-1,by omega⟩
 apply Pu.ok_eq
 rw[bF.eq]
 refine Pu.Ok.cI (aF.is (by omega) h1 h2 hr) ?_
 unfold Pu.jU
 simp only[dv,dw,cg,b7,cf,bL,bU,bV,dj,b6,bR,bq,bp,ch,a8,bT,ck,cm,cN,dx,ca,cd,bt,bw,bu,bB,List.nil_append,List.cons_append]
 refine Pu.Ok.tn (fun hb=> ?_) (fun hb=> ?_)
 ·rw[hb];exact Pu.Ok.ret rfl
 ·rw[hb]
  refine Pu.Ok.t (fun h=> ?_) (fun h=> ?_)
  ·have:t.2= []:=List.eq_nil_of_length_eq_zero (by simpa using h)
   rw[this]
   exact Pu.Ok.ret rfl
  ·have h0:t.2≠ []:=fun e=>h (by rw[e];rfl)
   rw[if_pos rfl,if_neg h0]
   exact bF.loop (k:=k) (by omega) hb t.2.length k 0 [] (Nat.zero_add _) (by show t.2.length<k;omega) rfl
theorem e9.is{k:Nat}{w:LI}(hk:4194304+50≤k)(hw:w.length≤1048576):e9 k w=some (Pu.fw w):=by
 obtain⟨k,rfl⟩: ∃k',k=k'+1:=⟨k-1,by omega⟩
 have h1:=ef.is (k:=k) (w:=w) (by omega) hw
 have ho:=Pu.kS (w:=w)
 have hl:=Pu.jy (w:=w)
 rw[e9.eq]
 refine bE h1 ?_
 unfold Pu.fw at hl⊢
 cases c:Pu.isWord w with
 |false=>
  have e:(Pu.bc w).2=false:=by unfold Pu.bc;rw[c];rfl
  rw[e]
  exact tM rfl
 |true=>
  have e:(Pu.bc w).2=true:=by unfold Pu.bc;rw[c];rfl
  rw[e,if_pos rfl]
  rw[c,if_pos rfl]at hl
  have hp:=Pu.je c
  have hp':=hp
  simp only[Pu.cK,Bool.and_eq_true]at hp'
  have hs:=bO.is (k:=k) (t:=(Pu.bc w).1) (by omega) ho.1 ho.2.1 ho.2.2
  have hso:Pu.shapeOf (Pu.bc w).1=((Pu.outer (Pu.bc w).1,(Pu.bc w).1.1),true):=by unfold Pu.shapeOf;rw[if_pos (Pu.ph hp'.1)]
  rw[hso]at hs
  exact tN (bE hs rfl)
theorem ez.is{k:Nat}{w:LI}(hk:4194304+10≤k)(hw:w.length≤1048576):ez k w=some (Pu.tx (Pu.jF w)):=by
 obtain⟨k,rfl⟩: ∃k',k=k'+1:=⟨k-1,by omega⟩
 apply Pu.ok_eq
 rw[ez.eq]
 refine Pu.Ok.cI (aM.is (by omega) hw) ?_
 unfold Pu.jF
 simp only[dv,dw,cg,b7,cf,bL,bU,bV,dj,b6,bR,bq,bp,ch,a8,bT,ck,cm,cN,dx,ca,cd,bt,bw,bu,bB,List.nil_append,List.cons_append]
 refine Pu.Ok.tn (fun hb=> ?_) (fun hb=> ?_)
 ·rw[hb];exact Pu.Ok.ret rfl
 ·rw[hb]
  refine Pu.Ok.t (fun h=> ?_) (fun h=> ?_)
  ·have:w= []:=List.eq_nil_of_length_eq_zero (by omega)
   subst this
   exact Pu.Ok.ret rfl
  ·have h0:w≠ []:=fun e=>h (by rw[e];rfl)
   rw[if_pos rfl,if_neg h0]
   obtain⟨hp,_,hl,_⟩:=Pu.cW hb
   refine Pu.Ok.cI (cy.is (sep:= [44]) (by omega) (by decide) (by omega) (fun x hx=>by have:=hp x hx;omega)) (Pu.Ok.ret rfl)
theorem ao.wY{k k1:Nat}{w:LI}{i:Nat}{n v:Int}(hk:10≤k)(hw:w.length≤9)(hi:i<w.length): ∀(m j q:Nat) (a:Int),q+m=i→m<j→0≤a→a+m≤1000→Pu.Ok (ao.L0 k k1 (a+Pu.mK w i m q) n ((i:Int)+1) w) (· =v)→Pu.Ok (ao.L1 k k1 j a i n i i q w) (· =v)
 |m,0,q,a,_,hj,_,_,_=>by omega
 |0,j+1,q,a,hq,hj,h0,h1,key=>by
  rw[ao.fN]
  simp only[dv,dw,cg,b7,cf,bL,bU,bV,dj,b6,bR,bq,bp,ch,a8,bT,ck,cm,cN,dx,ca,cd,bt,bw,bu,bB,List.nil_append,List.cons_append]
  (try simp only[Int.toNat_natCast]);(try simp (disch:=omega) only[w64])
  refine Pu.Ok.no (by omega) ?_
  unfold Pu.mK at key
  rw[Int.add_zero]at key
  exact key
 |m+1,j+1,q,a,hq,hj,h0,h1,key=>by
  rw[ao.fN]
  simp only[dv,dw,cg,b7,cf,bL,bU,bV,dj,b6,bR,bq,bp,ch,a8,bT,ck,cm,cN,dx,ca,cd,bt,bw,bu,bB,List.nil_append,List.cons_append]
  (try simp only[Int.toNat_natCast]);(try simp (disch:=omega) only[w64])
  (repeat (refine Pu.Ok.g (by first|omega|assumption|(simp only[List.length_append,List.length_cons,List.length_nil,List.length_set,List.length_take,List.length_drop,List.length_replicate]at*;omega)) ?_))
  unfold Pu.mK at key
  rw[←Int.add_assoc]at key
  refine Pu.Ok.t (fun c=> ?_) (fun c=> ?_)
  ·rw[if_pos c]at key
   rw[ao.jW]
   simp only[dv,dw,cg,b7,cf,bL,bU,bV,dj,b6,bR,bq,bp,ch,a8,bT,ck,cm,cN,dx,ca,cd,bt,bw,bu,bB,List.nil_append,List.cons_append]
   (try simp only[Int.toNat_natCast]);(try simp (disch:=omega) only[w64])
   exact ao.wY hk hw hi m j (q+1) (a+1) (by omega) (by omega) (by omega) (by omega) key
  ·rw[if_neg c,Int.add_zero]at key
   rw[ao.jW]
   simp only[dv,dw,cg,b7,cf,bL,bU,bV,dj,b6,bR,bq,bp,ch,a8,bT,ck,cm,cN,dx,ca,cd,bt,bw,bu,bB,List.nil_append,List.cons_append]
   (try simp only[Int.toNat_natCast]);(try simp (disch:=omega) only[w64])
   exact ao.wY hk hw hi m j (q+1) a (by omega) (by omega) (by omega) (by omega) key
theorem ao.loop{k:Nat}{w:LI}(hk:100≤k)(hw:w.length≤9): ∀(m j i:Nat) (a:Int),i+m=w.length→m<j→0≤a→a+m*9≤900→Pu.Ok (ao.L0 k j a (w.length:Int) i w) (· =a+Pu.mG w m i)
 |m,0,i,a,_,hj,_,_=>by omega
 |0,j+1,i,a,hi,_,_,_=>by
  rw[ao.bm]
  simp only[dv,dw,cg,b7,cf,bL,bU,bV,dj,b6,bR,bq,bp,ch,a8,bT,ck,cm,cN,dx,ca,cd,bt,bw,bu,bB,List.nil_append,List.cons_append]
  refine Pu.Ok.no (by omega) ?_
  unfold Pu.mG
  rw[Int.add_zero]
  exact Pu.Ok.ret rfl
 |m+1,j+1,i,a,hi,hj,h0,h1=>by
  rw[ao.bm]
  simp only[dv,dw,cg,b7,cf,bL,bU,bV,dj,b6,bR,bq,bp,ch,a8,bT,ck,cm,cN,dx,ca,cd,bt,bw,bu,bB,List.nil_append,List.cons_append]
  refine Pu.Ok.g (by omega) ?_
  have hb:=Pu.qL w i i 0
  refine ao.wY (by omega) hw (by omega) i k 0 a (by omega) (by omega) h0 (by omega) ?_
  have h:=ao.loop hk hw m j (i+1) (a+Pu.mK w i i 0) (by omega) (by omega) (by omega) (by omega)
  rw[Int.natCast_succ]at h
  unfold Pu.mG
  rw[←Int.add_assoc]
  exact h
theorem ao.is{k:Nat}{w:LI}(hk:4194304+10≤k)(hw:w.length≤1048576):ao k w=some (Pu.inv w):=by
 obtain⟨k,rfl⟩: ∃k',k=k'+1:=⟨k-1,by omega⟩
 apply Pu.ok_eq
 rw[ao.eq]
 refine Pu.Ok.cI (cG.is (by omega) hw) ?_
 unfold Pu.inv
 simp only[cN]
 refine Pu.Ok.tn (fun hb=> ?_) (fun hb=> ?_)
 ·rw[hb];exact Pu.Ok.ret rfl
 ·rw[hb,if_pos rfl]
  have hl:=(Pu.bY hb).1
  have h:=ao.loop (k:=k) (by omega) hl w.length k 0 0 (by omega) (by omega) (by omega) (by omega)
  rw[Int.zero_add]at h
  exact h
theorem aU.loop{k:Nat}{w:LI}(hk:100≤k)(hw:w.length≤9): ∀(m j i:Nat) (a:Int),i+m=w.length→1≤i→m<j→0≤a→a+m*9≤900→Pu.Ok (aU.L0 k j a i w) (· =a+Pu.nI w m i)
 |m,0,i,a,_,_,hj,_,_=>by omega
 |0,j+1,i,a,hi,_,_,_,_=>by
  rw[aU.bm]
  simp only[dv,dw,cg,b7,cf,bL,bU,bV,dj,b6,bR,bq,bp,ch,a8,bT,ck,cm,cN,dx,ca,cd,bt,bw,bu,bB,List.nil_append,List.cons_append]
  refine Pu.Ok.no (by omega) ?_
  unfold Pu.nI
  rw[Int.add_zero]
  exact Pu.Ok.ret rfl
 |m+1,j+1,i,a,hi,h1,hj,h0,h2=>by
  rw[aU.bm]
  simp only[dv,dw,cg,b7,cf,bL,bU,bV,dj,b6,bR,bq,bp,ch,a8,bT,ck,cm,cN,dx,ca,cd,bt,bw,bu,bB,List.nil_append,List.cons_append]
  have e1:=w64 (n:=(i:Int)-1) (by omega) (by omega)
  have e2:((i:Int)-1).toNat=i-1:=by omega
  simp only[e1,e2,Int.toNat_natCast]
  (repeat (refine Pu.Ok.g (by first|omega|assumption|(simp only[List.length_append,List.length_cons,List.length_nil,List.length_set,List.length_take,List.length_drop,List.length_replicate]at*;omega)) ?_))
  unfold Pu.nI
  rw[←Int.add_assoc]
  refine Pu.Ok.t (fun c=> ?_) (fun c=> ?_)
  ·rw[if_pos c,aU.fJ]
   simp only[dv,dw,cg,b7,cf,bL,bU,bV,dj,b6,bR,bq,bp,ch,a8,bT,ck,cm,cN,dx,ca,cd,bt,bw,bu,bB,List.nil_append,List.cons_append]
   rw[w64 (n:=a+_) (by omega) (by omega),w64 (n:=(i:Int)+1) (by omega) (by omega)]
   exact aU.loop hk hw m j (i+1) (a+(i:Int)) (by omega) (by omega) (by omega) (by omega) (by omega)
  ·rw[if_neg c,Int.add_zero,aU.fJ]
   simp only[dv,dw,cg,b7,cf,bL,bU,bV,dj,b6,bR,bq,bp,ch,a8,bT,ck,cm,cN,dx,ca,cd,bt,bw,bu,bB,List.nil_append,List.cons_append]
   rw[w64 (n:=(i:Int)+1) (by omega) (by omega)]
   exact aU.loop hk hw m j (i+1) a (by omega) (by omega) (by omega) (by omega) (by omega)
theorem aU.is{k:Nat}{w:LI}(hk:4194304+10≤k)(hw:w.length≤1048576):aU k w=some (Pu.maj w):=by
 obtain⟨k,rfl⟩: ∃k',k=k'+1:=⟨k-1,by omega⟩
 apply Pu.ok_eq
 rw[aU.eq]
 refine Pu.Ok.cI (cG.is (by omega) hw) ?_
 unfold Pu.maj
 simp only[cN]
 refine Pu.Ok.tn (fun hb=> ?_) (fun hb=> ?_)
 ·rw[hb];exact Pu.Ok.ret rfl
 ·rw[hb,if_pos rfl]
  have hl:=(Pu.bY hb).1
  by_cases c:w.length=0
  ·have e:w= []:=List.eq_nil_of_length_eq_zero c
   subst e
   obtain⟨k,rfl⟩: ∃k',k=k'+1:=⟨k-1,by omega⟩
   rw[aU.bm]
   exact Pu.Ok.no (by decide) (Pu.Ok.ret rfl)
  ·have h:=aU.loop (k:=k) (by omega) hl (w.length-1) k 1 0 (by omega) (by omega) (by omega) (by omega) (by omega)
   rw[Int.zero_add]at h
   exact h
theorem bj.zX{k:Nat}{w:LI}{s:List UInt8}(hk:4194304+60≤k)(hw:Pu.isWord w=true)(hs:s=if Pu.lat w=true then [108,97,116,116,105,99,101]else [111,116,104,101,114]):
  Pu.Ok (bj.J0 k (Pu.tx s) w (Pu.kV w).1 (Pu.bc w).1.1 (Pu.bc w).1.2 (Pu.dk w).1.1 (Pu.dk w).1.2) (· =Pu.tx (Lib.join (Pu.iQ w) [32])):=by
 have hl:=(Pu.bY hw).1
 obtain⟨i1,i2,i3⟩:=Pu.kS (w:=w)
 obtain⟨r1,r2,r3⟩:=Pu.pY (w:=w)
 have hh:=(Pu.bY (Pu.rk w)).1
 have hsh:(Pu.fw w).length≤1048576:=by have:=Pu.jy (w:=w);omega
 rw[bj.lp]
 refine Pu.Ok.cI (bF.is (t:=(Pu.bc w).1) (by omega) i1 i2 i3) ?_
 refine Pu.Ok.cI (bF.is (t:=(Pu.dk w).1) (by omega) r1 r2 r3) ?_
 refine Pu.Ok.cI (e9.is (by omega) (by omega)) ?_
 refine Pu.Ok.cI (ez.is (by omega) hsh) ?_
 refine Pu.Ok.cI (ao.is (by omega) (by omega)) ?_
 refine Pu.Ok.cI (dF.is (by omega) (Pu.sb hw).1 (Pu.sb hw).2) ?_
 refine Pu.Ok.cI (aU.is (by omega) (by omega)) ?_
 refine Pu.Ok.cI (dF.is (by omega) (Pu.sR hw).1 (Pu.sR hw).2) ?_
 refine Pu.Ok.cI (fg.is (by omega) (by omega)) ?_
 have h:=gW.is (k:=k) (ws:=Pu.iQ w) (sep:= [32]) (by omega) (by simp[Pu.iQ]) (Pu.xF hw) (by decide)
 unfold Pu.iQ at h
 rw[←hs]at h
 refine Pu.Ok.cI h ?_
 unfold Pu.iQ
 rw[←hs]
 exact Pu.Ok.ret rfl
theorem bj.is{k:Nat}{w:LI}(hk:4194304+70≤k)(hw:w.length≤1048576):bj k w=some (Pu.tx (Pu.say w)):=by
 obtain⟨k,rfl⟩: ∃k',k=k'+1:=⟨k-1,by omega⟩
 apply Pu.ok_eq
 rw[bj.eq]
 refine Pu.Ok.cI (ef.is (by omega) hw) ?_
 unfold Pu.say
 simp only[cN]
 by_cases hb:Pu.isWord w=true
 ·have e1:(Pu.bc w).2=true:=by unfold Pu.bc;rw[if_pos hb]
  rw[e1,if_pos hb]
  refine Pu.Ok.tn (fun h=>by cases h) (fun _=> ?_)
  refine Pu.Ok.cI (fG.is (by omega) hw) ?_
  refine Pu.Ok.cI (bz.is (by omega) hw) ?_
  refine Pu.Ok.cI (b9.is (by omega) hw) ?_
  refine Pu.Ok.tb (fun hc=> ?_) (fun hc=> ?_)
  ·exact bj.zX (by omega) hb (by rw[if_pos hc])
  ·exact bj.zX (by omega) hb (by rw[if_neg (by rw[hc];decide)])
 ·have e1:(Pu.bc w).2=false:=by unfold Pu.bc;rw[if_neg hb]
  rw[e1,if_neg hb]
  exact Pu.Ok.tn (fun _=>Pu.Ok.ret rfl) (fun h=>by cases h)
theorem dI.is{k:Nat}{n:Int}(hk:4194304+80≤k):dI k n=some (Pu.tx (Pu.iq n)):=by
 obtain⟨k,rfl⟩: ∃k',k=k'+1:=⟨k-1,by omega⟩
 apply Pu.ok_eq
 rw[dI.eq]
 have hx:=Pu.qy n
 have hp:=Pu.qn (Pu.tx (Pu.eF n))
 rw[Pu.eT]at hp
 refine Pu.Ok.cI (cr.is (by omega)) ?_
 refine Pu.Ok.cI (a7.is (by omega) (by rw[Pu.eT];omega)) ?_
 unfold Pu.iq
 simp only[cN]
 refine Pu.Ok.tn (fun hb=> ?_) (fun hb=> ?_)
 ·rw[hb];exact Pu.Ok.ret rfl
 ·rw[hb,if_pos rfl]
  exact Pu.Ok.cI (bj.is (by omega) (by omega)) (Pu.Ok.ret rfl)
theorem aR.tt{k:Nat}: ∀(m j:Nat) (n:Int) (s:List UInt8),0≤n→n<10^m→m≤2→m<j→s.length+m≤1000→Pu.Ok (aR.L0 k j n false (Pu.tx s)) (· =Pu.tx ((if n=0 then []else Pu.dcm n)++s))
 |m,0,n,s,_,_,_,hj,_=>by omega
 |m,j+1,n,s,h0,hn,hm,hj,hs=>by
  rw[aR.bm]
  simp only[dv,dw,cg,b7,cf,bL,bU,bV,dj,b6,bR,bq,bp,ch,a8,bT,ck,cm,cN,dx,ca,cd,bt,bw,bu,bB,List.nil_append,List.cons_append]
  refine Pu.Ok.tnd (fun hz=> ?_) (fun hz=> ?_)
  ·obtain⟨m,rfl⟩: ∃m',m=m'+1:=by
    cases m with
    |zero=>simp at hn;omega
    |succ m=>exact⟨m,rfl⟩
   have h10:n<100:=by
    have:(10:Int)^(m+1)≤10^2:=by rcases(by omega:m=0∨m=1)with rfl|rfl<;>decide
    omega
   refine Pu.Ok.gn (by decide) ?_
   simp only[Fg,Fs]
   have e1:n.tmod 10=n % 10:=Int.tmod_eq_emod_of_nonneg h0
   have e2:n.tdiv 10=n/10:=Int.tdiv_eq_ediv_of_nonneg h0
   refine Pu.Ok.no (by rw[e1];omega) ?_
   rw[aR.fJ]
   simp only[Fg,Fs,DV,e1,e2]
   simp only[dv,dw,cg,b7,cf,bL,bU,bV,dj,b6,bR,bq,bp,ch,a8,bT,ck,cm,cN,dx,ca,cd,bt,bw,bu,bB,List.nil_append,List.cons_append]
   rw[w64 (n:=48+n % 10) (by omega) (by omega),w64 (n:=n/10) (by omega) (by omega)]
   have ed:(⟨(([IntKind.u8.wrap (48+n % 10)]:LI).map fun n=>UInt8.ofNat n.toNat).toArray⟩:ByteArray)=Pu.tx [UInt8.ofNat (48+n.toNat % 10)]:=by
    have h1:IntKind.u8.wrap (48+n % 10)=48+n % 10:=by
     simp[IntKind.wrap,IntKind.bits,IntKind.signed];omega
    have h2:(48+n % 10).toNat=48+n.toNat % 10:=by omega
    simp only[List.map_cons,List.map_nil,h1,h2]
    rfl
   rw[ed,Pu.lT,Pu.eT,Pu.eT]
   refine Pu.Ok.g (by simp only[List.length_cons,List.length_nil];omega) ?_
   refine Pu.Ok.gn (by decide) ?_
   refine(aR.tt m j (n/10) _ (by omega) (by rw[Int.pow_succ]at hn;omega) (by omega) (by omega) (by simp only[List.length_append,List.length_cons,List.length_nil];omega)).mono ?_
   rintro _ rfl
   rw[if_neg hz]
   congr 1
   by_cases hc:n<10
   ·rw[if_pos (by omega),Pu.nk hc]
    have:n.toNat % 10=n.toNat:=by omega
    rw[this];rfl
   ·rw[if_neg (by omega),Pu.nk (n:=n/10) (by omega),Pu.Bo (by omega) h10]
    have:(n/10).toNat=n.toNat/10:=by omega
    rw[this];rfl
  ·rw[if_pos hz]
   exact Pu.Ok.tb (fun h=>by cases h) (fun _=>Pu.Ok.ret rfl)
theorem aR.isE{k:Nat}{n:Int}(hk:1000≤k)(h0:0≤n)(h1:n<100):aR k n=some (Pu.tx (Pu.dcm n)):=by
 obtain⟨k,rfl⟩: ∃k',k=k'+1:=⟨k-1,by omega⟩
 apply Pu.ok_eq
 rw[aR.eq]
 simp only[dv,dw,cg,b7,cf,bL,bU,bV,dj,b6,bR,bq,bp,ch,a8,bT,ck,cm,cN,dx,ca,cd,bt,bw,bu,bB,List.nil_append,List.cons_append]
 refine Pu.Ok.t (fun h=> ?_) (fun h=> ?_)
 ·subst h
  rw[Pu.nk (by decide)]
  exact Pu.Ok.ret rfl
 ·rw[decide_eq_false (by omega: ¬n<0)]
  refine(aR.tt (k:=k) 2 k n [] h0 (by omega) (by omega) (by omega) (by decide)).mono ?_
  rintro _ rfl
  rw[if_neg h,List.append_nil]
theorem cn.loop{k:Nat}{w:LI}(hk:2000≤k)(hw:w.length≤9)(hl: ∀x∈w,1≤x∧x≤9): ∀(m j i:Nat),i+m=w.length→m<j→Pu.Ok (cn.L0 k j (Pu.tx (Pu.gQ (w.take i))) i w) (· =Pu.tx (Pu.gQ w))
 |m,0,i,_,hj=>by omega
 |0,j+1,i,hi,_=>by
  rw[cn.bm]
  simp only[dv,dw,cg,b7,cf,bL,bU,bV,dj,b6,bR,bq,bp,ch,a8,bT,ck,cm,cN,dx,ca,cd,bt,bw,bu,bB,List.nil_append,List.cons_append]
  refine Pu.Ok.no (by omega) ?_
  rw[List.take_of_length_le (by omega)]
  exact Pu.Ok.ret rfl
 |m+1,j+1,i,hi,hj=>by
  rw[cn.bm]
  simp only[dv,dw,cg,b7,cf,bL,bU,bV,dj,b6,bR,bq,bp,ch,a8,bT,ck,cm,cN,dx,ca,cd,bt,bw,bu,bB,List.nil_append,List.cons_append]
  (try simp only[Int.toNat_natCast]);(try simp (disch:=omega) only[w64])
  (repeat (refine Pu.Ok.g (by first|omega|assumption|(simp only[List.length_append,List.length_cons,List.length_nil,List.length_set,List.length_take,List.length_drop,List.length_replicate]at*;omega)) ?_))
  have hm:w.getD i 0∈w:=by rw[Pu.aB (show i<w.length by omega) _];exact List.getElem_mem _
  have hx:=hl _ hm
  refine Pu.Ok.cI (aR.isE (by omega) (by omega) (by omega)) ?_
  have h1:=Pu.oc (w:=w.take i) (fun x hx=>by have:=(hl x (List.mem_of_mem_take hx)).2;omega)
  have h2:=Pu.kW (n:=w.getD i 0) (by omega)
  rw[List.length_take]at h1
  rw[Pu.lT,Pu.eT,Pu.eT]
  refine Pu.Ok.g (by omega) ?_
  (try simp only[Int.toNat_natCast]);(try simp (disch:=omega) only[w64])
  have e:Pu.gQ (w.take i)++Pu.dcm (w.getD i 0)=Pu.gQ (w.take (i+1)):=by
   unfold Pu.gQ
   rw[List.take_add_one,List.flatMap_append,List.getElem?_eq_getElem (show i<w.length by omega),Pu.aB (show i<w.length by omega) _]
   simp
  rw[e]
  exact cn.loop hk hw hl m j (i+1) (by omega) (by omega)
theorem cn.is{k:Nat}{w:LI}(hk:4194304+10≤k)(hw:w.length≤1048576):cn k w=some (Pu.tx (Pu.eI w)):=by
 obtain⟨k,rfl⟩: ∃k',k=k'+1:=⟨k-1,by omega⟩
 apply Pu.ok_eq
 rw[cn.eq]
 refine Pu.Ok.cI (aS.is (by omega) hw) ?_
 unfold Pu.eI
 simp only[dv,dw,cg,b7,cf,bL,bU,bV,dj,b6,bR,bq,bp,ch,a8,bT,ck,cm,cN,dx,ca,cd,bt,bw,bu,bB,List.nil_append,List.cons_append]
 refine Pu.Ok.tn (fun hb=> ?_) (fun hb=> ?_)
 ·rw[hb];exact Pu.Ok.ret rfl
 ·rw[hb]
  obtain⟨h1,h2⟩:=Pu.bY hb
  refine Pu.Ok.t (fun h=> ?_) (fun h=> ?_)
  ·have:w= []:=List.eq_nil_of_length_eq_zero (by omega)
   subst this
   exact Pu.Ok.ret rfl
  ·have h0:w≠ []:=fun e=>h (by rw[e];rfl)
   rw[if_pos rfl,if_neg h0]
   exact cn.loop (k:=k) (by omega) h1 h2 w.length k 0 (by omega) (by omega)
theorem aH.BE{k:Nat}{s:ByteArray}{w:LI}(hk:4194304+10≤k)(hw:w.length≤1000)(e:(if(s.toList==(Pu.tx [45]).toList)=true then []else Pu.cU s.data.toList)=w):Pu.Ok (aH.J2 k s w) (· =Pu.gm s):=by
 rw[aH.jW]
 refine Pu.Ok.cI (cn.is (by omega) (by omega)) ?_
 unfold Pu.gm
 rw[e]
 simp only[w8,cN]
 refine Pu.Ok.tn (fun hb=> ?_) (fun hb=> ?_)
 ·rw[hb];exact Pu.Ok.ret rfl
 ·rw[hb];exact Pu.Ok.ret rfl
theorem aH.loop{k:Nat}{s:ByteArray}(hk:4194304+10≤k)(hs:s.size≤1000)(hd:(s.toList==(Pu.tx [45]).toList)=false): ∀(m j i:Nat) (acc:LI),i+m=s.size→m<j→acc=Pu.cU (s.data.toList.take i)→Pu.Ok (aH.L0 k j s i acc) (· =Pu.gm s)
 |m,0,i,acc,_,hj,_=>by omega
 |0,j+1,i,acc,hi,_,ha=>by
  rw[aH.bm]
  simp only[dv,dw,cg,b7,cf,bL,bU,bV,dj,b6,bR,bq,bp,ch,a8,bT,ck,cm,cN,dx,ca,cd,bt,bw,bu,bB,List.nil_append,List.cons_append]
  refine Pu.Ok.no (by omega) ?_
  have hsz:s.data.toList.length=s.size:=rfl
  have e:acc=Pu.cU s.data.toList:=by rw[ha,List.take_of_length_le (by omega)]
  refine aH.BE hk (by rw[e];unfold Pu.cU;rw[List.length_map];omega) ?_
  rw[hd,e];rfl
 |m+1,j+1,i,acc,hi,hj,ha=>by
  rw[aH.bm]
  have hsz:s.data.toList.length=s.size:=rfl
  have hlen:acc.length=i:=by rw[ha];unfold Pu.cU;rw[List.length_map,List.length_take];omega
  simp only[dv,dw,cg,b7,cf,bL,bU,bV,dj,b6,bR,bq,bp,ch,a8,bT,ck,cm,cN,dx,ca,cd,bt,bw,bu,bB,List.nil_append,List.cons_append]
  refine Pu.Ok.g (by omega) ?_
  simp only[w8]
  have e45:(⟨#[45]⟩:ByteArray)=Pu.tx [45]:=rfl
  rw[e45,hd]
  refine Pu.Ok.tn (fun _=> ?_) (fun h=>by cases h)
  rw[aH.fJ]
  simp only[Dl]
  simp only[dv,dw,cg,b7,cf,bL,bU,bV,dj,b6,bR,bq,bp,ch,a8,bT,ck,cm,cN,dx,ca,cd,bt,bw,bu,bB,List.nil_append,List.cons_append]
  (try simp only[Int.toNat_natCast]);(try simp (disch:=omega) only[w64])
  have hb:=(s.data.getD i 0).toNat_lt
  have e1:=w64 (n:=((s.data.getD i 0).toNat:Int)) (by omega) (by omega)
  have e2:=w64 (n:=((s.data.getD i 0).toNat:Int)-48) (by omega) (by omega)
  simp only[e1,e2]
  (repeat (refine Pu.Ok.g (by first|omega|assumption|(simp only[List.length_append,List.length_cons,List.length_nil,List.length_set,List.length_take,List.length_drop,List.length_replicate]at*;omega)) ?_))
  refine aH.loop hk hs hd m j (i+1) _ (by omega) (by omega) ?_
  rw[ha]
  unfold Pu.cU
  rw[List.take_add_one,List.map_append,List.getElem?_eq_getElem (show i<s.data.toList.length by omega)]
  have:s.data.getD i 0=s.data.toList[i]'(show i<s.data.toList.length by omega):=by
   have h':i<s.data.size:=by
    have:s.data.size=s.size:=rfl
    omega
   rw[Array.getD,dif_pos h'];rfl
  rw[this];rfl
theorem aH.is{k:Nat}{s:ByteArray}(hk:4194304+20≤k)(hs:s.size≤1000):aH k s=some (Pu.gm s):=by
 obtain⟨k,rfl⟩: ∃k',k=k'+1:=⟨k-1,by omega⟩
 apply Pu.ok_eq
 rw[aH.eq]
 cases hd:(s.toList==(Pu.tx [45]).toList)with
 |false=>exact aH.loop (k:=k) (by omega) hs hd s.size k 0 [] (by omega) (by omega) rfl
 |true=>
  obtain⟨j,hj⟩: ∃j,k=j+1:=⟨k-1,by omega⟩
  have key:Pu.Ok (aH.J2 k s []) (· =Pu.gm s):=aH.BE (by omega) (by simp) (by rw[hd];rfl)
  suffices h: ∀k',Pu.Ok (aH.L0 k (k'+1) s 0 []) (· =Pu.gm s) by
   have:=h j
   rw[←hj]at this
   exact this
  intro k'
  rw[aH.bm]
  simp only[dv,dw,cg,b7,cf,bL,bU,bV,dj,b6,bR,bq,bp,ch,a8,bT,ck,cm,cN,dx,ca,cd,bt,bw,bu,bB,List.nil_append,List.cons_append]
  refine Pu.Ok.t (fun _=> ?_) (fun _=>key)
  simp only[w8]
  have e45:(⟨#[45]⟩:ByteArray)=Pu.tx [45]:=rfl
  rw[e45,hd]
  exact Pu.Ok.tn (fun h=>by cases h) (fun _=>key)
theorem dR.is{k:Nat}{n:Int}(hk:1≤k):dR k n=some (Pu.tx (Pu.eF n)):=by
 obtain⟨k,rfl⟩: ∃k',k=k'+1:=⟨k-1,by omega⟩
 rw[dR.eq]
 unfold Pu.eF
 simp only[dx]
 by_cases h1:n=1
 ·rw[if_pos h1];exact tG h1 rfl
 rw[if_neg h1];refine tX h1 ?_
 by_cases h2:n=2
 ·rw[if_pos h2];exact tG h2 rfl
 rw[if_neg h2];refine tX h2 ?_
 by_cases h3:n=3
 ·rw[if_pos h3];exact tG h3 rfl
 rw[if_neg h3];refine tX h3 ?_
 by_cases h4:n=4
 ·rw[if_pos h4];exact tG h4 rfl
 rw[if_neg h4];refine tX h4 ?_
 by_cases h5:n=5
 ·rw[if_pos h5];exact tG h5 rfl
 rw[if_neg h5];refine tX h5 ?_
 by_cases h6:n=6
 ·rw[if_pos h6];exact tG h6 rfl
 rw[if_neg h6];exact tX h6 rfl
theorem dh.loop{k:Nat}{t:Pu.Tab}{x3 x4:LI}{x5:LJ}(ht:t.2.length≤1048576)(hr: ∀x∈t.2,x.length≤1048576): ∀(m j i:Nat),i+m=t.2.length→m<j→
  dh.L0 k j i t.1 t.2 x3 x5 x4 (t.2.take i)=some (x4,t.2)
 |m,0,i,_,hj=>by omega
 |0,j+1,i,hm,_=>by
  rw[dh.bm]
  have e:i=t.2.length:=by omega
  subst e
  simp
 |m+1,j+1,i,hm,hj=>by
  rw[dh.bm]
  have hlt:i<t.2.length:=by omega
  have hx:=hr _ (List.getElem_mem hlt)
  rw[←Pu.aB hlt []]at hx
  have ih:=dh.loop (k:=k) (x3:=x3) (x4:=x4) (x5:=x5) ht hr m j (i+1) (by omega) (by omega)
  rw[Int.natCast_succ,Pu.take_succ hlt []]at ih
  have hl:(t.2.take i++ [t.2.getD i []]).length≤1099511627776:=by simp;omega
  have hx':(t.2.getD i []).length≤1099511627776:=by omega
  simp (disch:=omega) only[↓aN,sss,if_true,if_false,hlt,hl,hx',List.nil_append,ih]
theorem dh.is{k:Nat}{t:Pu.Tab}(hk:4194304+1≤k)(h1:t.1.length≤1048576)(ht:t.2.length≤1048576)(hr: ∀x∈t.2,x.length≤1048576):dh k t=some t:=by
 obtain⟨k,rfl⟩: ∃k',k=k'+1:=⟨k-1,by omega⟩
 rw[dh.eq]
 have h:=dh.loop (k:=k) (t:=t) (x3:= []) (x4:=t.1) (x5:= []) ht hr t.2.length k 0 (by omega) (by omega)
 rw[Int.natCast_zero,List.take_zero]at h
 have hl:t.1.length≤1099511627776:=by omega
 simp only[↓aN,sss,if_true,if_false,List.nil_append,hl,h]
theorem aJ.inner{k k1:Nat}{x:Int}{i:Nat}{x3 x5:LI}{x4 rows:LJ}(hlt:i<rows.length)(hx:(rows.getD i []).length≤1048576): ∀(m j q:Nat),q+m=(rows.getD i []).length→m<j→q≤(rows.getD i []).findIdx (fun n=>decide (x<n))→
  aJ.L1 k k1 j x i q x3 x4 x5 rows=aJ.J3 k k1 x i (((rows.getD i []).findIdx (fun n=>decide (x<n)):Nat):Int) x3 x4 x5 rows
 |m,0,q,_,hj,_=>by omega
 |0,j+1,q,hm,_,hq=>by
  rw[aJ.fN]
  have hle:(rows.getD i []).findIdx (fun n=>decide (x<n))≤(rows.getD i []).length:=List.findIdx_le_length
  have e:(rows.getD i []).findIdx (fun n=>decide (x<n))=q:=by omega
  have hn: ¬q<(rows.getD i []).length:=by omega
  simp (disch:=omega) only[↓aN,sss,if_true,if_false,hlt,hn,e]
 |m+1,j+1,q,hm,hj,hq=>by
  rw[aJ.fN]
  have hn:q<(rows.getD i []).length:=by omega
  simp (disch:=omega) only[↓aN,sss,if_true,if_false,hlt,hn,aJ.jW]
  by_cases c:(rows.getD i []).getD q 0≤x
  ·have hne:(rows.getD i []).findIdx (fun n=>decide (x<n))≠q:=fun e=>by
    have:=Pu.qI (p:=fun n=>decide (x<n)) (r:=rows.getD i []) (by rw[e];exact hn)
    rw[e]at this
    simp only[decide_eq_true_eq]at this
    omega
   have ih:=aJ.inner (k:=k) (k1:=k1) (x:=x) (x3:=x3) (x4:=x4) (x5:=x5) hlt hx m j (q+1) (by omega) (by omega) (by omega)
   rw[Int.natCast_succ]at ih
   simp (disch:=omega) only[↓aN,sss,if_true,if_false,c,ih]
  ·have e:(rows.getD i []).findIdx (fun n=>decide (x<n))=q:=by
    refine Nat.le_antisymm (Pu.findIdx_le hn ?_) hq
    simp only[decide_eq_true_eq];omega
   simp only[c,↓aN,sss,if_true,if_false,e]
theorem aJ.loop{k:Nat}{inner x3:LI}{x4:LJ}(hk:4194304≤k): ∀(m j i:Nat) (x:Int) (rows:LJ),i+m=rows.length→m<j→rows.length≤1048576→(∀r∈rows,r.length≤1048576)→
  aJ.L0 k j x i x3 x4 inner rows=some ((inner,rows.take i++(Pu.bn (rows.drop i) x).1),((i+(Pu.bn (rows.drop i) x).2:Nat):Int))
 |m,0,i,x,rows,_,hj,_,_=>by omega
 |0,j+1,i,x,rows,hm,_,hl,hr=>by
  rw[aJ.bm]
  have e:i=rows.length:=by omega
  subst e
  have h1:rows.length+1≤1099511627776:=by omega
  simp (disch:=omega) only[↓aN,sss,if_true,if_false,Nat.lt_irrefl,h1,List.drop_length,List.take_length,Pu.bn,List.length_append,List.length_cons,List.length_nil,Int.natCast_add,Int.natCast_one,Int.natCast_zero,Int.add_zero,Int.zero_add,Nat.zero_add,Nat.add_zero,Int.add_sub_cancel]
 |m+1,j+1,i,x,rows,hm,hj,hl,hr=>by
  rw[aJ.bm]
  have hlt:i<rows.length:=by omega
  have hx:=hr _ (List.getElem_mem hlt)
  rw[←Pu.aB hlt []]at hx
  have hin:=aJ.inner (k:=k) (k1:=j) (x:=x) (x3:=x3) (x4:=x4) (x5:=inner) hlt hx (rows.getD i []).length k 0 (by omega) (by omega) (by omega)
  rw[Int.natCast_zero]at hin
  rw[Pu.drop_cons hlt []]
  unfold Pu.bn
  generalize hf:(rows.getD i []).findIdx (fun n=>decide (x<n))=f at*
  have hle:f≤(rows.getD i []).length:=by rw[←hf];exact List.findIdx_le_length
  simp (disch:=omega) only[↓aN,sss,if_true,if_false,hlt,hin]
  rw[aJ.vL]
  by_cases c:f<(rows.getD i []).length
  ·rw[if_pos c]
   have ih:=aJ.loop (inner:=inner) (x3:=x3) (x4:=x4) hk m j (i+1) ((rows.getD i []).getD f 0) (rows.set i ((rows.getD i []).set f x)) (by rw[List.length_set];omega) (by omega) (by rw[List.length_set];exact hl) (fun r h=>by
    rcases List.mem_or_eq_of_mem_set h with h|rfl
    ·exact hr r h
    ·rw[List.length_set];exact hx)
   rw[Pu.pV hlt,Pu.pQ,Int.natCast_succ]at ih
   have hn: ¬(f:Int)=((rows.getD i []).length:Int):=by omega
   simp (disch:=omega) only[↓aN,sss,if_true,if_false,hlt,hn,c,ih]
   simp only[List.append_assoc,List.singleton_append]
   congr 2
   omega
  ·rw[if_neg c]
   have hn:(f:Int)=((rows.getD i []).length:Int):=by omega
   have h1:(rows.getD i []++ [x]).length≤1099511627776:=by simp only[List.length_append,List.length_cons,List.length_nil];omega
   simp (disch:=omega) only[↓aN,sss,if_true,if_false,hlt,hn,h1,Nat.add_zero]
   rw[Pu.wS hlt]
theorem aJ.is{k:Nat}{t:Pu.Tab}{x:Int}(hk:4194304+2≤k)(h1:t.1.length≤1048576)(hl:t.2.length≤1048576)(hr: ∀r∈t.2,r.length≤1048576):
  aJ k t x=some ((t.1,(Pu.bn t.2 x).1),(((Pu.bn t.2 x).2:Nat):Int)):=by
 obtain⟨k,rfl⟩: ∃k',k=k'+1:=⟨k-1,by omega⟩
 rw[aJ.eq,dh.is (by omega) h1 hl hr,eZ]
 have h:=aJ.loop (k:=k) (inner:=t.1) (x3:= []) (x4:= []) (by omega) t.2.length k 0 x t.2 (by omega) (by omega) hl hr
 rw[Int.natCast_zero]at h
 simpa using h
theorem bG.add{k k1:Nat}{i a:Nat}{W:LI}{x3:LI}{x4:LJ}{x5:LI}{x6:LJ}{pi:LI}{P:LJ}{qi:LI}{F:LJ}(ha:a<F.length)(hF: ∀r,(F.getD r []).length≤1000)(hw:i≤1000):
  bG.J1 k k1 i a W x3 x4 x5 x6 pi P qi F=bG.L0 k k1 ((i+1:Nat):Int) W x3 x4 x5 x6 pi P qi (F.set a (F.getD a []++ [((i+1:Nat):Int)])):=by
 rw[bG.fJ]
 have h9:=hF a
 have hws:IntKind.i64.wrap ((i:Int)+1)=((i+1:Nat):Int):=by rw[w64 (by omega) (by omega)];omega
 have hap:(F.getD a []++ [((i+1:Nat):Int)]).length≤1099511627776:=by rw[List.length_append,List.length_singleton];omega
 simp only[bV,bL,dj,b6,bR,bT,a8,Int.toNat_natCast,hws]
 have a0:=Int.natCast_nonneg a
 exact tG a0 (tG ha (tG ha (tG ha (tG hap (tG a0 (tG ha (tG ha (tG rfl rfl))))))))
theorem bG.loop{k:Nat}{W:LI}{x3:LI}{x4:LJ}{x5:LI}{x6:LJ}(hk:4194304+20≤k)(hW:W.length≤9)(hx: ∀x∈W,1≤x∧x≤9): ∀(m j i:Nat) (P Q:LJ),i+m=W.length→m<j→Pu.Ins P Q i→
  bG.L0 k j i W x3 x4 x5 x6 [] P [] Q=some (([],Pu.jZ (W.drop i) P),([],Pu.mq (W.drop i) P Q i))
 |m,0,i,P,Q,_,hj,_=>by omega
 |0,j+1,i,P,Q,hi,_,_=>by
  rw[bG.bm]
  have hn: ¬(i:Int)<W.length:=by omega
  refine tX hn ?_
  rw[List.drop_of_length_le (by omega)]
  rfl
 |m+1,j+1,i,P,Q,hi,hj,h=>by
  have hlt:i<W.length:=by omega
  have hn:(i:Int)<W.length:=by omega
  have hxi:=hx _ (List.getElem_mem hlt)
  rw[←Pu.aB hlt 0]at hxi
  obtain⟨s1,_,_⟩:=h.step hxi (by omega)
  have ih:=bG.loop (x3:=x3) (x4:=x4) (x5:=x5) (x6:=x6) hk hW hx m j (i+1) (Pu.bn P (W.getD i 0)).1 (Pu.gT Q (Pu.bn P (W.getD i 0)).2 ((i+1:Nat):Int)) (by omega) (by omega) s1
  have hP:=Pu.jK (Pu.sF h (by omega))
  have hQ:=Pu.jK h.pl
  have hP1:P.length≤9:=hP.1
  have hQ1:Q.length≤9:=hQ.1
  have hins:=aJ.is (k:=k) (t:=([],P)) (x:=W.getD i 0) (by omega) (by simp) (by simp only;omega) (fun r hr=>by have:=hP.2 r hr;omega)
  have ha:=(Pu.ug P (W.getD i 0)).1
  rw[h.same.1]at ha
  rw[bG.bm,Pu.drop_cons hlt 0]
  show _=some (([],Pu.jZ (W.drop (i+1)) (Pu.bn P (W.getD i 0)).1),([],Pu.mq (W.drop (i+1)) (Pu.bn P (W.getD i 0)).1 (Pu.gT Q (Pu.bn P (W.getD i 0)).2 ((i+1:Nat):Int)) (i+1)))
  rw[←ih]
  simp only[bV,bL,bU,dj,Int.toNat_natCast]
  refine tG hn (tG (Int.natCast_nonneg i) (tG hlt (tG hlt (bE hins ?_))))
  simp only
  have hq9: ∀r,(Q.getD r []).length≤9:=fun r=>hQ.at r
  generalize(Pu.bn P (W.getD i 0)).2=a at*
  unfold Pu.gT
  by_cases c:a=Q.length
  ·have hc:((a:Nat):Int)=(Q.length:Int):=by omega
   have hap:(Q++ [[]]).length≤1099511627776:=by rw[List.length_append,List.length_singleton];omega
   have hF: ∀r,((Q++ [[]]).getD r []).length≤1000:=fun r=>by
    by_cases hr:r<Q.length
    ·simp only[List.getD_eq_getElem?_getD,List.getElem?_append_left hr]
     have:=hq9 r
     simp only[List.getD_eq_getElem?_getD]at this
     omega
    ·simp only[List.getD_eq_getElem?_getD,List.getElem?_append_right (Nat.le_of_not_lt hr)]
     cases r-Q.length<;>simp
   refine tG hc (tG hap ?_)
   simp only[bR]
   rw[bG.add (by rw[List.length_append,List.length_singleton];omega) hF (by omega),if_pos c]
   congr 1
   rw[c]
   simp
  ·have hc: ¬((a:Nat):Int)=(Q.length:Int):=by omega
   refine tX hc ?_
   rw[bG.add (by omega) (fun r=>by have:=hq9 r;omega) (by omega),if_neg c]
theorem bG.is{k:Nat}{W:LI}(hk:4194304+30≤k)(h:Pu.isWord W=true):bG k W=some (([],Pu.jZ W []),([],Pu.mq W [] [] 0)):=by
 obtain⟨k,rfl⟩: ∃k',k=k'+1:=⟨k-1,by omega⟩
 obtain⟨h1,h2⟩:=Pu.bY h
 have hl:=bG.loop (k:=k) (x3:= []) (x4:= []) (x5:= []) (x6:= []) (by omega) h1 h2 W.length k 0 [] [] (by omega) (by omega) Pu.Ins.nil
 rw[Int.natCast_zero,List.drop_zero]at hl
 rw[bG.eq]
 exact hl
theorem aQ.loop{k:Nat}{w:LI}(hk:4194304+5≤k)(hb:Pu.isWord w=true)(hw:w.length≤9)(hl: ∀x∈w,1≤x∧x≤9): ∀(m j:Nat) (c:LI),m≤w.length→m<j→c.length=10→(∀x∈c,0≤x∧x+m≤100)→Pu.Ok (aQ.L0 k j ((m:Int)-1) w (c++ [0])) (· =Pu.ta w m c)
 |m,0,c,_,hj,_,_=>by omega
 |0,j+1,c,hm,_,hc,_=>by
  rw[aQ.bm]
  simp only[dv,dw,cg,b7,cf,bL,bU,bV,dj,b6,bR,bq,bp,ch,a8,bT,ck,cm,cN,dx,ca,cd,bt,bw,bu,bB,List.nil_append,List.cons_append]
  refine Pu.Ok.no (by omega) ?_
  refine Pu.Ok.cI (aS.is (by omega) (by omega)) ?_
  rw[hb]
  exact Pu.Ok.ret rfl
 |m+1,j+1,c,hm,hj,hc,hx=>by
  rw[aQ.bm]
  have em:((m+1:Nat):Int)-1=m:=by omega
  rw[em]
  have hm':m<w.length:=by omega
  have hmem:w.getD m 0∈w:=by rw[Pu.aB hm' _];exact List.getElem_mem _
  have hx9:=hl _ hmem
  have hcn:(w.getD m 0).toNat<c.length:=by omega
  have hcm:c.getD (w.getD m 0).toNat 0∈c:=by rw[Pu.aB hcn _];exact List.getElem_mem _
  have hcv:=hx _ hcm
  simp only[dv,dw,cg,b7,cf,bL,bU,bV,dj,b6,bR,bq,bp,ch,a8,bT,ck,cm,cN,dx,ca,cd,bt,bw,bu,bB,List.nil_append,List.cons_append]
  refine Pu.Ok.g (by omega) ?_
  refine Pu.Ok.cI (aS.is (by omega) (by omega)) ?_
  rw[hb]
  refine Pu.Ok.tb (fun _=> ?_) (fun h=>by cases h)
  rw[aQ.fJ]
  simp only[dv,dw,cg,b7,cf,bL,bU,bV,dj,b6,bR,bq,bp,ch,a8,bT,ck,cm,cN,dx,ca,cd,bt,bw,bu,bB,List.nil_append,List.cons_append]
  have g1:(c++ [0]).getD (w.getD m 0).toNat 0=c.getD (w.getD m 0).toNat 0:=by
   rw[List.getD_eq_getElem?_getD,List.getElem?_append_left hcn,←List.getD_eq_getElem?_getD]
  have g2: ∀v:Int,(c++ [0]).set (w.getD m 0).toNat v=c.set (w.getD m 0).toNat v++ [0]:=fun v=>List.set_append_left _ _ hcn
  have g3: ∀(v:Int) (q:Nat),q<10→(c.set (w.getD m 0).toNat v++ [0]).getD q 0=(c.set (w.getD m 0).toNat v).getD q 0:=fun v q hq=>by
   rw[List.getD_eq_getElem?_getD,List.getElem?_append_left (by rw[List.length_set];omega),←List.getD_eq_getElem?_getD]
  have e1:=w64 (n:=c.getD (w.getD m 0).toNat 0+1) (by omega) (by omega)
  have e2:=w64 (n:=w.getD m 0-1) (by omega) (by omega)
  have e3:(w.getD m 0-1).toNat=(w.getD m 0).toNat-1:=by omega
  have e4:=w64 (n:=(m:Int)-1) (by omega) (by omega)
  simp only[Int.toNat_natCast,g1,e1,g2,e2,e3,e4,g3 _ (w.getD m 0).toNat (by omega),g3 _ ((w.getD m 0).toNat-1) (by omega),List.length_append,List.length_set,List.length_cons,List.length_nil]
  have hset: ∀x∈c.set (w.getD m 0).toNat (c.getD (w.getD m 0).toNat 0+1),0≤x∧x+m≤100:=by
   intro x h
   rcases List.mem_or_eq_of_mem_set h with h|rfl
   ·have:=hx x h;omega
   ·omega
  have ih:=aQ.loop (k:=k) hk hb hw hl m j (c.set (w.getD m 0).toNat (c.getD (w.getD m 0).toNat 0+1)) (by omega) (by omega) (by rw[List.length_set];exact hc) hset
  have ih2:Pu.Ok (aQ.J2 k j (m:Int) w (c.set (w.getD m 0).toNat (c.getD (w.getD m 0).toNat 0+1)++ [0])) (· =Pu.ta w m (c.set (w.getD m 0).toNat (c.getD (w.getD m 0).toNat 0+1))):=by
   rw[aQ.jW]
   simp only[dv,dw,cg,b7,cf,bL,bU,bV,dj,b6,bR,bq,bp,ch,a8,bT,ck,cm,cN,dx,ca,cd,bt,bw,bu,bB,List.nil_append,List.cons_append]
   rw[e4]
   exact ih
  unfold Pu.ta
  (repeat (refine Pu.Ok.g (by first|omega|assumption|(simp only[List.length_append,List.length_cons,List.length_nil,List.length_set,List.length_take,List.length_drop,List.length_replicate]at*;omega)) ?_))
  refine Pu.Ok.t (fun h1=> ?_) (fun h1=> ?_)
  ·(repeat (refine Pu.Ok.g (by first|omega|assumption|(simp only[List.length_append,List.length_cons,List.length_nil,List.length_set,List.length_take,List.length_drop,List.length_replicate]at*;omega)) ?_))
   refine Pu.Ok.t (fun h2=> ?_) (fun h2=> ?_)
   ·rw[if_pos ⟨h1,h2⟩];exact Pu.Ok.ret rfl
   ·rw[if_neg (fun h=>h2 h.2)];exact ih2
  ·rw[if_neg (fun h=>h1 h.1)];exact ih2
theorem aQ.is{k:Nat}{w:LI}(hk:4194304+10≤k)(hw:w.length≤1048576):aQ k w=some (Pu.lat w):=by
 obtain⟨k,rfl⟩: ∃k',k=k'+1:=⟨k-1,by omega⟩
 apply Pu.ok_eq
 rw[aQ.eq]
 simp only[dv,dw,cg,b7,cf,bL,bU,bV,dj,b6,bR,bq,bp,ch,a8,bT,ck,cm,cN,dx,ca,cd,bt,bw,bu,bB,List.nil_append,List.cons_append]
 refine Pu.Ok.g (by decide) (Pu.Ok.g (by decide) (Pu.Ok.g (by decide) ?_))
 rw[w64 (n:=(w.length:Int)-1) (by omega) (by omega)]
 unfold Pu.lat
 cases hb:Pu.isWord w with
 |false=>
  obtain⟨j,hj⟩: ∃j,k=j+1:=⟨k-1,by omega⟩
  suffices h: ∀k',Pu.Ok (aQ.L0 k (k'+1) ((w.length:Int)-1) w (List.replicate (11:Int).toNat 0)) (· =(false&&Pu.ta w w.length (List.replicate 10 0))) by
   have:=h j
   rw[←hj]at this
   exact this
  intro k'
  rw[aQ.bm]
  simp only[dv,dw,cg,b7,cf,bL,bU,bV,dj,b6,bR,bq,bp,ch,a8,bT,ck,cm,cN,dx,ca,cd,bt,bw,bu,bB,List.nil_append,List.cons_append]
  refine Pu.Ok.t (fun _=> ?_) (fun _=> ?_)
  ·refine Pu.Ok.cI (aS.is (by omega) hw) ?_
   rw[hb]
   refine Pu.Ok.tb (fun h=>by cases h) (fun _=> ?_)
   refine Pu.Ok.cI (aS.is (by omega) hw) ?_
   rw[hb]
   exact Pu.Ok.ret rfl
  ·refine Pu.Ok.cI (aS.is (by omega) hw) ?_
   rw[hb]
   exact Pu.Ok.ret rfl
 |true=>
  obtain⟨h1,h2⟩:=Pu.bY hb
  exact aQ.loop (k:=k) (by omega) hb h1 h2 w.length k (List.replicate 10 0) (Nat.le_refl _) (by omega) (by simp) (fun x hx=>by rw[List.eq_of_mem_replicate hx];omega)
theorem ic.is{k:Nat}{w:LI}{x:Int}(hk:4194304+5≤k)(hw:w.length≤1048576):ic k w x=some (Pu.isWord w&&Pu.within x 1 8):=by
 obtain⟨k,rfl⟩: ∃k',k=k'+1:=⟨k-1,by omega⟩
 apply Pu.ok_eq
 rw[ic.eq]
 refine Pu.Ok.cI (aS.is (by omega) hw) ?_
 refine Pu.Ok.tb (fun hb=> ?_) (fun hb=> ?_)
 ·rw[hb]
  refine Pu.Ok.cI (fP.is (by omega)) ?_
  rw[Bool.true_and]
  exact Pu.Ok.ret rfl
 ·rw[hb];exact Pu.Ok.ret rfl
theorem aG.both{k:Nat}{w:LI}{x:Int}(hw:w.length≤9)(hx:1≤x∧x≤8): ∀(m j i:Nat) (low high:LI),i+m=w.length→m<j→low.length≤i→high.length≤i→
  Pu.Ok (aG.L0 k j x i w low high) (· =Pu.gK w x m i low high)∧ ∀(n:Nat) (base:LI),n≤base.length→base.take n=high→Pu.Ok (aG.L3 k j x 0 n i w low base) (· =Pu.gK w x m i low high)
 |m,0,i,low,high,_,hj,_,_=>by omega
 |0,j+1,i,low,high,hi,_,_,_=>by
  refine⟨?_,fun n base hn hb=> ?_⟩
  ·rw[aG.bm]
   simp only[dv,dw,cg,b7,cf,bL,bU,bV,dj,b6,bR,bq,bp,ch,a8,bT,ck,cm,cN,dx,ca,cd,bt,bw,bu,bB,List.nil_append,List.cons_append]
   exact Pu.Ok.no (by omega) (Pu.Ok.ret rfl)
  ·rw[aG.Ff]
   simp only[dv,dw,cg,b7,cf,bL,bU,bV,dj,b6,bR,bq,bp,ch,a8,bT,ck,cm,cN,dx,ca,cd,bt,bw,bu,bB,List.nil_append,List.cons_append]
   rw[List.drop_zero,hb]
   exact Pu.Ok.no (by omega) (Pu.Ok.ret rfl)
 |m+1,j+1,i,low,high,hi,hj,h1,h2=>by
  have ih:=fun low high a b=>aG.both (k:=k) hw hx m j (i+1) low high (by omega) (by omega) a b
  have e1:=w64 (n:=x+1) (by omega) (by omega)
  have e2:=w64 (n:=(i:Int)+1) (by omega) (by omega)
  have hi':i<w.length:=by omega
  have j1: ∀low high,low.length≤i+1→high.length≤i+1→Pu.Ok (aG.J1 k j x i w low high) (· =Pu.gK w x m (i+1) low high):=by
   intro low high a b
   rw[aG.fJ]
   simp only[dv,dw,cg,b7,cf,bL,bU,bV,dj,b6,bR,bq,bp,ch,a8,bT,ck,cm,cN,dx,ca,cd,bt,bw,bu,bB,List.nil_append,List.cons_append]
   rw[e2]
   exact(ih low high a b).1
  have j2: ∀(n:Nat) (base low high:LI),low.length≤i+1→high.length≤i+1→n≤base.length→base.take n=high→Pu.Ok (aG.J2 k j x 0 n i w low base) (· =Pu.gK w x m (i+1) low high):=by
   intro n base low high a b c d
   rw[aG.jW]
   simp only[dv,dw,cg,b7,cf,bL,bU,bV,dj,b6,bR,bq,bp,ch,a8,bT,ck,cm,cN,dx,ca,cd,bt,bw,bu,bB,List.nil_append,List.cons_append]
   rw[e2]
   exact(ih low high a b).2 n base c d
  unfold Pu.gK
  refine⟨?_,fun n base hn hb=> ?_⟩
  ·rw[aG.bm]
   simp only[dv,dw,cg,b7,cf,bL,bU,bV,dj,b6,bR,bq,bp,ch,a8,bT,ck,cm,cN,dx,ca,cd,bt,bw,bu,bB,List.nil_append,List.cons_append]
   simp only[e1,Int.toNat_natCast]
   refine Pu.Ok.g (by omega) (Pu.Ok.g (by omega) (Pu.Ok.g (by omega) (Pu.Ok.g (by omega) ?_)))
   refine Pu.Ok.t (fun c1=> ?_) (fun c1=> ?_)
   ·rw[if_pos c1]
    refine Pu.Ok.g (by rw[List.length_append,List.length_singleton];omega) ?_
    exact j1 _ _ (by omega) (by rw[List.length_append,List.length_singleton];omega)
   ·rw[if_neg c1]
    refine Pu.Ok.g (by omega) (Pu.Ok.g (by omega) (Pu.Ok.g (by omega) ?_))
    refine Pu.Ok.t (fun c2=> ?_) (fun c2=> ?_)
    ·rw[if_pos c2]
     refine Pu.Ok.t (fun c3=> ?_) (fun c3=> ?_)
     ·have c3':0<high.length:=by omega
      rw[if_pos c3']
      have e3:=w64 (n:=(high.length:Int)-1) (by omega) (by omega)
      have e4:((high.length:Int)-1).toNat=high.length-1:=by omega
      simp only[e3,e4,Nat.sub_zero]
      refine Pu.Ok.g (by omega) (Pu.Ok.g (by omega) ?_)
      exact j2 (high.length-1) high low _ (by omega) (by rw[List.length_take];omega) (by omega) rfl
     ·have c3': ¬0<high.length:=by omega
      rw[if_neg c3']
      refine Pu.Ok.g (by omega) (Pu.Ok.g (by omega) (Pu.Ok.g (by omega) ?_))
      refine Pu.Ok.g c2 ?_
      refine Pu.Ok.g (by rw[List.length_append,List.length_singleton];omega) ?_
      exact j1 _ _ (by rw[List.length_append,List.length_singleton];omega) (by omega)
    ·rw[if_neg c2]
     refine Pu.Ok.g (by omega) (Pu.Ok.g (by omega) (Pu.Ok.g (by omega) ?_))
     refine Pu.Ok.no c2 ?_
     exact j1 _ _ (by omega) (by omega)
  ·rw[aG.Ff]
   have hh:high.length=n:=by rw[←hb,List.length_take];omega
   simp only[dv,dw,cg,b7,cf,bL,bU,bV,dj,b6,bR,bq,bp,ch,a8,bT,ck,cm,cN,dx,ca,cd,bt,bw,bu,bB,List.nil_append,List.cons_append]
   simp only[e1,Int.toNat_natCast,List.drop_zero,hb]
   refine Pu.Ok.g (by omega) (Pu.Ok.g (by omega) (Pu.Ok.g (by omega) (Pu.Ok.g (by omega) ?_)))
   refine Pu.Ok.t (fun c1=> ?_) (fun c1=> ?_)
   ·rw[if_pos c1]
    refine Pu.Ok.g (by rw[List.length_append,List.length_singleton];omega) ?_
    exact j1 _ _ (by omega) (by rw[List.length_append,List.length_singleton];omega)
   ·rw[if_neg c1]
    refine Pu.Ok.g (by omega) (Pu.Ok.g (by omega) (Pu.Ok.g (by omega) ?_))
    refine Pu.Ok.t (fun c2=> ?_) (fun c2=> ?_)
    ·rw[if_pos c2]
     refine Pu.Ok.t (fun c3=> ?_) (fun c3=> ?_)
     ·have c3':0<high.length:=by omega
      rw[if_pos c3']
      have e3:=w64 (n:=(n:Int)-1) (by omega) (by omega)
      have e4:((n:Int)-1).toNat=n-1:=by omega
      simp only[e3,e4,Nat.sub_zero,Nat.add_zero]
      refine Pu.Ok.g (by omega) (Pu.Ok.g (by omega) ?_)
      refine j2 (n-1) base low _ (by omega) (by rw[List.length_take];omega) (by omega) ?_
      rw[←hb,List.take_take,List.length_take]
      congr 1
      omega
     ·have c3': ¬0<high.length:=by omega
      rw[if_neg c3']
      refine Pu.Ok.g (by omega) (Pu.Ok.g (by omega) (Pu.Ok.g (by omega) ?_))
      refine Pu.Ok.g c2 ?_
      refine Pu.Ok.g (by rw[List.length_append,List.length_singleton];omega) ?_
      exact j2 n base _ _ (by rw[List.length_append,List.length_singleton];omega) (by omega) hn hb
    ·rw[if_neg c2]
     refine Pu.Ok.g (by omega) (Pu.Ok.g (by omega) (Pu.Ok.g (by omega) ?_))
     refine Pu.Ok.no c2 ?_
     exact j2 n base _ _ (by omega) (by omega) hn hb
theorem aG.is{k:Nat}{w:LI}{x:Int}(hk:100≤k)(hw:w.length≤9)(hx:1≤x∧x≤8):aG k w x=some (Pu.free w x):=by
 obtain⟨k,rfl⟩: ∃k',k=k'+1:=⟨k-1,by omega⟩
 apply Pu.ok_eq
 rw[aG.eq]
 exact(aG.both (k:=k) hw hx w.length k 0 [] [] (by omega) (by omega) (by simp) (by simp)).1
theorem fT.is{k:Nat}{w:LI}{x:Int}(hk:4194304+10≤k)(hw:w.length≤1048576):fT k w x=some (Pu.raise w x):=by
 obtain⟨k,rfl⟩: ∃k',k=k'+1:=⟨k-1,by omega⟩
 apply Pu.ok_eq
 rw[fT.eq]
 refine Pu.Ok.cI (ic.is (by omega) hw) ?_
 unfold Pu.raise
 simp only[cN]
 refine Pu.Ok.tn (fun hb=> ?_) (fun hb=> ?_)
 ·rw[hb];exact Pu.Ok.ret rfl
 ·rw[hb,if_pos rfl]
  simp only[Bool.and_eq_true,Pu.within,decide_eq_true_eq]at hb
  obtain⟨h1,h2⟩:=Pu.bY hb.1
  refine Pu.Ok.cI (aG.is (by omega) h1 hb.2) ?_
  simp only[dv,dw,cg,b7,cf,bL,bU,bV,dj,b6,bR,bq,bp,ch,a8,bT,ck,cm,cN,dx,ca,cd,bt,bw,bu,bB,List.nil_append,List.cons_append]
  refine Pu.Ok.t (fun c=> ?_) (fun c=> ?_)
  ·have:(Pu.free w x).2= []:=List.eq_nil_of_length_eq_zero (by omega)
   rw[if_pos this]
   exact Pu.Ok.ret rfl
  ·have hn:(Pu.free w x).2≠ []:=fun e=>c (by rw[e];rfl)
   rw[if_neg hn]
   obtain⟨n,e1,e2,e3⟩:=Pu.sQ hn
   have e0:(0:Int).toNat=0:=rfl
   simp only[e0,e1,Int.toNat_natCast]
   (repeat (refine Pu.Ok.g (by first|omega|assumption|(simp only[List.length_append,List.length_cons,List.length_nil,List.length_set,List.length_take,List.length_drop,List.length_replicate]at*;omega)) ?_))
   exact Pu.Ok.ret rfl
theorem cb.loop{k:Nat}(hk:4194304+20≤k): ∀(m j:Nat) (x:Int) (w:LI),Pu.isWord w=true→1≤x→x≤9→Pu.gM w*9+(9-x)<m→m<j→Pu.Ok (cb.L0 k j x w) (· =(Pu.nX m x w,true))
 |m,0,x,w,_,_,_,_,hj=>by omega
 |0,j+1,x,w,hw,h1,h2,hm,_=>by have:=(Pu.rA hw).1;omega
 |m+1,j+1,x,w,hw,h1,h2,hm,hj=>by
  rw[cb.bm]
  have hl:=(Pu.bY hw).1
  unfold Pu.nX
  simp only[dv]
  refine Pu.Ok.t (fun c=> ?_) (fun c=> ?_)
  ·rw[if_pos c]
   refine Pu.Ok.cI (fT.is (by omega) (by omega)) ?_
   refine Pu.Ok.tb (fun hb=> ?_) (fun hb=> ?_)
   ·rw[if_pos hb]
    obtain⟨r1,r2,r3⟩:=Pu.vH (w:=w) (k:=x) (v:=(Pu.raise w x).1) (by rw[←hb])
    exact cb.loop hk m j 1 _ r2 (by omega) (by omega) (by rw[r3];omega) (by omega)
   ·rw[if_neg (by rw[hb];decide)]
    simp only[dv,dw,cg,b7,cf,bL,bU,bV,dj,b6,bR,bq,bp,ch,a8,bT,ck,cm,cN,dx,ca,cd,bt,bw,bu,bB,List.nil_append,List.cons_append]
    rw[w64 (by omega) (by omega)]
    exact cb.loop hk m j (x+1) w hw (by omega) (by omega) (by omega) (by omega)
  ·rw[if_neg c];exact Pu.Ok.ret rfl
theorem cb.is{k:Nat}{w:LI}(hk:4194304+30≤k)(hw:w.length≤1048576):cb k w=some (Pu.kV w):=by
 obtain⟨k,rfl⟩: ∃k',k=k'+1:=⟨k-1,by omega⟩
 apply Pu.ok_eq
 rw[cb.eq]
 refine Pu.Ok.cI (aS.is (by omega) hw) ?_
 unfold Pu.kV
 simp only[cN]
 refine Pu.Ok.tn (fun hb=> ?_) (fun hb=> ?_)
 ·rw[hb];exact Pu.Ok.ret rfl
 ·rw[hb,if_pos rfl]
  simp only[dv,dw,cg,b7,cf,bL,bU,bV,dj,b6,bR,bq,bp,ch,a8,bT,ck,cm,cN,dx,ca,cd,bt,bw,bu,bB,List.nil_append,List.cons_append]
  (repeat (refine Pu.Ok.g (by first|omega|assumption|(simp only[List.length_append,List.length_cons,List.length_nil,List.length_set,List.length_take,List.length_drop,List.length_replicate]at*;omega)) ?_))
  have:=Pu.rA hb
  exact cb.loop (k:=k) (by omega) 2000 k 1 w hb (by omega) (by omega) (by omega) (by omega)
theorem aL.loop{k:Nat}{p:LI}(hk:4194304≤k)(hp:p.length≤1048576): ∀(m j i:Nat) (s v:Int),i+m=p.length→m<j→(i=0→v=9)→(0<i→v=p.getD (i-1) 0)→v≤9→0≤s→s≤9→
  aL.L0 k j s i p=some (Pu.ig (p.drop i) v s)
 |m,0,i,s,v,_,hj,_,_,_,_,_=>by omega
 |0,j+1,i,s,v,hi,_,_,_,_,_,_=>by
  rw[aL.bm]
  have e:i=p.length:=by omega
  subst e
  simp[Pu.ig]
 |m+1,j+1,i,s,v,hi,hj,h0,h1,hv,hs,hs9=>by
  rw[aL.bm]
  have hlt:i<p.length:=by omega
  have hj1: ∀x:Int,x=p.getD i 0→1≤x→x≤v→aL.J1 k j s i p=some (decide (s+x≤9)&&Pu.ig (p.drop (i+1)) x (s+x)):=by
   intro x hx hx1 hx2
   rw[aL.fJ]
   simp (disch:=omega) only[↓aN,sss,if_true,if_false,hlt,←hx]
   by_cases c:9<s+x
   ·have: ¬s+x≤9:=by omega
    simp[c,this]
   ·have c':s+x≤9:=by omega
    have ih:=aL.loop hk hp m j (i+1) (s+x) x (by omega) (by omega) (by omega) (by simp[hx]) (by omega) (by omega) c'
    rw[Int.natCast_succ]at ih
    simp[c,c',ih]
  rw[Pu.drop_cons hlt 0]
  simp (disch:=omega) only[↓aN,sss,if_true,if_false,hlt,fP.is,Pu.ig]
  generalize hx:p.getD i 0=x at*
  unfold Pu.within
  by_cases c1:1≤x
  ·by_cases c2:x≤v
   ·have c3:x≤9:=by omega
    have hj:=hj1 x rfl c1 c2
    by_cases hi0:i=0
    ·have hpos: ¬(0:Int)<i:=by omega
     simp (disch:=omega) only[↓aN,sss,if_true,if_false,c1,c2,c3,hpos,hj]
    ·have hv':=h1 (by omega)
     have e:((i:Int)-1)=((i-1:Nat):Int):=by omega
     have hlt':i-1<p.length:=by omega
     have hge: ¬p.getD (i-1) 0<x:=by rw[←hv'];omega
     have hpos:(0:Int)<i:=by omega
     simp (disch:=omega) only[e,↓aN,sss,if_true,if_false,hlt',c1,c2,c3,hj,hpos,hge]
   ·simp only[c1,c2,↓aN,sss,if_true,if_false]
    by_cases c3:x≤9
    ·have hi0:0<i:=by
      rcases Nat.eq_zero_or_pos i with h|h
      ·have:=h0 h;omega
      ·exact h
     have hv':=h1 hi0
     have e:((i:Int)-1)=((i-1:Nat):Int):=by omega
     have hlt':i-1<p.length:=by omega
     have hge:p.getD (i-1) 0<x:=by rw[←hv'];omega
     have hpos:(0:Int)<i:=by omega
     simp (disch:=omega) only[e,↓aN,sss,if_true,if_false,hlt',c3,hpos,hge]
    ·simp only[c3,↓aN,sss,if_true,if_false]
  ·simp only[c1,↓aN,sss,if_true,if_false]
theorem aL.is{k:Nat}{p:LI}(hk:4194304+1≤k)(hp:p.length≤1048576):aL k p=some (Pu.cM p):=by
 obtain⟨k,rfl⟩: ∃k',k=k'+1:=⟨k-1,by omega⟩
 rw[aL.eq]
 exact aL.loop (k:=k) (by omega) hp p.length k 0 0 9 (by omega) (by omega) (fun _=>rfl) (by omega) (by omega) (by omega) (by omega)
theorem dO.is{k:Nat}{p:LI}{i:Int}(hk:1≤k):dO k p i=some (Pu.atI p i):=by
 obtain⟨k,rfl⟩: ∃k',k=k'+1:=⟨k-1,by omega⟩
 rw[dO.eq,dO.lp]
 by_cases h1:i<0
 ·simp only[↓aN,sss,if_true,if_false,h1,Pu.uh h1]
 ·by_cases h2:(p.length:Int)≤i
  ·simp only[↓aN,sss,if_true,if_false,h1,h2,Pu.AS h2]
  ·have h3:0≤i:=by omega
   have h4:i.toNat<p.length:=by omega
   simp only[↓aN,sss,if_true,if_false,h1,h2,h3,h4,Pu.atI]
theorem bM.loop{k:Nat}{q p:LI}(hq:q.length≤1048576)(hl:q.length≤p.length)(hk:q.length<k):bM.L1 k k 0 q p=some ((List.range' 0 q.length).all fun i=>decide (q.getD i 0≤p.getD i 0)):=by
 have h:=Pu.lX (fun j i=>bM.L1 k j (i:Int) q p) q.length (fun i=>decide (q.getD i 0≤p.getD i 0)) (some false) (some true)
  (fun j i hi=>by
   have hi2:i<p.length:=by omega
   rw[bM.fN]
   simp (disch:=omega) only[↓aN,sss,if_true,if_false,hi,hi2,Int.natCast_add,Int.natCast_one]
   by_cases c:q.getD i 0≤p.getD i 0
   ·have c': ¬p.getD i 0<q.getD i 0:=by omega
    simp only[c,c',↓aN,sss,if_true,if_false]
   ·have c':p.getD i 0<q.getD i 0:=by omega
    simp only[c,c',↓aN,sss,if_true,if_false])
  (fun j=>by
   rw[bM.fN]
   simp only[↓aN,sss,if_true,if_false,Nat.lt_irrefl]) q.length k 0 (by omega) hk
 simp only[Int.natCast_zero]at h
 rw[h]
 cases(List.range' 0 q.length).all fun i=>decide (q.getD i 0≤p.getD i 0)<;>simp
theorem bM.is{k:Nat}{q p:LI}(hk:4194304+2≤k)(hq:q.length≤1048576)(hp:p.length≤1048576):bM k q p=some (Pu.eM q p):=by
 obtain⟨k,rfl⟩: ∃k',k=k'+1:=⟨k-1,by omega⟩
 rw[bM.eq,aL.is (by omega) hq,eZ,bM.lp]
 unfold Pu.eM
 cases c1:Pu.cM q with
 |false=>simp only[↓aN,sss,if_true,if_false]
 |true=>
  simp only[↓aN,sss,if_true,if_false]
  rw[aL.is (by omega) hp,eZ]
  cases c2:Pu.cM p with
  |false=>simp only[↓aN,sss,if_true,if_false]
  |true=>
   simp only[↓aN,sss,if_true,if_false]
   by_cases c3:p.length<q.length
   ·have c3': ¬q.length≤p.length:=by omega
    simp only[c3,c3',↓aN,sss,if_true,if_false]
   ·have c3':q.length≤p.length:=by omega
    simp only[c3,c3',↓aN,sss,if_true,if_false]
    exact bM.loop hq c3' (by omega)
theorem ib.is{k:Nat}{s:LI×LI}(hk:4194304+3≤k)(hq:s.1.length≤1048576)(hp:s.2.length≤1048576):ib k s=some (Pu.eM s.2 s.1):=by
 obtain⟨k,rfl⟩: ∃k',k=k'+1:=⟨k-1,by omega⟩
 rw[ib.eq,bM.is (by omega) hp hq]
 rfl
theorem bP.loop{k:Nat}{t:Pu.Tab}{x3 x4:LI}(hk:4194304+3≤k)(hi:Pu.cM t.1=true)(h2:t.2.length≤9)(hr: ∀x∈t.2,x.length≤1048576): ∀(m j i:Nat) (acc:LI),i+m=t.2.length→m<j→acc.length=i→
  bP.L1 k j i t.1 t.2 x3 x4 acc t.1=some (if Pu.eM t.1 (acc++Pu.gz t.1 i (t.2.drop i))=true then((acc++Pu.gz t.1 i (t.2.drop i),t.1),true)else(([],[]),false))
 |m,0,i,acc,_,hj,_=>by omega
 |0,j+1,i,acc,hm,_,hacc=>by
  rw[bP.fN]
  have e:i=t.2.length:=by omega
  have h9:=(Pu.cW hi).2.2.1
  have hlt: ¬i<t.2.length:=by omega
  rw[ib.is (by omega) (by simp only;omega) (by simp only;omega),e]
  simp only[↓aN,sss,if_true,if_false,Nat.lt_irrefl,List.drop_length,Pu.gz,List.append_nil]
  cases Pu.eM t.1 acc<;>simp
 |m+1,j+1,i,acc,hm,hj,hacc=>by
  rw[bP.fN]
  have hlt:i<t.2.length:=by omega
  have hb:=Pu.fK hi i
  have hrow:=hr t.2[i] (List.getElem_mem hlt)
  rw[←Pu.aB hlt []]at hrow
  rw[dO.is (by omega)]
  have ih:=bP.loop (x3:=x3) (x4:=x4) hk hi h2 hr m j (i+1) (acc++ [Pu.atI t.1 i+(t.2.getD i []).length]) (by omega) (by omega) (by simp[hacc])
  rw[Int.natCast_succ]at ih
  rw[Pu.drop_cons hlt []]
  have hl:(acc++ [Pu.atI t.1 i+((t.2.getD i []).length:Int)]).length≤1099511627776:=by simp;omega
  simp (disch:=omega) only[↓aN,sss,if_true,if_false,hlt,hl,ih,Pu.gz]
  simp only[List.append_assoc,List.singleton_append,Pu.gd]
  rfl
theorem bP.is{k:Nat}{t:Pu.Tab}(hk:4194304+4≤k)(h1:t.1.length≤1048576)(h2:t.2.length≤1048576)(hr: ∀x∈t.2,x.length≤1048576):bP k t=some (Pu.shapeOf t):=by
 obtain⟨k,rfl⟩: ∃k',k=k'+1:=⟨k-1,by omega⟩
 rw[bP.eq,aL.is (by omega) h1,bP.lp]
 have hl:t.1.length≤1099511627776:=by omega
 simp only[↓aN,sss,if_true,if_false,List.nil_append,hl]
 unfold Pu.shapeOf
 cases c1:Pu.cM t.1 with
 |false=>
  have:Pu.dP t=false:=by unfold Pu.dP;rw[c1];rfl
  simp only[this,↓aN,sss,if_true,if_false]
 |true=>
  by_cases c2:t.2.length<t.1.length
  ·have:Pu.dP t=false:=by
    have: ¬t.1.length≤t.2.length:=by omega
    unfold Pu.dP;simp[this]
   simp only[this,c2,↓aN,sss,if_true,if_false]
  ·by_cases c3:9<t.2.length
   ·have:Pu.dP t=false:=by
     cases h:Pu.dP t with
     |false=>rfl
     |true=>have:=Pu.y0 h;omega
    have c3':(9:Int)<t.2.length:=by omega
    simp only[this,c2,c3',↓aN,sss,if_true,if_false]
   ·have c3': ¬(9:Int)<t.2.length:=by omega
    have c2':t.1.length≤t.2.length:=by omega
    have hloop:=bP.loop (k:=k) (t:=t) (x3:= []) (x4:= []) (by omega) c1 (by omega) hr t.2.length k 0 [] (by omega) (by omega) rfl
    rw[Int.natCast_zero]at hloop
    simp only[c2,c3',↓aN,sss,if_true,if_false]
    rw[hloop]
    have:Pu.dP t=Pu.eM t.1 (Pu.outer t):=by unfold Pu.dP;simp[c1,c2']
    rw[this]
    rfl
theorem cu.is{k:Nat}{t:Pu.Tab}{r c:Int}(hk:2≤k)(hi:Pu.cM t.1=true)(h1: -1000000000≤c)(h2:c≤1000000000):cu k t r c=some (Pu.entry t r c):=by
 obtain⟨k,rfl⟩: ∃k',k=k'+1:=⟨k-1,by omega⟩
 have hb:=Pu.fK hi r
 rw[cu.eq,cu.lp,dO.is (by omega)]
 unfold Pu.entry
 by_cases c1:r<0
 ·simp only[↓aN,sss,if_true,if_false,c1]
 ·by_cases c2:(t.2.length:Int)≤r
  ·simp only[↓aN,sss,if_true,if_false,c1,c2]
  ·have c3:0≤r:=by omega
   have c4:r.toNat<t.2.length:=by omega
   simp (disch:=omega) only[↓aN,sss,if_true,if_false,c1,c2,c3,c4]
   by_cases d1:c-Pu.atI t.1 r<0
   ·simp only[↓aN,sss,if_true,if_false,d1,Pu.uh d1]
   ·by_cases d2:((t.2.getD r.toNat []).length:Int)≤c-Pu.atI t.1 r
    ·simp only[↓aN,sss,if_true,if_false,d1,d2,Pu.AS d2]
    ·have d3:0≤c-Pu.atI t.1 r:=by omega
     have d4:(c-Pu.atI t.1 r).toNat<(t.2.getD r.toNat []).length:=by omega
     rw[cu.fJ]
     generalize c-Pu.atI t.1 r=z at*
     simp only[↓aN,sss,if_true,if_false,c3,c4,d1,d2,d3,d4,Pu.atI]
theorem aD.BE{k k1 k2:Nat}{t:Pu.Tab}{r:Nat}{c x v:Int}{o n:LI}(hk:3≤k)(hi:Pu.cM t.1=true)(h1:0≤c)(h2:c≤10000000)(hr:r≤1048576):
  aD.J2 k k1 k2 r c x v t.1 t.2 o n=if(Pu.within x 1 9&&(decide (v≤x)&&decide (Pu.entry t ((r:Int)-1) c<x)))=true then aD.L1 k k1 k2 r (c+1) t.1 t.2 o n else some false:=by
 have he:=cu.is (k:=k) (t:=t) (r:=(r:Int)-1) (c:=c) (by omega) hi (by omega) (by omega)
 rw[aD.jW,fP.is (by omega),aD.vL]
 simp (disch:=omega) only[↓aN,sss,if_true,if_false,he]
 cases Pu.within x 1 9 with
 |false=>simp
 |true=>
  by_cases c1:v≤x
  ·have c1': ¬x<v:=by omega
   by_cases c2:Pu.entry t ((r:Int)-1) c<x
   ·have c2': ¬x≤Pu.entry t ((r:Int)-1) c:=by omega
    simp[c1,c1',c2,c2']
   ·have c2':x≤Pu.entry t ((r:Int)-1) c:=by omega
    simp[c1,c1',c2,c2']
  ·have c1':x<v:=by omega
   simp[c1,c1']
theorem aD.inner{k k1:Nat}{t:Pu.Tab}{r:Nat}{n:LI}(hk:4194304≤k)(hi:Pu.cM t.1=true)(ht:t.2.length≤1048576)(hr: ∀x∈t.2,x.length≤1048576)(hlt:r<t.2.length):
  aD.L1 k k1 k r (t.1.getD r 0) t.1 t.2 (Pu.outer t) n=if((List.range' 0 (t.2.getD r []).length).all fun q=>Pu.gU t r q)=true then aD.L0 k k1 ((r:Int)+1) t.1 t.2 (Pu.outer t) n else some false:=by
 have hx:=hr _ (List.getElem_mem hlt)
 rw[←Pu.aB hlt []]at hx
 have hb:=Pu.fK hi r
 rw[Pu.gd]at hb
 have hol:r<(Pu.outer t).length:=by unfold Pu.outer;rw[Pu.lk];exact hlt
 have ho:(Pu.outer t).getD r 0=t.1.getD r 0+((t.2.getD r []).length:Int):=by
  have:=Pu.iT t.1 t.2 0 r hlt
  rw[Nat.zero_add]at this
  exact this
 have h:=Pu.lX (fun j q=>aD.L1 k k1 j r (t.1.getD r 0+(q:Int)) t.1 t.2 (Pu.outer t) n) (t.2.getD r []).length (fun q=>Pu.gU t r q) (some false) (aD.L0 k k1 ((r:Int)+1) t.1 t.2 (Pu.outer t) n)
  (fun j q hq=>by
   rw[aD.fN]
   have hc:t.1.getD r 0+(q:Int)<(Pu.outer t).getD r 0:=by rw[ho];omega
   have e1:=cu.is (k:=k) (t:=t) (r:=r) (c:=t.1.getD r 0+q) (by omega) hi (by omega) (by omega)
   have e2:=cu.is (k:=k) (t:=t) (r:=r) (c:=t.1.getD r 0+q-1) (by omega) hi (by omega) (by omega)
   rw[Pu.y4 hlt]at e1
   rw[Pu.AR hlt]at e2
   have ej:=fun v=>aD.BE (k:=k) (k1:=k1) (k2:=j) (t:=t) (r:=r) (c:=t.1.getD r 0+q) (x:=(t.2.getD r []).getD q 0) (v:=v) (o:=Pu.outer t) (n:=n) (by omega) hi (by omega) (by omega) (by omega)
   have en:t.1.getD r 0+(q:Int)+1=t.1.getD r 0+((q+1:Nat):Int):=by omega
   rw[en]at ej
   have key: ∀v:Int,v=(if q=0 then 0 else(t.2.getD r []).getD (q-1) 0)→(Pu.within ((t.2.getD r []).getD q 0) 1 9&&(decide (v≤(t.2.getD r []).getD q 0)&&decide (Pu.entry t ((r:Int)-1) (t.1.getD r 0+q)<(t.2.getD r []).getD q 0)))=Pu.gU t r q:=by
    intro v hv
    unfold Pu.gU
    cases hw:Pu.within ((t.2.getD r []).getD q 0) 1 9 with
    |false=>rfl
    |true=>
     have hw1:1≤(t.2.getD r []).getD q 0:=by
      simp only[Pu.within,Bool.and_eq_true,decide_eq_true_eq]at hw;exact hw.1
     simp only[Bool.true_and]
     congr 1
     ·by_cases e:q=0
      ·have:v≤(t.2.getD r []).getD q 0:=by rw[hv,if_pos e];omega
       simp[e,this]
       simpa[e]using this
      ·rw[hv,if_neg e];simp[e]
     ·by_cases e:r=0
      ·subst e
       rw[Pu.Cp (by omega),decide_eq_true (show(0:Int)<(t.2.getD 0 []).getD q 0 by omega)]
       simp only[decide_true,Bool.true_or]
      ·simp[e]
   by_cases hc0:0<t.1.getD r 0+(q:Int)
   ·simp (disch:=omega) only[↓aN,sss,if_true,if_false,hol,hc,e1,hc0,e2,ej]
    rw[key _ rfl]
   ·simp (disch:=omega) only[↓aN,sss,if_true,if_false,hol,hc,e1,hc0,ej]
    rw[key 0 (by
           have:q=0:=by omega
           rw[if_pos this])])
  (fun j=>by
   rw[aD.fN]
   have hc: ¬t.1.getD r 0+((t.2.getD r []).length:Int)<(Pu.outer t).getD r 0:=by rw[ho];omega
   simp (disch:=omega) only[↓aN,sss,if_true,if_false,hol,hc]) (t.2.getD r []).length k 0 (by omega) (by omega)
 simp only[Int.natCast_zero,Int.add_zero]at h
 exact h
theorem aD.is{k:Nat}{t:Pu.Tab}(hk:4194304+5≤k)(h1:t.1.length≤1048576)(ht:t.2.length≤1048576)(hr: ∀x∈t.2,x.length≤1048576):aD k t=some (Pu.iD t):=by
 obtain⟨k,rfl⟩: ∃k',k=k'+1:=⟨k-1,by omega⟩
 rw[aD.eq,bP.is (by omega) h1 ht hr,eZ]
 unfold Pu.iD Pu.shapeOf
 cases hs:Pu.dP t with
 |false=>simp[hs]
 |true=>
  have hi:Pu.cM t.1=true:=by
   simp only[Pu.dP,Bool.and_eq_true]at hs;exact hs.1
  have hol:(Pu.outer t).length=t.2.length:=by unfold Pu.outer;rw[Pu.lk]
  have h:=Pu.lX (fun j r=>aD.L0 k j r t.1 t.2 (Pu.outer t) t.1) t.2.length (fun r=>(List.range' 0 (t.2.getD r []).length).all fun q=>Pu.gU t r q) (some false) (some true)
   (fun j r hlt=>by
    rw[aD.bm,dO.is (by omega),Pu.gd]
    simp (disch:=omega) only[↓aN,sss,if_true,if_false,hol,hlt,aD.inner (k1:=j) (n:=t.1) (show 4194304≤k by omega) hi ht hr hlt,Int.natCast_add,Int.natCast_one])
   (fun j=>by
    rw[aD.bm]
    simp (disch:=omega) only[↓aN,sss,if_true,if_false,hol,Nat.lt_irrefl]) t.2.length k 0 (by omega) (by omega)
  simp only[Int.natCast_zero]at h
  simp only[if_true,↓aN,sss,if_true,if_false]
  rw[h]
  cases(List.range' 0 t.2.length).all fun r=>(List.range' 0 (t.2.getD r []).length).all fun q=>Pu.gU t r q<;>simp
theorem cH.tt{k:Nat}{sep:List UInt8}{ws:List (List UInt8)}(hs:sep.length≤10)(hw: ∀w∈ws,w.length≤10000)(hn:ws.length≤1000): ∀(m j i:Nat),i+m=ws.length→m<j→Pu.Ok (cH.L0 k j (Pu.tx sep) i (ws.map Pu.tx) ((Pu.oK ws sep i).map fun b=>(b.toNat:Int))) (· =Pu.tx (Lib.join ws sep))
 |m,0,i,_,hj=>by omega
 |0,j+1,i,hi,_=>by
  rw[cH.bm]
  simp only[dv,dw,cg,b7,cf,bL,bU,bV,dj,b6,bR,bq,bp,ch,a8,bT,ck,cm,cN,dx,ca,cd,bt,bw,bu,bB,List.nil_append,List.cons_append]
  refine Pu.Ok.no (by rw[List.length_map];omega) ?_
  refine Pu.Ok.ret ?_
  unfold Pu.oK
  rw[List.take_of_length_le (by omega)]
  exact Pu.EH _
 |m+1,j+1,i,hi,hj=>by
  rw[cH.bm]
  have hlen:(Pu.oK ws sep i).length≤1000*10010:=by
   have h1:=Pu.qW (ws.take i) sep 10000 (fun w h=>hw w (List.mem_of_mem_take h))
   have h2:(ws.take i).length*(10000+sep.length)≤1000*10010:=Nat.mul_le_mul (by rw[List.length_take];omega) (by omega)
   exact Nat.le_trans h1 h2
  have key: ∀acc:List UInt8,acc=Pu.oK ws sep i++(if i=0 then []else sep)→Pu.Ok (cH.J1 k j (Pu.tx sep) i (ws.map Pu.tx) (acc.map fun b=>(b.toNat:Int))) (· =Pu.tx (Lib.join ws sep)):=by
   intro acc ha
   rw[cH.fJ]
   have hi':i<ws.length:=by omega
   have e1:(ws.map Pu.tx).getD i (⟨#[]⟩:ByteArray)=Pu.tx (ws.getD i []):=by
    rw[Pu.aB (by rw[List.length_map];exact hi') _,Pu.aB hi' _,List.getElem_map]
   have hx:(ws.getD i []).length≤10000:=by
    rw[Pu.aB hi' _];exact hw _ (List.getElem_mem hi')
   have hal:acc.length≤1000*10010+10:=by
    rw[ha,List.length_append]
    split
    ·simp;omega
    ·omega
   simp only[D8]
   simp only[dv,dw,cg,b7,cf,bL,bU,bV,dj,b6,bR,bq,bp,ch,a8,bT,ck,cm,cN,dx,ca,cd,bt,bw,bu,bB,List.nil_append,List.cons_append]
   (try simp only[Int.toNat_natCast]);(try simp (disch:=omega) only[w64])
   have e2:(Pu.tx (ws.getD i [])).data.toList=ws.getD i []:=rfl
   simp only[e1,e2,List.length_map (f:=Pu.tx)]
   refine Pu.Ok.g (by omega) (Pu.Ok.g hi' (Pu.Ok.g hi' (Pu.Ok.g (by rw[List.length_append,List.length_map,List.length_map];omega) ?_)))
   rw[←List.map_append,ha,←Pu.zD hi']
   exact cH.tt hs hw hn m j (i+1) (by omega) (by omega)
  simp only[dv,dw,cg,b7,cf,bL,bU,bV,dj,b6,bR,bq,bp,ch,a8,bT,ck,cm,cN,dx,ca,cd,bt,bw,bu,bB,List.nil_append,List.cons_append]
  refine Pu.Ok.g (by rw[List.length_map];omega) ?_
  simp only[D8]
  refine Pu.Ok.t (fun h0=> ?_) (fun h0=> ?_)
  ·have e2:(Pu.tx sep).data.toList=sep:=rfl
   simp only[e2]
   refine Pu.Ok.g (by rw[List.length_append,List.length_map,List.length_map];omega) ?_
   rw[←List.map_append]
   exact key _ (by rw[if_neg (by omega)])
  ·exact key _ (by rw[if_pos (by omega),List.append_nil])
theorem cH.isE{k:Nat}{sep:List UInt8}{ws:List (List UInt8)}(hk:2000≤k)(hs:sep.length≤10)(hw: ∀w∈ws,w.length≤10000)(hn:ws.length≤1000):cH k (ws.map Pu.tx) (Pu.tx sep)=some (Pu.tx (Lib.join ws sep)):=by
 obtain⟨k,rfl⟩: ∃k',k=k'+1:=⟨k-1,by omega⟩
 apply Pu.ok_eq
 rw[cH.eq]
 have h:=cH.tt (k:=k) hs hw hn ws.length k 0 (by omega) (by omega)
 unfold Pu.oK at h
 rw[List.take_zero,Lib.join_nil,List.map_nil]at h
 exact h
theorem zz{t:Pu.Tab}(h:Pu.iD t=true){i q:Nat}(hi:i<t.2.length)(hq:q<(t.2.getD i []).length):1≤(t.2.getD i []).getD q 0∧(t.2.getD i []).getD q 0≤9:=by
 simp only[Pu.iD,Bool.and_eq_true]at h
 have h1:=Pu.fR.1 h.2 i hi
 have h2:=Pu.fR.1 h1 q hq
 simp only[Pu.gU,Pu.within,Bool.and_eq_true,decide_eq_true_eq]at h2
 exact h2.1
theorem ar.Gs{k k1:Nat}{i:Nat}{ws:List ByteArray}{t:Pu.Tab}{v:ByteArray}(hk:1000≤k)(ht:Pu.iD t=true)(hi:i<t.2.length)(hw:ws.length≤9)(d:List UInt8)(hd:d.length≤10)
  (key:Pu.Ok (ar.L0 k k1 ((i:Int)+1) (ws++ [Pu.tx (d++Pu.gQ (t.2.getD i []))]) t.1 t.2) (· =v)):
  ∀(m j q:Nat),q+m=(t.2.getD i []).length→m<j→Pu.Ok (ar.L2 k k1 j i (Pu.tx (d++Pu.gQ ((t.2.getD i []).take q))) q ws t.1 t.2) (· =v)
 |m,0,q,_,hj=>by omega
 |0,j+1,q,hq,hj=>by
  rw[ar.zG]
  have h9:=(Pu.iv ht).1
  have hr:=(Pu.iv ht).at i
  simp only[dv,dw,cg,b7,cf,bL,bU,bV,dj,b6,bR,bq,bp,ch,a8,bT,ck,cm,cN,dx,ca,cd,bt,bw,bu,bB,List.nil_append,List.cons_append]
  (try simp only[Int.toNat_natCast]);(try simp (disch:=omega) only[w64])
  (repeat (refine Pu.Ok.g (by first|omega|assumption|(simp only[List.length_append,List.length_cons,List.length_nil,List.length_set,List.length_take,List.length_drop,List.length_replicate]at*;omega)) ?_))
  refine Pu.Ok.no (by omega) ?_
  (repeat (refine Pu.Ok.g (by first|omega|assumption|(simp only[List.length_append,List.length_cons,List.length_nil,List.length_set,List.length_take,List.length_drop,List.length_replicate]at*;omega)) ?_))
  (try simp only[Int.toNat_natCast]);(try simp (disch:=omega) only[w64])
  rw[List.take_of_length_le (by omega)]
  exact key
 |m+1,j+1,q,hq,hj=>by
  rw[ar.zG]
  have h9:=(Pu.iv ht).1
  have hr:=(Pu.iv ht).at i
  have hq':q<(t.2.getD i []).length:=by omega
  have he:=zz ht hi hq'
  simp only[dv,dw,cg,b7,cf,bL,bU,bV,dj,b6,bR,bq,bp,ch,a8,bT,ck,cm,cN,dx,ca,cd,bt,bw,bu,bB,List.nil_append,List.cons_append]
  (try simp only[Int.toNat_natCast]);(try simp (disch:=omega) only[w64])
  (repeat (refine Pu.Ok.g (by first|omega|assumption|(simp only[List.length_append,List.length_cons,List.length_nil,List.length_set,List.length_take,List.length_drop,List.length_replicate]at*;omega)) ?_))
  refine Pu.Ok.cI (aR.isE (by omega) (by omega) (by omega)) ?_
  have h1:=Pu.oc (w:=(t.2.getD i []).take q) (fun x hx=>by have:=(Pu.sB ht (List.mem_of_mem_take hx)).2;omega)
  have h2:=Pu.kW (n:=(t.2.getD i []).getD q 0) (by omega)
  rw[List.length_take]at h1
  rw[Pu.lT,Pu.eT,Pu.eT]
  refine Pu.Ok.g (by rw[List.length_append];omega) ?_
  (try simp only[Int.toNat_natCast]);(try simp (disch:=omega) only[w64])
  have e:d++Pu.gQ ((t.2.getD i []).take q)++Pu.dcm ((t.2.getD i []).getD q 0)=d++Pu.gQ ((t.2.getD i []).take (q+1)):=by
   unfold Pu.gQ
   rw[List.take_add_one,List.flatMap_append,List.getElem?_eq_getElem hq',Pu.aB hq' _]
   simp
  rw[e]
  exact ar.Gs hk ht hi hw d hd key m j (q+1) (by omega) (by omega)
theorem ar.F7{k k1:Nat}{i:Nat}{ws:List ByteArray}{t:Pu.Tab}{v:ByteArray}(hk:1000≤k)(ht:Pu.iD t=true)(hi:i<t.2.length)(hw:ws.length≤9)
  (key:Pu.Ok (ar.L0 k k1 ((i:Int)+1) (ws++ [Pu.tx (Pu.oU t i)]) t.1 t.2) (· =v)):
  ∀(m j q:Nat),(q+m:Int)=Pu.atI t.1 i→m<j→Pu.Ok (ar.L1 k k1 j i (Pu.tx (List.replicate q 46)) q ws t.1 t.2) (· =v)
 |m,0,q,_,hj=>by omega
 |0,j+1,q,hq,hj=>by
  rw[ar.fN]
  simp only[dv,dw,cg,b7,cf,bL,bU,bV,dj,b6,bR,bq,bp,ch,a8,bT,ck,cm,cN,dx,ca,cd,bt,bw,bu,bB,List.nil_append,List.cons_append]
  refine Pu.Ok.cI (dO.is (by omega)) ?_
  have hb:=Pu.fK (Pu.jN ht).1 i
  have hr:=(Pu.iv ht).at i
  refine Pu.Ok.no (by omega) ?_
  have h:=ar.Gs (k:=k) (k1:=k1) hk ht hi hw (List.replicate q 46) (by rw[List.length_replicate];omega) (by
   have e:List.replicate q (46:UInt8)++Pu.gQ (t.2.getD i [])=Pu.oU t i:=by
    unfold Pu.oU
    have:q=(Pu.atI t.1 i).toNat:=by omega
    rw[this]
   rw[e];exact key) (t.2.getD i []).length k 0 (by omega) (by omega)
  rw[List.take_zero]at h
  have e0:Pu.gQ []= []:=rfl
  rw[e0,List.append_nil]at h
  exact h
 |m+1,j+1,q,hq,hj=>by
  rw[ar.fN]
  simp only[dv,dw,cg,b7,cf,bL,bU,bV,dj,b6,bR,bq,bp,ch,a8,bT,ck,cm,cN,dx,ca,cd,bt,bw,bu,bB,List.nil_append,List.cons_append]
  refine Pu.Ok.cI (dO.is (by omega)) ?_
  have hb:=Pu.fK (Pu.jN ht).1 i
  refine Pu.Ok.g (by omega) ?_
  have e46:(⟨#[46]⟩:ByteArray)=Pu.tx [46]:=rfl
  rw[e46,Pu.lT,Pu.eT,Pu.eT,List.length_replicate]
  refine Pu.Ok.g (by show q+1≤_;omega) ?_
  (try simp only[Int.toNat_natCast]);(try simp (disch:=omega) only[w64])
  have e:List.replicate q (46:UInt8)++ [46]=List.replicate (q+1) 46:=by rw[List.replicate_succ']
  rw[e]
  exact ar.F7 hk ht hi hw key m j (q+1) (by omega) (by omega)
theorem ar.GN{k:Nat}{t:Pu.Tab}(hk:3000≤k)(ht:Pu.iD t=true): ∀(m j i:Nat),i+m=t.2.length→m<j→Pu.Ok (ar.L0 k j i (((List.range i).map (Pu.oU t)).map Pu.tx) t.1 t.2) (· =Pu.tx (Lib.join ((List.range t.2.length).map (Pu.oU t)) [47]))
 |m,0,i,_,hj=>by omega
 |0,j+1,i,hi,_=>by
  rw[ar.bm]
  simp only[dv,dw,cg,b7,cf,bL,bU,bV,dj,b6,bR,bq,bp,ch,a8,bT,ck,cm,cN,dx,ca,cd,bt,bw,bu,bB,List.nil_append,List.cons_append]
  refine Pu.Ok.no (by omega) ?_
  have e:i=t.2.length:=by omega
  subst e
  have h9:=(Pu.iv ht).1
  refine Pu.Ok.cI (cH.isE (sep:= [47]) (by omega) (by decide) (fun w hw=> ?_) (by rw[List.length_map,List.length_range];omega)) (Pu.Ok.ret rfl)
  obtain⟨x,hx,rfl⟩:=List.mem_map.1 hw
  have:=Pu.py ht x
  omega
 |m+1,j+1,i,hi,hj=>by
  rw[ar.bm]
  have h9:=(Pu.iv ht).1
  have hb:=Pu.fK (Pu.jN ht).1 i
  simp only[dv,dw,cg,b7,cf,bL,bU,bV,dj,b6,bR,bq,bp,ch,a8,bT,ck,cm,cN,dx,ca,cd,bt,bw,bu,bB,List.nil_append,List.cons_append]
  refine Pu.Ok.g (by omega) ?_
  refine ar.F7 (k:=k) (by omega) ht (by omega) (by rw[List.length_map,List.length_map,List.length_range];omega) ?_ (Pu.atI t.1 i).toNat k 0 (by omega) (by omega)
  have h:=ar.GN hk ht m j (i+1) (by omega) (by omega)
  rw[List.range_succ,List.map_append,List.map_append]at h
  exact h
theorem ar.isE{k:Nat}{t:Pu.Tab}(hk:4194304+20≤k)(h1:t.1.length≤1048576)(h2:t.2.length≤1048576)(hr: ∀x∈t.2,x.length≤1048576):ar k t=some (Pu.tx (Pu.jU t)):=by
 obtain⟨k,rfl⟩: ∃k',k=k'+1:=⟨k-1,by omega⟩
 apply Pu.ok_eq
 rw[ar.eq]
 refine Pu.Ok.cI (aD.is (by omega) h1 h2 hr) ?_
 unfold Pu.jU
 simp only[dv,dw,cg,b7,cf,bL,bU,bV,dj,b6,bR,bq,bp,ch,a8,bT,ck,cm,cN,dx,ca,cd,bt,bw,bu,bB,List.nil_append,List.cons_append]
 refine Pu.Ok.tn (fun hb=> ?_) (fun hb=> ?_)
 ·rw[hb];exact Pu.Ok.ret rfl
 ·rw[hb]
  refine Pu.Ok.t (fun h=> ?_) (fun h=> ?_)
  ·have:t.2= []:=List.eq_nil_of_length_eq_zero (by simpa using h)
   rw[this]
   exact Pu.Ok.ret rfl
  ·have h0:t.2≠ []:=fun e=>h (by rw[e];rfl)
   rw[if_pos rfl,if_neg h0]
   exact ar.GN (k:=k) (by omega) hb t.2.length k 0 (Nat.zero_add _) (by show t.2.length<k;omega)
theorem fI.is{k:Nat}{w:LI}(hk:4194304+40≤k)(hw:w.length≤1048576):fI k w=some (Pu.bc w):=by
 obtain⟨k,rfl⟩: ∃k',k=k'+1:=⟨k-1,by omega⟩
 have h1:=aS.is (k:=k) (w:=w) (by omega) hw
 rw[fI.eq]
 unfold Pu.bc
 refine bE h1 ?_
 cases c:Pu.isWord w with
 |false=>exact tM rfl
 |true=>exact tN (bE (bG.is (by omega) c) rfl)
theorem fe.is{k:Nat}{w:LI}(hk:4194304+50≤k)(hw:w.length≤1048576):fe k w=some (Pu.fw w):=by
 obtain⟨k,rfl⟩: ∃k',k=k'+1:=⟨k-1,by omega⟩
 have h1:=fI.is (k:=k) (w:=w) (by omega) hw
 have ho:=Pu.kS (w:=w)
 have hl:=Pu.jy (w:=w)
 rw[fe.eq]
 refine bE h1 ?_
 unfold Pu.fw at hl⊢
 cases c:Pu.isWord w with
 |false=>
  have e:(Pu.bc w).2=false:=by unfold Pu.bc;rw[c];rfl
  rw[e]
  exact tM rfl
 |true=>
  have e:(Pu.bc w).2=true:=by unfold Pu.bc;rw[c];rfl
  rw[e,if_pos rfl]
  rw[c,if_pos rfl]at hl
  have hp:=Pu.je c
  have hp':=hp
  simp only[Pu.cK,Bool.and_eq_true]at hp'
  have hs:=bP.is (k:=k) (t:=(Pu.bc w).1) (by omega) ho.1 ho.2.1 ho.2.2
  have hso:Pu.shapeOf (Pu.bc w).1=((Pu.outer (Pu.bc w).1,(Pu.bc w).1.1),true):=by unfold Pu.shapeOf;rw[if_pos (Pu.ph hp'.1)]
  rw[hso]at hs
  have hap:([]++Pu.outer (Pu.bc w).1).length≤1099511627776:=by rw[List.nil_append];omega
  exact tN (bE hs (tG hap rfl))
theorem cx.tt{k:Nat}{p:LI}(hk:2000≤k)(hp:p.length≤1000)(hl: ∀x∈p,0≤x∧x<100): ∀(m j i:Nat) (acc:List ByteArray),i+m=p.length→m<j→acc=(p.take i).map (fun n=>Pu.tx (Pu.dcm n))→Pu.Ok (cx.L0 k j i p acc) (· =Pu.tx (Lib.join (p.map Pu.dcm) [44]))
 |m,0,i,acc,_,hj,_=>by omega
 |0,j+1,i,acc,hi,_,ha=>by
  rw[cx.bm]
  simp only[dv,dw,cg,b7,cf,bL,bU,bV,dj,b6,bR,bq,bp,ch,a8,bT,ck,cm,cN,dx,ca,cd,bt,bw,bu,bB,List.nil_append,List.cons_append]
  refine Pu.Ok.no (by omega) ?_
  have e:acc=(p.map Pu.dcm).map Pu.tx:=by
   rw[ha,List.take_of_length_le (by omega),List.map_map];rfl
  rw[e]
  refine Pu.Ok.cI (cH.isE (sep:= [44]) (by omega) (by decide) (fun w hw=> ?_) (by rw[List.length_map];omega)) (Pu.Ok.ret rfl)
  obtain⟨x,hx,rfl⟩:=List.mem_map.1 hw
  have:=Pu.kW (hl x hx).2
  omega
 |m+1,j+1,i,acc,hi,hj,ha=>by
  rw[cx.bm]
  have hlen:acc.length=i:=by rw[ha,List.length_map,List.length_take];omega
  simp only[dv,dw,cg,b7,cf,bL,bU,bV,dj,b6,bR,bq,bp,ch,a8,bT,ck,cm,cN,dx,ca,cd,bt,bw,bu,bB,List.nil_append,List.cons_append]
  (try simp only[Int.toNat_natCast]);(try simp (disch:=omega) only[w64])
  (repeat (refine Pu.Ok.g (by first|omega|assumption|(simp only[List.length_append,List.length_cons,List.length_nil,List.length_set,List.length_take,List.length_drop,List.length_replicate]at*;omega)) ?_))
  have hm:p.getD i 0∈p:=by rw[Pu.aB (show i<p.length by omega) _];exact List.getElem_mem _
  refine Pu.Ok.cI (aR.isE (by omega) (hl _ hm).1 (hl _ hm).2) ?_
  (repeat (refine Pu.Ok.g (by first|omega|assumption|(simp only[List.length_append,List.length_cons,List.length_nil,List.length_set,List.length_take,List.length_drop,List.length_replicate]at*;omega)) ?_))
  (try simp only[Int.toNat_natCast]);(try simp (disch:=omega) only[w64])
  refine cx.tt hk hp hl m j (i+1) _ (by omega) (by omega) ?_
  rw[ha,List.take_add_one,List.map_append,List.getElem?_eq_getElem (show i<p.length by omega),Pu.aB (show i<p.length by omega) _]
  rfl
theorem cx.isE{k:Nat}{p:LI}(hk:3000≤k)(hp:p.length≤1000)(hl: ∀x∈p,0≤x∧x<100):cx k p=some (Pu.tx (Lib.join (p.map Pu.dcm) [44])):=by
 obtain⟨k,rfl⟩: ∃k',k=k'+1:=⟨k-1,by omega⟩
 apply Pu.ok_eq
 rw[cx.eq]
 exact cx.tt (k:=k) (by omega) hp hl p.length k 0 [] (by omega) (by omega) rfl
theorem eB.isE{k:Nat}{w:LI}(hk:4194304+10≤k)(hw:w.length≤1048576):eB k w=some (Pu.tx (Pu.jF w)):=by
 obtain⟨k,rfl⟩: ∃k',k=k'+1:=⟨k-1,by omega⟩
 apply Pu.ok_eq
 rw[eB.eq]
 refine Pu.Ok.cI (aL.is (by omega) hw) ?_
 unfold Pu.jF
 simp only[dv,dw,cg,b7,cf,bL,bU,bV,dj,b6,bR,bq,bp,ch,a8,bT,ck,cm,cN,dx,ca,cd,bt,bw,bu,bB,List.nil_append,List.cons_append]
 refine Pu.Ok.tn (fun hb=> ?_) (fun hb=> ?_)
 ·rw[hb];exact Pu.Ok.ret rfl
 ·rw[hb]
  refine Pu.Ok.t (fun h=> ?_) (fun h=> ?_)
  ·have:w= []:=List.eq_nil_of_length_eq_zero (by omega)
   subst this
   exact Pu.Ok.ret rfl
  ·have h0:w≠ []:=fun e=>h (by rw[e];rfl)
   rw[if_pos rfl,if_neg h0]
   obtain⟨hp,_,hl,_⟩:=Pu.cW hb
   exact Pu.Ok.cI (cx.isE (by omega) (by omega) (fun x hx=>by have:=hp x hx;omega)) (Pu.Ok.ret rfl)
theorem aC.wY{k k1:Nat}{w:LI}{i:Nat}{v:Int}(hk:10≤k)(hw:w.length≤9)(hi:i<w.length): ∀(m j q:Nat) (a:Int),q+m=i→m<j→0≤a→a+m≤1000→Pu.Ok (aC.L0 k k1 (a+Pu.mK w i m q) ((i:Int)+1) w) (· =v)→Pu.Ok (aC.L1 k k1 j a i q w) (· =v)
 |m,0,q,a,_,hj,_,_,_=>by omega
 |0,j+1,q,a,hq,hj,h0,h1,key=>by
  rw[aC.fN]
  simp only[dv,dw,cg,b7,cf,bL,bU,bV,dj,b6,bR,bq,bp,ch,a8,bT,ck,cm,cN,dx,ca,cd,bt,bw,bu,bB,List.nil_append,List.cons_append]
  (try simp only[Int.toNat_natCast]);(try simp (disch:=omega) only[w64])
  refine Pu.Ok.no (by omega) ?_
  unfold Pu.mK at key
  rw[Int.add_zero]at key
  exact key
 |m+1,j+1,q,a,hq,hj,h0,h1,key=>by
  rw[aC.fN]
  simp only[dv,dw,cg,b7,cf,bL,bU,bV,dj,b6,bR,bq,bp,ch,a8,bT,ck,cm,cN,dx,ca,cd,bt,bw,bu,bB,List.nil_append,List.cons_append]
  (try simp only[Int.toNat_natCast]);(try simp (disch:=omega) only[w64])
  (repeat (refine Pu.Ok.g (by first|omega|assumption|(simp only[List.length_append,List.length_cons,List.length_nil,List.length_set,List.length_take,List.length_drop,List.length_replicate]at*;omega)) ?_))
  refine Pu.Ok.cI (eA.is (by omega)) ?_
  have hb:(if decide (w.getD i 0<w.getD q 0)=true then(1:Int)else 0)=if w.getD i 0<w.getD q 0 then 1 else 0:=by
   simp only[decide_eq_true_eq]
  rw[hb]
  have hw':0≤(if w.getD i 0<w.getD q 0 then(1:Int)else 0)∧(if w.getD i 0<w.getD q 0 then(1:Int)else 0)≤1:=by split<;>omega
  rw[w64 (n:=a+_) (by omega) (by omega)]
  refine aC.wY hk hw hi m j (q+1) _ (by omega) (by omega) (by omega) (by omega) ?_
  unfold Pu.mK at key
  rw[←Int.add_assoc]at key
  exact key
theorem aC.loop{k:Nat}{w:LI}(hk:100≤k)(hw:w.length≤9): ∀(m j i:Nat) (a:Int),i+m=w.length→m<j→0≤a→a+m*9≤900→Pu.Ok (aC.L0 k j a i w) (· =a+Pu.mG w m i)
 |m,0,i,a,_,hj,_,_=>by omega
 |0,j+1,i,a,hi,_,_,_=>by
  rw[aC.bm]
  simp only[dv,dw,cg,b7,cf,bL,bU,bV,dj,b6,bR,bq,bp,ch,a8,bT,ck,cm,cN,dx,ca,cd,bt,bw,bu,bB,List.nil_append,List.cons_append]
  refine Pu.Ok.no (by omega) ?_
  unfold Pu.mG
  rw[Int.add_zero]
  exact Pu.Ok.ret rfl
 |m+1,j+1,i,a,hi,hj,h0,h1=>by
  rw[aC.bm]
  simp only[dv,dw,cg,b7,cf,bL,bU,bV,dj,b6,bR,bq,bp,ch,a8,bT,ck,cm,cN,dx,ca,cd,bt,bw,bu,bB,List.nil_append,List.cons_append]
  refine Pu.Ok.g (by omega) ?_
  have hb:=Pu.qL w i i 0
  refine aC.wY (by omega) hw (by omega) i k 0 a (by omega) (by omega) h0 (by omega) ?_
  have h:=aC.loop hk hw m j (i+1) (a+Pu.mK w i i 0) (by omega) (by omega) (by omega) (by omega)
  rw[Int.natCast_succ]at h
  unfold Pu.mG
  rw[←Int.add_assoc]
  exact h
theorem aC.is{k:Nat}{w:LI}(hk:4194304+10≤k)(hw:w.length≤1048576):aC k w=some (Pu.inv w):=by
 obtain⟨k,rfl⟩: ∃k',k=k'+1:=⟨k-1,by omega⟩
 apply Pu.ok_eq
 rw[aC.eq]
 refine Pu.Ok.cI (aS.is (by omega) hw) ?_
 unfold Pu.inv
 simp only[cN]
 refine Pu.Ok.tn (fun hb=> ?_) (fun hb=> ?_)
 ·rw[hb];exact Pu.Ok.ret rfl
 ·rw[hb,if_pos rfl]
  have hl:=(Pu.bY hb).1
  by_cases c:w.length=0
  ·have e:w= []:=List.eq_nil_of_length_eq_zero c
   subst e
   obtain⟨k,rfl⟩: ∃k',k=k'+1:=⟨k-1,by omega⟩
   rw[aC.bm]
   exact Pu.Ok.no (by decide) (Pu.Ok.ret rfl)
  ·have h:=aC.loop (k:=k) (by omega) hl (w.length-1) k 1 0 (by omega) (by omega) (by omega) (by omega)
   have e:Pu.mG w w.length 0=0+Pu.mG w (w.length-1) 1:=by
    obtain⟨n,hn⟩: ∃n,w.length=n+1:=⟨w.length-1,by omega⟩
    rw[hn];rfl
   rw[e]
   exact h
theorem bQ.loop{k:Nat}{w:LI}(hk:100≤k)(hw:w.length≤9): ∀(m j i:Nat) (a:Int),i+m=w.length→1≤i→m<j→0≤a→a+m*9≤900→Pu.Ok (bQ.L0 k j a i w) (· =a+Pu.nI w m i)
 |m,0,i,a,_,_,hj,_,_=>by omega
 |0,j+1,i,a,hi,_,_,_,_=>by
  rw[bQ.bm]
  simp only[dv,dw,cg,b7,cf,bL,bU,bV,dj,b6,bR,bq,bp,ch,a8,bT,ck,cm,cN,dx,ca,cd,bt,bw,bu,bB,List.nil_append,List.cons_append]
  refine Pu.Ok.no (by omega) ?_
  unfold Pu.nI
  rw[Int.add_zero]
  exact Pu.Ok.ret rfl
 |m+1,j+1,i,a,hi,h1,hj,h0,h2=>by
  rw[bQ.bm]
  simp only[dv,dw,cg,b7,cf,bL,bU,bV,dj,b6,bR,bq,bp,ch,a8,bT,ck,cm,cN,dx,ca,cd,bt,bw,bu,bB,List.nil_append,List.cons_append]
  have e1:=w64 (n:=(i:Int)-1) (by omega) (by omega)
  have e2:((i:Int)-1).toNat=i-1:=by omega
  simp only[e1,e2,Int.toNat_natCast]
  (repeat (refine Pu.Ok.g (by first|omega|assumption|(simp only[List.length_append,List.length_cons,List.length_nil,List.length_set,List.length_take,List.length_drop,List.length_replicate]at*;omega)) ?_))
  refine Pu.Ok.cI (eA.is (by omega)) ?_
  have hb:(if decide (w.getD i 0<w.getD (i-1) 0)=true then(1:Int)else 0)=if w.getD i 0<w.getD (i-1) 0 then 1 else 0:=by
   simp only[decide_eq_true_eq]
  rw[hb]
  have hm:(i:Int)*(if w.getD i 0<w.getD (i-1) 0 then(1:Int)else 0)=if w.getD i 0<w.getD (i-1) 0 then(i:Int)else 0:=by
   split<;>omega
  rw[hm]
  have hw':0≤(if w.getD i 0<w.getD (i-1) 0 then(i:Int)else 0)∧(if w.getD i 0<w.getD (i-1) 0 then(i:Int)else 0)≤9:=by split<;>omega
  rw[w64 (n:=(if w.getD i 0<w.getD (i-1) 0 then(i:Int)else 0)) (by omega) (by omega),w64 (n:=a+_) (by omega) (by omega),w64 (n:=(i:Int)+1) (by omega) (by omega)]
  have h:=bQ.loop hk hw m j (i+1) (a+if w.getD i 0<w.getD (i-1) 0 then(i:Int)else 0) (by omega) (by omega) (by omega) (by omega) (by omega)
  rw[Int.natCast_succ]at h
  unfold Pu.nI
  rw[←Int.add_assoc]
  exact h
theorem bQ.is{k:Nat}{w:LI}(hk:4194304+10≤k)(hw:w.length≤1048576):bQ k w=some (Pu.maj w):=by
 obtain⟨k,rfl⟩: ∃k',k=k'+1:=⟨k-1,by omega⟩
 apply Pu.ok_eq
 rw[bQ.eq]
 refine Pu.Ok.cI (aS.is (by omega) hw) ?_
 unfold Pu.maj
 simp only[cN]
 refine Pu.Ok.tn (fun hb=> ?_) (fun hb=> ?_)
 ·rw[hb];exact Pu.Ok.ret rfl
 ·rw[hb,if_pos rfl]
  have hl:=(Pu.bY hb).1
  by_cases c:w.length=0
  ·have e:w= []:=List.eq_nil_of_length_eq_zero c
   subst e
   obtain⟨k,rfl⟩: ∃k',k=k'+1:=⟨k-1,by omega⟩
   rw[bQ.bm]
   exact Pu.Ok.no (by decide) (Pu.Ok.ret rfl)
  ·have h:=bQ.loop (k:=k) (by omega) hl (w.length-1) k 1 0 (by omega) (by omega) (by omega) (by omega) (by omega)
   rw[Int.zero_add]at h
   exact h
set_option maxHeartbeats 4000000 in
theorem bC.zX{k:Nat}{w:LI}{s:List UInt8}(hk:4194304+60≤k)(hw:Pu.isWord w=true)(hs:s=if Pu.lat w=true then [108,97,116,116,105,99,101]else [111,116,104,101,114]):
  Pu.Ok (bC.J0 k (Pu.tx s) w (Pu.bc w).1.1 (Pu.bc w).1.2 (Pu.dk w).1.1 (Pu.dk w).1.2) (· =Pu.tx (Lib.join (Pu.iQ w) [32])):=by
 have hl:=(Pu.bY hw).1
 obtain⟨i1,i2,i3⟩:=Pu.kS (w:=w)
 obtain⟨r1,r2,r3⟩:=Pu.pY (w:=w)
 have a1:=Pu.kQ (Pu.bc w).1
 have a2:=Pu.kQ (Pu.dk w).1
 have a3:=Pu.ou (Pu.fw w)
 have a4:=Pu.kW (Pu.sb hw).2
 have a5:=Pu.kW (Pu.sR hw).2
 have a6:=Pu.oQ (Pu.kV w).1
 have hs7:s.length≤7:=by rw[hs];split<;>simp
 have hh:=(Pu.bY (Pu.rk w)).1
 have hsh:(Pu.fw w).length≤1048576:=by have:=Pu.jy (w:=w);omega
 rw[bC.lp]
 refine Pu.Ok.cI (cb.is (by omega) (by omega)) ?_
 refine Pu.Ok.cI (ar.isE (t:=(Pu.bc w).1) (by omega) i1 i2 i3) ?_
 have L: ∀l:List UInt8,(⟨l.toArray⟩:ByteArray)=Pu.tx l:=fun _=>rfl
 simp only[L,bw,bt,bu,b7,Pu.lT,Pu.eT,List.length_append,List.length_cons,List.length_nil]
 refine Pu.Ok.g (by omega) (Pu.Ok.g (by omega) ?_)
 refine Pu.Ok.cI (ar.isE (t:=(Pu.dk w).1) (by omega) r1 r2 r3) ?_
 simp only[Pu.lT,Pu.eT,List.length_append,List.length_cons,List.length_nil]
 refine Pu.Ok.g (by omega) (Pu.Ok.g (by omega) ?_)
 refine Pu.Ok.cI (fe.is (by omega) (by omega)) ?_
 refine Pu.Ok.cI (eB.isE (by omega) hsh) ?_
 simp only[Pu.lT,Pu.eT,List.length_append,List.length_cons,List.length_nil]
 refine Pu.Ok.g (by omega) (Pu.Ok.g (by omega) ?_)
 refine Pu.Ok.cI (aC.is (by omega) (by omega)) ?_
 refine Pu.Ok.cI (aR.isE (by omega) (Pu.sb hw).1 (Pu.sb hw).2) ?_
 simp only[Pu.lT,Pu.eT,List.length_append,List.length_cons,List.length_nil]
 refine Pu.Ok.g (by omega) (Pu.Ok.g (by omega) ?_)
 refine Pu.Ok.cI (bQ.is (by omega) (by omega)) ?_
 refine Pu.Ok.cI (aR.isE (by omega) (Pu.sR hw).1 (Pu.sR hw).2) ?_
 simp only[Pu.lT,Pu.eT,List.length_append,List.length_cons,List.length_nil]
 refine Pu.Ok.g (by omega) (Pu.Ok.g (by omega) (Pu.Ok.g (by omega) (Pu.Ok.g (by omega) ?_)))
 refine Pu.Ok.cI (cn.is (by omega) (by omega)) ?_
 simp only[Pu.lT,Pu.eT,List.length_append,List.length_cons,List.length_nil]
 refine Pu.Ok.g (by omega) (Pu.Ok.ret ?_)
 congr 1
 unfold Pu.iQ
 rw[Lib.join_cons,hs]
 simp only[Lib.joinTail,List.map_cons,List.map_nil,List.flatten_cons,List.flatten_nil,List.append_assoc,List.cons_append,List.nil_append,List.append_nil]
theorem bC.is{k:Nat}{w:LI}(hk:4194304+70≤k)(hw:w.length≤1048576):bC k w=some (Pu.tx (Pu.say w)):=by
 obtain⟨k,rfl⟩: ∃k',k=k'+1:=⟨k-1,by omega⟩
 apply Pu.ok_eq
 rw[bC.eq]
 refine Pu.Ok.cI (aS.is (by omega) hw) ?_
 unfold Pu.say
 simp only[cN]
 refine Pu.Ok.tn (fun hb=> ?_) (fun hb=> ?_)
 ·rw[hb];exact Pu.Ok.ret rfl
 ·rw[hb,if_pos rfl]
  refine Pu.Ok.cI (bG.is (by omega) hb) ?_
  refine Pu.Ok.cI (aQ.is (by omega) hw) ?_
  have e1:(([],Pu.jZ w []):Pu.Tab)=(Pu.bc w).1:=by unfold Pu.bc;rw[if_pos hb]
  have e2:(([],Pu.mq w [] [] 0):Pu.Tab)=(Pu.dk w).1:=by unfold Pu.dk;rw[if_pos hb]
  rw[e1,e2]
  refine Pu.Ok.tb (fun hc=> ?_) (fun hc=> ?_)
  ·exact bC.zX (by omega) hb (by rw[if_pos hc])
  ·exact bC.zX (by omega) hb (by rw[if_neg (by rw[hc];decide)])
theorem dK.is{k:Nat}{n:Int}(hk:4194304+80≤k):dK k n=some (Pu.tx (Pu.iq n)):=by
 obtain⟨k,rfl⟩: ∃k',k=k'+1:=⟨k-1,by omega⟩
 apply Pu.ok_eq
 rw[dK.eq]
 have hx:=Pu.qy n
 have hp:=Pu.qn (Pu.tx (Pu.eF n))
 rw[Pu.eT]at hp
 refine Pu.Ok.cI (dR.is (by omega)) ?_
 refine Pu.Ok.cI (aH.is (by omega) (by rw[Pu.eT];omega)) ?_
 unfold Pu.iq
 simp only[cN]
 refine Pu.Ok.tn (fun hb=> ?_) (fun hb=> ?_)
 ·rw[hb];exact Pu.Ok.ret rfl
 ·rw[hb,if_pos rfl]
  exact Pu.Ok.cI (bC.is (by omega) (by omega)) (Pu.Ok.ret rfl)
theorem dL.at{k:Nat}{b:LI}(hk:4194304+90≤k):dL (k+1) b=some true:=by
 apply Pu.ok_eq
 rw[dL.eq]
 refine Pu.Ok.cI (lQ.is (by omega)) ?_
 refine Pu.Ok.t (fun _=>Pu.Ok.ret rfl) (fun c=> ?_)
 have hb:b.length≤1048576:=by omega
 refine Pu.Ok.bnd (an.ok (by omega) hb) (fun n _=> ?_)
 refine Pu.Ok.bnd (aw.ok (by omega) hb) (fun w hw=> ?_)
 have hx:=Pu.qy n
 have hp:=Pu.qn (Pu.tx (Pu.eF n))
 rw[Pu.eT]at hp
 have L:(⟨#[]⟩:ByteArray)=Pu.tx []:=rfl
 refine Pu.Ok.cI (dI.is (by omega)) ?_
 refine Pu.Ok.cI (cr.is (by omega)) ?_
 refine Pu.Ok.cI (aH.is (by omega) (by rw[Pu.eT];omega)) ?_
 refine Pu.Ok.cI (dK.is (by omega)) ?_
 simp only[w8,beq_self_eq_true,L,Pu.vh]
 refine Pu.Ok.tb (fun _=> ?_) (fun h=>by cases h)
 refine Pu.Ok.cI (cr.is (by omega)) ?_
 refine Pu.Ok.cI (dR.is (by omega)) ?_
 simp only[beq_self_eq_true]
 refine Pu.Ok.tb (fun _=> ?_) (fun h=>by cases h)
 refine Pu.Ok.cI (bj.is (by omega) (by omega)) ?_
 refine Pu.Ok.cI (bC.is (by omega) (by omega)) ?_
 simp only[beq_self_eq_true]
 refine Pu.Ok.tb (fun _=> ?_) (fun h=>by cases h)
 refine Pu.Ok.cI (cr.is (by omega)) ?_
 simp only[ca,cN,Pu.vh]
 have e1:((Pu.gm (Pu.tx (Pu.eF n))).2== !decide (Pu.eF n= []))=true:=by
  rw[Pu.sW]
  by_cases h:Pu.eF n= []<;>simp[h]
 rw[e1]
 refine Pu.Ok.tb (fun _=> ?_) (fun h=>by cases h)
 refine Pu.Ok.cI (cr.is (by omega)) ?_
 simp only[Pu.vh]
 have e2:(decide (Pu.iq n= [])==decide (Pu.eF n= []))=true:=by
  have:=Pu.uM n
  by_cases h:Pu.eF n= []<;>simp[this]
 rw[e2]
 refine Pu.Ok.tb (fun _=> ?_) (fun h=>by cases h)
 refine Pu.Ok.tn (fun _=>Pu.Ok.ret rfl) (fun ho=> ?_)
 refine Pu.Ok.cI (bj.is (by omega) (by omega)) ?_
 have e3:Pu.iq n=Pu.say (Pu.gm (Pu.tx (Pu.eF n))).1:=by
  unfold Pu.iq
  rw[if_pos ho]
 rw[e3,Pu.vh]
 exact Pu.Ok.ret (decide_eq_true rfl)
theorem dL.is{b:LI}(_:b.length≤maxLen): ∃k,dL k b=some true:=⟨_,dL.at (Nat.le_refl _)⟩
end Go.Am.Seat
