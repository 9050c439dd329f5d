/- What the functions make of data, as plain words; each holds for all data within the bounds that it names. -/
import Derived.Test.YtlfpegcoaebmkaaGreatEqsFnColumns
import Derived.Test.YtlfpegcoaebmkaaGreatPu
set_option linter.unusedSimpArgs false
set_option linter.unusedVariables false
set_option linter.unnecessarySimpa false
set_option linter.unusedSectionVars false
namespace Go.Am.Seat
open Go Go.Am Go.Am.Pu
attribute [local instance] D.real
set_option linter.unusedSimpArgs false
set_option linter.unusedVariables false
set_option maxRecDepth 4000
theorem mF.is{k:Nat}{p:LI}(hk:1≤k):mF k p=some (decide ((1048576:Int)<p.length)):=by
 obtain⟨k,rfl⟩: ∃k',k=k'+1:=⟨k-1,by omega⟩
 rw[mF.eq]
 rfl
theorem de.is{k:Nat}{i h:Int}{b:LI}(hk:1≤k)(hb:b.length≤1048576)(hi:0≤i)(hi':i≤b.length):
  ∃r i' h',de k i h b=some (r,((),(i',h')))∧0≤r∧r≤255∧0≤i'∧i'≤b.length:=by
 obtain⟨k,rfl⟩: ∃k',k=k'+1:=⟨k-1,by omega⟩
 rw[de.eq]
 have e33:(0:Int)≤33:=by decide
 have e45:(0:Int)≤45:=by decide
 by_cases hlt:i<b.length
 ·have hn:i.toNat<b.length:=by omega
  have ew:IntKind.i64.wrap (i+1)=i+1:=w64 (by omega) (by omega)
  refine⟨_,i+1,_,by simp only[↓ay,sss,if_true,if_false,e33,e45,hlt,hi,hn,ew];rfl,(Pu.y4 _).1,(Pu.y4 _).2,?_,?_⟩
  ·omega
  ·omega
 ·exact⟨_,_,_,by simp only[↓ay,sss,if_true,if_false,e33,e45,hlt];rfl,(Pu.y4 _).1,(Pu.y4 _).2,hi,hi'⟩
theorem aJ.is{k:Nat}{n i h:Int}{b:LI}(hk:2≤k)(hb:b.length≤1048576)(hi:0≤i)(hi':i≤b.length)(hn:n≤256):
  ∃r i' h',aJ k n i h b=some (r,((),(i',h')))∧0≤r∧(n≤0→r=0)∧(0<n→r<n)∧0≤i'∧i'≤b.length:=by
 obtain⟨k,rfl⟩: ∃k',k=k'+1:=⟨k-1,by omega⟩
 rw[aJ.eq]
 by_cases h0:n≤0
 ·exact⟨0,i,h,by simp only[↓ay,sss,if_true,if_false,h0],by omega,fun _=>rfl,fun h=>by omega,hi,hi'⟩
 ·obtain⟨r,i',h',e,h1,h2,h3,h4⟩:=de.is (k:=k) (h:=h) (b:=b) (by omega) hb hi hi'
  have hne: ¬n=0:=by omega
  refine⟨r.tmod n,i',h',by simp only[↓ay,sss,if_true,if_false,h0,hn,e,hne];rfl,Int.tmod_nonneg _ h1,fun h=>by omega,fun _=>Int.tmod_lt_of_pos _ (by omega),h3,h4⟩
theorem bK.loop{k:Nat}{l n:Int}{b:LI}(hk:3≤k)(hb:b.length≤1048576)(hl:l≤256)(hn:n≤100): ∀(m j i:Nat) (p h:Int) (out:LI),n≤(i:Int)+m→m<j→out.length≤i→i≤100→0≤p→p≤b.length→Pu.Ok (bK.L0 k j l n i p h out b) fun r=>r.1.length≤200∧0≤r.2.2.1∧r.2.2.1≤b.length
 |m,0,i,p,h,out,_,hj,_,_,_,_=>by omega
 |m,j+1,i,p,h,out,hm,hj,ho,hi,h0,h1=>by
  rw[bK.bo]
  by_cases c:(i:Int)<n
  ·obtain⟨r1,i1,h1',e1,a1,a2,a3,a4,a5⟩:=aJ.is (k:=k) (n:=l) (h:=h) (b:=b) (by omega) hb h0 h1 hl
   obtain⟨m,rfl⟩: ∃m',m=m'+1:=⟨m-1,by omega⟩
   have hws:IntKind.i64.wrap ((i:Int)+1)=((i+1:Nat):Int):=by rw[w64 (by omega) (by omega)];omega
   obtain⟨y,y1,y2⟩:=bK.loop (k:=k) hk hb hl hn m j (i+1) i1 h1' (out++ [IntKind.i64.wrap (1+r1)]) (by omega) (by omega) (by rw[List.length_append,List.length_singleton];omega) (by omega) a4 a5
   have hap:(out++ [IntKind.i64.wrap (1+r1)]).length≤1099511627776:=by rw[List.length_append,List.length_singleton];omega
   simp only[fg,cX,fQ,dI,hws]
   exact⟨y,tG c (bE e1 (tG hap y1)),y2⟩
  ·exact⟨_,tX c rfl,by dsimp only;omega,h0,h1⟩
theorem bK.ok{k:Nat}{l i h:Int}{b:LI}(hk:4194304+5≤k)(hb:b.length≤1048576)(hl:l≤256)(hi:0≤i)(hi':i≤b.length):Pu.Ok (bK k 7 l i h b) fun r=>r.1.length≤200∧0≤r.2.2.1∧r.2.2.1≤b.length:=by
 obtain⟨k,rfl⟩: ∃k',k=k'+1:=⟨k-1,by omega⟩
 have hw:D.wrap .i64 (D.add 7 1)=8:=by show IntKind.i64.wrap (7+1)=8;rw[w64 (by omega) (by omega)];rfl
 obtain⟨r1,i1,h1,e1,a1,a2,a3,a4,a5⟩:=aJ.is (k:=k) (n:=8) (h:=h) (b:=b) (by omega) hb hi hi' (by omega)
 have:=a3 (by omega)
 obtain⟨y,y1,y2⟩:=bK.loop (k:=k) (l:=l) (n:=r1) (b:=b) (by omega) hb hl (by omega) 8 k 0 i1 h1 [] (by omega) (by omega) (by simp) (by omega) a4 a5
 rw[Int.natCast_zero]at y1
 rw[bK.eq,hw]
 exact⟨y,bE e1 y1,y2⟩
theorem cg.is{k:Nat}{n i h:Int}{b:LI}(hk:3≤k)(hb:b.length≤1048576)(hi:0≤i)(hi':i≤b.length)(hn:n≤256):
  ∃r i' h',cg k n i h b=some (r,((),(i',h')))∧0≤i'∧i'≤b.length:=by
 obtain⟨k,rfl⟩: ∃k',k=k'+1:=⟨k-1,by omega⟩
 rw[cg.eq]
 obtain⟨r,i',h',e,h1,h2,h3,h4,h5⟩:=aJ.is (k:=k) (h:=h) (b:=b) (by omega) hb hi hi' hn
 rw[e]
 exact⟨_,_,_,rfl,h4,h5⟩
theorem fW.is{k:Nat}{x lo hi:Int}(hk:1≤k):fW k x lo hi=some (Pu.within x lo hi):=by
 obtain⟨k,rfl⟩: ∃k',k=k'+1:=⟨k-1,by omega⟩
 rw[fW.eq]
 by_cases h:lo≤x<;>simp[Pu.within,h]
theorem ca.loop{k:Nat}{w:LI}(hk:1≤k)(hw:w.length≤1048576): ∀(m j i:Nat),i+m=w.length→m<j→ca.L0 k j i w=some (decide (w.length≤9)&&(w.drop i).all fun n=>Pu.within n 1 9)
 |m,0,i,_,hj=>by omega
 |0,j+1,i,hi,_=>by
  rw[ca.bo]
  have hn: ¬(i:Int)<w.length:=by omega
  refine tX hn ?_
  rw[List.drop_of_length_le (by omega)]
  simp
  omega
 |m+1,j+1,i,hi,hj=>by
  have hlt:i<w.length:=by omega
  have hn:(i:Int)<w.length:=by omega
  have ih:=ca.loop hk hw m j (i+1) (by omega) (by omega)
  have hws:IntKind.i64.wrap ((i:Int)+1)=((i+1:Nat):Int):=by rw[w64 (by omega) (by omega)];omega
  rw[ca.bo,Pu.drop_cons hlt 0]
  simp only[fc,dI,eX,iL,fg,cX,Int.toNat_natCast,hws]
  refine tG hn (tG (Int.natCast_nonneg i) (tG hlt (tG hlt (bE (fW.is (by omega)) ?_))))
  cases c:Pu.within (w.getD i 0) 1 9 with
  |false=>refine tM ?_;simp only[List.all_cons,c,Bool.false_and,Bool.and_false]
  |true=>refine tN ?_;rw[ih,List.all_cons,c,Bool.true_and]
theorem ca.is{k:Nat}{w:LI}(hk:4194304+2≤k)(hw:w.length≤1048576):ca k w=some (Pu.isWord w):=by
 obtain⟨k,rfl⟩: ∃k',k=k'+1:=⟨k-1,by omega⟩
 have h:=ca.loop (k:=k) (by omega) hw w.length k 0 (by omega) (by omega)
 rw[Int.natCast_zero,List.drop_zero]at h
 rw[ca.eq]
 exact h
theorem fh.is{k:Nat}{b:Bool}(hk:1≤k):fh k b=some (if b=true then 1 else 0):=by
 obtain⟨k,rfl⟩: ∃k',k=k'+1:=⟨k-1,by omega⟩
 rw[fh.eq]
 cases b<;>rfl
theorem al.inner{k k1 i:Nat}{w out:LI}(hk:1≤k)(hw:w.length≤2000)(hi:i<w.length)(ho:out.length≤4000): ∀(m j q:Nat) (n:Int),q+m=w.length→m<j→n=((Pu.pc w i q+1:Nat):Int)→al.L2 k k1 j i n q w out=al.L0 k k1 ((i+1:Nat):Int) w (out++ [((Pu.plc w i+1:Nat):Int)])
 |m,0,q,n,_,hj,_=>by omega
 |0,j+1,q,n,hq,_,hn1=>by
  rw[al.qZ]
  have hn: ¬(q:Int)<w.length:=by omega
  have hws:IntKind.i64.wrap ((i:Int)+1)=((i+1:Nat):Int):=by rw[w64 (by omega) (by omega)];omega
  have hap:(out++ [n]).length≤1099511627776:=by rw[List.length_append,List.length_singleton];omega
  simp only[dI,eX,fg,cX,hws,fQ]
  have e:Pu.plc w i=Pu.pc w i q:=by rw[←Pu.Gx,show w.length=q by omega]
  rw[e,←hn1]
  exact tX hn (tG hap rfl)
 |m+1,j+1,q,n,hq,hj,hn1=>by
  have hlt:q<w.length:=by omega
  have hn:(q:Int)<w.length:=by omega
  have hle:=Pu.HT w i q
  have hws:IntKind.i64.wrap ((q:Int)+1)=((q+1:Nat):Int):=by rw[w64 (by omega) (by omega)];omega
  have hJ: ∀v:Int,0≤v→v≤1→((Pu.pc w i (q+1):Nat):Int)=((Pu.pc w i q:Nat):Int)+v→al.J3 k k1 j i (IntKind.i64.wrap (n+v)) q w out=al.L0 k k1 ((i+1:Nat):Int) w (out++ [((Pu.plc w i+1:Nat):Int)]):=fun v hv0 hv e=>by
   rw[al.ky,fg,cX,hws]
   exact al.inner hk hw hi ho m j (q+1) _ (by omega) (by omega) (by rw[w64 (by omega) (by omega),hn1];omega)
  rw[al.qZ]
  simp only[fc,dI,eX,iL,Int.toNat_natCast]
  by_cases c:w.getD q 0<w.getD i 0
  ·exact tG hn (tG (Int.natCast_nonneg q) (tG hlt (tG hlt (tG (Int.natCast_nonneg i) (tG hi (tG hi (tG c (bE (fh.is hk) (hJ 1 (by decide) (by decide) (by rw[Pu.Iz c];rfl))))))))))
  ·by_cases c2:w.getD q 0=w.getD i 0
   ·have e:=hJ (if decide ((q:Int)<(i:Int))=true then 1 else 0) (by split<;>decide) (by split<;>decide) (by
     rw[Pu.Hz c2]
     cases decide ((q:Int)<(i:Int))with
     |true=>rfl
     |false=>exact(Int.add_zero _).symm)
    exact tG hn (tG (Int.natCast_nonneg q) (tG hlt (tG hlt (tG (Int.natCast_nonneg i) (tG hi (tG hi (tX c (tG (Int.natCast_nonneg q) (tG hlt (tG hlt (tG (Int.natCast_nonneg i) (tG hi (tG hi (tG c2 (bE (fh.is hk) e)))))))))))))))
   ·exact tG hn (tG (Int.natCast_nonneg q) (tG hlt (tG hlt (tG (Int.natCast_nonneg i) (tG hi (tG hi (tX c (tG (Int.natCast_nonneg q) (tG hlt (tG hlt (tG (Int.natCast_nonneg i) (tG hi (tG hi (tX c2 (bE (fh.is hk) (hJ 0 (by decide) (by decide) (by rw[Pu.HF c c2,Int.add_zero])))))))))))))))))
theorem al.outer{k:Nat}{w:LI}(hk:4194304+10≤k)(hw:w.length≤2000)(h:Pu.isWord w=true): ∀(m j i:Nat) (out:LI),i+m=w.length→m<j→out.length≤i→al.L0 k j i w out=some (out++(List.range' i m).map fun i=>((Pu.plc w i+1:Nat):Int))
 |m,0,i,out,_,hj,_=>by omega
 |0,j+1,i,out,hi,_,ho=>by
  rw[al.bo]
  have hn: ¬(i:Int)<w.length:=by omega
  rw[List.range'_zero,List.map_nil,List.append_nil]
  exact tX hn rfl
 |m+1,j+1,i,out,hi,hj,ho=>by
  have hlt:i<w.length:=by omega
  have hn:(i:Int)<w.length:=by omega
  have hw2:=ca.is (k:=k) (w:=w) (by omega) (by omega)
  rw[h]at hw2
  have e:=al.inner (k:=k) (k1:=j) (w:=w) (out:=out) (by omega) hw hlt (by omega) w.length k 0 1 (by omega) (by omega) rfl
  have y1:=al.outer hk hw h m j (i+1) (out++ [((Pu.plc w i+1:Nat):Int)]) (by omega) (by omega) (by rw[List.length_append,List.length_singleton];omega)
  rw[Int.natCast_zero]at e
  rw[al.bo]
  refine tG hn (bE hw2 (tY ?_))
  rw[al.eV,e,y1,List.range'_succ,List.map_cons,List.append_assoc]
  rfl
theorem al.is{k:Nat}{w:LI}(hk:4194304+12≤k)(hw:w.length≤2000):al k w=some (Pu.Gv w):=by
 obtain⟨k,rfl⟩: ∃k',k=k'+1:=⟨k-1,by omega⟩
 rw[al.eq]
 unfold Pu.Gv
 cases h:Pu.isWord w with
 |true=>
  have h2:=al.outer (k:=k) (by omega) hw h w.length k 0 [] (by omega) (by omega) (by simp)
  rw[Int.natCast_zero]at h2
  rw[h2,if_pos rfl,List.range_eq_range']
  rfl
 |false=>
  have h2:=ca.is (k:=k) (w:=w) (by omega) (by omega)
  rw[h]at h2
  obtain⟨j,rfl⟩: ∃j,k=j+1:=⟨k-1,by omega⟩
  have hn:(0:Int)<w.length:=by
   cases w with
   |nil=>cases h
   |cons a l=>simp only[List.length_cons];omega
  rw[al.bo,if_neg (by decide)]
  exact tG hn (bE h2 (tF rfl))
theorem al.ok{k:Nat}{w:LI}(hk:4194304+12≤k)(hw:w.length≤1000):Pu.Ok (al k w) fun r=>r.length≤1000:=
 ⟨_,al.is hk (by omega),by
  unfold Pu.Gv
  cases h:Pu.isWord w with
  |true=>rw[if_pos rfl,List.length_map,List.length_range];exact hw
  |false=>exact Nat.zero_le _⟩
theorem fm.ok{k:Nat}{i h:Int}{b:LI}(hk:4194304+20≤k)(hb:b.length≤1048576)(hi:0≤i)(hi':i≤b.length):Pu.Ok (fm k i h b) fun r=>r.1.length≤1000∧0≤r.2.2.1∧r.2.2.1≤b.length:=by
 obtain⟨k,rfl⟩: ∃k',k=k'+1:=⟨k-1,by omega⟩
 obtain⟨r0,i0,h0,e0,a1,a2,a3,a4,a5⟩:=aJ.is (k:=k) (n:=4) (h:=h) (b:=b) (by omega) hb hi hi' (by omega)
 have hr:=a3 (by omega)
 have hw:D.wrap .i64 (D.add 2 r0)=2+r0:=by show IntKind.i64.wrap (2+r0)=2+r0;exact w64 (by omega) (by omega)
 obtain⟨w,w1,w2,w3,w4⟩:=bK.ok (k:=k) (l:=2+r0) (i:=i0) (h:=h0) (b:=b) (by omega) hb (by omega) a4 a5
 obtain⟨r2,i2,h2,e2,b4,b5⟩:=cg.is (k:=k) (n:=3) (i:=w.2.2.1) (h:=w.2.2.2) (b:=b) (by omega) hb w3 w4 (by omega)
 obtain⟨s,s1,s2⟩:=al.ok (k:=k) (w:=w.1) (by omega) (by omega)
 rw[fm.eq]
 cases r2 with
 |false=>
  refine⟨(w.1,((),(i2,h2))),bE e0 ?_,by dsimp only;omega,b4,b5⟩
  simp only[hw]
  exact bE w1 (bE e2 (tF rfl))
 |true=>
  refine⟨(s,((),(i2,h2))),bE e0 ?_,s2,b4,b5⟩
  simp only[hw]
  exact bE w1 (bE e2 (tY (bE s1 rfl)))
theorem bZ.is{k:Nat}{l:LI}{i h:Int}{b:LI}(hk:3≤k)(hb:b.length≤1048576)(hi:0≤i)(hi':i≤b.length)(hl:0<l.length)(hl':l.length≤256):
  ∃r i' h',bZ k i h l b=some (r,((),(i',h')))∧r∈l∧0≤i'∧i'≤b.length:=by
 obtain⟨k,rfl⟩: ∃k',k=k'+1:=⟨k-1,by omega⟩
 rw[bZ.eq]
 obtain⟨r,i',h',e,h1,h2,h3,h4,h5⟩:=aJ.is (k:=k) (n:=l.length) (h:=h) (b:=b) (by omega) hb hi hi' (by omega)
 have h3:=h3 (by omega)
 have hn:r.toNat<l.length:=by omega
 refine⟨l.getD r.toNat 0,i',h',?_,?_,h4,h5⟩
 ·simp only[↓ay,sss,if_true,if_false,e,h1,hn]
 ·rw[Pu.au hn 0];exact List.getElem_mem hn
theorem bJ.loop{k:Nat}{p h:Int}{b:LI}(hp:0≤p∧p≤b.length): ∀(m j:Nat) (out:LI),10≤out.length+m→m<j→out.length≤1000→Pu.Ok (bJ.L0 k j out p h b) fun r=>r.1.length≤1010∧0≤r.2.2.1∧r.2.2.1≤b.length
 |m,0,out,_,hj,_=>by omega
 |m,j+1,out,hm,hj,ho=>by
  rw[bJ.bo]
  by_cases c:(out.length:Int)<10
  ·obtain⟨m,rfl⟩: ∃m',m=m'+1:=⟨m-1,by omega⟩
   have hap:(out++ [1]).length≤1099511627776:=by rw[List.length_append,List.length_singleton];omega
   obtain⟨y,y1,y2⟩:=bJ.loop (k:=k) (h:=h) hp m j (out++ [1]) (by rw[List.length_append,List.length_singleton];omega) (by omega) (by rw[List.length_append,List.length_singleton];omega)
   exact⟨y,tG c (tG hap y1),y2⟩
  ·exact⟨_,tX c rfl,by dsimp only;omega,hp.1,hp.2⟩
theorem bJ.okI{k:Nat}{i h:Int}{b:LI}(hk:4194304+30≤k)(hb:b.length≤1048576)(hi:0≤i)(hi':i≤b.length):Pu.Ok (bJ k i h b) fun r=>r.1.length≤1010∧0≤r.2.2.1∧r.2.2.1≤b.length:=by
 obtain⟨k,rfl⟩: ∃k',k=k'+1:=⟨k-1,by omega⟩
 obtain⟨w,w1,w2,w3,w4⟩:=fm.ok (k:=k) (i:=i) (h:=h) (b:=b) (by omega) hb hi hi'
 obtain⟨r1,i1,h1,e1,a1,a2,a3,a4,a5⟩:=aJ.is (k:=k) (n:=14) (i:=w.2.2.1) (h:=w.2.2.2) (b:=b) (by omega) hb w3 w4 (by omega)
 rw[bJ.eq]
 by_cases c:r1=0
 ·obtain⟨x,i2,h2,e2,_,q1,q2⟩:=bZ.is (k:=k) (l:= [0,10,-1,9]) (i:=i1) (h:=h1) (b:=b) (by omega) hb a4 a5 (by simp) (by simp)
  have hap:(w.1++ [x]).length≤1099511627776:=by rw[List.length_append,List.length_singleton];omega
  exact⟨(w.1++ [x],((),(i2,h2))),bE w1 (bE e1 (tG c (bE e2 (tG hap rfl)))),by dsimp only;rw[List.length_append,List.length_singleton];omega,q1,q2⟩
 ·by_cases c2:r1=1
  ·obtain⟨y,y1,y2⟩:=bJ.loop (k:=k) (p:=i1) (h:=h1) (b:=b) ⟨a4,a5⟩ 10 k w.1 (by omega) (by omega) w2
   exact⟨y,bE w1 (bE e1 (tX c (tG c2 y1))),y2⟩
  ·exact⟨(w.1,((),(i1,h1))),bE w1 (bE e1 (tX c (tX c2 rfl))),by dsimp only;omega,a4,a5⟩
theorem bJ.ok{k:Nat}{i h:Int}{b:LI}(hk:4194304+30≤k)(hb:b.length≤1048576)(hi:0≤i)(hi':i≤b.length):Pu.Ok (bJ k i h b) fun r=>r.1.length≤1010:=
 Pu.Ok.mono (bJ.okI hk hb hi hi') fun r h=>h.1
theorem aD.Ee{k:Nat}{b:LI}{x3:LI}(hk:4194304+40≤k)(hb:b.length≤1048576): ∀(m j i:Nat) (h:Int),i+m=b.length→m<j→Pu.Ok (aD.L0 k j h i b x3) fun r=>r.length≤1010:=by
 have fin: ∀h,Pu.Ok (aD.J2 k h b x3) fun r=>r.length≤1010:=fun h=>by
  rw[aD.iJ]
  exact Pu.Ok.bnd (bJ.ok (by show _≤k+1;omega) hb (by omega) (by omega)) fun r hr=>Pu.Ok.ret hr
 intro m
 induction m with
 |zero=>
  intro j i h hi hj
  obtain⟨j,rfl⟩: ∃j',j=j'+1:=⟨j-1,by omega⟩
  rw[aD.bo]
  simp only[oT,nA,kp,kJ,kH,dI,eX,fc,iL,iv,fQ,iH,iF,kI,cX,fg,jr,lM,nZ,nO,kK,kG,ju,jv,iG,gW,List.nil_append,List.cons_append]
  exact Pu.Ok.no (by omega) (fin h)
 |succ m ih=>
  intro j i h hi hj
  obtain⟨j,rfl⟩: ∃j',j=j'+1:=⟨j-1,by omega⟩
  have hw:IntKind.i64.wrap ((i:Int)+1)=((i+1:Nat):Int):=w64 (by omega) (by omega)
  rw[aD.bo]
  simp only[oT,nA,kp,kJ,kH,dI,eX,fc,iL,iv,fQ,iH,iF,kI,cX,fg,jr,lM,nZ,nO,kK,kG,ju,jv,iG,gW,List.nil_append,List.cons_append]
  refine Pu.Ok.g (by omega) (Pu.Ok.t (fun _=> ?_) (fun _=>fin h))
  rw[aD.eV]
  simp only[oT,nA,kp,kJ,kH,dI,eX,fc,iL,iv,fQ,iH,iF,kI,cX,fg,jr,lM,nZ,nO,kK,kG,ju,jv,iG,gW,List.nil_append,List.cons_append]
  rw[hw]
  refine Pu.Ok.g (by omega) (Pu.Ok.g (by omega) (Pu.Ok.g (by omega) ?_))
  exact ih j (i+1) _ (by omega) (by omega)
theorem aD.ok{k:Nat}{b:LI}(hk:4194304+50≤k)(hb:b.length≤1048576):Pu.Ok (aD k b) fun r=>r.length≤1010:=by
 obtain⟨k,rfl⟩: ∃k',k=k'+2:=⟨k-2,by omega⟩
 rw[aD.eq]
 exact aD.Ee (by omega) hb b.length k 0 _ (by omega) (by omega)
theorem cw.is{k:Nat}{x lo hi:Int}(hk:1≤k):cw k x lo hi=some (Pu.within x lo hi):=by
 obtain⟨k,rfl⟩: ∃k',k=k'+1:=⟨k-1,by omega⟩
 rw[cw.eq]
 by_cases h:lo≤x<;>simp[Pu.within,h]
theorem fK.is{k:Nat}{x:Int}(hk:2≤k):fK k x=some (!Pu.within x 1 9,()):=by
 obtain⟨k,rfl⟩: ∃k',k=k'+1:=⟨k-1,by omega⟩
 rw[fK.eq,cw.is (by omega)]
 rfl
theorem aC.is{k:Nat}{r:LI}(hk:4194304+1≤k)(hr:r.length≤1048577):aC k r=some (Pu.zw (fun y=> !Pu.within y 1 9) r,()):=by
 obtain⟨k,rfl⟩: ∃k',k=k'+1:=⟨k-1,by omega⟩
 rw[aC.eq]
 have h:=Pu.v9 r 0 (fun y=> !Pu.within y 1 9) (fun j i=>aC.L0 k j r.length i r) (fun i=>some ((i:Int),())) (some (-1,()))
  (fun j i hi=>by
   rw[aC.bo,fK.is (by omega)]
   cases c:Pu.within (r.getD i 0) 1 9<;>simp (disch:=omega) only[↓ay,sss,if_true,if_false,hi,c,Int.natCast_add,Int.natCast_one])
  (fun j=>by
   rw[aC.bo]
   simp only[↓ay,sss,if_true,if_false,Nat.lt_irrefl]) r.length k 0 (by omega) (by omega) (by omega)
 simp only[Int.natCast_zero]at h
 simp only[eX,dI]
 rw[h]
 unfold Pu.zw
 split<;>rfl
theorem bt.is{k:Nat}{r:LI}(hk:4194304+2≤k)(hr:r.length≤1048577):bt k r=some (r.any fun y=> !Pu.within y 1 9,()):=by
 obtain⟨k,rfl⟩: ∃k',k=k'+1:=⟨k-1,by omega⟩
 rw[bt.eq,aC.is (by omega) hr,cS,nA,Pu.zG]
theorem gJ.is{k:Nat}{w:LI}(hk:4194304+3≤k)(hw:w.length≤1048576):gJ k w=some (Pu.isWord w):=by
 obtain⟨k,rfl⟩: ∃k',k=k'+1:=⟨k-1,by omega⟩
 rw[gJ.eq,bt.is (by omega) (by omega),cS]
 unfold Pu.isWord
 have e:(!w.any fun y=> !Pu.within y 1 9)=w.all fun n=>Pu.within n 1 9:=by rw[List.all_eq_not_any_not]
 by_cases c:w.length≤9
 ·have c':(w.length:Int)≤9:=by omega
  simp only[↓ay,sss,if_true,if_false,c,c',e]
 ·have c': ¬(w.length:Int)≤9:=by omega
  simp only[↓ay,sss,if_true,if_false,c,c']
theorem aL.row{k k1:Nat}{rows S:LJ}{i:Nat}(hi:i<rows.length)(hl:rows.length≤1000)(hr:(rows.getD i []).length≤1000)(hS:S.length≤1000)(hf:S.flatten.length≤100000): ∀(m j c:Nat),c+m=(rows.getD i []).length→m<j→
  aL.L1 k k1 j rows.length i i (rows.getD i []).length c (Pu.gH ((rows.getD i []).take c) S) rows=aL.L0 k k1 rows.length ((i+1:Nat):Int) (Pu.gH (rows.getD i []) S) rows
 |m,0,c,_,hj=>by omega
 |0,j+1,c,hm,_=>by
  rw[aL.ep,List.take_of_length_le (by omega)]
  have hw:IntKind.i64.wrap ((i:Int)+1)=((i+1:Nat):Int):=by rw[w64 (by omega) (by omega)];omega
  simp only[fg,cX,hw]
  exact tX (show¬(c:Int)<((rows.getD i []).length:Nat) by omega) rfl
 |m+1,j+1,c,hm,hj=>by
  have hc:c<(rows.getD i []).length:=by omega
  have hz:IntKind.i64.wrap ((c:Int)+1)=((c+1:Nat):Int):=by rw[w64 (by omega) (by omega)];omega
  have ih:=aL.row (k:=k) (k1:=k1) hi hl hr hS hf m j (c+1) (by omega) (by omega)
  have hlen:=Pu.qD ((rows.getD i []).take c) S
  have hflat:=Pu.rB ((rows.getD i []).take c) S
  have htl:((rows.getD i []).take c).length=c:=by rw[List.length_take];omega
  rw[htl]at hlen hflat
  rw[Pu.take_succ hc 0,Pu.rI,htl]at ih
  generalize hT:Pu.gH ((rows.getD i []).take c) S=T at*
  have c0:=Int.natCast_nonneg c
  have hrow:=Pu.lz (C:=T) c
  have step: ∀T':LJ,c<T'.length→(T'.getD c []).length≤200000→aL.J2 k k1 j c ((rows.getD i []).getD c 0) rows.length i i (rows.getD i []).length c T' rows=aL.L1 k k1 j rows.length i i (rows.getD i []).length ((c+1:Nat):Int) (T'.set c (T'.getD c []++ [(rows.getD i []).getD c 0])) rows:=fun T' h1 h2=>by
   have hap:(T'.getD c []++ [(rows.getD i []).getD c 0]).length≤1099511627776:=by rw[List.length_append,List.length_singleton];omega
   rw[aL.iJ]
   simp only[fc,Int.toNat_natCast,dI,iL,fQ,iv,fg,cX,hz]
   exact tG c0 (tG h1 (tG h1 (tG h1 (tG hap (tG c0 (tG h1 (tG h1 (tG rfl rfl))))))))
  rw[aL.ep,←ih]
  simp only[fc,Int.toNat_natCast,dI,iL,fQ,eX]
  refine tG (show(c:Int)<((rows.getD i []).length:Nat) by omega) (tG hi (tG c0 (tG hc (tG hi (tG hc ?_)))))
  unfold Pu.kF
  by_cases e:c=T.length
  ·refine tG (show(c:Int)=(T.length:Nat) by omega) (tG (by rw[List.length_append,List.length_singleton];omega) ?_)
   rw[step (T++ [[]]) (by rw[List.length_append,List.length_singleton];omega) (by rw[e];simp),if_pos e]
   congr 1
   rw[e];simp
  ·refine tX (show¬(c:Int)=(T.length:Nat) by omega) ?_
   rw[step T (by omega) (by omega),if_neg e]
theorem aL.loop{k:Nat}{rows:LJ}(hk:2000≤k)(hl:rows.length≤1000)(hr:rows.flatten.length≤1000): ∀(m j i:Nat),i+m=rows.length→m<j→aL.L0 k j rows.length i (Pu.aQ (rows.take i)) rows=some (Pu.aQ rows)
 |m,0,i,_,hj=>by omega
 |0,j+1,i,hm,_=>by
  rw[aL.bo,List.take_of_length_le (by omega)]
  exact tX (show¬(i:Int)<(rows.length:Nat) by omega) rfl
 |m+1,j+1,i,hm,hj=>by
  have hi:i<rows.length:=by omega
  have h1:=Pu.lz (C:=rows) i
  have h2:=Pu.lF (rows.take i)
  have h3:(rows.take i).flatten.length≤rows.flatten.length:=by
   have:=congrArg List.length (congrArg List.flatten (List.take_append_drop i rows))
   rw[List.flatten_append,List.length_append]at this
   omega
  have h4:(Pu.aQ (rows.take i)).length≤1000:=by
   refine Nat.le_trans (m:=(rows.take i).flatten.length) ?_ (by omega)
   clear h1 h2 h3 hi hm hj
   generalize rows.take i=t
   induction t with
   |nil=>exact Nat.zero_le _
   |cons r t ih=>
    show(Pu.eQ r (Pu.aQ t)).length≤_
    rw[List.flatten_cons,List.length_append]
    have: ∀(r:LI) (C:LJ),(Pu.eQ r C).length≤r.length+C.length:=by
     intro r
     induction r with
     |nil=>intro C;simp[Pu.eQ]
     |cons n r ih=>
      intro C
      cases C with
      |nil=>have:=ih [];simp only[Pu.eQ,List.length_cons];omega
      |cons c C=>have:=ih C;simp only[Pu.eQ,List.length_cons];omega
    have:=this r (Pu.aQ t)
    omega
  have e:=aL.row (k:=k) (k1:=j) (S:=Pu.aQ (rows.take i)) hi hl (by omega) h4 (by omega) (rows.getD i []).length k 0 (by omega) (by omega)
  rw[Int.natCast_zero,List.take_zero]at e
  have ih:=aL.loop hk hl hr m j (i+1) (by omega) (by omega)
  rw[Pu.take_succ hi [],Pu.uv]at ih
  rw[aL.bo]
  simp only[fc,Int.toNat_natCast,dI,iL,eX]
  exact tG (show(i:Int)<(rows.length:Nat) by omega) (tG (by omega) (tG hi (tG hi (tG hi (e.trans ih)))))
theorem aL.isX{k:Nat}{t:Pu.Tab}(hk:4194304≤k)(hl:t.2.length≤1000)(hr:t.2.flatten.length≤1000):aL k t=some (Pu.aQ t.2):=by
 obtain⟨k,rfl⟩: ∃k',k=k'+1:=⟨k-1,by omega⟩
 rw[aL.eq]
 exact aL.loop (k:=k) (rows:=t.2) (by omega) hl hr t.2.length k 0 (by omega) (by omega)
theorem aL.is{k:Nat}{t:Pu.Tab}(hk:4194304≤k)(h:Pu.ba t=true): ∃cols,aL k t=some cols∧cols.length=(if t.2.length=0 then 0 else(t.2.getD 0 []).length):=by
 obtain⟨_,h2,h3⟩:=Pu.fJ h
 refine⟨_,aL.isX hk (by omega) (by have:=Pu.ig h;omega),?_⟩
 rw[Pu.gl (Pu.mc (Pu.j7 h))]
 split
 ·next e=>rw[List.eq_nil_of_length_eq_zero e];rfl
 ·rfl
theorem dH.is{k:Nat}{C:LJ}(hk:4194304+1≤k)(hl:C.length≤1000)(hr:C.flatten.length≤1000):dH k C=some ([],Pu.aQ C):=by
 obtain⟨k,rfl⟩: ∃k',k=k'+1:=⟨k-1,by omega⟩
 rw[dH.eq]
 exact bE (aL.isX (t:=([],C)) (by omega) hl hr) rfl
theorem dm.is{k:Nat}{n x:Int}(hk:1≤k):dm k n x=some (decide (x≤n),x):=by
 obtain⟨k,rfl⟩: ∃k',k=k'+1:=⟨k-1,by omega⟩
 rw[dm.eq]
 rfl
theorem aj.loop{k:Nat}{r:LI}{x:Int}(hk:1≤k)(hr:r.length≤1048577): ∀(m j i:Nat),i+m=r.length→m<j→i≤r.findIdx (fun n=>decide (x≤n))→
  aj.L0 k j r.length i r x=some (if r.findIdx (fun n=>decide (x≤n))<r.length then((r.findIdx (fun n=>decide (x≤n)):Nat):Int)else-1,x)
 |m,0,i,_,hj,_=>by omega
 |0,j+1,i,hm,_,hi=>by
  rw[aj.bo]
  have e:i=r.length:=by omega
  have h: ¬r.findIdx (fun n=>decide (x≤n))<r.length:=by omega
  subst e
  rw[if_neg h]
  simp
 |m+1,j+1,i,hm,hj,hi=>by
  rw[aj.bo]
  have hlt:i<r.length:=by omega
  simp (disch:=omega) only[↓ay,sss,if_true,if_false,hlt,dm.is]
  by_cases c:x≤r.getD i 0
  ·have e:r.findIdx (fun n=>decide (x≤n))=i:=by
    refine Nat.le_antisymm ?_ hi
    exact Pu.findIdx_le hlt (by simpa using c)
   simp only[c,↓ay,sss,if_true,if_false,e,hlt]
  ·have hne:r.findIdx (fun n=>decide (x≤n))≠i:=fun e=>by
    have:=Pu.oK (p:=fun n=>decide (x≤n)) (r:=r) (by rw[e];exact hlt)
    rw[e]at this
    exact c (by simpa using this)
   have ih:=aj.loop (k:=k) (x:=x) hk hr m j (i+1) (by omega) (by omega) (by omega)
   rw[Int.natCast_succ]at ih
   simp only[c,↓ay,sss,if_true,if_false,ih]
theorem aj.is{k:Nat}{r:LI}{x:Int}(hk:4194304+1≤k)(hr:r.length≤1048577):
  aj k x r=some (if r.findIdx (fun n=>decide (x≤n))<r.length then((r.findIdx (fun n=>decide (x≤n)):Nat):Int)else-1,x):=by
 obtain⟨k,rfl⟩: ∃k',k=k'+1:=⟨k-1,by omega⟩
 rw[aj.eq]
 exact aj.loop (k:=k) (by omega) hr r.length k 0 (by omega) (by omega) (by omega)
theorem aN.zE{k k1:Nat}{x2 x3 x4 x5 x6 x7:Int}{x8:Bool}{x9 x10:Int}{x11:Nat}{x12:Int}{w x16:LI}{x17:LJ}(hk:4194304+10≤k): ∀(m j c:Nat) (C:LJ) (x:Int),c+m=C.length→m<j→C.length≤100→C.flatten.length≤100→
  aN.L1 k k1 j (C.length:Nat) c x2 x3 x4 x5 x6 x7 x8 x9 x10 x11 x12 C x w x16 x17=aN.L0 k k1 (IntKind.i64.wrap (x6-1)) w x16 x17 (C.take c++Pu.jQ (C.drop c) x)
 |m,0,c,C,x,_,hj,_,_=>by omega
 |0,j+1,c,C,x,hm,_,h1,h2=>by
  have hap:(C++ [[x]]).length≤1099511627776:=by rw[List.length_append,List.length_singleton];omega
  have e:C++ [[x]]=C.take c++Pu.jQ (C.drop c) x:=by rw[show c=C.length by omega,List.take_length,List.drop_length];rfl
  have hf:(C++ [[x]]).flatten.length≤1000:=by rw[List.flatten_append,List.length_append];show C.flatten.length+1≤1000;omega
  have hl:(C++ [[x]]).length≤1000:=by rw[List.length_append,List.length_singleton];omega
  rw[aN.ep,←e]
  refine tX (show¬(c:Int)<(C.length:Nat) by omega) (tG hap ?_)
  rfl
 |m+1,j+1,c,C,x,hm,hj,h1,h2=>by
  have hc:c<C.length:=by omega
  have c0:=Int.natCast_nonneg c
  have hrow:=Pu.lz (C:=C) c
  have hix:=aj.is (k:=k) (r:=C.getD c []) (x:=x) (by omega) (by omega)
  have hz:IntKind.i64.wrap ((c:Int)+1)=((c+1:Nat):Int):=by rw[w64 (by omega) (by omega)];omega
  rw[aN.ep]
  simp only[fc,dI,eX,iL,fg,cX,iv,fQ,Int.toNat_natCast,hz]
  refine tG (show(c:Int)<(C.length:Nat) by omega) (tG c0 (tG hc (tG hc (tG hc (bE hix ?_)))))
  rw[show(C.getD c []).findIdx (fun n=>decide (x≤n))=Pu.cr (C.getD c []) x from rfl]
  by_cases g:Pu.cr (C.getD c []) x<(C.getD c []).length
  ·rw[if_pos g,←Pu.yc hc g]
   have g0: ¬((Pu.cr (C.getD c []) x:Nat):Int)<0:=by omega
   have g1:(0:Int)≤((Pu.cr (C.getD c []) x:Nat):Int):=by omega
   have hsf:=Pu.pG (C:=C) (c:=c) (d:=(C.getD c []).set (Pu.cr (C.getD c []) x) x) hc
   rw[List.length_set]at hsf
   have ih:=aN.zE (k1:=k1) (x2:=x2) (x3:=x3) (x4:=x4) (x5:=x5) (x6:=x6) (x7:=x7) (x8:=x8) (x9:=x9) (x10:=x10) (x11:=x11) (x12:=x12) (w:=w) (x16:=x16) (x17:=x17) hk m j (c+1) (C.set c ((C.getD c []).set (Pu.cr (C.getD c []) x) x)) ((C.getD c []).getD (Pu.cr (C.getD c []) x) 0) (by rw[List.length_set];omega) (by omega) (by rw[List.length_set];exact h1) (by omega)
   rw[List.length_set]at ih
   rw[←ih]
   refine tX g0 (tG hc (tG g1 ?_))
   simp only[Int.toNat_natCast]
   exact tG g (tG hc (tG g (tG hc (tG g1 (tG g (tG hc (tG g rfl)))))))
  ·rw[if_neg g,←Pu.yo hc g]
   have hap:(C.getD c []++ [x]).length≤1099511627776:=by rw[List.length_append,List.length_singleton];omega
   have hsf:=Pu.pG (C:=C) (c:=c) (d:=C.getD c []++ [x]) hc
   rw[List.length_append,List.length_singleton]at hsf
   have hf:(C.set c (C.getD c []++ [x])).flatten.length≤1000:=by omega
   have hl:(C.set c (C.getD c []++ [x])).length≤1000:=by rw[List.length_set];omega
   refine tG (show(-1:Int)<0 by decide) (tG hc (tG hap (tG c0 (tG hc (tG hc (tG rfl ?_))))))
   rfl
theorem aN.loop{k:Nat}{w x16:LI}{x17:LJ}(hk:4194304+20≤k)(hw:w.length≤9): ∀(m j:Nat),m≤w.length→m<j→
  aN.L0 k j ((m:Int)-1) w x16 x17 (Pu.mu (w.drop m))=some (([],Pu.aQ (Pu.mu w)),true)
 |m,0,_,hj=>by omega
 |0,j+1,_,_=>by
  have hs:=Pu.rf w
  have h1:=hs.1
  have h2:=hs.2
  rw[aN.bo,List.drop_zero]
  refine tX (by omega) (bE (dH.is (by omega) (by omega) (by omega)) rfl)
 |m+1,j+1,hm,hj=>by
  have hlt:m<w.length:=by omega
  have hs:=Pu.rf (w.drop (m+1))
  rw[List.length_drop]at hs
  have h1:=hs.1
  have h2:=hs.2
  have ez:(((m+1:Nat):Int)-1)=(m:Int):=by omega
  have hz:IntKind.i64.wrap ((m:Int)-1)=(m:Int)-1:=w64 (by omega) (by omega)
  have ih:=aN.loop (x16:=x16) (x17:=x17) hk hw m j (by omega) (by omega)
  have e:=aN.zE (k:=k) (k1:=j) (x2:=w.getD m 0) (x3:=(m:Int)) (x4:=w.getD m 0) (x5:=w.getD m 0) (x6:=(m:Int)) (x7:=(m:Int)) (x8:=decide ((0:Int)≤m)) (x9:=(m:Int)) (x10:=(m:Int)) (x11:=m) (x12:=w.getD m 0) (w:=w) (x16:=x16) (x17:=x17) (by omega) (Pu.mu (w.drop (m+1))).length k 0 (Pu.mu (w.drop (m+1))) (w.getD m 0) (by omega) (by omega) (by omega) (by omega)
  rw[Int.natCast_zero,hz,List.take_zero,List.drop_zero,List.nil_append,show Pu.jQ (Pu.mu (w.drop (m+1))) (w.getD m 0)=Pu.mu (w.drop m) by rw[Pu.drop_cons hlt 0];rfl,ih]at e
  rw[aN.bo,ez]
  simp only[fc,dI,eX,iL,Int.toNat_natCast]
  exact tG (Int.natCast_nonneg m) (tG (Int.natCast_nonneg m) (tG hlt (tG hlt e)))
theorem aN.is{k:Nat}{w:LI}(hk:4194304+40≤k)(hw:w.length≤1048576):aN k w=some (Pu.iC w):=by
 obtain⟨k,rfl⟩: ∃k',k=k'+2:=⟨k-2,by omega⟩
 rw[aN.eq]
 refine bE (gJ.is (by omega) hw) ?_
 unfold Pu.iC
 cases h:Pu.isWord w with
 |false=>exact tM rfl
 |true=>
  have h9:=(Pu.gI h).1
  have e:=aN.loop (k:=k) (w:=w) (x16:= []) (x17:= []) (by omega) h9 w.length (k+1) (Nat.le_refl _) (by omega)
  rw[List.drop_length]at e
  have hz:IntKind.i64.wrap ((w.length:Int)-1)=(w.length:Int)-1:=w64 (by omega) (by omega)
  rw[if_pos rfl]
  refine tN ?_
  simp only[dI,eX,jr,cX,hz]
  exact e
theorem cJ.loop{k:Nat}{t:Pu.Tab}{x3 x4:LI}{x5:LJ}(ht:t.2.length≤1048576)(hr: ∀x∈t.2,x.length≤1048576): ∀(m j i:Nat),i+m=t.2.length→m<j→
  cJ.L0 k j i t.1 t.2 x3 x5 x4 (t.2.take i)=some (x4,t.2)
 |m,0,i,_,hj=>by omega
 |0,j+1,i,hm,_=>by
  rw[cJ.bo]
  have e:i=t.2.length:=by omega
  subst e
  simp
 |m+1,j+1,i,hm,hj=>by
  rw[cJ.bo]
  have hlt:i<t.2.length:=by omega
  have hx:=hr _ (List.getElem_mem hlt)
  rw[←Pu.au hlt []]at hx
  have ih:=cJ.loop (k:=k) (x3:=x3) (x4:=x4) (x5:=x5) ht hr m j (i+1) (by omega) (by omega)
  rw[Int.natCast_succ,Pu.take_succ hlt []]at ih
  have hl:(t.2.take i++ [t.2.getD i []]).length≤1099511627776:=by simp;omega
  have hx':(t.2.getD i []).length≤1099511627776:=by omega
  simp (disch:=omega) only[↓ay,sss,if_true,if_false,hlt,hl,hx',List.nil_append,ih]
theorem cJ.is{k:Nat}{t:Pu.Tab}(hk:4194304+1≤k)(h1:t.1.length≤1048576)(ht:t.2.length≤1048576)(hr: ∀x∈t.2,x.length≤1048576):cJ k t=some t:=by
 obtain⟨k,rfl⟩: ∃k',k=k'+1:=⟨k-1,by omega⟩
 rw[cJ.eq]
 have h:=cJ.loop (k:=k) (t:=t) (x3:= []) (x4:=t.1) (x5:= []) ht hr t.2.length k 0 (by omega) (by omega)
 rw[Int.natCast_zero,List.take_zero]at h
 have hl:t.1.length≤1099511627776:=by omega
 simp only[↓ay,sss,if_true,if_false,List.nil_append,hl,h]
theorem dL.is{k:Nat}{p:LI}{i:Int}(hk:1≤k):dL k p i=some (Pu.atI p i):=by
 obtain⟨k,rfl⟩: ∃k',k=k'+1:=⟨k-1,by omega⟩
 rw[dL.eq,dL.fG]
 by_cases h1:i<0
 ·simp only[↓ay,sss,if_true,if_false,h1,Pu.qB h1]
 ·by_cases h2:(p.length:Int)≤i
  ·simp only[↓ay,sss,if_true,if_false,h1,h2,Pu.BY h2]
  ·have h3:0≤i:=by omega
   have h4:i.toNat<p.length:=by omega
   simp only[↓ay,sss,if_true,if_false,h1,h2,h3,h4,Pu.atI]
theorem bp.is{k:Nat}{t:Pu.Tab}{r c:Int}(hk:2≤k)(hi:Pu.b8 t.1=true)(h1: -1000000000≤c)(h2:c≤1000000000):bp k t r c=some (Pu.entry t r c):=by
 obtain⟨k,rfl⟩: ∃k',k=k'+1:=⟨k-1,by omega⟩
 have hb:=Pu.dX hi r
 rw[bp.eq,bp.fG,dL.is (by omega)]
 unfold Pu.entry
 by_cases c1:r<0
 ·simp only[↓ay,sss,if_true,if_false,c1]
 ·by_cases c2:(t.2.length:Int)≤r
  ·simp only[↓ay,sss,if_true,if_false,c1,c2]
  ·have c3:0≤r:=by omega
   have c4:r.toNat<t.2.length:=by omega
   simp (disch:=omega) only[↓ay,sss,if_true,if_false,c1,c2,c3,c4]
   by_cases d1:c-Pu.atI t.1 r<0
   ·simp only[↓ay,sss,if_true,if_false,d1,Pu.qB d1]
   ·by_cases d2:((t.2.getD r.toNat []).length:Int)≤c-Pu.atI t.1 r
    ·simp only[↓ay,sss,if_true,if_false,d1,d2,Pu.BY d2]
    ·have d3:0≤c-Pu.atI t.1 r:=by omega
     have d4:(c-Pu.atI t.1 r).toNat<(t.2.getD r.toNat []).length:=by omega
     rw[bp.eV]
     generalize c-Pu.atI t.1 r=z at*
     simp only[↓ay,sss,if_true,if_false,c3,c4,d1,d2,d3,d4,Pu.atI]
theorem aG.find{k k1 c:Nat}{D:LJ}{x:Int}{x3:LI}{x4:LJ}(hk:4194304+10≤k)(hD:Pu.Reg D)(hp: ∀v∈D.flatten,1≤v)(hc:c≤100)(hl:(D.getD c []).length≤100): ∀(m j r:Nat),r+m=Pu.cr (D.getD c []) x→m<j→
  aG.L1 k k1 j x c r x3 x4 [] (Pu.aQ D)=aG.J3 k k1 x c (Pu.cr (D.getD c []) x:Nat) x3 x4 [] (Pu.aQ D)
 |m,0,r,_,hj=>by omega
 |m,j+1,r,hm,hj=>by
  have hle:= @Pu.rU (D.getD c []) x
  have he:=bp.is (k:=k) (t:=([],Pu.aQ D)) (r:=(r:Int)) (c:=(c:Int)) (by omega) rfl (by omega) (by omega)
  rw[Pu.xL hD]at he
  have hw:IntKind.i64.wrap ((r:Int)+1)=((r+1:Nat):Int):=by rw[w64 (by omega) (by omega)];omega
  rw[aG.ep]
  refine bE he ?_
  by_cases hr:r<(D.getD c []).length
  ·have hcl:c<D.length:=Nat.lt_of_not_le fun hle=>by rw[Pu.iS hle]at hr;simp at hr
   have hv:=hp ((D.getD c []).getD r 0) (List.mem_flatten.2 ⟨D.getD c [],by rw[Pu.au hcl];exact List.getElem_mem hcl,by rw[Pu.au hr];exact List.getElem_mem hr⟩)
   refine tG (show(0:Int)<(D.getD c []).getD r 0 by omega) (bE he ?_)
   cases m with
   |zero=>
    have hf:Pu.cr (D.getD c []) x=r:=by omega
    have hx:=Pu.zi (c:=D.getD c []) (x:=x) (by omega)
    rw[hf]at hx⊢
    exact tX (show¬(D.getD c []).getD r 0<x by omega) rfl
   |succ m=>
    have hx:=Pu.vt (c:=D.getD c []) (x:=x) (i:=r) (by omega)
    refine tG hx ?_
    rw[aG.iJ]
    simp only[fg,cX,hw]
    exact aG.find hk hD hp hc hl m j (r+1) (by omega) (by omega)
  ·have hf:Pu.cr (D.getD c []) x=r:=by omega
   rw[hf,Pu.iS (by omega)]
   exact tX (by decide) rfl
theorem aG.loop{k:Nat}{C:LJ}{z:Int}{x3:LI}{x4:LJ}(hk:4194304+20≤k)(hC:Pu.CC C)(hCl:C.length≤90)(hCf:C.flatten.length≤90): ∀(m j c:Nat) (D:LJ) (x:Int),c+m=C.length→m<j→Pu.pB C z D c x→(∀v∈D.flatten,1≤v)→1≤x→
  aG.L0 k j x c x3 x4 [] (Pu.aQ D)=some ([],Pu.aQ (Pu.jQ C z))
 |m,0,c,D,x,_,hj,_,_,_=>by omega
 |m,j+1,c,D,x,hm,hj,s,hp,hx=>by
  have hD:=s.reg hC
  have hlen:=s.same.1
  have hcol:=s.col
  have hrow:=Pu.lz (C:=C) c
  rw[←hcol]at hrow
  have hle:= @Pu.rU (D.getD c []) x
  have e:=aG.find (k:=k) (k1:=j) (c:=c) (D:=D) (x:=x) (x3:=x3) (x4:=x4) (by omega) hD hp (by omega) (by omega) (Pu.cr (D.getD c []) x) k 0 (by omega) (by omega)
  rw[Int.natCast_zero]at e
  have he:=bp.is (k:=k) (t:=([],Pu.aQ D)) (r:=(Pu.cr (D.getD c []) x:Nat)) (c:=(c:Int)) (by omega) rfl (by omega) (by omega)
  rw[Pu.xL hD]at he
  rw[aG.bo,e,aG.ky]
  refine bE he ?_
  have c0:=Int.natCast_nonneg c
  have r0:=Int.natCast_nonneg (Pu.cr (D.getD c []) x)
  have hw:IntKind.i64.wrap ((c:Int)+1)=((c+1:Nat):Int):=by rw[w64 (by omega) (by omega)];omega
  by_cases hr:Pu.cr (D.getD c []) x<(D.getD c []).length
  ·obtain⟨hcl,s'⟩:=s.step hC hr
   have hv:=hp ((D.getD c []).getD (Pu.cr (D.getD c []) x) 0) (List.mem_flatten.2 ⟨D.getD c [],by rw[Pu.au hcl];exact List.getElem_mem hcl,by rw[Pu.au hr];exact List.getElem_mem hr⟩)
   have hcr:c<((Pu.aQ D).getD (Pu.cr (D.getD c []) x) []).length:=(Pu.cm hD _ c).1.2 hr
   have hrl:Pu.cr (D.getD c []) x<(Pu.aQ D).length:=Nat.lt_of_not_le fun hle=>by rw[Pu.iS hle]at hcr;simp at hcr
   refine tX (show¬(D.getD c []).getD (Pu.cr (D.getD c []) x) 0=0 by omega) ?_
   cases m with
   |zero=>omega
   |succ m=>
    have ih:=aG.loop (x3:=x3) (x4:=x4) hk hC hCl hCf m j (c+1) _ _ (by omega) (by omega) s' (fun v hvm=>by
     obtain⟨l,hl,hvm⟩:=List.mem_flatten.1 hvm
     rcases List.mem_or_eq_of_mem_set hl with h|h
     ·exact hp v (List.mem_flatten.2 ⟨l,h,hvm⟩)
     ·subst h
      rcases List.mem_or_eq_of_mem_set hvm with h|h
      ·exact hp v (List.mem_flatten.2 ⟨D.getD c [],by rw[Pu.au hcl];exact List.getElem_mem hcl,h⟩)
      ·omega) hv
    rw[Pu.EF hD hcl hr]at ih
    simp only[fc,dI,iL,iv,fg,cX,Int.toNat_natCast,hw]
    exact tG r0 (tG hrl (tG hrl (tG hrl (tG c0 (tG hcr (tG hrl (tG hcr ih)))))))
  ·obtain⟨f1,f2,f3⟩:=s.fin hC hr
   have hf:Pu.cr (D.getD c []) x=(D.getD c []).length:=by omega
   rw[f1,hf,Pu.iS (l:=D.getD c []) (Nat.le_refl _)]
   have fin: ∀R:LJ,(D.getD c []).length<R.length→(R.getD (D.getD c []).length []).length≤1000→aG.J4 k j x ((D.getD c []).length:Nat) x3 x4 [] R=some ([],R.set (D.getD c []).length (R.getD (D.getD c []).length []++ [x])):=fun R q1 q2=>by
    have hap:(R.getD (D.getD c []).length []++ [x]).length≤1099511627776:=by rw[List.length_append,List.length_singleton];omega
    have r0:=Int.natCast_nonneg (D.getD c []).length
    rw[aG.Iv]
    simp only[fc,dI,iL,iv,fQ,Int.toNat_natCast]
    exact tG r0 (tG q1 (tG q1 (tG q1 (tG hap (tG r0 (tG q1 (tG q1 (tG rfl rfl))))))))
   have hrl:=Pu.gl hD
   have hd0:=s.same.2 0
   have h0:=Pu.lz (C:=C) 0
   refine tG rfl ?_
   unfold Pu.kF
   by_cases g:(D.getD c []).length=(Pu.aQ D).length
   ·refine tG (show((D.getD c []).length:Int)=((Pu.aQ D).length:Nat) by omega) (tG (show(Pu.aQ D++ [[]]).length≤1099511627776 by rw[List.length_append,List.length_singleton];omega) ?_)
    refine(fin (Pu.aQ D++ [[]]) (by rw[List.length_append,List.length_singleton];omega) (by rw[g];simp)).trans ?_
    rw[if_pos g,g]
    simp
   ·rw[if_neg g]
    refine tX (show¬((D.getD c []).length:Int)=((Pu.aQ D).length:Nat) by omega) ?_
    exact fin (Pu.aQ D) (by omega) (by omega)
theorem aG.is{k:Nat}{C:LJ}{x:Int}(hk:4194304+30≤k)(hC:Pu.CC C)(hl:C.length≤90)(hf:C.flatten.length≤90)(hp: ∀v∈C.flatten,1≤v)(hx:1≤x):aG k ([],Pu.aQ C) x=some ([],Pu.aQ (Pu.jQ C x)):=by
 obtain⟨k,rfl⟩: ∃k',k=k'+1:=⟨k-1,by omega⟩
 have hcl:=Pu.gl (Pu.xm hC)
 have h0:=Pu.lz (C:=C) 0
 have hcf:=Pu.lF C
 have hc:=cJ.is (k:=k) (t:=([],Pu.aQ C)) (by omega) (by simp) (by simp only;omega) (fun r hr=>by have:=Pu.pS hr;simp only at this;omega)
 have e:=aG.loop (k:=k) (x3:= []) (x4:= []) (by omega) hC hl hf C.length k 0 C x (by omega) (by omega) (Pu.pB.start C x) hp hx
 rw[Int.natCast_zero]at e
 rw[aG.eq]
 exact bE hc e
theorem aO.loop{k:Nat}{w x2:LI}{x3:LJ}(hk:4194304+50≤k)(h:Pu.isWord w=true): ∀(m j:Nat),m≤w.length→m<j→
  aO.L0 k j ((m:Int)-1) w x2 x3 [] (Pu.aQ (Pu.mu (w.drop m)))=some (([],Pu.aQ (Pu.mu w)),true)
 |m,0,_,hj=>by omega
 |0,j+1,_,_=>by
  have h9:=(Pu.gI h).1
  have hw:=ca.is (k:=k) (w:=w) (by omega) (by omega)
  rw[h]at hw
  rw[aO.bo,List.drop_zero]
  refine tX (by omega) ?_
  rw[aO.iJ]
  exact bE hw rfl
 |m+1,j+1,hm,hj=>by
  obtain⟨h9,hx⟩:=Pu.gI h
  have hlt:m<w.length:=by omega
  have hw:=ca.is (k:=k) (w:=w) (by omega) (by omega)
  rw[h]at hw
  have hs:=Pu.rf (w.drop (m+1))
  rw[List.length_drop]at hs
  have h1:=hs.1
  have h2:=hs.2
  have ez:(((m+1:Nat):Int)-1)=(m:Int):=by omega
  have hz:IntKind.i64.wrap ((m:Int)-1)=(m:Int)-1:=w64 (by omega) (by omega)
  have ih:=aO.loop (x2:=x2) (x3:=x3) hk h m j (by omega) (by omega)
  have hp: ∀(u:LI),(∀y∈u,1≤y)→ ∀v∈(Pu.mu u).flatten,1≤v:=by
   intro u
   induction u with
   |nil=>intro _ v hv;cases hv
   |cons a u ih=>
    intro hu v hv
    rcases(Pu.ue (Pu.mu u) a).2 v hv with e|e
    ·rw[e];exact hu a (List.mem_cons_self ..)
    ·exact ih (fun y hy=>hu y (List.mem_cons_of_mem _ hy)) v e
  have hxm:=hx (w.getD m 0) (by rw[Pu.au hlt];exact List.getElem_mem hlt)
  have e:=aG.is (k:=k) (C:=Pu.mu (w.drop (m+1))) (x:=w.getD m 0) (by omega) (Pu.sd _) (by omega) (by omega) (hp _ fun y hy=>(hx y (List.drop_subset _ _ hy)).1) hxm.1
  rw[show Pu.jQ (Pu.mu (w.drop (m+1))) (w.getD m 0)=Pu.mu (w.drop m) by rw[Pu.drop_cons hlt 0];rfl]at e
  rw[aO.bo,ez]
  refine tG (Int.natCast_nonneg m) (bE hw (tY ?_))
  rw[aO.eV]
  simp only[fc,dI,iL,jr,cX,Int.toNat_natCast,hz]
  exact tG (Int.natCast_nonneg m) (tG hlt (tG hlt (bE e ih)))
theorem aO.is{k:Nat}{w:LI}(hk:4194304+60≤k)(hw:w.length≤1048576):aO k w=some (Pu.iC w):=by
 obtain⟨k,rfl⟩: ∃k',k=k'+1:=⟨k-1,by omega⟩
 rw[aO.eq]
 unfold Pu.iC
 have hz:IntKind.i64.wrap ((w.length:Int)-1)=(w.length:Int)-1:=w64 (by omega) (by omega)
 simp only[dI,eX,jr,cX,hz]
 cases h:Pu.isWord w with
 |true=>
  have e:=aO.loop (k:=k) (w:=w) (x2:= []) (x3:= []) (by omega) h w.length k (Nat.le_refl _) (by have:=(Pu.gI h).1;omega)
  rw[List.drop_length]at e
  rw[if_pos rfl]
  exact e
 |false=>
  have hs:=ca.is (k:=k) (w:=w) (by omega) hw
  rw[h]at hs
  obtain⟨j,rfl⟩: ∃j,k=j+1:=⟨k-1,by omega⟩
  rw[if_neg (by decide),aO.bo]
  have h0:0<w.length:=by
   cases w with
   |nil=>cases h
   |cons a l=>simp
  refine tG (show(0:Int)≤(w.length:Int)-1 by omega) (bE hs (tF ?_))
  rw[aO.iJ]
  exact bE hs rfl
theorem gn.is{k:Nat}{a b:Int}(hk:1≤k):gn k a b=some (min a b):=by
 obtain⟨k,rfl⟩: ∃k',k=k'+1:=⟨k-1,by omega⟩
 rw[gn.eq]
 by_cases h:a<b
 ·simp only[↓ay,sss,if_true,if_false,h];congr 1;omega
 ·simp only[↓ay,sss,if_true,if_false,h];congr 1;omega
theorem ck.inner{k k1:Nat}{n p:Int}{r:LJ}(hr: ∀x∈r,x.length≤1000)(hp:1≤p∧p≤1000)(hlen:r.length≤1000): ∀(m j i:Nat) (acc:LJ),i+m=r.length→m<j→acc.length+m≤100000→
  ck.L1 k k1 j n p i acc r=ck.L0 k k1 n (p-1) (acc++(r.drop i).map (p:: ·))
 |m,0,i,acc,_,hj,_=>by omega
 |0,j+1,i,acc,hi,_,_=>by
  rw[ck.ep]
  have e:i=r.length:=by omega
  subst e
  have ew:IntKind.i64.wrap (p-1)=p-1:=w64 (by omega) (by omega)
  simp[ew]
 |m+1,j+1,i,acc,hi,hj,ha=>by
  rw[ck.ep]
  have hlt:i<r.length:=by omega
  have hx:(r.getD i []).length≤1000:=by rw[Pu.au hlt []];exact hr _ (List.getElem_mem hlt)
  have ih:=ck.inner (k:=k) (k1:=k1) (n:=n) hr hp hlen m j (i+1) (acc++ [p::r.getD i []]) (by omega) (by omega) (by rw[List.length_append];simp;omega)
  rw[Int.natCast_succ]at ih
  rw[Pu.drop_cons hlt []]
  have l1:(p::r.getD i []).length≤1099511627776:=by rw[List.length_cons];omega
  have l2:(acc++ [p::r.getD i []]).length≤1099511627776:=by rw[List.length_append];simp;omega
  simp (disch:=omega) only[↓ay,sss,if_true,if_false,hlt,l1,l2,List.cons_append,List.nil_append,ih,List.map_cons,List.append_assoc]
theorem ck.isP(n:Nat): ∀(k:Nat) (m:Int),n≤9→4194304+n+2≤k→1≤m→m≤1000→
  ∃L,ck k n m=some L∧1≤L.length∧L.length≤Pu.zf n∧ ∀x∈L,Pu.EW n m x:=by
 induction n using Nat.strongRecOn with
 |ind n IH=>
 intro k m hn hk hm hm'
 obtain⟨k,rfl⟩: ∃k',k=k'+1:=⟨k-1,by omega⟩
 rw[ck.eq]
 by_cases h0:n=0
 ·subst h0
  refine⟨[[]],by simp,by simp,by simp[Pu.zf],fun x hx=> ?_⟩
  simp only[List.mem_singleton]at hx
  subst hx
  exact⟨⟨by simp,fun y hy=>by cases hy⟩,fun s _ _=>rfl,rfl⟩
 ·have hne: ¬(n:Int)=0:=by omega
  simp only[↓ay,sss,if_true,if_false,hne]
  rw[gn.is (by omega),cS]
  have loop: ∀(p j:Nat) (acc:LJ),p≤n→(p:Int)≤m→p<j→acc.length+Pu.Cd n p≤512→(∀x∈acc,Pu.EW n m x)→
    ∃L,ck.L0 k j n p acc=some L∧acc.length+min p 1≤L.length∧L.length≤acc.length+Pu.Cd n p∧ ∀x∈L,Pu.EW n m x:=by
   intro p
   induction p with
   |zero=>
    intro j acc _ _ hj ha hg
    obtain⟨j,rfl⟩: ∃j',j=j'+1:=⟨j-1,by omega⟩
    rw[ck.bo]
    exact⟨acc,by simp,by simp,by simp,hg⟩
   |succ p ihp=>
    intro j acc hp hpm hj ha hg
    obtain⟨j,rfl⟩: ∃j',j=j'+1:=⟨j-1,by omega⟩
    rw[ck.bo]
    have ew:IntKind.i64.wrap ((n:Int)-((p+1:Nat):Int))=((n-(p+1):Nat):Int):=by
     rw[w64 (by omega) (by omega)];omega
    obtain⟨R,hR,r1,r2,r3⟩:=IH (n-(p+1)) (by omega) k ((p+1:Nat):Int) (by omega) (by omega) (by omega) (by omega)
    have h1:(1:Int)≤((p+1:Nat):Int):=by omega
    have ha':acc.length+(Pu.zf (n-(p+1))+Pu.Cd n p)≤512:=ha
    have hin:=ck.inner (k:=k) (k1:=j) (n:=n) (p:=((p+1:Nat):Int)) (r:=R) (fun x hx=>by have:=(r3 x hx).1.1;omega) ⟨h1,by omega⟩ (by omega) R.length k 0 acc (by omega) (by omega) (by omega)
    rw[Int.natCast_zero,List.drop_zero,show((p+1:Nat):Int)-1=(p:Int) by omega]at hin
    simp only[↓ay,sss,if_true,if_false,h1,ew,hR]
    rw[hin]
    obtain⟨L,hL,l1,l2,l3⟩:=ihp j (acc++R.map (((p+1:Nat):Int):: ·)) (by omega) (by omega) (by omega) (by rw[List.length_append,List.length_map];omega) (fun x hx=>by
     rcases List.mem_append.1 hx with h|h
     ·exact hg x h
     ·obtain⟨y,hy,rfl⟩:=List.mem_map.1 h
      obtain⟨⟨q1,q2⟩,q3,q4⟩:=r3 y hy
      refine⟨⟨by rw[List.length_cons];omega,fun z hz=> ?_⟩,fun s hs hs9=> ?_,?_⟩
      ·rcases List.mem_cons.1 hz with rfl|hz
       ·omega
       ·exact q2 z hz
      ·simp only[Pu.fO,Bool.and_eq_true,decide_eq_true_eq]
       exact⟨by omega,hpm,by omega,q3 _ (by omega) (by omega)⟩
      ·simp only[Pu.fX,q4];omega)
    rw[List.length_append,List.length_map]at l1 l2
    refine⟨L,hL,by omega,?_,l3⟩
    show L.length≤acc.length+(Pu.zf (n-(p+1))+Pu.Cd n p)
    omega
  have hS:=fun p hp=>Pu.F8 (n:=n) (p:=p) hn (by omega) hp
  have hB:=Pu.CJ hn
  obtain⟨p,hp⟩: ∃p:Nat,min (n:Int) m=p:=⟨(min (n:Int) m).toNat,by omega⟩
  rw[hp]
  obtain⟨L,hL,l1,l2,l3⟩:=loop p k [] (by omega) (by omega) (by omega) (by have:=hS p (by omega);simp;omega) (fun x hx=>by cases hx)
  have:=hS p (by omega)
  simp only[List.length_nil,Nat.zero_add]at l1 l2
  exact⟨L,hL,by omega,by omega,l3⟩
theorem cx.isP{k:Nat}{m i h:Int}{b:LI}(hk:4194304+12≤k)(hb:b.length≤1048576)(hi:0≤i)(hi':i≤b.length)(hm:1≤m)(hm':m≤9):
  ∃p i' h',cx k m i h b=some (p,((),(i',h')))∧(Pu.pw 9 p∧Pu.b8 p=true∧Pu.fX p≤m)∧0≤i'∧i'≤b.length:=by
 obtain⟨k,rfl⟩: ∃k',k=k'+1:=⟨k-1,by omega⟩
 rw[cx.eq]
 have ew:IntKind.i64.wrap (m+1)=m+1:=w64 (by omega) (by omega)
 obtain⟨r,i1,h1,e1,a1,a2,a3,a4,a5⟩:=aJ.is (k:=k) (n:=m+1) (h:=h) (b:=b) (by omega) hb hi hi' (by omega)
 have a3:=a3 (by omega)
 obtain⟨n,rfl⟩: ∃n:Nat,r=n:=⟨r.toNat,by omega⟩
 obtain⟨L,eL,c1,c2,c3⟩:=ck.isP n k m (by omega) (by omega) hm (by omega)
 have:=Pu.CJ (n:=n) (by omega)
 obtain⟨q,i2,h2,e2,b1,b2,b3,b4,b5⟩:=aJ.is (k:=k) (n:=L.length) (h:=h1) (b:=b) (by omega) hb a4 a5 (by omega)
 have b3:=b3 (by omega)
 have hn:q.toNat<L.length:=by omega
 refine⟨L.getD q.toNat [],i2,h2,?_,?_,b4,b5⟩
 ·simp only[↓ay,sss,if_true,if_false,ew,e1,eL,e2,b1,hn]
 ·rw[Pu.au hn []]
  obtain⟨⟨d1,d2⟩,d3,d4⟩:=c3 _ (List.getElem_mem hn)
  exact⟨⟨by omega,d2⟩,Pu.A8 _ hm' (d3 0 (by omega) (by omega)),by omega⟩
theorem cx.is{k:Nat}{m i h:Int}{b:LI}(hk:4194304+12≤k)(hb:b.length≤1048576)(hi:0≤i)(hi':i≤b.length)(hm:1≤m)(hm':m≤9):
  ∃p i' h',cx k m i h b=some (p,((),(i',h')))∧Pu.pw 9 p∧0≤i'∧i'≤b.length:=by
 obtain⟨p,i',h',a,c,d⟩:=cx.isP (k:=k) (h:=h) hk hb hi hi' hm hm'
 exact⟨p,i',h',a,c.1,d⟩
theorem jU.is{k:Nat}{a b:Int}(hk:1≤k):jU k a b=some (max a b):=by
 obtain⟨k,rfl⟩: ∃k',k=k'+1:=⟨k-1,by omega⟩
 rw[jU.eq]
 by_cases h:b<a
 ·simp only[↓ay,sss,if_true,if_false,h];congr 1;omega
 ·simp only[↓ay,sss,if_true,if_false,h];congr 1;omega
theorem bp.ok{k:Nat}{t:Pu.Tab}{r c:Int}(hk:2≤k):Pu.Ok (bp k t r c) fun _=>True:=by
 obtain⟨k,rfl⟩: ∃k',k=k'+1:=⟨k-1,by omega⟩
 rw[bp.eq,bp.fG]
 simp only[oT,nA,kp,kJ,kH,dI,eX,fc,iL,iv,fQ,iH,iF,kI,cX,fg,jr,lM,nZ,nO,kK,kG,ju,jv,iG,gW,List.nil_append,List.cons_append]
 refine Pu.Ok.t (fun _=>Pu.Ok.ret trivial) (fun c1=>Pu.Ok.t (fun _=>Pu.Ok.ret trivial) (fun c2=> ?_))
 refine Pu.Ok.lZ (dL.is (by omega)) ?_
 generalize IntKind.i64.wrap (c-Pu.atI t.1 r)=z
 refine Pu.Ok.t (fun _=>Pu.Ok.ret trivial) (fun d1=> ?_)
 (repeat (refine Pu.Ok.g (by first|omega|assumption|(simp only[List.length_append,List.length_cons,List.length_nil,List.length_set,List.length_take,List.length_drop,List.length_replicate]at*;omega)) ?_))
 refine Pu.Ok.t (fun _=>Pu.Ok.ret trivial) (fun d2=> ?_)
 rw[bp.eV]
 simp only[oT,nA,kp,kJ,kH,dI,eX,fc,iL,iv,fQ,iH,iF,kI,cX,fg,jr,lM,nZ,nO,kK,kG,ju,jv,iG,gW,List.nil_append,List.cons_append]
 (repeat (refine Pu.Ok.g (by first|omega|assumption|(simp only[List.length_append,List.length_cons,List.length_nil,List.length_set,List.length_take,List.length_drop,List.length_replicate]at*;omega)) ?_))
 exact Pu.Ok.ret trivial
theorem aM.inner{k k1:Nat}{b o g p1:LI}{i:Nat}{c:LI}{d:LJ}{rs:LJ}(hk:4194304≤k)(hb:b.length≤1048576)(ho:Pu.pw 9 o)(hi:i<o.length)(hrs:rs.length≤9)
  (key: ∀(p h:Int) (row:LI),0≤p→p≤b.length→row.length≤9→Pu.Ok (aM.L0 k k1 ((i:Int)+1) p h o p1 b c d g (rs++ [row])) fun r=>r.1.1=g∧Pu.dz 9 9 r.1.2∧0≤r.2.2.1∧r.2.2.1≤b.length):
  ∀(m j:Nat) (x low p h:Int) (row:LI),(9-x).toNat≤m→m<j→0≤p→p≤b.length→0≤x→(row.length:Int)≤x→row.length≤9→
  Pu.Ok (aM.L1 k k1 j i low x p h row o p1 b c d g rs) fun r=>r.1.1=g∧Pu.dz 9 9 r.1.2∧0≤r.2.2.1∧r.2.2.1≤b.length
 |m,0,x,low,p,h,row,_,hj,_,_,_,_,_=>by omega
 |m,j+1,x,low,p,h,row,hi,hj,h0,h1,h2,h3,h4=>by
  rw[aM.ep]
  simp only[oT,nA,kp,kJ,kH,dI,eX,fc,iL,iv,fQ,iH,iF,kI,cX,fg,jr,lM,nZ,nO,kK,kG,ju,jv,iG,gW,List.nil_append,List.cons_append]
  (repeat (refine Pu.Ok.g (by first|omega|assumption|(simp only[List.length_append,List.length_cons,List.length_nil,List.length_set,List.length_take,List.length_drop,List.length_replicate]at*;omega)) ?_))
  have hlt:i<o.length:=by omega
  have hx:=ho.2 _ (List.getElem_mem hlt)
  rw[←Pu.au hlt 0]at hx
  have h9:=ho.1
  (try simp only[Int.toNat_natCast]);(try simp (disch:=omega) only[w64])
  refine Pu.Ok.t (fun hz=> ?_) (fun hz=> ?_)
  ·refine Pu.Ok.bnd (bp.ok (by omega)) fun r1 _=> ?_
   refine Pu.Ok.lZ (jU.is (by omega)) ?_
   obtain⟨r2,i2,h2',e2,b4,b5⟩:=cg.is (k:=k) (n:=3) (h:=h) (b:=b) (by omega) hb h0 h1 (by omega)
   refine Pu.Ok.lZ e2 (Pu.Ok.lZ (fh.is (by omega)) ?_)
   obtain⟨r3,i3,h3',e3,a1,a2,a3,a4,a5⟩:=aJ.is (k:=k) (n:=2) (h:=h2') (b:=b) (by omega) hb b4 b5 (by omega)
   refine Pu.Ok.lZ e3 (Pu.Ok.lZ (gn.is (by omega)) ?_)
   dsimp only
   (repeat (refine Pu.Ok.g (by first|omega|assumption|(simp only[List.length_append,List.length_cons,List.length_nil,List.length_set,List.length_take,List.length_drop,List.length_replicate]at*;omega)) ?_))
   (try simp only[Int.toNat_natCast]);(try simp (disch:=omega) only[w64])
   exact aM.inner hk hb ho hlt hrs key (m-1) j _ _ i3 h3' _ (by omega) (by omega) a4 a5 (by omega) (by rw[List.length_append];simp;omega) (by rw[List.length_append];simp;omega)
  ·(repeat (refine Pu.Ok.g (by first|omega|assumption|(simp only[List.length_append,List.length_cons,List.length_nil,List.length_set,List.length_take,List.length_drop,List.length_replicate]at*;omega)) ?_))
   exact key p h row h0 h1 h4
theorem aM.loop{k:Nat}{b o g p1:LI}{c:LI}{d:LJ}(hk:4194304≤k)(hb:b.length≤1048576)(ho:Pu.pw 9 o)(hp: ∀x∈p1,1≤x∧x≤9): ∀(m j i:Nat) (p h:Int) (rs:LJ),i+m=o.length→m<j→0≤p→p≤b.length→Pu.dz i 9 rs→
  Pu.Ok (aM.L0 k j i p h o p1 b c d g rs) fun r=>r.1.1=g∧Pu.dz 9 9 r.1.2∧0≤r.2.2.1∧r.2.2.1≤b.length
 |m,0,i,p,h,rs,_,hj,_,_,_=>by omega
 |0,j+1,i,p,h,rs,hi,hj,h0,h1,hr=>by
  rw[aM.bo]
  simp only[oT,nA,kp,kJ,kH,dI,eX,fc,iL,iv,fQ,iH,iF,kI,cX,fg,jr,lM,nZ,nO,kK,kG,ju,jv,iG,gW,List.nil_append,List.cons_append]
  have:=ho.1
  exact Pu.Ok.no (by omega) (Pu.Ok.ret ⟨rfl,hr.mono (by omega) (by omega),h0,h1⟩)
 |m+1,j+1,i,p,h,rs,hi,hj,h0,h1,hr=>by
  rw[aM.bo]
  simp only[oT,nA,kp,kJ,kH,dI,eX,fc,iL,iv,fQ,iH,iF,kI,cX,fg,jr,lM,nZ,nO,kK,kG,ju,jv,iG,gW,List.nil_append,List.cons_append]
  (repeat (refine Pu.Ok.g (by first|omega|assumption|(simp only[List.length_append,List.length_cons,List.length_nil,List.length_set,List.length_take,List.length_drop,List.length_replicate]at*;omega)) ?_))
  refine Pu.Ok.lZ (dL.is (by omega)) ?_
  have h9:=ho.1
  have hz:0≤Pu.atI p1 i:=by
   rw[Pu.cH]
   by_cases hl:i<p1.length
   ·rw[Pu.au hl];have:=hp _ (List.getElem_mem hl);omega
   ·rw[Pu.bS (by omega)];omega
  refine aM.inner hk hb ho (by omega) (by have:=hr.1;omega) ?_ 9 k _ _ p h [] (by omega) (by omega) h0 h1 hz (by simpa using hz) (by simp)
  intro p' h' row q0 q1 q2
  exact aM.loop hk hb ho hp m j (i+1) p' h' _ (by omega) (by omega) q0 q1 (hr.app q2)
theorem aM.ok{k:Nat}{i h:Int}{b o p:LI}(hk:4194304+2≤k)(hb:b.length≤1048576)(hi:0≤i)(hi':i≤b.length)(ho:Pu.pw 9 o)(hp:Pu.pw 9 p):
  Pu.Ok (aM k i h o p b) fun r=>r.1.1=p∧Pu.dz 9 9 r.1.2∧0≤r.2.2.1∧r.2.2.1≤b.length:=by
 obtain⟨k,rfl⟩: ∃k',k=k'+1:=⟨k-1,by omega⟩
 rw[aM.eq]
 simp only[oT,nA,kp,kJ,kH,dI,eX,fc,iL,iv,fQ,iH,iF,kI,cX,fg,jr,lM,nZ,nO,kK,kG,ju,jv,iG,gW,List.nil_append,List.cons_append]
 have:=hp.1
 (repeat (refine Pu.Ok.g (by first|omega|assumption|(simp only[List.length_append,List.length_cons,List.length_nil,List.length_set,List.length_take,List.length_drop,List.length_replicate]at*;omega)) ?_))
 exact aM.loop (by omega) hb ho hp.2 o.length k 0 i h [] (by omega) (by have:=ho.1;omega) hi hi' ⟨by simp,fun x hx=>by cases hx⟩
theorem aZ.loop{k:Nat}{p:LI}(hk:4194304≤k)(hp:p.length≤1048576): ∀(m j i:Nat) (s v:Int),i+m=p.length→m<j→(i=0→v=9)→(0<i→v=p.getD (i-1) 0)→v≤9→0≤s→s≤9→
  aZ.L0 k j s i p=some (Pu.fO (p.drop i) v s)
 |m,0,i,s,v,_,hj,_,_,_,_,_=>by omega
 |0,j+1,i,s,v,hi,_,_,_,_,_,_=>by
  rw[aZ.bo]
  have e:i=p.length:=by omega
  subst e
  simp[Pu.fO]
 |m+1,j+1,i,s,v,hi,hj,h0,h1,hv,hs,hs9=>by
  rw[aZ.bo]
  have hlt:i<p.length:=by omega
  have hj1: ∀x:Int,x=p.getD i 0→1≤x→x≤v→aZ.J1 k j s i p=some (decide (s+x≤9)&&Pu.fO (p.drop (i+1)) x (s+x)):=by
   intro x hx hx1 hx2
   rw[aZ.eV]
   simp (disch:=omega) only[↓ay,sss,if_true,if_false,hlt,←hx]
   by_cases c:9<s+x
   ·have: ¬s+x≤9:=by omega
    simp[c,this]
   ·have c':s+x≤9:=by omega
    have ih:=aZ.loop hk hp m j (i+1) (s+x) x (by omega) (by omega) (by omega) (by simp[hx]) (by omega) (by omega) c'
    rw[Int.natCast_succ]at ih
    simp[c,c',ih]
  rw[Pu.drop_cons hlt 0]
  simp (disch:=omega) only[↓ay,sss,if_true,if_false,hlt,fW.is,Pu.fO]
  generalize hx:p.getD i 0=x at*
  unfold Pu.within
  by_cases c1:1≤x
  ·by_cases c2:x≤v
   ·have c3:x≤9:=by omega
    have hj:=hj1 x rfl c1 c2
    by_cases hi0:i=0
    ·have hpos: ¬(0:Int)<i:=by omega
     simp (disch:=omega) only[↓ay,sss,if_true,if_false,c1,c2,c3,hpos,hj]
    ·have hv':=h1 (by omega)
     have e:((i:Int)-1)=((i-1:Nat):Int):=by omega
     have hlt':i-1<p.length:=by omega
     have hge: ¬p.getD (i-1) 0<x:=by rw[←hv'];omega
     have hpos:(0:Int)<i:=by omega
     simp (disch:=omega) only[e,↓ay,sss,if_true,if_false,hlt',c1,c2,c3,hj,hpos,hge]
   ·simp only[c1,c2,↓ay,sss,if_true,if_false]
    by_cases c3:x≤9
    ·have hi0:0<i:=by
      rcases Nat.eq_zero_or_pos i with h|h
      ·have:=h0 h;omega
      ·exact h
     have hv':=h1 hi0
     have e:((i:Int)-1)=((i-1:Nat):Int):=by omega
     have hlt':i-1<p.length:=by omega
     have hge:p.getD (i-1) 0<x:=by rw[←hv'];omega
     have hpos:(0:Int)<i:=by omega
     simp (disch:=omega) only[e,↓ay,sss,if_true,if_false,hlt',c3,hpos,hge]
    ·simp only[c3,↓ay,sss,if_true,if_false]
  ·simp only[c1,↓ay,sss,if_true,if_false]
theorem aZ.is{k:Nat}{p:LI}(hk:4194304+1≤k)(hp:p.length≤1048576):aZ k p=some (Pu.b8 p):=by
 obtain⟨k,rfl⟩: ∃k',k=k'+1:=⟨k-1,by omega⟩
 rw[aZ.eq]
 exact aZ.loop (k:=k) (by omega) hp p.length k 0 0 9 (by omega) (by omega) (fun _=>rfl) (by omega) (by omega) (by omega) (by omega)
theorem bU.loop{k:Nat}{q p:LI}(hq:q.length≤1048576)(hl:q.length≤p.length)(hk:q.length<k):bU.L1 k k 0 q p=some ((List.range' 0 q.length).all fun i=>decide (q.getD i 0≤p.getD i 0)):=by
 have h:=Pu.mO (fun j i=>bU.L1 k j (i:Int) q p) q.length (fun i=>decide (q.getD i 0≤p.getD i 0)) (some false) (some true)
  (fun j i hi=>by
   have hi2:i<p.length:=by omega
   rw[bU.ep]
   simp (disch:=omega) only[↓ay,sss,if_true,if_false,hi,hi2,Int.natCast_add,Int.natCast_one]
   by_cases c:q.getD i 0≤p.getD i 0
   ·have c': ¬p.getD i 0<q.getD i 0:=by omega
    simp only[c,c',↓ay,sss,if_true,if_false]
   ·have c':p.getD i 0<q.getD i 0:=by omega
    simp only[c,c',↓ay,sss,if_true,if_false])
  (fun j=>by
   rw[bU.ep]
   simp only[↓ay,sss,if_true,if_false,Nat.lt_irrefl]) q.length k 0 (by omega) hk
 simp only[Int.natCast_zero]at h
 rw[h]
 cases(List.range' 0 q.length).all fun i=>decide (q.getD i 0≤p.getD i 0)<;>simp
theorem bU.is{k:Nat}{q p:LI}(hk:4194304+2≤k)(hq:q.length≤1048576)(hp:p.length≤1048576):bU k q p=some (Pu.dQ q p):=by
 obtain⟨k,rfl⟩: ∃k',k=k'+1:=⟨k-1,by omega⟩
 rw[bU.eq,aZ.is (by omega) hq,cS,bU.fG]
 unfold Pu.dQ
 cases c1:Pu.b8 q with
 |false=>simp only[↓ay,sss,if_true,if_false]
 |true=>
  simp only[↓ay,sss,if_true,if_false]
  rw[aZ.is (by omega) hp,cS]
  cases c2:Pu.b8 p with
  |false=>simp only[↓ay,sss,if_true,if_false]
  |true=>
   simp only[↓ay,sss,if_true,if_false]
   by_cases c3:p.length<q.length
   ·have c3': ¬q.length≤p.length:=by omega
    simp only[c3,c3',↓ay,sss,if_true,if_false]
   ·have c3':q.length≤p.length:=by omega
    simp only[c3,c3',↓ay,sss,if_true,if_false]
    exact bU.loop hq c3' (by omega)
theorem ir.is{k:Nat}{s:LI×LI}(hk:4194304+3≤k)(hq:s.1.length≤1048576)(hp:s.2.length≤1048576):ir k s=some (Pu.dQ s.2 s.1):=by
 obtain⟨k,rfl⟩: ∃k',k=k'+1:=⟨k-1,by omega⟩
 rw[ir.eq,bU.is (by omega) hp hq]
 rfl
theorem cb.loop{k:Nat}{t:Pu.Tab}{x3 x4:LI}(hk:4194304+3≤k)(hi:Pu.b8 t.1=true)(h2:t.2.length≤9)(hr: ∀x∈t.2,x.length≤1048576): ∀(m j i:Nat) (acc:LI),i+m=t.2.length→m<j→acc.length=i→
  cb.L1 k j i t.1 t.2 x3 x4 acc t.1=some (if Pu.dQ t.1 (acc++Pu.fE t.1 i (t.2.drop i))=true then((acc++Pu.fE t.1 i (t.2.drop i),t.1),true)else(([],[]),false))
 |m,0,i,acc,_,hj,_=>by omega
 |0,j+1,i,acc,hm,_,hacc=>by
  rw[cb.ep]
  have e:i=t.2.length:=by omega
  have h9:=(Pu.bQ hi).2.2.1
  have hlt: ¬i<t.2.length:=by omega
  rw[ir.is (by omega) (by simp only;omega) (by simp only;omega),e]
  simp only[↓ay,sss,if_true,if_false,Nat.lt_irrefl,List.drop_length,Pu.fE,List.append_nil]
  cases Pu.dQ t.1 acc<;>simp
 |m+1,j+1,i,acc,hm,hj,hacc=>by
  rw[cb.ep]
  have hlt:i<t.2.length:=by omega
  have hb:=Pu.dX hi i
  have hrow:=hr t.2[i] (List.getElem_mem hlt)
  rw[←Pu.au hlt []]at hrow
  rw[dL.is (by omega)]
  have ih:=cb.loop (x3:=x3) (x4:=x4) hk hi h2 hr m j (i+1) (acc++ [Pu.atI t.1 i+(t.2.getD i []).length]) (by omega) (by omega) (by simp[hacc])
  rw[Int.natCast_succ]at ih
  rw[Pu.drop_cons hlt []]
  have hl:(acc++ [Pu.atI t.1 i+((t.2.getD i []).length:Int)]).length≤1099511627776:=by simp;omega
  simp (disch:=omega) only[↓ay,sss,if_true,if_false,hlt,hl,ih,Pu.fE]
  simp only[List.append_assoc,List.singleton_append,Pu.cH]
  rfl
theorem cb.is{k:Nat}{t:Pu.Tab}(hk:4194304+4≤k)(h1:t.1.length≤1048576)(h2:t.2.length≤1048576)(hr: ∀x∈t.2,x.length≤1048576):cb k t=some (Pu.shapeOf t):=by
 obtain⟨k,rfl⟩: ∃k',k=k'+1:=⟨k-1,by omega⟩
 rw[cb.eq,aZ.is (by omega) h1,cb.fG]
 have hl:t.1.length≤1099511627776:=by omega
 simp only[↓ay,sss,if_true,if_false,List.nil_append,hl]
 unfold Pu.shapeOf
 cases c1:Pu.b8 t.1 with
 |false=>
  have:Pu.dt t=false:=by unfold Pu.dt;rw[c1];rfl
  simp only[this,↓ay,sss,if_true,if_false]
 |true=>
  by_cases c2:t.2.length<t.1.length
  ·have:Pu.dt t=false:=by
    have: ¬t.1.length≤t.2.length:=by omega
    unfold Pu.dt;simp[this]
   simp only[this,c2,↓ay,sss,if_true,if_false]
  ·by_cases c3:9<t.2.length
   ·have:Pu.dt t=false:=by
     cases h:Pu.dt t with
     |false=>rfl
     |true=>have:=Pu.Bf h;omega
    have c3':(9:Int)<t.2.length:=by omega
    simp only[this,c2,c3',↓ay,sss,if_true,if_false]
   ·have c3': ¬(9:Int)<t.2.length:=by omega
    have c2':t.1.length≤t.2.length:=by omega
    have hloop:=cb.loop (k:=k) (t:=t) (x3:= []) (x4:= []) (by omega) c1 (by omega) hr t.2.length k 0 [] (by omega) (by omega) rfl
    rw[Int.natCast_zero]at hloop
    simp only[c2,c3',↓ay,sss,if_true,if_false]
    rw[hloop]
    have:Pu.dt t=Pu.dQ t.1 (Pu.outer t):=by unfold Pu.dt;simp[c1,c2']
    rw[this]
    rfl
theorem aB.HZ{k k1 k2:Nat}{t:Pu.Tab}{r:Nat}{c x v:Int}{o n:LI}(hk:3≤k)(hi:Pu.b8 t.1=true)(h1:0≤c)(h2:c≤10000000)(hr:r≤1048576):
  aB.J2 k k1 k2 r c x v t.1 t.2 o n=if(Pu.within x 1 9&&(decide (v≤x)&&decide (Pu.entry t ((r:Int)-1) c<x)))=true then aB.L1 k k1 k2 r (c+1) t.1 t.2 o n else some false:=by
 have he:=bp.is (k:=k) (t:=t) (r:=(r:Int)-1) (c:=c) (by omega) hi (by omega) (by omega)
 rw[aB.iJ,fW.is (by omega),aB.ky]
 simp (disch:=omega) only[↓ay,sss,if_true,if_false,he]
 cases Pu.within x 1 9 with
 |false=>simp
 |true=>
  by_cases c1:v≤x
  ·have c1': ¬x<v:=by omega
   by_cases c2:Pu.entry t ((r:Int)-1) c<x
   ·have c2': ¬x≤Pu.entry t ((r:Int)-1) c:=by omega
    simp[c1,c1',c2,c2']
   ·have c2':x≤Pu.entry t ((r:Int)-1) c:=by omega
    simp[c1,c1',c2,c2']
  ·have c1':x<v:=by omega
   simp[c1,c1']
theorem aB.inner{k k1:Nat}{t:Pu.Tab}{r:Nat}{n:LI}(hk:4194304≤k)(hi:Pu.b8 t.1=true)(ht:t.2.length≤1048576)(hr: ∀x∈t.2,x.length≤1048576)(hlt:r<t.2.length):
  aB.L1 k k1 k r (t.1.getD r 0) t.1 t.2 (Pu.outer t) n=if((List.range' 0 (t.2.getD r []).length).all fun q=>Pu.fY t r q)=true then aB.L0 k k1 ((r:Int)+1) t.1 t.2 (Pu.outer t) n else some false:=by
 have hx:=hr _ (List.getElem_mem hlt)
 rw[←Pu.au hlt []]at hx
 have hb:=Pu.dX hi r
 rw[Pu.cH]at hb
 have hol:r<(Pu.outer t).length:=by unfold Pu.outer;rw[Pu.lE];exact hlt
 have ho:(Pu.outer t).getD r 0=t.1.getD r 0+((t.2.getD r []).length:Int):=by
  have:=Pu.gK t.1 t.2 0 r hlt
  rw[Nat.zero_add]at this
  exact this
 have h:=Pu.mO (fun j q=>aB.L1 k k1 j r (t.1.getD r 0+(q:Int)) t.1 t.2 (Pu.outer t) n) (t.2.getD r []).length (fun q=>Pu.fY t r q) (some false) (aB.L0 k k1 ((r:Int)+1) t.1 t.2 (Pu.outer t) n)
  (fun j q hq=>by
   rw[aB.ep]
   have hc:t.1.getD r 0+(q:Int)<(Pu.outer t).getD r 0:=by rw[ho];omega
   have e1:=bp.is (k:=k) (t:=t) (r:=r) (c:=t.1.getD r 0+q) (by omega) hi (by omega) (by omega)
   have e2:=bp.is (k:=k) (t:=t) (r:=r) (c:=t.1.getD r 0+q-1) (by omega) hi (by omega) (by omega)
   rw[Pu.zV hlt]at e1
   rw[Pu.Cg hlt]at e2
   have ej:=fun v=>aB.HZ (k:=k) (k1:=k1) (k2:=j) (t:=t) (r:=r) (c:=t.1.getD r 0+q) (x:=(t.2.getD r []).getD q 0) (v:=v) (o:=Pu.outer t) (n:=n) (by omega) hi (by omega) (by omega) (by omega)
   have en:t.1.getD r 0+(q:Int)+1=t.1.getD r 0+((q+1:Nat):Int):=by omega
   rw[en]at ej
   have key: ∀v:Int,v=(if q=0 then 0 else(t.2.getD r []).getD (q-1) 0)→(Pu.within ((t.2.getD r []).getD q 0) 1 9&&(decide (v≤(t.2.getD r []).getD q 0)&&decide (Pu.entry t ((r:Int)-1) (t.1.getD r 0+q)<(t.2.getD r []).getD q 0)))=Pu.fY t r q:=by
    intro v hv
    unfold Pu.fY
    cases hw:Pu.within ((t.2.getD r []).getD q 0) 1 9 with
    |false=>rfl
    |true=>
     have hw1:1≤(t.2.getD r []).getD q 0:=by
      simp only[Pu.within,Bool.and_eq_true,decide_eq_true_eq]at hw;exact hw.1
     simp only[Bool.true_and]
     congr 1
     ·by_cases e:q=0
      ·have:v≤(t.2.getD r []).getD q 0:=by rw[hv,if_pos e];omega
       simp[e,this]
       simpa[e]using this
      ·rw[hv,if_neg e];simp[e]
     ·by_cases e:r=0
      ·subst e
       rw[Pu.DM (by omega),decide_eq_true (show(0:Int)<(t.2.getD 0 []).getD q 0 by omega)]
       simp only[decide_true,Bool.true_or]
      ·simp[e]
   by_cases hc0:0<t.1.getD r 0+(q:Int)
   ·simp (disch:=omega) only[↓ay,sss,if_true,if_false,hol,hc,e1,hc0,e2,ej]
    rw[key _ rfl]
   ·simp (disch:=omega) only[↓ay,sss,if_true,if_false,hol,hc,e1,hc0,ej]
    rw[key 0 (by
           have:q=0:=by omega
           rw[if_pos this])])
  (fun j=>by
   rw[aB.ep]
   have hc: ¬t.1.getD r 0+((t.2.getD r []).length:Int)<(Pu.outer t).getD r 0:=by rw[ho];omega
   simp (disch:=omega) only[↓ay,sss,if_true,if_false,hol,hc]) (t.2.getD r []).length k 0 (by omega) (by omega)
 simp only[Int.natCast_zero,Int.add_zero]at h
 exact h
theorem aB.is{k:Nat}{t:Pu.Tab}(hk:4194304+5≤k)(h1:t.1.length≤1048576)(ht:t.2.length≤1048576)(hr: ∀x∈t.2,x.length≤1048576):aB k t=some (Pu.dD t):=by
 obtain⟨k,rfl⟩: ∃k',k=k'+1:=⟨k-1,by omega⟩
 rw[aB.eq,cb.is (by omega) h1 ht hr,cS]
 unfold Pu.dD Pu.shapeOf
 cases hs:Pu.dt t with
 |false=>simp[hs]
 |true=>
  have hi:Pu.b8 t.1=true:=by
   simp only[Pu.dt,Bool.and_eq_true]at hs;exact hs.1
  have hol:(Pu.outer t).length=t.2.length:=by unfold Pu.outer;rw[Pu.lE]
  have h:=Pu.mO (fun j r=>aB.L0 k j r t.1 t.2 (Pu.outer t) t.1) t.2.length (fun r=>(List.range' 0 (t.2.getD r []).length).all fun q=>Pu.fY t r q) (some false) (some true)
   (fun j r hlt=>by
    rw[aB.bo,dL.is (by omega),Pu.cH]
    simp (disch:=omega) only[↓ay,sss,if_true,if_false,hol,hlt,aB.inner (k1:=j) (n:=t.1) (show 4194304≤k by omega) hi ht hr hlt,Int.natCast_add,Int.natCast_one])
   (fun j=>by
    rw[aB.bo]
    simp (disch:=omega) only[↓ay,sss,if_true,if_false,hol,Nat.lt_irrefl]) t.2.length k 0 (by omega) (by omega)
  simp only[Int.natCast_zero]at h
  simp only[if_true,↓ay,sss,if_true,if_false]
  rw[h]
  cases(List.range' 0 t.2.length).all fun r=>(List.range' 0 (t.2.getD r []).length).all fun q=>Pu.fY t r q<;>simp
theorem cz.ok{k:Nat}{m i h:Int}{b:LI}(hk:4194304+14≤k)(hb:b.length≤1048576)(hi:0≤i)(hi':i≤b.length)(hm:1≤m)(hm':m≤9):
  Pu.Ok (cz k m i h b) fun r=>jo 9 9 9 r.1∧0≤r.2.2.1∧r.2.2.1≤b.length:=by
 obtain⟨k,rfl⟩: ∃k',k=k'+1:=⟨k-1,by omega⟩
 rw[cz.eq]
 obtain⟨p,i1,h1,e1,hp,a4,a5⟩:=cx.is (k:=k) (m:=m) (h:=h) (b:=b) (by omega) hb hi hi' hm hm'
 refine Pu.Ok.lZ e1 ?_
 dsimp only
 refine Pu.Ok.bnd (aM.ok (by omega) hb a4 a5 hp ⟨by simp,fun x hx=>by cases hx⟩) ?_
 rintro⟨⟨q,rs⟩,_,i2,h2⟩ ⟨e2,hr,b4,b5⟩
 simp only at e2
 subst e2
 have ht:jo 9 9 9 (([],rs):Pu.Tab):=⟨by simp,hr⟩
 obtain⟨c1,c2,c3⟩:=ht.tab (by omega) (by omega) (by omega)
 dsimp only
 refine Pu.Ok.lZ (aB.is (by omega) c1 c2 c3) ?_
 refine Pu.Ok.tn (fun _=>Pu.Ok.ret ⟨⟨by simp,by simp,fun x hx=> ?_⟩,b4,b5⟩) (fun _=>Pu.Ok.ret ⟨ht,b4,b5⟩)
 simp only[List.mem_cons,List.not_mem_nil,or_false]at hx
 rcases hx with rfl|rfl<;>simp
theorem bj.loop{k:Nat}{b o a c:LI}(hk:4194304+12≤k)(hb:b.length≤1048576)(ho:Pu.pw 9 o): ∀(m j i:Nat) (low p h:Int) (q:LI),i+m=o.length→m<j→0≤p→p≤b.length→1≤low→low≤9→q.length≤i→(∀x∈q,1≤x∧x≤9)→
  Pu.Ok (bj.L0 k j low i p h b a c o q) fun r=>r.1.1=o∧Pu.pw 9 r.1.2∧0≤r.2.2.1∧r.2.2.1≤b.length
 |m,0,i,low,p,h,q,_,hj,_,_,_,_,_,_=>by omega
 |0,j+1,i,low,p,h,q,hi,_,h0,h1,h2,h3,hq,hg=>by
  rw[bj.bo]
  simp only[oT,nA,kp,kJ,kH,dI,eX,fc,iL,iv,fQ,iH,iF,kI,cX,fg,jr,lM,nZ,nO,kK,kG,ju,jv,iG,gW,List.nil_append,List.cons_append]
  have h9:=ho.1
  exact Pu.Ok.no (by omega) (Pu.Ok.ret ⟨rfl,⟨by dsimp only;omega,hg⟩,h0,h1⟩)
 |m+1,j+1,i,low,p,h,q,hi,hj,h0,h1,h2,h3,hq,hg=>by
  rw[bj.bo]
  simp only[oT,nA,kp,kJ,kH,dI,eX,fc,iL,iv,fQ,iH,iF,kI,cX,fg,jr,lM,nZ,nO,kK,kG,ju,jv,iG,gW,List.nil_append,List.cons_append]
  have hlt:i<o.length:=by omega
  have hx:=ho.2 _ (List.getElem_mem hlt)
  rw[←Pu.au hlt 0]at hx
  have h9:=ho.1
  (repeat (refine Pu.Ok.g (by first|omega|assumption|(simp only[List.length_append,List.length_cons,List.length_nil,List.length_set,List.length_take,List.length_drop,List.length_replicate]at*;omega)) ?_))
  (try simp only[Int.toNat_natCast]);(try simp (disch:=omega) only[w64])
  obtain⟨r,i1,h1',e1,a1,a2,a3,a4,a5⟩:=aJ.is (k:=k) (n:=o.getD i 0+1) (h:=h) (b:=b) (by omega) hb h0 h1 (by omega)
  refine Pu.Ok.lZ e1 (Pu.Ok.lZ (gn.is (by omega)) ?_)
  dsimp only
  refine Pu.Ok.t (fun hz=>Pu.Ok.ret ⟨rfl,⟨by dsimp only;omega,hg⟩,a4,a5⟩) (fun hz=> ?_)
  obtain⟨r2,i2,h2',e2,b4,b5⟩:=cg.is (k:=k) (n:=3) (h:=h1') (b:=b) (by omega) hb a4 a5 (by omega)
  refine Pu.Ok.lZ e2 (Pu.Ok.tb (fun _=>Pu.Ok.ret ⟨rfl,⟨by dsimp only;omega,hg⟩,b4,b5⟩) (fun _=> ?_))
  dsimp only
  rw[bj.eV]
  simp only[oT,nA,kp,kJ,kH,dI,eX,fc,iL,iv,fQ,iH,iF,kI,cX,fg,jr,lM,nZ,nO,kK,kG,ju,jv,iG,gW,List.nil_append,List.cons_append]
  (repeat (refine Pu.Ok.g (by first|omega|assumption|(simp only[List.length_append,List.length_cons,List.length_nil,List.length_set,List.length_take,List.length_drop,List.length_replicate]at*;omega)) ?_))
  (try simp only[Int.toNat_natCast]);(try simp (disch:=omega) only[w64])
  exact bj.loop hk hb ho m j (i+1) (min low r) i2 h2' _ (by omega) (by omega) b4 b5 (by omega) (by omega) (by rw[List.length_append];simp;omega) (fun x hx=>by
   rcases List.mem_append.1 hx with h|h
   ·exact hg x h
   ·simp only[List.mem_singleton]at h;omega)
theorem bj.ok{k:Nat}{m i h:Int}{b:LI}(hk:4194304+13≤k)(hb:b.length≤1048576)(hi:0≤i)(hi':i≤b.length)(hm:1≤m)(hm':m≤9):
  Pu.Ok (bj k m i h b) fun r=>Pu.pw 9 r.1.1∧Pu.pw 9 r.1.2∧0≤r.2.2.1∧r.2.2.1≤b.length:=by
 obtain⟨k,rfl⟩: ∃k',k=k'+1:=⟨k-1,by omega⟩
 rw[bj.eq]
 obtain⟨p,i1,h1,e1,hp,a4,a5⟩:=cx.is (k:=k) (m:=m) (h:=h) (b:=b) (by omega) hb hi hi' hm hm'
 refine Pu.Ok.lZ e1 ?_
 have:=hp.1
 refine Pu.Ok.mono (bj.loop (by omega) hb hp p.length k 0 m i1 h1 [] (by omega) (by omega) a4 a5 hm hm' (by simp) (fun x hx=>by cases hx)) ?_
 rintro⟨⟨o,q⟩,_,i',h'⟩ ⟨e,c2,c3,c4⟩
 simp only at e
 subst e
 exact⟨hp,c2,c3,c4⟩
theorem eP.ok{k:Nat}{m i h:Int}{b:LI}(hk:4194304+15≤k)(hb:b.length≤1048576)(hi:0≤i)(hi':i≤b.length)(hm:1≤m)(hm':m≤9):
  Pu.Ok (eP k m i h b) fun r=>jo 9 9 9 r.1∧0≤r.2.2.1∧r.2.2.1≤b.length:=by
 obtain⟨k,rfl⟩: ∃k',k=k'+1:=⟨k-1,by omega⟩
 rw[eP.eq]
 refine Pu.Ok.bnd (bj.ok (by omega) hb hi hi' hm hm') ?_
 rintro⟨⟨o,p⟩,_,i1,h1⟩ ⟨ho,hp,a4,a5⟩
 dsimp only at*
 refine Pu.Ok.bnd (aM.ok (by omega) hb a4 a5 ho hp) ?_
 rintro⟨⟨q,rs⟩,_,i2,h2⟩ ⟨e2,hr,b4,b5⟩
 simp only at e2
 subst e2
 have ht:jo 9 9 9 ((q,rs):Pu.Tab):=⟨hp.1,hr⟩
 obtain⟨c1,c2,c3⟩:=ht.tab (by omega) (by omega) (by omega)
 dsimp only
 refine Pu.Ok.lZ (aB.is (by omega) c1 c2 c3) ?_
 refine Pu.Ok.tn (fun _=>Pu.Ok.ret ⟨⟨by simp,by simp,fun x hx=> ?_⟩,b4,b5⟩) (fun _=>Pu.Ok.ret ⟨ht,b4,b5⟩)
 simp only[List.mem_cons,List.not_mem_nil,or_false]at hx
 rcases hx with rfl|rfl<;>simp
theorem dB.ok{k:Nat}{m i h:Int}{b:LI}(hk:4194304+16≤k)(hb:b.length≤1048576)(hi:0≤i)(hi':i≤b.length)(hm:1≤m)(hm':m≤9):
  Pu.Ok (dB k m i h b) fun r=>jo 10 9 10 r.1∧0≤r.2.2.1∧r.2.2.1≤b.length:=by
 obtain⟨k,rfl⟩: ∃k',k=k'+1:=⟨k-1,by omega⟩
 rw[dB.eq]
 refine Pu.Ok.bnd (eP.ok (by omega) hb hi hi' hm hm') ?_
 rintro⟨⟨q,rs⟩,_,i1,h1⟩ ⟨⟨hq,hr⟩,a4,a5⟩
 dsimp only at*
 have hr':Pu.dz 9 10 rs:=hr.mono (by omega) (by omega)
 simp only[oT,nA,kp,kJ,kH,dI,eX,fc,iL,iv,fQ,iH,iF,kI,cX,fg,jr,lM,nZ,nO,kK,kG,ju,jv,iG,gW,List.nil_append,List.cons_append]
 refine Pu.Ok.t (fun _=>Pu.Ok.ret ⟨⟨by dsimp only;omega,hr'⟩,a4,a5⟩) (fun h0=> ?_)
 have hlen:=hr.1
 obtain⟨r,i2,h2,e2,b1,b2,b3,b4,b5⟩:=aJ.is (k:=k) (n:=rs.length) (h:=h1) (b:=b) (by omega) hb a4 a5 (by omega)
 have b3:=b3 (by omega)
 obtain⟨r',i3,h3,e3,c1,c2,c3,c4,c5⟩:=aJ.is (k:=k) (n:=16) (h:=h2) (b:=b) (by omega) hb b4 b5 (by omega)
 refine Pu.Ok.lZ e2 ?_
 dsimp only
 refine Pu.Ok.lZ e3 ?_
 dsimp only
 have hrow:=hr.at r.toNat
 refine Pu.Ok.t (fun _=> ?_) (fun _=>Pu.Ok.t (fun _=> ?_) (fun _=>Pu.Ok.t (fun _=> ?_) (fun _=>Pu.Ok.ret ⟨⟨by dsimp only;omega,hr'⟩,c4,c5⟩)))
 ·(repeat (refine Pu.Ok.g (by first|omega|assumption|(simp only[List.length_append,List.length_cons,List.length_nil,List.length_set,List.length_take,List.length_drop,List.length_replicate]at*;omega)) ?_))
  obtain⟨x,i4,h4,e4,d1,d4,d5⟩:=bZ.is (k:=k) (l:= [0,9,10,-1]) (h:=h3) (b:=b) (by omega) hb c4 c5 (by simp) (by simp)
  refine Pu.Ok.lZ e4 ?_
  dsimp only
  (repeat (refine Pu.Ok.g (by first|omega|assumption|(simp only[List.length_append,List.length_cons,List.length_nil,List.length_set,List.length_take,List.length_drop,List.length_replicate]at*;omega)) ?_))
  refine Pu.Ok.g trivial (Pu.Ok.ret ⟨⟨by dsimp only;omega,hr'.set _ ?_⟩,d4,d5⟩)
  rw[List.length_append,List.length_singleton];omega
 ·(repeat (refine Pu.Ok.g (by first|omega|assumption|(simp only[List.length_append,List.length_cons,List.length_nil,List.length_set,List.length_take,List.length_drop,List.length_replicate]at*;omega)) ?_))
  refine Pu.Ok.t (fun hz=> ?_) (fun _=>Pu.Ok.ret ⟨⟨by dsimp only;omega,hr'⟩,c4,c5⟩)
  have hz':(0:Int).toNat<(rs.getD r.toNat []).length:=by
   show 0<_
   omega
  (repeat (refine Pu.Ok.g (by first|omega|assumption|(simp only[List.length_append,List.length_cons,List.length_nil,List.length_set,List.length_take,List.length_drop,List.length_replicate]at*;omega)) ?_))
  refine Pu.Ok.ret ⟨⟨by dsimp only;omega,hr'.set _ ?_⟩,c4,c5⟩
  rw[List.length_set];omega
 ·obtain⟨x,i4,h4,e4,d1,d4,d5⟩:=bZ.is (k:=k) (l:= [1,0,-1,9]) (h:=h3) (b:=b) (by omega) hb c4 c5 (by simp) (by simp)
  refine Pu.Ok.lZ e4 ?_
  dsimp only
  (repeat (refine Pu.Ok.g (by first|omega|assumption|(simp only[List.length_append,List.length_cons,List.length_nil,List.length_set,List.length_take,List.length_drop,List.length_replicate]at*;omega)) ?_))
  refine Pu.Ok.ret ⟨⟨?_,hr'⟩,d4,d5⟩
  dsimp only
  rw[List.length_append,List.length_singleton];omega
theorem ao.loop{k:Nat}{z:Int}{b e:LI}{d:LJ}(hb:b.length≤1048576): ∀(m j i:Nat) (h:Int),i+m=4000→m<j→ ∃h',ao.L0 k j h i z b e d=ao.J2 k h' z b e d
 |m,0,i,h,_,hj=>by omega
 |0,j+1,i,h,hi,_=>by
  rw[ao.bo,Pu.gr,Pu.gr]
  have h4: ¬(i:Int)<4000:=by omega
  refine⟨h,?_⟩
  rw[if_neg h4,ite_self]
 |m+1,j+1,i,h,hi,hj=>by
  rw[ao.bo,Pu.gr,Pu.gr]
  have h4:(i:Int)<4000:=by omega
  by_cases hlt:i<b.length
  ·have ew:IntKind.i64.wrap ((i:Int)+1)=((i+1:Nat):Int):=by rw[w64 (by omega) (by omega)];omega
   have hlt':(i:Int)<D.ofN (D.len b):=by show(i:Int)<(b.length:Int);omega
   rw[if_pos hlt',if_pos h4,ao.eV]
   obtain⟨h',ih⟩:=ao.loop (k:=k) (z:=z) (e:=e) (d:=d) hb m j (i+1) (D.andI .i64 (D.wrap .i64 (D.add (D.wrap .i64 (D.add (D.wrap .i64 (D.mul h 131)) (D.wrap .i64 (D.rd b (D.nat (i:Int)) 0)))) 7)) 1073741823) (by omega) (by omega)
   refine⟨h',?_⟩
   have t1:D.le 0 (i:Int)=true:=decide_eq_true (by omega)
   have t2:D.ltN (D.nat (i:Int)) (D.len b)=true:=decide_eq_true (by show(i:Int).toNat<b.length;omega)
   rw[ay,if_pos t1,ay,if_pos t2,ay,if_pos t2]
   have ew':D.wrap .i64 (D.add (i:Int) 1)=((i+1:Nat):Int):=ew
   rw[ew']
   exact ih
  ·have hlt': ¬(i:Int)<D.ofN (D.len b):=by show¬(i:Int)<(b.length:Int);omega
   exact⟨h,by rw[if_neg hlt']⟩
theorem ao.rest{k:Nat}{i h:Int}{b e q:LI}{d rs:LJ}(hk:4194304+18≤k)(hb:b.length≤1048576)(hi:0≤i)(hi':i≤b.length)(ht:jo 10 9 10 (q,rs)):
  Pu.Ok (ao.J3 k i h e d b q rs) fun r=>jo 10 9 10 r.1:=by
 rw[ao.ky]
 obtain⟨r1,i1,h1,e1,_,_,_,a4,a5⟩:=aJ.is (k:=HAdd.hAdd k 1) (n:=6) (i:=i) (h:=h) (b:=b) (by show _≤k+1;omega) hb hi hi' (by omega)
 refine Pu.Ok.lZ e1 ?_
 obtain⟨r2,i2,h2,e2,_,_,_,b4,b5⟩:=aJ.is (k:=HAdd.hAdd k 1) (n:=4) (i:=i1) (h:=h1) (b:=b) (by show _≤k+1;omega) hb a4 a5 (by omega)
 refine Pu.Ok.lZ e2 ?_
 obtain⟨r3,i3,h3,e3,_,_,_,c4,c5⟩:=aJ.is (k:=HAdd.hAdd k 1) (n:=4) (i:=i2) (h:=h2) (b:=b) (by show _≤k+1;omega) hb b4 b5 (by omega)
 refine Pu.Ok.lZ e3 ?_
 dsimp only
 generalize D.wrap .i64 (D.add 1 r1)=x1
 generalize D.wrap .i64 (D.add 1 r2)=x2
 generalize D.wrap .i64 (D.add 1 r3)=x3
 obtain⟨x,i4,h4,e4,_,_,_⟩:=bZ.is (k:=HAdd.hAdd k 1) (l:= [x1,x2,x3,0,10]) (i:=i3) (h:=h3) (b:=b) (by show _≤k+1;omega) hb c4 c5 (by simp) (by simp)
 refine Pu.Ok.lZ e4 ?_
 exact Pu.Ok.ret ht
theorem ao.ok{k:Nat}{b:LI}(hk:4194304+20≤k)(hb:b.length≤1048576):Pu.Ok (ao k b) fun r=>jo 10 9 10 r.1:=by
 obtain⟨k,rfl⟩: ∃k',k=k'+2:=⟨k-2,by omega⟩
 rw[ao.eq]
 obtain⟨h',e⟩:=ao.loop (k:=k) (z:=0) (e:=([]:LI)) (d:=([]:LJ)) hb 4000 k 0 (D.wrap .i64 (D.add 26583 (D.ofN (D.len b)))) (by omega) (by omega)
 rw[Int.natCast_zero]at e
 rw[e,ao.iJ]
 refine Pu.Ok.bnd (cz.ok (by show _≤k+1;omega) hb (by omega) (by omega) (by omega) (by omega)) ?_
 rintro⟨⟨q,rs⟩,_,i1,h1⟩ ⟨⟨hq,hr⟩,a4,a5⟩
 dsimp only at*
 obtain⟨r2,i2,h2,e2,b4,b5⟩:=cg.is (k:=HAdd.hAdd k 1) (n:=8) (h:=h1) (b:=b) (by show _≤k+1;omega) hb a4 a5 (by omega)
 refine Pu.Ok.lZ e2 ?_
 dsimp only
 refine Pu.Ok.tb (fun _=> ?_) (fun _=> ?_)
 ·refine Pu.Ok.bnd (dB.ok (by show _≤k+1;omega) hb b4 b5 (by omega) (by omega)) ?_
  rintro⟨⟨q,rs⟩,_,i1,h1⟩ ⟨ht,a4,a5⟩
  exact ao.rest (by omega) hb a4 a5 ht
 ·exact ao.rest (by omega) hb b4 b5 ⟨by dsimp only;omega,hr.mono (by omega) (by omega)⟩
theorem cR.ok{k:Nat}{b:LI}(hk:4194304+30≤k)(hb:b.length≤1048576):Pu.Ok (cR k b) fun r=>Pu.jo 10 9 10 r.1:=by
 obtain⟨k,rfl⟩: ∃k',k=k'+2:=⟨k-2,by omega⟩
 rw[cR.eq]
 exact Pu.Ok.bnd (ao.ok (by show _≤k+1;omega) hb) fun r hr=>Pu.Ok.ret hr
theorem aW.loop{k:Nat}{p:LI}(hk:4194304≤k)(hp:p.length≤1048576): ∀(m j i:Nat) (s v:Int),i+m=p.length→m<j→(i=0→v=9)→(0<i→v=p.getD (i-1) 0)→v≤9→0≤s→s≤9→
  aW.L0 k j s p.length i p=some (Pu.fO (p.drop i) v s)
 |m,0,i,s,v,_,hj,_,_,_,_,_=>by omega
 |0,j+1,i,s,v,hi,_,_,_,_,_,_=>by
  rw[aW.bo]
  have e:i=p.length:=by omega
  subst e
  simp[Pu.fO]
 |m+1,j+1,i,s,v,hi,hj,h0,h1,hv,hs,hs9=>by
  rw[aW.bo]
  have hlt:i<p.length:=by omega
  have hj1: ∀x:Int,x=p.getD i 0→1≤x→x≤v→aW.J1 k j s x p.length i p=some (decide (s+x≤9)&&Pu.fO (p.drop (i+1)) x (s+x)):=by
   intro x hx hx1 hx2
   rw[aW.eV]
   simp (disch:=omega) only[↓ay,sss,if_true,if_false]
   by_cases c:9<s+x
   ·have: ¬s+x≤9:=by omega
    simp[c,this]
   ·have c':s+x≤9:=by omega
    have ih:=aW.loop hk hp m j (i+1) (s+x) x (by omega) (by omega) (by omega) (by simp[hx]) (by omega) (by omega) c'
    rw[Int.natCast_succ]at ih
    simp[c,c',ih]
  rw[Pu.drop_cons hlt 0]
  simp (disch:=omega) only[↓ay,sss,if_true,if_false,hlt,cw.is,Pu.fO]
  generalize hx:p.getD i 0=x at*
  unfold Pu.within
  by_cases c1:1≤x
  ·by_cases c2:x≤v
   ·have c3:x≤9:=by omega
    have hj:=hj1 x rfl c1 c2
    by_cases hi0:i=0
    ·have hpos: ¬(0:Int)<i:=by omega
     simp (disch:=omega) only[↓ay,sss,if_true,if_false,c1,c2,c3,hpos,hj]
    ·have hv':=h1 (by omega)
     have e:((i:Int)-1)=((i-1:Nat):Int):=by omega
     have hlt':i-1<p.length:=by omega
     have hge: ¬p.getD (i-1) 0<x:=by rw[←hv'];omega
     have hpos:(0:Int)<i:=by omega
     simp (disch:=omega) only[e,↓ay,sss,if_true,if_false,hlt',c1,c2,c3,hj,hpos,hge]
   ·simp only[c1,c2,↓ay,sss,if_true,if_false]
    by_cases c3:x≤9
    ·have hi0:0<i:=by
      rcases Nat.eq_zero_or_pos i with h|h
      ·have:=h0 h;omega
      ·exact h
     have hv':=h1 hi0
     have e:((i:Int)-1)=((i-1:Nat):Int):=by omega
     have hlt':i-1<p.length:=by omega
     have hge:p.getD (i-1) 0<x:=by rw[←hv'];omega
     have hpos:(0:Int)<i:=by omega
     simp (disch:=omega) only[e,↓ay,sss,if_true,if_false,hlt',c3,hpos,hge]
    ·simp only[c3,↓ay,sss,if_true,if_false]
  ·simp only[c1,↓ay,sss,if_true,if_false]
theorem aW.is{k:Nat}{p:LI}(hk:4194304+1≤k)(hp:p.length≤1048576):aW k p=some (Pu.b8 p):=by
 obtain⟨k,rfl⟩: ∃k',k=k'+1:=⟨k-1,by omega⟩
 rw[aW.eq]
 exact aW.loop (k:=k) (by omega) hp p.length k 0 0 9 (by omega) (by omega) (fun _=>rfl) (by omega) (by omega) (by omega) (by omega)
theorem bI.is{k:Nat}{a:LI}(hk:1≤k)(ha:a.length≤1099511627776):bI k a=some a:=by
 obtain⟨k,rfl⟩: ∃k',k=k'+1:=⟨k-1,by omega⟩
 rw[bI.eq]
 by_cases h:a.length=0
 ·have:a= []:=List.eq_nil_of_length_eq_zero h
  subst this
  simp[GB,Dl]
 ·simp[h,ha]
theorem eM.is{k:Nat}{p:LI}{i:Int}(hk:2≤k)(hp:p.length≤1048576):eM k p i=some (Pu.atI p i):=by
 obtain⟨k,rfl⟩: ∃k',k=k'+1:=⟨k-1,by omega⟩
 rw[eM.eq,cw.is (by omega)]
 unfold Pu.within
 by_cases h1:0≤i
 ·have h0: ¬i<0:=by omega
  by_cases h2:i≤(p.length:Int)-1
  ·have h4:i.toNat<p.length:=by omega
   simp (disch:=omega) only[↓ay,sss,if_true,if_false,h0,h1,h2,h4,Pu.atI]
  ·simp (disch:=omega) only[↓ay,sss,if_true,if_false,h1,h2,Pu.BY (p:=p) (i:=i) (by omega)]
 ·simp (disch:=omega) only[↓ay,sss,if_true,if_false,h1,Pu.qB (p:=p) (i:=i) (by omega)]
theorem bV.loop{k:Nat}{q p:LI}(hq:q.length≤1048576)(hp:p.length≤1048576)(hk:4194304+2≤k):bV.L1 k k q.length 0 p q=some ((List.range' 0 q.length).all fun i=>decide (q.getD i 0≤p.getD i 0)):=by
 have h:=Pu.mO (fun j i=>bV.L1 k j q.length (i:Int) p q) q.length (fun i=>decide (q.getD i 0≤p.getD i 0)) (some false) (some true)
  (fun j i hi=>by
   rw[bV.ep,eM.is (by omega) hp,Pu.cH]
   simp (disch:=omega) only[↓ay,sss,if_true,if_false,hi,Int.natCast_add,Int.natCast_one]
   by_cases c:q.getD i 0≤p.getD i 0
   ·have c': ¬p.getD i 0<q.getD i 0:=by omega
    simp only[c,c',↓ay,sss,if_true,if_false]
   ·have c':p.getD i 0<q.getD i 0:=by omega
    simp only[c,c',↓ay,sss,if_true,if_false])
  (fun j=>by
   rw[bV.ep]
   simp only[↓ay,sss,if_true,if_false,Nat.lt_irrefl]) q.length k 0 (by omega) (by omega)
 simp only[Int.natCast_zero]at h
 rw[h]
 cases(List.range' 0 q.length).all fun i=>decide (q.getD i 0≤p.getD i 0)<;>simp
theorem bV.is{k:Nat}{q p:LI}(hk:4194304+3≤k)(hq:q.length≤1048576)(hp:p.length≤1048576):bV k q p=some (Pu.dQ q p):=by
 obtain⟨k,rfl⟩: ∃k',k=k'+1:=⟨k-1,by omega⟩
 rw[bV.eq,aW.is (by omega) hq,cS,bV.fG,Pu.AS]
 cases c1:Pu.b8 q with
 |false=>simp only[↓ay,sss,if_true,if_false]
 |true=>
  simp only[↓ay,sss,if_true,if_false]
  rw[aW.is (by omega) hp,cS]
  cases c2:Pu.b8 p with
  |false=>simp only[↓ay,sss,if_true,if_false]
  |true=>
   simp only[↓ay,sss,if_true,if_false]
   exact bV.loop hq hp (by omega)
theorem iu.is{k:Nat}{s:LI×LI}(hk:4194304+4≤k)(hq:s.1.length≤1048576)(hp:s.2.length≤1048576):iu k s=some (Pu.dQ s.2 s.1):=by
 obtain⟨k,rfl⟩: ∃k',k=k'+1:=⟨k-1,by omega⟩
 rw[iu.eq,bV.is (by omega) hp hq]
 rfl
theorem cd.loop{k:Nat}{t:Pu.Tab}{x3 x4:LI}(hk:4194304+4≤k)(hi:Pu.b8 t.1=true)(h2:t.2.length≤1048576)(hr: ∀x∈t.2,x.length≤1048576): ∀(m j i:Nat) (acc:LI),i+m=t.2.length→m<j→acc.length=i→
  cd.L1 k j t.2.length i t.2 t.1 x3 x4 acc t.1=some (if Pu.dQ t.1 (acc++Pu.fE t.1 i (t.2.drop i))=true then((acc++Pu.fE t.1 i (t.2.drop i),t.1),true)else(([],[]),false))
 |m,0,i,acc,_,hj,_=>by omega
 |0,j+1,i,acc,hm,_,hacc=>by
  rw[cd.ep]
  have e:i=t.2.length:=by omega
  have h9:=(Pu.bQ hi).2.2.1
  have hlt: ¬i<t.2.length:=by omega
  rw[iu.is (by omega) (by simp only;omega) (by simp only;omega),e]
  simp only[↓ay,sss,if_true,if_false,Nat.lt_irrefl,List.drop_length,Pu.fE,List.append_nil]
  cases Pu.dQ t.1 acc<;>simp
 |m+1,j+1,i,acc,hm,hj,hacc=>by
  rw[cd.ep]
  have hlt:i<t.2.length:=by omega
  have hb:=Pu.dX hi i
  have h9:=(Pu.bQ hi).2.2.1
  have hrow:=hr t.2[i] (List.getElem_mem hlt)
  rw[←Pu.au hlt []]at hrow
  rw[eM.is (by omega) (by omega)]
  have ih:=cd.loop (x3:=x3) (x4:=x4) hk hi h2 hr m j (i+1) (acc++ [Pu.atI t.1 i+(t.2.getD i []).length]) (by omega) (by omega) (by simp[hacc])
  rw[Int.natCast_succ]at ih
  rw[Pu.drop_cons hlt []]
  have hl:(acc++ [Pu.atI t.1 i+((t.2.getD i []).length:Int)]).length≤1099511627776:=by simp;omega
  simp (disch:=omega) only[↓ay,sss,if_true,if_false,hlt,hl,ih,Pu.fE]
  simp only[List.append_assoc,List.singleton_append,Pu.cH]
  rfl
theorem cd.is{k:Nat}{t:Pu.Tab}(hk:4194304+5≤k)(h1:t.1.length≤1048576)(h2:t.2.length≤1048576)(hr: ∀x∈t.2,x.length≤1048576):cd k t=some (Pu.shapeOf t):=by
 obtain⟨k,rfl⟩: ∃k',k=k'+1:=⟨k-1,by omega⟩
 rw[cd.eq,aW.is (by omega) h1,cd.fG,bI.is (by omega) (by omega)]
 simp only[↓ay,sss,if_true,if_false]
 unfold Pu.shapeOf
 cases c1:Pu.b8 t.1 with
 |false=>
  have:Pu.dt t=false:=by unfold Pu.dt;rw[c1];rfl
  simp only[this,↓ay,sss,if_true,if_false]
 |true=>
  by_cases c2:t.2.length<t.1.length
  ·have:Pu.dt t=false:=by
    have: ¬t.1.length≤t.2.length:=by omega
    unfold Pu.dt;simp[this]
   simp only[this,c2,↓ay,sss,if_true,if_false]
  ·have c2':t.1.length≤t.2.length:=by omega
   have hloop:=cd.loop (k:=k) (t:=t) (x3:= []) (x4:= []) (by omega) c1 h2 hr t.2.length k 0 [] (by omega) (by omega) rfl
   rw[Int.natCast_zero]at hloop
   simp only[c2,↓ay,sss,if_true,if_false]
   rw[hloop]
   have:Pu.dt t=Pu.dQ t.1 (Pu.outer t):=by unfold Pu.dt;simp[c1,c2']
   rw[this]
   rfl
theorem dG.is{k:Nat}{t:Pu.Tab}{r c:Int}(hk:3≤k)(hi:Pu.b8 t.1=true)(ht:t.2.length≤1048576)(hr: ∀x∈t.2,x.length≤1048576)(h1: -1000000000≤c)(h2:c≤1000000000):dG k t r c=some (Pu.entry t r c):=by
 obtain⟨k,rfl⟩: ∃k',k=k'+1:=⟨k-1,by omega⟩
 have hb:=Pu.dX hi r
 have h9:=(Pu.bQ hi).2.2.1
 rw[dG.eq,cw.is (by omega)]
 unfold Pu.entry Pu.within
 by_cases c1:r<0
 ·have c1': ¬0≤r:=by omega
  simp (disch:=omega) only[↓ay,sss,if_true,if_false,c1,c1']
 ·have c3:0≤r:=by omega
  by_cases c2:(t.2.length:Int)≤r
  ·have c2': ¬r≤(t.2.length:Int)-1:=by omega
   simp (disch:=omega) only[↓ay,sss,if_true,if_false,c1,c3,c2,c2']
  ·have c2':r≤(t.2.length:Int)-1:=by omega
   have c4:r.toNat<t.2.length:=by omega
   have hx:=hr _ (List.getElem_mem c4)
   rw[←Pu.au c4 []]at hx
   simp (disch:=omega) only[↓ay,sss,if_true,if_false,c1,c2,c2',c3,c4,eM.is]
theorem aF.inner{k k1:Nat}{t:Pu.Tab}{r:Nat}(hk:4194304≤k)(hi:Pu.b8 t.1=true)(ht:t.2.length≤1048576)(hr: ∀x∈t.2,x.length≤1048576)(hlt:r<t.2.length)(n:Int):
  aF.L1 k k1 k r r n r r (t.2.getD r []).length 0 t.2 t.1=if((List.range' 0 (t.2.getD r []).length).all fun q=>Pu.fY t r q)=true then aF.L0 k k1 n ((r:Int)+1) t.2 t.1 else some false:=by
 have hx:=hr _ (List.getElem_mem hlt)
 rw[←Pu.au hlt []]at hx
 have hb:=Pu.dX hi r
 have h9:=(Pu.bQ hi).2.2.1
 have h:=Pu.mO (fun j q=>aF.L1 k k1 j r r n r r (t.2.getD r []).length (q:Int) t.2 t.1) (t.2.getD r []).length (fun q=>Pu.fY t r q) (some false) (aF.L0 k k1 n ((r:Int)+1) t.2 t.1)
  (fun j q hq=>by
   have e3:=dG.is (k:=k) (t:=t) (r:=(r:Int)-1) (c:=t.1.getD r 0+q) (by omega) hi ht hr (by rw[Pu.cH]at hb;omega) (by rw[Pu.cH]at hb;omega)
   have ea:=eM.is (k:=k) (p:=t.1) (i:=r) (by omega) (by omega)
   rw[Pu.cH]at ea
   rw[Pu.cH]at hb
   rw[aF.ep]
   simp (maxSteps:=10000000) (disch:=omega) only[↓ay,sss,if_true,if_false,hlt,hq,cw.is,ea,e3,aF.iJ,Int.natCast_add,Int.natCast_one]
   unfold Pu.fY
   generalize hx0:(t.2.getD r []).getD q 0=x at*
   cases Pu.within x 1 9 with
   |false=>simp
   |true=>
    have up:(if(0:Int)<r then(if x≤Pu.entry t ((r:Int)-1) (t.1.getD r 0+q)then some false else aF.L1 k k1 j r r n r r (t.2.getD r []).length ((q:Int)+1) t.2 t.1)else aF.L1 k k1 j r r n r r (t.2.getD r []).length ((q:Int)+1) t.2 t.1)=
      if(decide (r=0)||decide (Pu.entry t ((r:Int)-1) (t.1.getD r 0+q)<x))=true then aF.L1 k k1 j r r n r r (t.2.getD r []).length ((q:Int)+1) t.2 t.1 else some false:=by
     by_cases e:r=0
     ·subst e;simp
     ·have e':(0:Int)<r:=by omega
      by_cases c:x≤Pu.entry t ((r:Int)-1) (t.1.getD r 0+q)
      ·have c': ¬Pu.entry t ((r:Int)-1) (t.1.getD r 0+q)<x:=by omega
       simp only[e',c,c',e,if_true,if_false,decide_false,Bool.or_false,Bool.false_eq_true]
      ·have c':Pu.entry t ((r:Int)-1) (t.1.getD r 0+q)<x:=by omega
       simp only[e',c,c',e,if_true,if_false,decide_true,decide_false,Bool.false_or]
    by_cases e:q=0
    ·have e': ¬(0:Int)<q:=by omega
     simp only[e',e,↓ay,sss,if_true,if_false,Bool.true_or]
     rw[e]at up
     exact up
    ·have e':(0:Int)<q:=by omega
     have eq:(q:Int)-1=((q-1:Nat):Int):=by omega
     have hq':q-1<(t.2.getD r []).length:=by omega
     simp (disch:=omega) only[e',e,↓ay,sss,if_true,if_false,eq,hq',Bool.false_or]
     by_cases c:x<(t.2.getD r []).getD (q-1) 0
     ·have c': ¬(t.2.getD r []).getD (q-1) 0≤x:=by omega
      simp only[c,c',↓ay,sss,if_true,if_false]
     ·have c':(t.2.getD r []).getD (q-1) 0≤x:=by omega
      simp only[c,c',↓ay,sss,if_true,if_false]
      exact up)
  (fun j=>by
   rw[aF.ep]
   simp (maxSteps:=10000000) (disch:=omega) only[↓ay,sss,if_true,if_false,Nat.lt_irrefl]) (t.2.getD r []).length k 0 (by omega) (by omega)
 simp only[Int.natCast_zero]at h
 exact h
theorem aF.is{k:Nat}{t:Pu.Tab}(hk:4194304+6≤k)(h1:t.1.length≤1048576)(ht:t.2.length≤1048576)(hr: ∀x∈t.2,x.length≤1048576):aF k t=some (Pu.dD t):=by
 obtain⟨k,rfl⟩: ∃k',k=k'+1:=⟨k-1,by omega⟩
 rw[aF.eq,cd.is (by omega) h1 ht hr,cS]
 unfold Pu.dD Pu.shapeOf
 cases hs:Pu.dt t with
 |false=>simp[hs]
 |true=>
  have hi:Pu.b8 t.1=true:=by
   simp only[Pu.dt,Bool.and_eq_true]at hs;exact hs.1
  have h:=Pu.mO (fun j r=>aF.L0 k j t.2.length r t.2 t.1) t.2.length (fun r=>(List.range' 0 (t.2.getD r []).length).all fun q=>Pu.fY t r q) (some false) (some true)
   (fun j r hlt=>by
    rw[aF.bo]
    simp (disch:=omega) only[↓ay,sss,if_true,if_false,hlt,aF.inner (k1:=j) (show 4194304≤k by omega) hi ht hr hlt,Int.natCast_add,Int.natCast_one])
   (fun j=>by
    rw[aF.bo]
    simp (disch:=omega) only[↓ay,sss,if_true,if_false,Nat.lt_irrefl]) t.2.length k 0 (by omega) (by omega)
  simp only[Int.natCast_zero]at h
  simp only[if_true,↓ay,sss,if_true,if_false]
  rw[h]
  cases(List.range' 0 t.2.length).all fun r=>(List.range' 0 (t.2.getD r []).length).all fun q=>Pu.fY t r q<;>simp
theorem dn.is{k:Nat}{t:Pu.Tab}(hk:4194304+7≤k)(h1:t.1.length≤1048576)(ht:t.2.length≤1048576)(hr: ∀x∈t.2,x.length≤1048576):dn k t=some (Pu.ba t):=by
 obtain⟨k,rfl⟩: ∃k',k=k'+1:=⟨k-1,by omega⟩
 rw[dn.eq,aF.is (by omega) h1 ht hr,cS]
 unfold Pu.ba
 by_cases h:t.1.length=0<;>simp[h]
theorem bB.loop{k:Nat}{rs:LJ}(h9:Pu.dz 1048576 1048576 rs): ∀(m j:Nat) (w:LI),m≤rs.length→m<j→w.length+Pu.j4 (rs.take m)≤1099511627776→bB.L0 k j ((m:Int)-1) rs w=some (w++(rs.take m).reverse.flatten)
 |m,0,w,_,hj,_=>by omega
 |0,j+1,w,_,_,_=>by
  rw[bB.bo]
  have hn: ¬(0:Int)≤((0:Nat):Int)-1:=by omega
  simp only[↓ay,sss,if_true,if_false,hn]
  simp
 |m+1,j+1,w,hm,hj,hs=>by
  rw[bB.bo]
  have e:(((m+1:Nat):Int)-1)=(m:Int):=by omega
  have hlt:m<rs.length:=by omega
  have ht:=Pu.take_succ hlt []
  have hsz: ∀(a b:LJ),Pu.j4 (a++b)=Pu.j4 a+Pu.j4 b:=by
   intro a b
   induction a with
   |nil=>simp[Pu.j4]
   |cons x a ih=>simp only[List.cons_append,Pu.j4,ih];omega
  rw[ht,hsz]at hs
  simp only[Pu.j4]at hs
  have hl:(w++rs.getD m []).length≤1099511627776:=by rw[List.length_append];omega
  have h0:(0:Int)≤(m:Int):=by omega
  have ih:=bB.loop (k:=k) h9 m j (w++rs.getD m []) (by omega) (by omega) (by rw[List.length_append];omega)
  have hb:=h9.1
  rw[e]
  simp (disch:=omega) only[↓ay,sss,if_true,if_false,h0,hlt,hl,ih]
  rw[ht,List.reverse_append,List.flatten_append]
  simp
theorem bB.is{k:Nat}{t:Pu.Tab}(hk:4194304+10≤k)(h1:t.1.length≤1048576)(ht:t.2.length≤1048576)(hr: ∀x∈t.2,x.length≤1048576):bB k t=some (if Pu.dD t=true then t.2.reverse.flatten else []):=by
 obtain⟨k,rfl⟩: ∃k',k=k'+1:=⟨k-1,by omega⟩
 rw[bB.eq,show((t.1,t.2):Pu.Tab)=t from rfl,aF.is (by omega) h1 ht hr,cS]
 cases hb:Pu.dD t with
 |false=>simp
 |true=>
  have hs:=Pu.xX ht hr
  have hl:=bB.loop (k:=k) (rs:=t.2) ⟨ht,hr⟩ t.2.length k [] (Nat.le_refl _) (by omega) (by rw[List.take_length];simpa using hs)
  rw[List.take_length]at hl
  simp (disch:=omega) only[↓ay,sss,if_true,if_false,hl,List.nil_append]
theorem aX.zE{k:Nat}{x2 x3:Int}{x7:LI}{x8:LJ}{x9:LI}{x10:LJ}(hk:4194304+10≤k): ∀(m j c:Nat) (C:LJ) (x:Int),c+m=C.length→m<j→C.length≤100→C.flatten.length≤100→
  aX.L1 k j (C.length:Nat) c x2 x3 C x x7 x8 x9 x10=some (([],Pu.aQ (C.take c++Pu.jQ (C.drop c) x)),true)
 |m,0,c,C,x,_,hj,_,_=>by omega
 |0,j+1,c,C,x,hm,_,h1,h2=>by
  have hap:(C++ [[x]]).length≤1099511627776:=by rw[List.length_append,List.length_singleton];omega
  have e:C++ [[x]]=C.take c++Pu.jQ (C.drop c) x:=by rw[show c=C.length by omega,List.take_length,List.drop_length];rfl
  have hf:(C++ [[x]]).flatten.length≤1000:=by rw[List.flatten_append,List.length_append];show C.flatten.length+1≤1000;omega
  have hl:(C++ [[x]]).length≤1000:=by rw[List.length_append,List.length_singleton];omega
  rw[aX.ep,←e]
  refine tX (show¬(c:Int)<(C.length:Nat) by omega) (tG hap ?_)
  exact bE (dH.is (by omega) hl hf) rfl
 |m+1,j+1,c,C,x,hm,hj,h1,h2=>by
  have hc:c<C.length:=by omega
  have c0:=Int.natCast_nonneg c
  have hrow:=Pu.lz (C:=C) c
  have hix:=aj.is (k:=k) (r:=C.getD c []) (x:=x) (by omega) (by omega)
  have hz:IntKind.i64.wrap ((c:Int)+1)=((c+1:Nat):Int):=by rw[w64 (by omega) (by omega)];omega
  rw[aX.ep]
  simp only[fc,dI,eX,iL,fg,cX,iv,fQ,Int.toNat_natCast,hz]
  refine tG (show(c:Int)<(C.length:Nat) by omega) (tG c0 (tG hc (tG hc (tG hc (bE hix ?_)))))
  rw[show(C.getD c []).findIdx (fun n=>decide (x≤n))=Pu.cr (C.getD c []) x from rfl]
  by_cases g:Pu.cr (C.getD c []) x<(C.getD c []).length
  ·rw[if_pos g,←Pu.yc hc g]
   have g0: ¬((Pu.cr (C.getD c []) x:Nat):Int)<0:=by omega
   have g1:(0:Int)≤((Pu.cr (C.getD c []) x:Nat):Int):=by omega
   have hsf:=Pu.pG (C:=C) (c:=c) (d:=(C.getD c []).set (Pu.cr (C.getD c []) x) x) hc
   rw[List.length_set]at hsf
   have ih:=aX.zE (x2:=x2) (x3:=x3) (x7:=x7) (x8:=x8) (x9:=x9) (x10:=x10) hk m j (c+1) (C.set c ((C.getD c []).set (Pu.cr (C.getD c []) x) x)) ((C.getD c []).getD (Pu.cr (C.getD c []) x) 0) (by rw[List.length_set];omega) (by omega) (by rw[List.length_set];exact h1) (by omega)
   rw[List.length_set]at ih
   rw[←ih]
   refine tX g0 (tG hc (tG g1 ?_))
   simp only[Int.toNat_natCast]
   exact tG g (tG hc (tG g (tG hc (tG g1 (tG g (tG hc (tG g rfl)))))))
  ·rw[if_neg g,←Pu.yo hc g]
   have hap:(C.getD c []++ [x]).length≤1099511627776:=by rw[List.length_append,List.length_singleton];omega
   have hsf:=Pu.pG (C:=C) (c:=c) (d:=C.getD c []++ [x]) hc
   rw[List.length_append,List.length_singleton]at hsf
   have hf:(C.set c (C.getD c []++ [x])).flatten.length≤1000:=by omega
   have hl:(C.set c (C.getD c []++ [x])).length≤1000:=by rw[List.length_set];omega
   refine tG (show(-1:Int)<0 by decide) (tG hc (tG hap (tG c0 (tG hc (tG hc (tG rfl ?_))))))
   exact bE (dH.is (by omega) hl hf) rfl
theorem aX.is{k:Nat}{t:Pu.Tab}{x:Int}(hk:4194304+30≤k)(h1:t.1.length≤1048576)(ht:t.2.length≤1048576)(hr: ∀x∈t.2,x.length≤1048576):aX k t x=some (Pu.bM t x):=by
 obtain⟨k,rfl⟩: ∃k',k=k'+2:=⟨k-2,by omega⟩
 rw[aX.eq]
 refine bE (dn.is (t:=t) (by omega) h1 ht hr) ?_
 unfold Pu.bM
 cases hp:Pu.ba t with
 |false=>rw[if_neg (fun h=>by cases h.1)];exact tM rfl
 |true=>
  refine tN (bE (cw.is (by omega)) ?_)
  cases hx:Pu.within x 1 9 with
  |false=>rw[if_neg (fun h=>by cases h.2.1)];exact tM rfl
  |true=>
   have hw:=bB.is (k:=k+1) (t:=t) (by omega) h1 ht hr
   have hp':=hp
   simp only[Pu.ba,Bool.and_eq_true]at hp'
   rw[if_pos hp'.1]at hw
   have hlen:t.2.reverse.flatten.length=t.2.flatten.length:=by simp[List.length_flatten,List.map_reverse,List.sum_reverse]
   have h9:=Pu.ig hp
   refine tN (bE hw ?_)
   by_cases c:t.2.flatten.length<9
   ·rw[if_pos ⟨rfl,rfl,c⟩]
    refine tX (show¬(t.2.reverse.flatten.length:Int)=9 by omega) ?_
    have hl:=(Pu.iM hp).1
    have hcl:=Pu.gl (Pu.mc (Pu.j7 hp))
    have h0:=(Pu.iM hp).at 0
    have hcf:=Pu.lF t.2
    have e:=aX.zE (k:=k) (x2:=x) (x3:=x) (x7:=t.1) (x8:=t.2) (x9:= []) (x10:= []) (by omega) (Pu.aQ t.2).length k 0 (Pu.aQ t.2) x (by omega) (by omega) (by omega) (by omega)
    rw[Int.natCast_zero]at e
    rw[aX.fG]
    exact bE (aL.isX (t:=t) (by omega) (by omega) (by omega)) e
   ·rw[if_neg (fun h=>c h.2.2)]
    exact tG (show(t.2.reverse.flatten.length:Int)=9 by omega) rfl
theorem dq.is{k:Nat}{t:Pu.Tab}(hk:4194304+6≤k)(h1:t.1.length≤1048576)(ht:t.2.length≤1048576)(hr: ∀x∈t.2,x.length≤1048576):dq k t=some (Pu.ba t):=by
 obtain⟨k,rfl⟩: ∃k',k=k'+1:=⟨k-1,by omega⟩
 rw[dq.eq,aB.is (by omega) h1 ht hr,cS]
 unfold Pu.ba
 cases Pu.dD t<;>simp
theorem cn.loop{k:Nat}{t:Pu.Tab}{x2:LI}(ht:t.2.length≤1048576)(hf:t.2.flatten.length≤1099511627776): ∀(m j i:Nat),i+m=t.2.length→m<j→
  cn.L0 k j i (t.2.take i).flatten x2 t.2=some t.2.flatten
 |m,0,i,_,hj=>by omega
 |0,j+1,i,hm,_=>by
  rw[cn.bo]
  have e:i=t.2.length:=by omega
  subst e
  simp
 |m+1,j+1,i,hm,hj=>by
  rw[cn.bo]
  have hlt:i<t.2.length:=by omega
  have ih:=cn.loop (k:=k) (x2:=x2) ht hf m j (i+1) (by omega) (by omega)
  rw[Int.natCast_succ,Pu.take_succ hlt []]at ih
  have hl:((t.2.take i).flatten++t.2.getD i []).length≤1099511627776:=by
   refine Nat.le_trans ?_ hf
   have e:t.2.flatten=(t.2.take i).flatten++(t.2.drop i).flatten:=by rw[←List.flatten_append,List.take_append_drop]
   rw[e,Pu.drop_cons hlt []]
   simp only[List.flatten_cons,List.length_append]
   omega
  simp only[List.flatten_append,List.flatten_cons,List.flatten_nil,List.append_nil]at ih
  simp (disch:=omega) only[↓ay,sss,if_true,if_false,hlt,hl,ih]
theorem cn.is{k:Nat}{t:Pu.Tab}(hk:4194304+1≤k)(ht:t.2.length≤1048576)(hf:t.2.flatten.length≤1099511627776):cn k t=some t.2.flatten:=by
 obtain⟨k,rfl⟩: ∃k',k=k'+1:=⟨k-1,by omega⟩
 rw[cn.eq]
 exact cn.loop (k:=k) ht hf t.2.length k 0 (by omega) (by omega)
theorem ch.is{k:Nat}{t:Pu.Tab}{x:Int}(hk:4194304+40≤k)(h1:t.1.length≤1048576)(ht:t.2.length≤1048576)(hr: ∀x∈t.2,x.length≤1048576):ch k t x=some (Pu.bM t x):=by
 obtain⟨k,rfl⟩: ∃k',k=k'+1:=⟨k-1,by omega⟩
 rw[ch.eq]
 refine bE (dq.is (t:=t) (by omega) h1 ht hr) ?_
 unfold Pu.bM
 cases hp:Pu.ba t with
 |false=>rw[if_neg (fun h=>by cases h.1)];exact tM rfl
 |true=>
  refine tN (bE (fW.is (by omega)) ?_)
  cases hx:Pu.within x 1 9 with
  |false=>rw[if_neg (fun h=>by cases h.2.1)];exact tM rfl
  |true=>
   have h9:=Pu.ig hp
   have hn:=cn.is (k:=k) (t:=t) (by omega) ht (by omega)
   refine tN (bE hn ?_)
   by_cases c:t.2.flatten.length<9
   ·rw[if_pos ⟨rfl,rfl,c⟩]
    refine tX (show¬(9:Int)≤(t.2.flatten.length:Nat) by omega) ?_
    have hs:=Pu.j7 hp
    have hC:=Pu.y5 hs
    have hcl:=Pu.gl (Pu.mc hs)
    have hcf:=Pu.lF t.2
    have h0:=Pu.lz (C:=t.2) 0
    have e:=aG.is (k:=k) (C:=Pu.aQ t.2) (x:=x) (by omega) hC (by omega) (by omega) (fun v hv=>by
     obtain⟨q,i,a,b,rfl⟩:=Pu.qw hv
     have e:=(Pu.cm (Pu.mc hs) q i).2
     have d:=(Pu.cm (Pu.mc hs) q i).1.1 b
     show 1≤((Pu.aQ t.2).getD q []).getD i 0
     rw[e]
     have hi:i<t.2.length:=Nat.lt_of_not_le fun hle=>by rw[Pu.iS hle]at d;simp at d
     exact((Pu.lA hp).1 i q hi d).1) (Pu.within_iff.1 hx).1
    rw[Pu.yn (Pu.mc hs)]at e
    have et:t.1= []:=Pu.iR hp
    rw[ch.fG,et]
    exact bE e rfl
   ·rw[if_neg (fun h=>c h.2.2)]
    exact tG (show(9:Int)≤(t.2.flatten.length:Nat) by omega) rfl
theorem bu.Ee{k:Nat}{b:LI}{x3 x5:LI}{x4 x6:LJ}(hk:4194304+40≤k)(hb:b.length≤1048576): ∀(m j i:Nat) (h:Int),i+m=b.length→m<j→Pu.Ok (bu.L0 k j h i b x3 x4 x5 x6) fun r=>Pu.jo 9 9 9 r.1∧Pu.jo 10 9 10 r.2:=by
 have fin: ∀h,Pu.Ok (bu.J2 k h b x3 x4 x5 x6) fun r=>Pu.jo 9 9 9 r.1∧Pu.jo 10 9 10 r.2:=fun h=>by
  rw[bu.iJ]
  refine Pu.Ok.bnd (cz.ok (by show _≤k+1;omega) hb (by omega) (by omega) (by omega) (by omega)) ?_
  rintro⟨⟨q,rs⟩,_,i1,h1⟩ ⟨ht,a4,a5⟩
  dsimp only at*
  refine Pu.Ok.bnd (cz.ok (by show _≤k+1;omega) hb a4 a5 (by omega) (by omega)) ?_
  rintro⟨⟨q2,rs2⟩,_,i2,h2⟩ ⟨⟨hq2,hr2⟩,b4,b5⟩
  dsimp only at*
  obtain⟨r2,i3,h3,e2,c4,c5⟩:=cg.is (k:=HAdd.hAdd k 1) (n:=10) (h:=h2) (b:=b) (by show _≤k+1;omega) hb b4 b5 (by omega)
  refine Pu.Ok.lZ e2 ?_
  dsimp only
  refine Pu.Ok.tb (fun _=> ?_) (fun _=> ?_)
  ·refine Pu.Ok.bnd (dB.ok (by show _≤k+1;omega) hb c4 c5 (by omega) (by omega)) ?_
   rintro⟨⟨q3,rs3⟩,_,i4,h4⟩ ⟨ht3,d4,d5⟩
   rw[bu.ky]
   exact Pu.Ok.ret ⟨ht,ht3⟩
  ·rw[bu.ky]
   exact Pu.Ok.ret ⟨ht,by dsimp only;omega,hr2.mono (by omega) (by omega)⟩
 intro m
 induction m with
 |zero=>
  intro j i h hi hj
  obtain⟨j,rfl⟩: ∃j',j=j'+1:=⟨j-1,by omega⟩
  rw[bu.bo]
  simp only[oT,nA,kp,kJ,kH,dI,eX,fc,iL,iv,fQ,iH,iF,kI,cX,fg,jr,lM,nZ,nO,kK,kG,ju,jv,iG,gW,List.nil_append,List.cons_append]
  exact Pu.Ok.no (by omega) (fin h)
 |succ m ih=>
  intro j i h hi hj
  obtain⟨j,rfl⟩: ∃j',j=j'+1:=⟨j-1,by omega⟩
  have hw:IntKind.i64.wrap ((i:Int)+1)=((i+1:Nat):Int):=w64 (by omega) (by omega)
  rw[bu.bo]
  simp only[oT,nA,kp,kJ,kH,dI,eX,fc,iL,iv,fQ,iH,iF,kI,cX,fg,jr,lM,nZ,nO,kK,kG,ju,jv,iG,gW,List.nil_append,List.cons_append]
  refine Pu.Ok.g (by omega) (Pu.Ok.t (fun _=> ?_) (fun _=>fin h))
  rw[bu.eV]
  simp only[oT,nA,kp,kJ,kH,dI,eX,fc,iL,iv,fQ,iH,iF,kI,cX,fg,jr,lM,nZ,nO,kK,kG,ju,jv,iG,gW,List.nil_append,List.cons_append]
  rw[hw]
  refine Pu.Ok.g (by omega) (Pu.Ok.g (by omega) (Pu.Ok.g (by omega) ?_))
  exact ih j (i+1) _ (by omega) (by omega)
theorem bu.ok{k:Nat}{b:LI}(hk:4194304+50≤k)(hb:b.length≤1048576):Pu.Ok (bu k b) fun r=>Pu.jo 9 9 9 r.1∧Pu.jo 10 9 10 r.2:=by
 obtain⟨k,rfl⟩: ∃k',k=k'+2:=⟨k-2,by omega⟩
 rw[bu.eq]
 exact bu.Ee (by omega) hb b.length k 0 _ (by omega) (by omega)
theorem cF.ok{k:Nat}{b:LI}(hk:4194304+60≤k)(hb:b.length≤1048576):Pu.Ok (cF k b) fun r=>Pu.jo 9 9 9 r.1∧Pu.jo 10 9 10 r.2:=by
 obtain⟨k,rfl⟩: ∃k',k=k'+2:=⟨k-2,by omega⟩
 rw[cF.eq]
 exact Pu.Ok.bnd (bu.ok (by show _≤k+1;omega) hb) fun r hr=>Pu.Ok.ret hr
theorem ah.app{k:Nat}{a:LJ}(ha:a.length≤1048576)(hf:a.flatten.length≤1099511627776): ∀(m j i:Nat),i+m=a.length→m<j→
  ah.L4 k j a.length i (a.take i).flatten a=some a.flatten
 |m,0,i,_,hj=>by omega
 |0,j+1,i,hm,_=>by
  rw[ah.uw]
  have e:i=a.length:=by omega
  subst e
  simp
 |m+1,j+1,i,hm,hj=>by
  rw[ah.uw]
  have hlt:i<a.length:=by omega
  have ih:=ah.app (k:=k) ha hf m j (i+1) (by omega) (by omega)
  rw[Int.natCast_succ,Pu.take_succ hlt []]at ih
  have hl:((a.take i).flatten++a.getD i []).length≤1099511627776:=by
   refine Nat.le_trans ?_ hf
   have e:a.flatten=(a.take i).flatten++(a.drop i).flatten:=by rw[←List.flatten_append,List.take_append_drop]
   rw[e,Pu.drop_cons hlt []]
   simp only[List.flatten_cons,List.length_append]
   omega
  simp only[List.flatten_append,List.flatten_cons,List.flatten_nil,List.append_nil]at ih
  simp (disch:=omega) only[↓ay,sss,if_true,if_false,hlt,hl,ih]
theorem ah.tail{k:Nat}{a:LJ}{y:LI}(hk:4194304≤k)(ha:a.length≤1048576)(hf:a.flatten.length≤1099511627776):ah.L3 k (HAdd.hAdd k 1) 0 0 a.length 0 y a=some a.flatten:=by
 rw[ah.Im]
 by_cases h0:a.length=0
 ·have:a= []:=List.eq_nil_of_length_eq_zero h0
  subst this
  simp
 ·have hlt:0<a.length:=by omega
  have h:=ah.app (k:=k) ha hf (a.length-1) k 1 (by omega) (by omega)
  have e:(a.take 1).flatten=a.getD 0 []:=by rw[Pu.take_succ hlt []];simp
  rw[e]at h
  have hl:(a.getD 0 []).length≤1099511627776:=by
   refine Nat.le_trans ?_ hf
   have e2:a.flatten=(a.take 1).flatten++(a.drop 1).flatten:=by rw[←List.flatten_append,List.take_append_drop]
   rw[e2,e]
   simp
  have hlt':(0:Int)<a.length:=by omega
  simp (disch:=omega) only[↓ay,sss,if_true,if_false,hlt,hlt',hl,List.take_zero,List.nil_append,Int.toNat_zero,Int.zero_add]
  simpa using h
theorem ah.loop{k:Nat}{a:LJ}(hk:4194304≤k)(ha:a.length≤1048576)(hf:a.flatten.length≤1099511627776): ∀(m j i:Nat),i+m=a.length→m<j→
  ah.L0 k j (a.take i).flatten.length a.length i a=some a.flatten
 |m,0,i,_,hj=>by omega
 |0,j+1,i,hm,_=>by
  rw[ah.bo,ah.iJ]
  have e:i=a.length:=by omega
  subst e
  rw[List.take_length]
  have hn: ¬((a.flatten.length:Nat):Int)<0:=by omega
  simp (disch:=omega) only[↓ay,sss,if_true,if_false,Nat.lt_irrefl,hn,Int.sub_zero,Int.sub_self]
  by_cases h0:a.flatten.length=0
  ·have h0': ¬(0:Int)<(a.flatten.length:Nat):=by omega
   have h:=ah.app (k:=k) ha hf a.length (k+1) 0 (by omega) (by omega)
   simp only[h0',↓ay,sss,if_true,if_false]
   simpa using h
  ·have h0':(0:Int)<(a.flatten.length:Nat):=by omega
   have h1:(1:Int)≤(a.flatten.length:Nat):=by omega
   simp (disch:=omega) only[h0',h1,hf,↓ay,sss,if_true,if_false,Int.toNat_zero,Nat.le_refl,Int.le_refl,List.length_replicate,Nat.zero_le,gW,Nat.sub_self]
   exact ah.tail hk ha hf
 |m+1,j+1,i,hm,hj=>by
  rw[ah.bo]
  have hlt:i<a.length:=by omega
  have ih:=ah.loop (k:=k) hk ha hf m j (i+1) (by omega) (by omega)
  rw[Int.natCast_succ,Pu.take_succ hlt []]at ih
  have hl:((a.take i).flatten++a.getD i []).length≤1099511627776:=by
   refine Nat.le_trans ?_ hf
   have e:a.flatten=(a.take i).flatten++(a.drop i).flatten:=by rw[←List.flatten_append,List.take_append_drop]
   rw[e,Pu.drop_cons hlt []]
   simp only[List.flatten_cons,List.length_append]
   omega
  simp only[List.flatten_append,List.flatten_cons,List.flatten_nil,List.append_nil,List.length_append,Int.natCast_add]at ih hl
  have hn: ¬(((a.take i).flatten.length:Int)+(a.getD i []).length<0):=by omega
  simp (disch:=omega) only[↓ay,sss,if_true,if_false,hlt,hn,ah.eV,ih]
theorem ah.is{k:Nat}{a:LJ}(hk:4194304+2≤k)(ha:a.length≤1048576)(hf:a.flatten.length≤1099511627776):ah k a=some a.flatten:=by
 obtain⟨k,rfl⟩: ∃k',k=k'+2:=⟨k-2,by omega⟩
 rw[ah.eq]
 exact ah.loop (k:=k) (by omega) ha hf a.length (k+1) 0 (by omega) (by omega)
theorem dV.loop{k:Nat}{n:Nat}(hn:n≤1000): ∀(m j i:Nat),i+m=n→m<j→dV.L0 k j n i (Pu.nJ i)=some (Pu.nJ n)
 |m,0,i,_,hj=>by omega
 |0,j+1,i,hi,_=>by
  rw[dV.bo]
  have e:i=n:=by omega
  have hc: ¬(i:Int)<(n:Int):=by omega
  exact tX hc (by rw[e])
 |m+1,j+1,i,hi,hj=>by
  have hc:(i:Int)<(n:Int):=by omega
  have ih:=dV.loop (k:=k) hn m j (i+1) (by omega) (by omega)
  have hws:IntKind.i64.wrap ((i:Int)+1)=((i+1:Nat):Int):=by rw[w64 (by omega) (by omega)];omega
  have hu:Pu.nJ i++ [((i+1:Nat):Int)]=Pu.nJ (i+1):=by
   unfold Pu.nJ
   rw[List.range_succ,List.map_append]
   rfl
  have hap:(Pu.nJ i++ [((i+1:Nat):Int)]).length≤1099511627776:=by rw[hu,Pu.n5];omega
  rw[dV.bo]
  simp only[fg,cX,fQ,dI,hws]
  refine tG hc (tG hap ?_)
  rw[hu,ih]
theorem dV.is{k n:Nat}(hk:4194304+1≤k)(hn:n≤1000):dV k n=some (Pu.nJ n):=by
 obtain⟨k,rfl⟩: ∃k',k=k'+1:=⟨k-1,by omega⟩
 have h:=dV.loop (k:=k) hn n k 0 (by omega) (by omega)
 rw[Int.natCast_zero]at h
 rw[dV.eq]
 exact h
theorem cM.is{k:Nat}{n x:Int}(hk:1≤k):cM k n x=some (decide (x<n),x):=by
 obtain⟨k,rfl⟩: ∃k',k=k'+1:=⟨k-1,by omega⟩
 rw[cM.eq]
 rfl
theorem ak.loop{k:Nat}{r:LI}{x:Int}(hk:1≤k)(hr:r.length≤1048577): ∀(m j i:Nat),i+m=r.length→m<j→i≤r.findIdx (fun n=>decide (x<n))→
  ak.L0 k j r.length i r x=some (if r.findIdx (fun n=>decide (x<n))<r.length then((r.findIdx (fun n=>decide (x<n)):Nat):Int)else-1,x)
 |m,0,i,_,hj,_=>by omega
 |0,j+1,i,hm,_,hi=>by
  rw[ak.bo]
  have e:i=r.length:=by omega
  have h: ¬r.findIdx (fun n=>decide (x<n))<r.length:=by omega
  subst e
  rw[if_neg h]
  simp
 |m+1,j+1,i,hm,hj,hi=>by
  rw[ak.bo]
  have hlt:i<r.length:=by omega
  simp (disch:=omega) only[↓ay,sss,if_true,if_false,hlt,cM.is]
  by_cases c:x<r.getD i 0
  ·have e:r.findIdx (fun n=>decide (x<n))=i:=by
    refine Nat.le_antisymm ?_ hi
    exact Pu.findIdx_le hlt (by simpa using c)
   simp only[c,↓ay,sss,if_true,if_false,e,hlt]
  ·have hne:r.findIdx (fun n=>decide (x<n))≠i:=fun e=>by
    have:=Pu.oK (p:=fun n=>decide (x<n)) (r:=r) (by rw[e];exact hlt)
    rw[e]at this
    exact c (by simpa using this)
   have ih:=ak.loop (k:=k) (x:=x) hk hr m j (i+1) (by omega) (by omega) (by omega)
   rw[Int.natCast_succ]at ih
   simp only[c,↓ay,sss,if_true,if_false,ih]
theorem ak.is{k:Nat}{r:LI}{x:Int}(hk:4194304+1≤k)(hr:r.length≤1048577):
  ak k x r=some (if r.findIdx (fun n=>decide (x<n))<r.length then((r.findIdx (fun n=>decide (x<n)):Nat):Int)else-1,x):=by
 obtain⟨k,rfl⟩: ∃k',k=k'+1:=⟨k-1,by omega⟩
 rw[ak.eq]
 exact ak.loop (k:=k) (by omega) hr r.length k 0 (by omega) (by omega) (by omega)
theorem a7.loop{k:Nat}{inner:LI}(hk:4194304+1≤k): ∀(m j i:Nat) (x:Int) (rows:LJ),i+m=rows.length→m<j→rows.length≤1048576→(∀r∈rows,r.length≤1048576)→
  a7.L0 k j rows.length i x rows inner=some (((i+(Pu.bq (rows.drop i) x).2:Nat):Int),(inner,rows.take i++(Pu.bq (rows.drop i) x).1))
 |m,0,i,x,rows,_,hj,_,_=>by omega
 |0,j+1,i,x,rows,hm,_,hl,hr=>by
  rw[a7.bo]
  have e:i=rows.length:=by omega
  subst e
  have h1:rows.length+1≤1099511627776:=by omega
  simp (disch:=omega) only[↓ay,sss,if_true,if_false,Nat.lt_irrefl,h1,List.drop_length,List.take_length,Pu.bq,List.length_append,List.length_cons,List.length_nil,Int.natCast_add,Int.natCast_one,Int.natCast_zero,Int.add_zero,Int.zero_add,Nat.zero_add,Nat.add_zero,Int.add_sub_cancel]
 |m+1,j+1,i,x,rows,hm,hj,hl,hr=>by
  rw[a7.bo]
  have hlt:i<rows.length:=by omega
  have hx:=hr _ (List.getElem_mem hlt)
  rw[←Pu.au hlt []]at hx
  have hi:=ak.is (k:=k) (r:=rows.getD i []) (x:=x) (by omega) (by omega)
  rw[Pu.drop_cons hlt []]
  unfold Pu.bq
  generalize hf:(rows.getD i []).findIdx (fun n=>decide (x<n))=f at*
  by_cases c:f<(rows.getD i []).length
  ·rw[if_pos c]at hi⊢
   have ih:=a7.loop (inner:=inner) hk m j (i+1) ((rows.getD i []).getD f 0) (rows.set i ((rows.getD i []).set f x)) (by rw[List.length_set];omega) (by omega) (by rw[List.length_set];exact hl) (fun r h=>by
    rcases List.mem_or_eq_of_mem_set h with h|rfl
    ·exact hr r h
    ·rw[List.length_set];exact hx)
   rw[Pu.qV hlt,Pu.qN,List.length_set,Int.natCast_succ]at ih
   have hn: ¬(f:Int)<0:=by omega
   simp (disch:=omega) only[↓ay,sss,if_true,if_false,hlt,hi,hn,c,ih]
   simp only[List.append_assoc,List.singleton_append]
   congr 2
   omega
  ·rw[if_neg c]at hi⊢
   have hn:(-1:Int)<0:=by omega
   have h1:(rows.getD i []++ [x]).length≤1099511627776:=by simp only[List.length_append,List.length_cons,List.length_nil];omega
   simp (disch:=omega) only[↓ay,sss,if_true,if_false,hlt,hi,hn,h1,Nat.add_zero]
   rw[Pu.yu hlt]
theorem a7.is{k:Nat}{inner:LI}{x:Int}{rows:LJ}(hk:4194304+2≤k)(hl:rows.length≤1048576)(hr: ∀r∈rows,r.length≤1048576):
  a7 k x inner rows=some ((((Pu.bq rows x).2:Nat):Int),(inner,(Pu.bq rows x).1)):=by
 obtain⟨k,rfl⟩: ∃k',k=k'+1:=⟨k-1,by omega⟩
 rw[a7.eq]
 have h:=a7.loop (k:=k) (inner:=inner) (by omega) rows.length k 0 x rows (by omega) (by omega) hl hr
 rw[Int.natCast_zero]at h
 simpa using h
theorem aP.add{k k1:Nat}{i a n:Nat}{W v:LI}{x4:LI}{x5:LJ}{x6:LI}{x7:LJ}{pi:LI}{P:LJ}{qi:LI}{F:LJ}{z:Int}(hi:i<v.length)(hz:v.getD i 0=z)(ha:a<F.length)(hF: ∀r,(F.getD r []).length≤1000)(hw:i≤1000):
  aP.J1 k k1 i a n i v W x4 x5 x6 x7 pi P qi F=aP.L0 k k1 n ((i+1:Nat):Int) v W x4 x5 x6 x7 pi P qi (F.set a (F.getD a []++ [z])):=by
 rw[aP.eV]
 have h9:=hF a
 have hws:IntKind.i64.wrap ((i:Int)+1)=((i+1:Nat):Int):=by rw[w64 (by omega) (by omega)];omega
 have hap:(F.getD a []++ [z]).length≤1099511627776:=by rw[List.length_append,List.length_singleton];omega
 simp only[fc,dI,iL,iv,fQ,fg,cX,Int.toNat_natCast,hws,hz]
 have a0:=Int.natCast_nonneg a
 exact tG a0 (tG ha (tG ha (tG (Int.natCast_nonneg i) (tG hi (tG hi (tG ha (tG hap (tG a0 (tG ha (tG ha (tG rfl rfl)))))))))))
theorem aP.loop{k:Nat}{W v:LI}{x4:LI}{x5:LJ}{x6:LI}{x7:LJ}(hk:4194304+20≤k)(hW:W.length≤9)(hx: ∀x∈W,1≤x∧x≤9)(hv:v.length=W.length): ∀(m j i:Nat) (P Q Q':LJ),i+m=W.length→m<j→Pu.Ins P Q' i→Pu.fb Q Q'→
  aP.L0 k j W.length i v W x4 x5 x6 x7 [] P [] Q=some (([],Pu.jm (W.drop i) P),([],Pu.Ch ((v.zip W).drop i) P Q))
 |m,0,i,P,Q,Q',_,hj,_,_=>by omega
 |0,j+1,i,P,Q,Q',hi,_,_,_=>by
  rw[aP.bo]
  have hn: ¬(i:Int)<W.length:=by omega
  refine tX hn ?_
  rw[List.drop_of_length_le (by omega),List.drop_of_length_le (by rw[List.length_zip];omega)]
  rfl
 |m+1,j+1,i,P,Q,Q',hi,hj,h,hs=>by
  have hlt:i<W.length:=by omega
  have hn:(i:Int)<W.length:=by omega
  have hxi:=hx _ (List.getElem_mem hlt)
  rw[←Pu.au hlt 0]at hxi
  obtain⟨s1,_,_⟩:=h.step hxi (by omega)
  have ha:=(Pu.vh P (W.getD i 0)).1
  rw[h.same.1,←hs.1]at ha
  have ih:=aP.loop (x4:=x4) (x5:=x5) (x6:=x6) (x7:=x7) hk hW hx hv m j (i+1) (Pu.bq P (W.getD i 0)).1 (Pu.g7 Q (Pu.bq P (W.getD i 0)).2 (v.getD i 0)) _ (by omega) (by omega) s1 (Pu.By hs ha _ _)
  have hP:=Pu.iM (Pu.uf h (by omega))
  have hQ:=Pu.iM h.pl
  have hP1:P.length≤9:=hP.1
  have hQ1:Q.length≤9:=by rw[hs.1];exact hQ.1
  have hins:=a7.is (k:=k) (inner:= []) (x:=W.getD i 0) (rows:=P) (by omega) (by omega) (fun r hr=>by have:=hP.2 r hr;omega)
  have hul:i<v.length:=by omega
  rw[aP.bo,Pu.drop_cons hlt 0,Pu.EP hul hlt]
  show _=some (([],Pu.jm (W.drop (i+1)) (Pu.bq P (W.getD i 0)).1),([],Pu.Ch ((v.zip W).drop (i+1)) (Pu.bq P (W.getD i 0)).1 (Pu.g7 Q (Pu.bq P (W.getD i 0)).2 (v.getD i 0))))
  rw[←ih]
  simp only[fc,dI,eX,iL,Int.toNat_natCast]
  refine tG hn (tG (Int.natCast_nonneg i) (tG hlt (tG hlt (bE hins ?_))))
  simp only
  have hq9: ∀r,(Q.getD r []).length≤9:=fun r=>by rw[hs.2];exact hQ.at r
  generalize(Pu.bq P (W.getD i 0)).2=a at*
  unfold Pu.g7
  by_cases c:a=Q.length
  ·have hc:((a:Nat):Int)=(Q.length:Int):=by omega
   have hap:(Q++ [[]]).length≤1099511627776:=by rw[List.length_append,List.length_singleton];omega
   have hF: ∀r,((Q++ [[]]).getD r []).length≤1000:=fun r=>by
    by_cases hr:r<Q.length
    ·simp only[List.getD_eq_getElem?_getD,List.getElem?_append_left hr]
     have:=hq9 r
     simp only[List.getD_eq_getElem?_getD]at this
     omega
    ·simp only[List.getD_eq_getElem?_getD,List.getElem?_append_right (Nat.le_of_not_lt hr)]
     cases r-Q.length<;>simp
   refine tG hc (tG hap ?_)
   simp only[fQ]
   rw[aP.add hul rfl (by rw[List.length_append,List.length_singleton];omega) hF (by omega),if_pos c]
   congr 1
   rw[c]
   simp
  ·have hc: ¬((a:Nat):Int)=(Q.length:Int):=by omega
   refine tX hc ?_
   rw[aP.add hul rfl (by omega) (fun r=>by have:=hq9 r;omega) (by omega),if_neg c]
theorem aP.isL{k:Nat}{W v:LI}(hk:4194304+30≤k)(h:Pu.isWord W=true)(hv:v.length=W.length):aP k W v=some (([],Pu.jm W []),([],Pu.Ch (v.zip W) [] [])):=by
 obtain⟨k,rfl⟩: ∃k',k=k'+1:=⟨k-1,by omega⟩
 obtain⟨h1,h2⟩:=Pu.gI h
 have hl:=aP.loop (k:=k) (x4:= []) (x5:= []) (x6:= []) (x7:= []) (by omega) h1 h2 hv W.length k 0 [] [] [] (by omega) (by omega) Pu.Ins.nil ⟨rfl,fun _=>rfl⟩
 rw[Int.natCast_zero,List.drop_zero,List.drop_zero]at hl
 rw[aP.eq]
 exact hl
theorem aP.is{k:Nat}{W:LI}(hk:4194304+30≤k)(h:Pu.isWord W=true):aP k W (Pu.nJ W.length)=some (([],Pu.jm W []),([],Pu.nv W [] [] 0)):=by
 rw[←Pu.DG]
 exact aP.isL hk h (Pu.n5 _)
theorem dY.is{k:Nat}{w:LI}(hk:4194304+40≤k)(hw:w.length≤1048576):dY k w=some (Pu.dE w):=by
 obtain⟨k,rfl⟩: ∃k',k=k'+1:=⟨k-1,by omega⟩
 have h1:=gJ.is (k:=k) (w:=w) (by omega) hw
 rw[dY.eq]
 unfold Pu.dE
 refine bE h1 ?_
 cases c:Pu.isWord w with
 |false=>exact tM rfl
 |true=>
  have h9:=(Pu.gI c).1
  exact tN (bE (dV.is (n:=w.length) (by omega) (by omega)) (bE (aP.is (by omega) c) rfl))
theorem bW.is{k:Nat}{a b:Pu.Tab}(hk:4194304+60≤k)(ha:Pu.iO a)(hb:Pu.iO b):bW k a b=some (Pu.dW a b):=by
 obtain⟨k,rfl⟩: ∃k',k=k'+1:=⟨k-1,by omega⟩
 rw[bW.eq]
 refine bE (dn.is (t:=a) (by omega) ha.1 ha.2.1 ha.2.2) ?_
 unfold Pu.dW
 cases hp:Pu.ba a with
 |false=>rw[if_neg (fun h=>by cases h.1)];exact tM rfl
 |true=>
  refine tN (bE (dn.is (t:=b) (by omega) hb.1 hb.2.1 hb.2.2) ?_)
  cases hq:Pu.ba b with
  |false=>rw[if_neg (fun h=>by cases h.2)];exact tM rfl
  |true=>
   have wa:=bB.is (k:=k) (t:=a) (by omega) ha.1 ha.2.1 ha.2.2
   have wb:=bB.is (k:=k) (t:=b) (by omega) hb.1 hb.2.1 hb.2.2
   have la:a.2.reverse.flatten.length=a.2.flatten.length:=by simp[List.length_flatten,List.map_reverse,List.sum_reverse]
   have lb:b.2.reverse.flatten.length=b.2.flatten.length:=by simp[List.length_flatten,List.map_reverse,List.sum_reverse]
   have na:=Pu.ig hp
   have nb:=Pu.ig hq
   have hp':=hp
   have hq':=hq
   simp only[Pu.ba,Bool.and_eq_true]at hp' hq'
   rw[if_pos hp'.1]at wa
   rw[if_pos hq'.1]at wb
   have hi:=dY.is (k:=k) (w:=a.2.reverse.flatten++b.2.reverse.flatten) (by omega) (by rw[List.length_append];omega)
   rw[if_pos ⟨rfl,rfl⟩]
   refine tN ?_
   rw[bW.fG]
   have hc:=ah.is (k:=k) (a:= [a.2.reverse.flatten,b.2.reverse.flatten]) (by omega) (by simp) (by simp only[List.flatten_cons,List.flatten_nil,List.append_nil,List.length_append];omega)
   simp only[List.flatten_cons,List.flatten_nil,List.append_nil]at hc
   exact bE wa (bE wb (bE hc (bE hi rfl)))
theorem a9.loop{k:Nat}{t:Pu.Tab}(hk:4194304+8≤k)(h1:t.1.length≤1048576)(ht:t.2.length≤1048576)(hr: ∀x∈t.2,x.length≤1048576)(hb:Pu.dD t=true): ∀(m j:Nat) (w:LI),m≤t.2.length→m<j→w.length+Pu.j4 (t.2.take m)≤1099511627776→a9.L0 k j ((m:Int)-1) w t.1 t.2=some (w++(t.2.take m).reverse.flatten)
 |m,0,w,_,hj,_=>by omega
 |0,j+1,w,_,_,_=>by
  rw[a9.bo]
  have hn: ¬(0:Int)≤((0:Nat):Int)-1:=by omega
  simp only[↓ay,sss,if_true,if_false,hn]
  simp
 |m+1,j+1,w,hm,hj,hs=>by
  rw[a9.bo,show((t.1,t.2):Pu.Tab)=t from rfl,a9.eV]
  have e:(((m+1:Nat):Int)-1)=(m:Int):=by omega
  have hlt:m<t.2.length:=by omega
  have htk:=Pu.take_succ hlt []
  have hsz: ∀(a b:LJ),Pu.j4 (a++b)=Pu.j4 a+Pu.j4 b:=by
   intro a b
   induction a with
   |nil=>simp[Pu.j4]
   |cons x a ih=>simp only[List.cons_append,Pu.j4,ih];omega
  rw[htk,hsz]at hs
  simp only[Pu.j4]at hs
  have hl:(w++t.2.getD m []).length≤1099511627776:=by rw[List.length_append];omega
  have h0:(0:Int)≤(m:Int):=by omega
  have ih:=a9.loop hk h1 ht hr hb m j (w++t.2.getD m []) (by omega) (by omega) (by rw[List.length_append];omega)
  have hit:=aB.is (k:=k) (t:=t) (by omega) h1 ht hr
  rw[hb]at hit
  rw[e]
  simp (disch:=omega) only[↓ay,sss,if_true,if_false,h0,hlt,hl,hit,ih]
  rw[htk,List.reverse_append,List.flatten_append]
  simp
theorem a9.is{k:Nat}{t:Pu.Tab}(hk:4194304+10≤k)(h1:t.1.length≤1048576)(ht:t.2.length≤1048576)(hr: ∀x∈t.2,x.length≤1048576):a9 k t=some (if Pu.dD t=true then t.2.reverse.flatten else []):=by
 obtain⟨k,rfl⟩: ∃k',k=k'+1:=⟨k-1,by omega⟩
 rw[a9.eq]
 have ew:D.wrap .i64 (D.sub (D.ofN (D.len t.2)) 1)=(t.2.length:Int)-1:=by
  show IntKind.i64.wrap ((t.2.length:Int)-1)=_
  rw[w64 (by omega) (by omega)]
 rw[ew]
 cases hb:Pu.dD t with
 |false=>
  have hit:=aB.is (k:=k) (t:=t) (by omega) h1 ht hr
  rw[hb]at hit
  obtain⟨j,rfl⟩: ∃j,k=j+1:=⟨k-1,by omega⟩
  rw[a9.bo,show((t.1,t.2):Pu.Tab)=t from rfl]
  by_cases c:(0:Int)≤(t.2.length:Int)-1
  ·exact tG c (bE hit rfl)
  ·exact tX c rfl
 |true=>
  have hs:=Pu.xX ht hr
  have hl:=a9.loop (k:=k) (t:=t) (by omega) h1 ht hr hb t.2.length k [] (Nat.le_refl _) (by omega) (by rw[List.take_length];simpa using hs)
  rw[List.take_length]at hl
  rw[hl,List.nil_append,if_pos rfl]
theorem aS.inner{k k1:Nat}{x:Int}{i:Nat}{x3 x5:LI}{x4 rows:LJ}(hlt:i<rows.length)(hx:(rows.getD i []).length≤1048576): ∀(m j q:Nat),q+m=(rows.getD i []).length→m<j→q≤(rows.getD i []).findIdx (fun n=>decide (x<n))→
  aS.L1 k k1 j x i q x3 x4 x5 rows=aS.J3 k k1 x i (((rows.getD i []).findIdx (fun n=>decide (x<n)):Nat):Int) x3 x4 x5 rows
 |m,0,q,_,hj,_=>by omega
 |0,j+1,q,hm,_,hq=>by
  rw[aS.ep]
  have hle:(rows.getD i []).findIdx (fun n=>decide (x<n))≤(rows.getD i []).length:=List.findIdx_le_length
  have e:(rows.getD i []).findIdx (fun n=>decide (x<n))=q:=by omega
  have hn: ¬q<(rows.getD i []).length:=by omega
  simp (disch:=omega) only[↓ay,sss,if_true,if_false,hlt,hn,e]
 |m+1,j+1,q,hm,hj,hq=>by
  rw[aS.ep]
  have hn:q<(rows.getD i []).length:=by omega
  simp (disch:=omega) only[↓ay,sss,if_true,if_false,hlt,hn,aS.iJ]
  by_cases c:(rows.getD i []).getD q 0≤x
  ·have hne:(rows.getD i []).findIdx (fun n=>decide (x<n))≠q:=fun e=>by
    have:=Pu.oK (p:=fun n=>decide (x<n)) (r:=rows.getD i []) (by rw[e];exact hn)
    rw[e]at this
    simp only[decide_eq_true_eq]at this
    omega
   have ih:=aS.inner (k:=k) (k1:=k1) (x:=x) (x3:=x3) (x4:=x4) (x5:=x5) hlt hx m j (q+1) (by omega) (by omega) (by omega)
   rw[Int.natCast_succ]at ih
   simp (disch:=omega) only[↓ay,sss,if_true,if_false,c,ih]
  ·have e:(rows.getD i []).findIdx (fun n=>decide (x<n))=q:=by
    refine Nat.le_antisymm (Pu.findIdx_le hn ?_) hq
    simp only[decide_eq_true_eq];omega
   simp only[c,↓ay,sss,if_true,if_false,e]
theorem aS.loop{k:Nat}{inner x3:LI}{x4:LJ}(hk:4194304≤k): ∀(m j i:Nat) (x:Int) (rows:LJ),i+m=rows.length→m<j→rows.length≤1048576→(∀r∈rows,r.length≤1048576)→
  aS.L0 k j x i x3 x4 inner rows=some ((inner,rows.take i++(Pu.bq (rows.drop i) x).1),((i+(Pu.bq (rows.drop i) x).2:Nat):Int))
 |m,0,i,x,rows,_,hj,_,_=>by omega
 |0,j+1,i,x,rows,hm,_,hl,hr=>by
  rw[aS.bo]
  have e:i=rows.length:=by omega
  subst e
  have h1:rows.length+1≤1099511627776:=by omega
  simp (disch:=omega) only[↓ay,sss,if_true,if_false,Nat.lt_irrefl,h1,List.drop_length,List.take_length,Pu.bq,List.length_append,List.length_cons,List.length_nil,Int.natCast_add,Int.natCast_one,Int.natCast_zero,Int.add_zero,Int.zero_add,Nat.zero_add,Nat.add_zero,Int.add_sub_cancel]
 |m+1,j+1,i,x,rows,hm,hj,hl,hr=>by
  rw[aS.bo]
  have hlt:i<rows.length:=by omega
  have hx:=hr _ (List.getElem_mem hlt)
  rw[←Pu.au hlt []]at hx
  have hin:=aS.inner (k:=k) (k1:=j) (x:=x) (x3:=x3) (x4:=x4) (x5:=inner) hlt hx (rows.getD i []).length k 0 (by omega) (by omega) (by omega)
  rw[Int.natCast_zero]at hin
  rw[Pu.drop_cons hlt []]
  unfold Pu.bq
  generalize hf:(rows.getD i []).findIdx (fun n=>decide (x<n))=f at*
  have hle:f≤(rows.getD i []).length:=by rw[←hf];exact List.findIdx_le_length
  simp (disch:=omega) only[↓ay,sss,if_true,if_false,hlt,hin]
  rw[aS.ky]
  by_cases c:f<(rows.getD i []).length
  ·rw[if_pos c]
   have ih:=aS.loop (inner:=inner) (x3:=x3) (x4:=x4) hk m j (i+1) ((rows.getD i []).getD f 0) (rows.set i ((rows.getD i []).set f x)) (by rw[List.length_set];omega) (by omega) (by rw[List.length_set];exact hl) (fun r h=>by
    rcases List.mem_or_eq_of_mem_set h with h|rfl
    ·exact hr r h
    ·rw[List.length_set];exact hx)
   rw[Pu.qV hlt,Pu.qN,Int.natCast_succ]at ih
   have hn: ¬(f:Int)=((rows.getD i []).length:Int):=by omega
   simp (disch:=omega) only[↓ay,sss,if_true,if_false,hlt,hn,c,ih]
   simp only[List.append_assoc,List.singleton_append]
   congr 2
   omega
  ·rw[if_neg c]
   have hn:(f:Int)=((rows.getD i []).length:Int):=by omega
   have h1:(rows.getD i []++ [x]).length≤1099511627776:=by simp only[List.length_append,List.length_cons,List.length_nil];omega
   simp (disch:=omega) only[↓ay,sss,if_true,if_false,hlt,hn,h1,Nat.add_zero]
   rw[Pu.yu hlt]
theorem aS.is{k:Nat}{t:Pu.Tab}{x:Int}(hk:4194304+2≤k)(h1:t.1.length≤1048576)(hl:t.2.length≤1048576)(hr: ∀r∈t.2,r.length≤1048576):
  aS k t x=some ((t.1,(Pu.bq t.2 x).1),(((Pu.bq t.2 x).2:Nat):Int)):=by
 obtain⟨k,rfl⟩: ∃k',k=k'+1:=⟨k-1,by omega⟩
 rw[aS.eq,cJ.is (by omega) h1 hl hr,cS]
 have h:=aS.loop (k:=k) (inner:=t.1) (x3:= []) (x4:= []) (by omega) t.2.length k 0 x t.2 (by omega) (by omega) hl hr
 rw[Int.natCast_zero]at h
 simpa using h
theorem bR.add{k k1:Nat}{i a:Nat}{W:LI}{x3:LI}{x4:LJ}{x5:LI}{x6:LJ}{pi:LI}{P:LJ}{qi:LI}{F:LJ}(ha:a<F.length)(hF: ∀r,(F.getD r []).length≤1000)(hw:i≤1000):
  bR.J1 k k1 i a W x3 x4 x5 x6 pi P qi F=bR.L0 k k1 ((i+1:Nat):Int) W x3 x4 x5 x6 pi P qi (F.set a (F.getD a []++ [((i+1:Nat):Int)])):=by
 rw[bR.eV]
 have h9:=hF a
 have hws:IntKind.i64.wrap ((i:Int)+1)=((i+1:Nat):Int):=by rw[w64 (by omega) (by omega)];omega
 have hap:(F.getD a []++ [((i+1:Nat):Int)]).length≤1099511627776:=by rw[List.length_append,List.length_singleton];omega
 simp only[fc,dI,iL,iv,fQ,fg,cX,Int.toNat_natCast,hws]
 have a0:=Int.natCast_nonneg a
 exact tG a0 (tG ha (tG ha (tG ha (tG hap (tG a0 (tG ha (tG ha (tG rfl rfl))))))))
theorem bR.loop{k:Nat}{W:LI}{x3:LI}{x4:LJ}{x5:LI}{x6:LJ}(hk:4194304+20≤k)(hW:W.length≤9)(hx: ∀x∈W,1≤x∧x≤9): ∀(m j i:Nat) (P Q:LJ),i+m=W.length→m<j→Pu.Ins P Q i→
  bR.L0 k j i W x3 x4 x5 x6 [] P [] Q=some (([],Pu.jm (W.drop i) P),([],Pu.nv (W.drop i) P Q i))
 |m,0,i,P,Q,_,hj,_=>by omega
 |0,j+1,i,P,Q,hi,_,_=>by
  rw[bR.bo]
  have hn: ¬(i:Int)<W.length:=by omega
  refine tX hn ?_
  rw[List.drop_of_length_le (by omega)]
  rfl
 |m+1,j+1,i,P,Q,hi,hj,h=>by
  have hlt:i<W.length:=by omega
  have hn:(i:Int)<W.length:=by omega
  have hxi:=hx _ (List.getElem_mem hlt)
  rw[←Pu.au hlt 0]at hxi
  obtain⟨s1,_,_⟩:=h.step hxi (by omega)
  have ih:=bR.loop (x3:=x3) (x4:=x4) (x5:=x5) (x6:=x6) hk hW hx m j (i+1) (Pu.bq P (W.getD i 0)).1 (Pu.g7 Q (Pu.bq P (W.getD i 0)).2 ((i+1:Nat):Int)) (by omega) (by omega) s1
  have hP:=Pu.iM (Pu.uf h (by omega))
  have hQ:=Pu.iM h.pl
  have hP1:P.length≤9:=hP.1
  have hQ1:Q.length≤9:=hQ.1
  have hins:=aS.is (k:=k) (t:=([],P)) (x:=W.getD i 0) (by omega) (by simp) (by simp only;omega) (fun r hr=>by have:=hP.2 r hr;omega)
  have ha:=(Pu.vh P (W.getD i 0)).1
  rw[h.same.1]at ha
  rw[bR.bo,Pu.drop_cons hlt 0]
  show _=some (([],Pu.jm (W.drop (i+1)) (Pu.bq P (W.getD i 0)).1),([],Pu.nv (W.drop (i+1)) (Pu.bq P (W.getD i 0)).1 (Pu.g7 Q (Pu.bq P (W.getD i 0)).2 ((i+1:Nat):Int)) (i+1)))
  rw[←ih]
  simp only[fc,dI,eX,iL,Int.toNat_natCast]
  refine tG hn (tG (Int.natCast_nonneg i) (tG hlt (tG hlt (bE hins ?_))))
  simp only
  have hq9: ∀r,(Q.getD r []).length≤9:=fun r=>hQ.at r
  generalize(Pu.bq P (W.getD i 0)).2=a at*
  unfold Pu.g7
  by_cases c:a=Q.length
  ·have hc:((a:Nat):Int)=(Q.length:Int):=by omega
   have hap:(Q++ [[]]).length≤1099511627776:=by rw[List.length_append,List.length_singleton];omega
   have hF: ∀r,((Q++ [[]]).getD r []).length≤1000:=fun r=>by
    by_cases hr:r<Q.length
    ·simp only[List.getD_eq_getElem?_getD,List.getElem?_append_left hr]
     have:=hq9 r
     simp only[List.getD_eq_getElem?_getD]at this
     omega
    ·simp only[List.getD_eq_getElem?_getD,List.getElem?_append_right (Nat.le_of_not_lt hr)]
     cases r-Q.length<;>simp
   refine tG hc (tG hap ?_)
   simp only[fQ]
   rw[bR.add (by rw[List.length_append,List.length_singleton];omega) hF (by omega),if_pos c]
   congr 1
   rw[c]
   simp
  ·have hc: ¬((a:Nat):Int)=(Q.length:Int):=by omega
   refine tX hc ?_
   rw[bR.add (by omega) (fun r=>by have:=hq9 r;omega) (by omega),if_neg c]
theorem bR.is{k:Nat}{W:LI}(hk:4194304+30≤k)(h:Pu.isWord W=true):bR k W=some (([],Pu.jm W []),([],Pu.nv W [] [] 0)):=by
 obtain⟨k,rfl⟩: ∃k',k=k'+1:=⟨k-1,by omega⟩
 obtain⟨h1,h2⟩:=Pu.gI h
 have hl:=bR.loop (k:=k) (x3:= []) (x4:= []) (x5:= []) (x6:= []) (by omega) h1 h2 W.length k 0 [] [] (by omega) (by omega) Pu.Ins.nil
 rw[Int.natCast_zero,List.drop_zero]at hl
 rw[bR.eq]
 exact hl
theorem fL.is{k:Nat}{w:LI}(hk:4194304+40≤k)(hw:w.length≤1048576):fL k w=some (Pu.dE w):=by
 obtain⟨k,rfl⟩: ∃k',k=k'+1:=⟨k-1,by omega⟩
 have h1:=ca.is (k:=k) (w:=w) (by omega) hw
 rw[fL.eq]
 unfold Pu.dE
 refine bE h1 ?_
 cases c:Pu.isWord w with
 |false=>exact tM rfl
 |true=>exact tN (bE (bR.is (by omega) c) rfl)
theorem bX.is{k:Nat}{a b:Pu.Tab}(hk:4194304+60≤k)(ha:Pu.iO a)(hb:Pu.iO b):bX k a b=some (Pu.dW a b):=by
 obtain⟨k,rfl⟩: ∃k',k=k'+1:=⟨k-1,by omega⟩
 rw[bX.eq]
 refine bE (dq.is (t:=a) (by omega) ha.1 ha.2.1 ha.2.2) ?_
 unfold Pu.dW
 cases hp:Pu.ba a with
 |false=>rw[if_neg (fun h=>by cases h.1)];exact tM rfl
 |true=>
  refine tN (bE (dq.is (t:=b) (by omega) hb.1 hb.2.1 hb.2.2) ?_)
  cases hq:Pu.ba b with
  |false=>rw[if_neg (fun h=>by cases h.2)];exact tM rfl
  |true=>
   have wa:=a9.is (k:=k) (t:=a) (by omega) ha.1 ha.2.1 ha.2.2
   have wb:=a9.is (k:=k) (t:=b) (by omega) hb.1 hb.2.1 hb.2.2
   have la:a.2.reverse.flatten.length=a.2.flatten.length:=by simp[List.length_flatten,List.map_reverse,List.sum_reverse]
   have lb:b.2.reverse.flatten.length=b.2.flatten.length:=by simp[List.length_flatten,List.map_reverse,List.sum_reverse]
   have na:=Pu.ig hp
   have nb:=Pu.ig hq
   have hp':=hp
   have hq':=hq
   simp only[Pu.ba,Bool.and_eq_true]at hp' hq'
   rw[if_pos hp'.1]at wa
   rw[if_pos hq'.1]at wb
   have hi:=fL.is (k:=k) (w:=a.2.reverse.flatten++b.2.reverse.flatten) (by omega) (by rw[List.length_append];omega)
   rw[if_pos ⟨rfl,rfl⟩]
   refine tN ?_
   rw[bX.fG]
   exact bE wa (bE wb (tG (show(a.2.reverse.flatten++b.2.reverse.flatten).length≤1099511627776 by rw[List.length_append];omega) (bE hi rfl)))
theorem bz.loop{k:Nat}{t:Pu.Tab}{x3 x4:LI}{x5:LJ}(hk:1≤k)(ht:t.2.length≤1048576)(hr: ∀x∈t.2,x.length≤1048576): ∀(m j i:Nat),i+m=t.2.length→m<j→
  bz.L0 k j t.2.length i t.2 x3 x5 x4 (t.2.take i)=some (x4,t.2)
 |m,0,i,_,hj=>by omega
 |0,j+1,i,hm,_=>by
  rw[bz.bo]
  have e:i=t.2.length:=by omega
  subst e
  simp
 |m+1,j+1,i,hm,hj=>by
  rw[bz.bo]
  have hlt:i<t.2.length:=by omega
  have hx:=hr _ (List.getElem_mem hlt)
  rw[←Pu.au hlt []]at hx
  have ih:=bz.loop (k:=k) (x3:=x3) (x4:=x4) (x5:=x5) hk ht hr m j (i+1) (by omega) (by omega)
  rw[Int.natCast_succ,Pu.take_succ hlt []]at ih
  have hl:(t.2.take i++ [t.2.getD i []]).length≤1099511627776:=by simp;omega
  simp (disch:=omega) only[↓ay,sss,if_true,if_false,hlt,hl,bI.is,ih]
theorem bz.is{k:Nat}{t:Pu.Tab}(hk:4194304+1≤k)(h1:t.1.length≤1048576)(ht:t.2.length≤1048576)(hr: ∀x∈t.2,x.length≤1048576):bz k t=some t:=by
 obtain⟨k,rfl⟩: ∃k',k=k'+1:=⟨k-1,by omega⟩
 rw[bz.eq,bI.is (by omega) (by omega)]
 have h:=bz.loop (k:=k) (t:=t) (x3:= []) (x4:=t.1) (x5:= []) (by omega) ht hr t.2.length k 0 (by omega) (by omega)
 rw[Int.natCast_zero,List.take_zero]at h
 exact h
theorem bF.is{k:Nat}{x y:LJ}(hk:8≤k)(hx:x.length≤1048576)(hy:y.length≤1048576):bF k x y=some (x++y,()):=by
 obtain⟨k,rfl⟩: ∃k',k=k'+8:=⟨k-8,by omega⟩
 rw[bF.eq]
 have w1:IntKind.i64.wrap (x.length:Int)=x.length:=w64 (by omega) (by omega)
 have w2:IntKind.i64.wrap ((x.length:Int)+y.length)=x.length+y.length:=w64 (by omega) (by omega)
 have w3:IntKind.i64.wrap 0=0:=w64 (by omega) (by omega)
 simp only[cX,fg,eX,dI,Int.zero_add,w1,w2]
 have n1: ¬(x.length:Int)<0:=by omega
 have n2: ¬(x.length:Int)+y.length<0:=by omega
 rw[Pu.gr,if_neg n1,Pu.gr,if_neg n2,Pu.gr,if_neg n2,bF.fG]
 simp only[cX,jr,Int.sub_self,w3,Int.sub_zero,w2]
 have hl:(x++y).length≤1099511627776:=by rw[List.length_append];omega
 rw[Pu.gr]
 split
 ·next h=>
  refine tG (by decide) (tG (by decide) (tG ((by omega)) (tG ((show((x.length:Int)+y.length).toNat≤1099511627776 by omega)) (tG (by decide) (tG ((Nat.zero_le _)) ?_)))))
  refine tG (?_) (tG (?_) ?_)
  ·show([]++x).length≤_
   rw[List.nil_append];omega
  ·show(([]++x)++y).length≤_
   rw[List.nil_append];exact hl
  ·rfl
 ·refine tG (?_) (tG (?_) ?_)
  ·show([]++x).length≤_
   rw[List.nil_append];omega
  ·show(([]++x)++y).length≤_
   rw[List.nil_append];exact hl
  ·rfl
theorem fH.is{k n:Nat}(hk:1≤k)(hn:n≤1048576):fH k 1 n=some (0,(n:Int)):=by
 obtain⟨k,rfl⟩: ∃k',k=k'+1:=⟨k-1,by omega⟩
 rw[fH.eq]
 have e1:D.shrI .u64 1 32=0:=Pu.El (n:=1) (by omega)
 have e2:D.andI .u64 1 4294967295=1:=Pu.E0 (n:=1) (by omega)
 have e3:=Pu.El (n:=n) (by omega)
 have e4:=Pu.E0 (n:=n) (by omega)
 have e5:D.shrI .u64 0 32=0:=Pu.El (n:=0) (by omega)
 have e6:D.andI .u64 0 4294967295=0:=Pu.E0 (n:=0) (by omega)
 have w0:IntKind.u64.wrap 0=0:=Pu.E3 (by omega) (by omega)
 have wn:IntKind.u64.wrap (n:Int)=n:=Pu.E3 (by omega) (by omega)
 simp only[e1,e2,e3,e4,lM,cX,fg,Int.zero_mul,Int.one_mul,Int.mul_zero,Int.add_zero,w0,wn,e5,e6]
 rfl
theorem fS.is{k n:Nat}(hk:2≤k)(hn:n≤1048576):fS k 1 n=some (0,(n:Int)):=by
 obtain⟨k,rfl⟩: ∃k',k=k'+1:=⟨k-1,by omega⟩
 rw[fS.eq,fH.is (by omega) hn,cS]
theorem aE.loop{k n:Nat}{v:Int}(hn:n≤1048576): ∀(j d m:Nat),m+d=n→1≤m→d<j→aE.L2 k j m (List.replicate m v++List.replicate d (0:Int))=some (List.replicate n v)
 |0,d,m,_,_,h=>by omega
 |j+1,d,m,hm,h1,hj=>by
  rw[aE.qZ]
  have hlen:(List.replicate m v++List.replicate d (0:Int)).length=n:=by simp;omega
  by_cases hd:d=0
  ·subst hd
   have e:m=n:=by omega
   subst e
   refine Eq.trans (Pu.gr _ _ _ _) ?_
   rw[if_neg (by show¬(m:Int)<((List.replicate m v++List.replicate 0 (0:Int)).length:Nat);rw[hlen];omega)]
   simp
  ·have e2:D.take (D.subN (D.len (List.replicate m v++List.replicate d (0:Int))) (D.nat m)) (D.take (D.subN (D.nat m) 0) (D.drop 0 (List.replicate m v++List.replicate d (0:Int))))=List.replicate (min (n-m) m) v:=by
    show((List.replicate m v++List.replicate d (0:Int)).take m).take ((List.replicate m v++List.replicate d (0:Int)).length-m)=_
    rw[hlen,List.take_append_of_le_length (by simp),List.take_replicate,List.take_replicate]
    congr 1;omega
   rw[e2]
   have hnew:D.app (D.take (D.addN (D.nat m) 0) (List.replicate m v++List.replicate d (0:Int))) (D.app (List.replicate (min (n-m) m) v) (D.drop (D.addN (D.nat m) (D.len (List.replicate (min (n-m) m) v))) (List.replicate m v++List.replicate d (0:Int))))=
     List.replicate (m+min (n-m) m) v++List.replicate (d-min (n-m) m) (0:Int):=by
    show(List.replicate m v++List.replicate d (0:Int)).take m++(List.replicate (min (n-m) m) v++(List.replicate m v++List.replicate d (0:Int)).drop (m+(List.replicate (min (n-m) m) v).length))=_
    rw[List.take_append_of_le_length (by simp),List.take_replicate,Nat.min_self,List.length_replicate,List.drop_append,List.drop_replicate,List.drop_replicate,List.length_replicate,←List.append_assoc,List.replicate_append_replicate]
    rw[show m-(m+min (n-m) m)=0 by omega,show m+min (n-m) m-m=min (n-m) m by omega]
    rfl
   have hz:IntKind.i64.wrap ((m:Int)+(min (n-m) m:Nat))=((m+min (n-m) m:Nat):Int):=by
    rw[w64 (by omega) (by omega)];omega
   have ih:=aE.loop (k:=k) (v:=v) hn j (d-min (n-m) m) (m+min (n-m) m) (by omega) (by omega) (by omega)
   rw[hnew]
   simp only[fg,cX,eX,dI,fc,hlen,List.length_replicate,Int.toNat_natCast]
   rw[hz,ih]
   refine tG ((by omega)) (tG ((by omega)) (tG ((by omega)) (tG ((by omega)) (tG ((by omega)) rfl))))
theorem aE.is{k n:Nat}{v:Int}(hk:4194304+4≤k)(hn:n≤1048576):aE k [v] n=some (List.replicate n v):=by
 obtain⟨k,rfl⟩: ∃k',k=k'+1:=⟨k-1,by omega⟩
 rw[aE.eq]
 refine Eq.trans (Pu.gr _ _ _ _) ?_
 rw[if_neg (by omega),aE.fG]
 have w1:IntKind.u64.wrap 1=1:=Pu.E3 (by omega) (by omega)
 have wn:IntKind.u64.wrap (n:Int)=n:=Pu.E3 (by omega) (by omega)
 have wi:IntKind.i64.wrap (n:Int)=n:=w64 (by omega) (by omega)
 show D.bnd (fS k (IntKind.u64.wrap 1) (IntKind.u64.wrap n)) _=_
 rw[w1,wn,fS.is (by omega) hn,cS]
 refine Eq.trans (Pu.gr _ _ _ _) ?_
 rw[if_neg (by simp)]
 refine Eq.trans (Pu.gr _ _ _ _) ?_
 rw[if_neg (by show¬(9223372036854775807:Int)<n;omega),aE.eV]
 simp only[cX,wi]
 refine tG ((by omega)) (tG ((by omega)) (tG ((show(n:Int).toNat≤1099511627776 by omega)) ?_))
 show aE.L2 k k (((([v]:LI).take (List.replicate (n:Int).toNat (0:Int)).length).length:Nat):Int) ((List.replicate (n:Int).toNat (0:Int)).take 0++(([v]:LI).take (List.replicate (n:Int).toNat (0:Int)).length++(List.replicate (n:Int).toNat (0:Int)).drop (([v]:LI).take (List.replicate (n:Int).toNat (0:Int)).length).length))=_
 rw[List.length_replicate,Int.toNat_natCast]
 obtain⟨k,rfl⟩: ∃k',k=k'+1:=⟨k-1,by omega⟩
 by_cases h0:n=0
 ·subst h0
  rw[aE.qZ]
  rfl
 ·obtain⟨n,rfl⟩: ∃n',n=n'+1:=⟨n-1,by omega⟩
  have h:=aE.loop (k:=k+1) (v:=v) hn (k+1) n 1 (by omega) (by omega) (by omega)
  simpa[List.replicate_succ]using h
theorem bC.is{k:Nat}{a b:Pu.Tab}(hk:4194304+60≤k)(ha:Pu.iO a)(hb:Pu.iO b):bC k a b=some (Pu.eA a b):=by
 obtain⟨k,rfl⟩: ∃k',k=k'+6:=⟨k-6,by omega⟩
 rw[bC.eq]
 refine bE (dn.is (t:=a) (by omega) ha.1 ha.2.1 ha.2.2) ?_
 cases pa:Pu.ba a with
 |false=>exact tM (by simp[Pu.eA,pa])
 |true=>
  refine tN (bE (dn.is (t:=b) (by omega) hb.1 hb.2.1 hb.2.2) ?_)
  cases pb:Pu.ba b with
  |false=>exact tM (by simp[Pu.eA,pb])
  |true=>
   refine tN ?_
   rw[bC.fG]
   obtain⟨_,a2,a3⟩:=Pu.fJ pa
   obtain⟨_,b2,b3⟩:=Pu.fJ pb
   refine bE (bz.is (t:=b) (by omega) hb.1 hb.2.1 hb.2.2) (bE (bz.is (t:=a) (by omega) ha.1 ha.2.1 ha.2.2) (bE (bF.is (by omega) hb.2.1 ha.2.1) ?_))
   obtain⟨cols,c1,c2⟩:=aL.is (k:=k+5) (t:=a) (by omega) pa
   refine bE c1 ?_
   have hT:=Pu.rE pa pb
   have last: ∀l,l=(Pu.gF a b).1→bC.J1 k [] [] l (b.2++a.2)=some (Pu.eA a b):=fun l hl=>by
    subst hl
    rw[bC.eV]
    refine bE (aF.is (t:=Pu.gF a b) (by omega) hT.1 hT.2.1 hT.2.2) ?_
    cases pt:Pu.dD (Pu.gF a b)with
    |false=>exact tM (by simp[Pu.eA,pt])
    |true=>exact tN (by simp[Pu.eA,pa,pb,pt];rfl)
   refine Eq.trans (Pu.gr _ _ _ _) ?_
   by_cases h0:a.2.length=0
   ·rw[if_pos h0]at c2
    rw[if_neg (by show¬(0:Int)<(cols.length:Nat);omega)]
    exact last _ (by unfold Pu.gF;rw[if_pos h0])
   ·rw[if_neg h0]at c2
    have:=Pu.qH pa (r:=0) (by omega)
    rw[if_pos (by show(0:Int)<(cols.length:Nat);omega)]
    refine bE (aE.is (v:=(cols.length:Int)) (n:=b.2.length) (by omega) (by omega)) ?_
    exact last _ (by unfold Pu.gF;rw[if_neg h0,c2])
theorem an.last{k:Nat}{a b:Pu.Tab}{x:LI}(hk:4194304+40≤k)(pa:Pu.ba a=true)(pb:Pu.ba b=true)(x0 x1:LI)(x2:LJ): ∀(m j i:Nat),i+m=a.2.length→m<j→
  an.L4 k j i x0 a.2 x1 x2 (Pu.gF a b).1 (b.2++a.2.take i)=some (Pu.eA a b)
 |m,0,i,_,hj=>by omega
 |0,j+1,i,hm,_=>by
  have hT:=Pu.rE pa pb
  have e:i=a.2.length:=by omega
  subst e
  rw[an.uw,List.take_length]
  refine Eq.trans (Pu.gr _ _ _ _) ?_
  rw[if_neg (by show¬(a.2.length:Int)<(a.2.length:Nat);omega)]
  refine bE (aB.is (t:=Pu.gF a b) (by omega) hT.1 hT.2.1 hT.2.2) ?_
  cases pt:Pu.dD (Pu.gF a b)with
  |false=>exact tM (by simp[Pu.eA,pt])
  |true=>exact tN (by simp[Pu.eA,pa,pb,pt];rfl)
 |m+1,j+1,i,hm,hj=>by
  obtain⟨_,a2,a3⟩:=Pu.fJ pa
  obtain⟨_,b2,b3⟩:=Pu.fJ pb
  have hi:i<a.2.length:=by omega
  have h9:(a.2.getD i []).length≤9:=a3 _ (by rw[Pu.au hi []];exact List.getElem_mem _)
  have ih:=an.last (x:=x) hk pa pb x0 x1 x2 m j (i+1) (by omega) (by omega)
  rw[Pu.take_succ hi [],←List.append_assoc]at ih
  rw[an.uw]
  have hz:IntKind.i64.wrap ((i:Int)+1)=((i+1:Nat):Int):=w64 (by omega) (by omega)
  simp only[fc,Int.toNat_natCast,dI,iL,fQ,eX,fg,cX,hz,List.nil_append]
  refine tG (by omega) (tG (by omega) (tG hi (tG hi (tG hi (tG (by omega) (tG ?_ ih))))))
  simp;omega
theorem an.below{k n:Nat}{a b:Pu.Tab}(hk:4194304+40≤k)(pa:Pu.ba a=true)(pb:Pu.ba b=true)(hn:n=if a.2.length=0 then 0 else(a.2.getD 0 []).length)(x2 x4 x6:LI)(x7:LJ): ∀(m j i:Nat),i+m=b.2.length→m<j→
  an.L2 k j n i x2 a.2 x4 b.2 x6 x7 (if a.2.length=0 then []else List.replicate i ((a.2.getD 0 []).length:Int)) (b.2.take i)=some (Pu.eA a b)
 |m,0,i,_,hj=>by omega
 |0,j+1,i,hm,_=>by
  have e:i=b.2.length:=by omega
  subst e
  obtain⟨_,a2,a3⟩:=Pu.fJ pa
  rw[an.qZ,List.take_length]
  refine Eq.trans (Pu.gr _ _ _ _) ?_
  rw[if_neg (by show¬(b.2.length:Int)<(b.2.length:Nat);omega)]
  have h:=an.last (x:= []) hk pa pb x2 x6 x7 a.2.length k 0 (by omega) (by omega)
  rw[List.take_zero,List.append_nil]at h
  exact h
 |m+1,j+1,i,hm,hj=>by
  obtain⟨_,a2,a3⟩:=Pu.fJ pa
  obtain⟨_,b2,b3⟩:=Pu.fJ pb
  have hi:i<b.2.length:=by omega
  have h9:(b.2.getD i []).length≤9:=b3 _ (by rw[Pu.au hi []];exact List.getElem_mem _)
  have ih:=an.below hk pa pb hn x2 x4 x6 x7 m j (i+1) (by omega) (by omega)
  rw[Pu.take_succ hi []]at ih
  have hz:IntKind.i64.wrap ((i:Int)+1)=((i+1:Nat):Int):=w64 (by omega) (by omega)
  rw[an.qZ]
  have step: ∀q,q=(if a.2.length=0 then []else List.replicate (i+1) ((a.2.getD 0 []).length:Int))→an.J3 k j n i x2 a.2 x4 b.2 x6 x7 q (b.2.take i)=some (Pu.eA a b):=fun q hq=>by
   rw[←hq]at ih
   rw[an.ky]
   simp only[fc,Int.toNat_natCast,dI,iL,fQ,eX,fg,cX,hz,List.nil_append]
   refine tG (by omega) (tG hi (tG hi (tG hi (tG (by omega) (tG ?_ ih)))))
   simp;omega
  refine Eq.trans (Pu.gr _ _ _ _) ?_
  rw[if_pos (by show(i:Int)<(b.2.length:Nat);omega)]
  refine Eq.trans (Pu.gr _ _ _ _) ?_
  by_cases h0:a.2.length=0
  ·rw[if_pos h0]at hn
   subst hn
   rw[if_neg (by omega)]
   exact step _ (by rw[if_pos h0,if_pos h0])
  ·rw[if_neg h0]at hn
   have:=Pu.qH pa (r:=0) (by omega)
   rw[if_pos (by omega)]
   refine tG ?_ (step _ ?_)
   ·rw[if_neg h0]
    show(List.replicate i ((a.2.getD 0 []).length:Int)++ [(n:Int)]).length≤_
    simp;omega
   ·rw[if_neg h0,if_neg h0,hn]
    exact(List.replicate_succ' ..).symm
theorem an.is{k:Nat}{a b:Pu.Tab}(hk:4194304+60≤k)(ha:Pu.iO a)(hb:Pu.iO b):an k a b=some (Pu.eA a b):=by
 obtain⟨k,rfl⟩: ∃k',k=k'+1:=⟨k-1,by omega⟩
 rw[an.eq]
 refine bE (dq.is (t:=a) (by omega) ha.1 ha.2.1 ha.2.2) ?_
 cases pa:Pu.ba a with
 |false=>exact tM (by simp[Pu.eA,pa])
 |true=>
  refine tN (bE (dq.is (t:=b) (by omega) hb.1 hb.2.1 hb.2.2) ?_)
  cases pb:Pu.ba b with
  |false=>exact tM (by simp[Pu.eA,pb])
  |true=>
   refine tN ?_
   obtain⟨_,a2,a3⟩:=Pu.fJ pa
   obtain⟨_,b2,b3⟩:=Pu.fJ pb
   rw[an.fG]
   refine Eq.trans (Pu.gr _ _ _ _) ?_
   have fin: ∀n,n=(if a.2.length=0 then 0 else(a.2.getD 0 []).length)→an.J1 k (n:Int) a.1 a.2 b.1 b.2 [] []=some (Pu.eA a b):=fun n hn=>by
    rw[an.eV]
    have h:=an.below (k:=k) (by omega) pa pb hn a.1 b.1 [] [] b.2.length k 0 (by omega) (by omega)
    rw[List.take_zero]at h
    have e:(if a.2.length=0 then([]:LI)else List.replicate 0 ((a.2.getD 0 []).length:Int))= []:=by split<;>rfl
    rw[e]at h
    exact h
   by_cases h0:a.2.length=0
   ·rw[if_neg (by show¬(0:Int)<(a.2.length:Nat);omega)]
    exact fin 0 (by rw[if_pos h0])
   ·have hl:0<a.2.length:=by omega
    rw[if_pos (by show(0:Int)<(a.2.length:Nat);omega)]
    refine tG (by decide) (tG hl (tG hl (tG hl ?_)))
    exact fin (a.2.getD 0 []).length (by rw[if_neg h0])
theorem cI.loop{k:Nat}{a b:LI}(hl:a.length=b.length)(ha:a.length≤1048576): ∀(m j i:Nat),i+m=a.length→m<j→cI.L0 k j i a b=some (decide (a.drop i=b.drop i))
 |m,0,i,_,hj=>by omega
 |0,j+1,i,hi,_=>by
  rw[cI.bo]
  have e:i=a.length:=by omega
  subst e
  simp[hl]
 |m+1,j+1,i,hi,hj=>by
  rw[cI.bo]
  have h1:i<a.length:=by omega
  have h2:i<b.length:=by omega
  have ih:=cI.loop (k:=k) hl ha m j (i+1) (by omega) (by omega)
  rw[Int.natCast_succ]at ih
  rw[Pu.drop_cons h1 0,Pu.drop_cons h2 0]
  by_cases e:a.getD i 0=b.getD i 0<;>simp (disch:=omega) only[ay,oT,nA,kp,dI,eX,fc,iL,cX,fg,nZ,nO,w64,Int.toNat_natCast,decide_eq_true_eq,Int.ofNat_lt,h1,h2,if_true,Int.natCast_nonneg,decide_true,ih,e,List.cons.injEq,true_and,false_and,decide_false,Bool.not_true,Bool.not_false,if_false,Bool.false_eq_true]
theorem cI.is{k:Nat}{a b:LI}(hk:4194304+1≤k)(ha:a.length≤1048576):cI k a b=some (decide (a=b)):=by
 obtain⟨k,rfl⟩: ∃k',k=k'+1:=⟨k-1,by omega⟩
 rw[cI.eq]
 by_cases hl:a.length=b.length
 ·have h:=cI.loop (k:=k) hl ha a.length k 0 (by omega) (by omega)
  rw[Int.natCast_zero]at h
  simp only[List.drop_zero]at h
  have hl':(a.length:Int)=b.length:=by omega
  simp only[ay,nZ,nO,eX,dI,hl',decide_true,Bool.not_true,Bool.false_eq_true,if_false,h]
 ·have hne:a≠b:=fun e=>hl (by rw[e])
  have hl': ¬(a.length:Int)=b.length:=by omega
  simp[hl',hne]
theorem aU.loop{k:Nat}{p q:LI}{a b:LJ}(hk:4194304+1≤k)(hl:a.length=b.length)(ha:a.length≤1048576)(hr: ∀x∈a,x.length≤1048576): ∀(m j i:Nat),i+m=a.length→m<j→aU.L1 k j i p a q b=some (decide (a.drop i=b.drop i))
 |m,0,i,_,hj=>by omega
 |0,j+1,i,hi,_=>by
  rw[aU.ep]
  have e:i=a.length:=by omega
  subst e
  simp[hl]
 |m+1,j+1,i,hi,hj=>by
  rw[aU.ep]
  have h1:i<a.length:=by omega
  have h2:i<b.length:=by omega
  have ih:=aU.loop (k:=k) (p:=p) (q:=q) hk hl ha hr m j (i+1) (by omega) (by omega)
  rw[Int.natCast_succ]at ih
  have hx:(a.getD i []).length≤1048576:=by rw[Pu.au h1 []];exact hr _ (List.getElem_mem h1)
  have hs:=cI.is (k:=k) (b:=b.getD i []) hk hx
  rw[Pu.drop_cons h1 [],Pu.drop_cons h2 []]
  by_cases e:a.getD i []=b.getD i []
  ·rw[e]at hs
   simp (disch:=omega) only[↓ay,sss,if_true,if_false,h1,h2,hs,ih,e,List.cons.injEq,true_and,false_and,eq_self]
  ·simp (disch:=omega) only[↓ay,sss,if_true,if_false,h1,h2,hs,ih,e,List.cons.injEq,true_and,false_and]
theorem aU.is{k:Nat}{a b:LI×LJ}(hk:4194304+2≤k)(h1:a.1.length≤1048576)(ha:a.2.length≤1048576)(hr: ∀x∈a.2,x.length≤1048576):aU k a b=some (decide (a=b)):=by
 obtain⟨k,rfl⟩: ∃k',k=k'+1:=⟨k-1,by omega⟩
 obtain⟨a1,a2⟩:=a
 obtain⟨b1,b2⟩:=b
 have hs:=cI.is (k:=k) (a:=a1) (b:=b1) (by omega) h1
 rw[aU.eq,hs,cS,aU.fG]
 by_cases e1:a1=b1
 ·subst e1
  by_cases hl:a2.length=b2.length
  ·have h:=aU.loop (k:=k) (p:=a1) (q:=a1) (a:=a2) (b:=b2) (by omega) hl ha hr a2.length k 0 (by omega) (by simp only at ha;omega)
   rw[Int.natCast_zero]at h
   simp only[List.drop_zero]at h
   have hl':(a2.length:Int)=b2.length:=by omega
   simp only[↓ay,sss,if_true,if_false,hl',h,Prod.mk.injEq,true_and,eq_self]
  ·have hne:a2≠b2:=fun e=>hl (by rw[e])
   have hl': ¬(a2.length:Int)=b2.length:=by omega
   simp[hl',hne]
 ·simp[e1]
theorem bO.loop{k:Nat}{p:LI}(hk:2≤k)(hp:p.length≤1000000): ∀(m j i:Nat) (acc:LI),i+m=p.length→m<j→acc.length≤i→bO.L0 k j p.length i p acc=some (acc++Pu.mL p m i)
 |m,0,i,acc,_,hj,_=>by omega
 |0,j+1,i,acc,hi,_,ha=>by
  rw[bO.bo]
  have hn: ¬((i:Int)<(p.length:Int)):=by omega
  simp only[↓ay,sss,if_true,if_false,hn,Pu.mL,List.append_nil]
 |m+1,j+1,i,acc,hi,hj,ha=>by
  rw[bO.bo]
  have h1:i<p.length:=by omega
  have e:(i:Int)+1=((i+1:Nat):Int):=by omega
  have ih:=fun acc h=>bO.loop hk hp m j (i+1) acc (by omega) (by omega) h
  have hl:(acc++ [(i:Int)]).length≤1099511627776:=by rw[List.length_append,List.length_singleton];omega
  have h2:=ih (acc++ [(i:Int)]) (by rw[List.length_append,List.length_singleton];omega)
  have h3:=ih acc (by omega)
  have ea:eM k p ((i:Int)+1)=some (p.getD (i+1) 0):=by rw[eM.is (by omega) (by omega),e,Pu.cH]
  rw[←e]at h2 h3
  unfold Pu.mL
  by_cases c:p.getD (i+1) 0<p.getD i 0
  ·simp (disch:=omega) only[↓ay,sss,if_true,if_false,h1,ea,c,hl,bO.eV,h2,List.append_assoc,List.cons_append,List.nil_append]
  ·simp (disch:=omega) only[↓ay,sss,if_true,if_false,h1,ea,c,bO.eV,h3]
theorem bO.is{k:Nat}{p:LI}(hk:4194304+3≤k)(hp:p.length≤1000000):bO k p=some (Pu.mZ p):=by
 obtain⟨k,rfl⟩: ∃k',k=k'+1:=⟨k-1,by omega⟩
 rw[bO.eq,aW.is (by omega) (by omega),cS]
 unfold Pu.mZ
 have h:=bO.loop (k:=k) (p:=p) (by omega) hp p.length k 0 [] (by omega) (by omega) (by simp)
 rw[Int.natCast_zero,List.nil_append]at h
 cases hb:Pu.b8 p with
 |true=>simp only[↓ay,sss,if_true,if_false,h]
 |false=>simp only[↓ay,sss,if_true,if_false]
theorem bH.is{k:Nat}{r:LI}{x:Int}(hk:4194304+1≤k)(hr:r.length≤1048577):bH k r x=some (Pu.zw (fun y=>decide (x=y)) r):=by
 obtain⟨k,rfl⟩: ∃k',k=k'+1:=⟨k-1,by omega⟩
 rw[bH.eq]
 have h:=Pu.v9 r 0 (fun y=>decide (x=y)) (fun j i=>bH.L0 k j x r.length i r) (fun i=>some (i:Int)) (some (-1))
  (fun j i hi=>by
   rw[bH.bo]
   by_cases c:x=r.getD i 0
   ·simp (disch:=omega) only[↓ay,sss,if_true,if_false,hi,←c]
   ·simp (disch:=omega) only[↓ay,sss,if_true,if_false,hi,c,Int.natCast_add,Int.natCast_one])
  (fun j=>by
   rw[bH.bo]
   simp only[↓ay,sss,if_true,if_false,Nat.lt_irrefl]) r.length k 0 (by omega) (by omega) (by omega)
 simp only[Int.natCast_zero]at h
 simp only[eX,dI]
 rw[h]
 unfold Pu.zw
 split<;>rfl
theorem cp.is{k:Nat}{r:LI}{x:Int}(hk:4194304+2≤k)(hr:r.length≤1048577):cp k r x=some (Pu.has r x):=by
 obtain⟨k,rfl⟩: ∃k',k=k'+1:=⟨k-1,by omega⟩
 rw[cp.eq,bH.is (by omega) hr,cS,nA,Pu.zG]
 rfl
theorem aY.stay{k j:Nat}{x0:Int}{x1:Bool}{x2:Int}{x3 x4:Bool}{x5:Int}{x6:Nat}{x7 x8:Int}{x9:Nat}{y x11 x12 x13:LI}(hl:y.length≤9)(h0:0<y.length)(h: ¬y.getD (y.length-1) 0=0):
  aY.L0 k (j+1) x0 x1 x2 x3 x4 x5 x6 x7 x8 x9 y x11 x12 x13=some (y,true):=by
 rw[aY.bo]
 have p0:(0:Int)<y.length:=by omega
 have p1:(0:Int)≤(y.length:Int)-1:=by omega
 have p2:((y.length:Int)-1).toNat=y.length-1:=by omega
 have p3:y.length-1<y.length:=by omega
 have p4:y.take y.length=y:=List.take_of_length_le (Nat.le_refl _)
 simp (disch:=omega) only[↓ay,sss,if_true,if_false,p0,p1,p2,p3,p4,h,Int.le_refl,Nat.le_refl]
theorem aY.inner{k j:Nat}{n:Nat}{x2:Int}{x3:Bool}{x4:Int}{x5 x6:Bool}{x7:Int}{x8:Nat}{x9 x10:Int}{x11:Nat}{y x13 x14 x15:LI}(hn:n≤9)(hl:y.length=n+1)(h:0<n→ ¬y.getD (n-1) 0=0):
  aY.L2 k (j+1) 0 n x2 x3 x4 x5 x6 x7 x8 x9 x10 x11 y x13 x14 x15=some (y.take n,true):=by
 rw[aY.qZ]
 have e:(y.take n).take n=y.take n:=by rw[List.take_take,Nat.min_self]
 by_cases c:0<n
 ·have p0:(0:Int)<n:=by omega
  have p1:(0:Int)≤(n:Int)-1:=by omega
  have p2:((n:Int)-1).toNat=n-1:=by omega
  have p3:n-1<n:=by omega
  have p4:n-1<y.length:=by omega
  have h':=h c
  simp (disch:=omega) only[↓ay,sss,if_true,if_false,iG,Nat.zero_add,p0,p1,p2,p3,p4,h',Int.le_refl,Nat.le_refl,List.drop_zero,e]
 ·have:n=0:=by omega
  subst this
  simp (disch:=omega) only[↓ay,sss,if_true,if_false,iG,Nat.zero_add,Int.natCast_zero,Int.lt_irrefl,Int.le_refl,Nat.le_refl,List.drop_zero,Int.toNat_zero,List.take_zero]
theorem aY.cut{k j:Nat}{n:Nat}{x0:Int}{x1:Bool}{x2:Int}{x3 x4:Bool}{x5:Int}{x6:Nat}{x7 x8:Int}{x9:Nat}{y x11 x12 x13:LI}(hn:n≤9)(hl:y.length=n+1)(h0:y.getD n 0=0)(h:0<n→ ¬y.getD (n-1) 0=0):
  aY.L0 k (j+1+1) x0 x1 x2 x3 x4 x5 x6 x7 x8 x9 y x11 x12 x13=some (y.take n,true):=by
 rw[aY.bo,aY.eV]
 have p0:(0:Int)<((n+1:Nat):Int):=by omega
 have p2:((n+1:Nat):Int)-1=(n:Int):=by omega
 have p3:n<n+1:=by omega
 have p4:n≤n+1:=by omega
 have hi:=fun x2 x3 x4 x5 x6 x7 x8 x9 x10 x11 x13 x14 x15=>aY.inner (k:=k) (j:=j) (n:=n) (x2:=x2) (x3:=x3) (x4:=x4) (x5:=x5) (x6:=x6) (x7:=x7) (x8:=x8) (x9:=x9) (x10:=x10) (x11:=x11) (y:=y) (x13:=x13) (x14:=x14) (x15:=x15) hn hl h
 simp (disch:=omega) only[↓ay,sss,if_true,if_false,hl,p0,p2,p3,p4,h0,gW,Nat.sub_zero,hi]
theorem aY.is{k:Nat}{p:LI}{n:Nat}(hk:4194304+8≤k)(hp:Pu.b8 p=true)(hn:n<p.length)(hc:p.getD (n+1) 0<p.getD n 0):aY k p n=some (Pu.aR p n,true):=by
 obtain⟨k,rfl⟩: ∃k',k=k'+3:=⟨k-3,by omega⟩
 have h9:=(Pu.bQ hp).2.2.1
 have hb:=Pu.dX hp n
 rw[Pu.cH]at hb
 have h1: ∀i,i<p.length→1≤p.getD i 0:=fun i hi=>by
  rw[Pu.au hi]
  exact((Pu.bQ hp).1 _ (List.getElem_mem hi)).1
 have hco:=bO.is (k:=k+2) (p:=p) (by omega) (by omega)
 have hct:=cp.is (k:=k+2) (x:=(n:Int)) (r:=Pu.mZ p) (by omega) (by have:=Pu.ur p;omega)
 rw[Pu.uF hp hn hc]at hct
 have hcl:=bI.is (k:=k+2) (a:=p) (by omega) (by omega)
 have hyl:(p.set n (p.getD n 0-1)).length=p.length:=List.length_set
 have key: ∀x0 x1 x2 x3 x4 x5 x6 x7 x8 x9 x11 x12 x13,aY.L0 k (k+1) x0 x1 x2 x3 x4 x5 x6 x7 x8 x9 (p.set n (p.getD n 0-1)) x11 x12 x13=some (Pu.aR p n,true):=by
  intro x0 x1 x2 x3 x4 x5 x6 x7 x8 x9 x11 x12 x13
  unfold Pu.aR
  by_cases h:p.getD n 0-1=0
  ·have hl:=Pu.tD hp hc h
   rw[if_pos h]
   obtain⟨k',rfl⟩: ∃k',k=k'+1:=⟨k-1,by omega⟩
   rw[aY.cut (n:=n) (by omega) (by omega) (by rw[Pu.au (by omega),List.getElem_set_self,h]) (fun h0=>by
    rw[Pu.getD_set_ne (by omega)]
    have:=h1 (n-1) (by omega)
    omega),List.take_set_of_le (Nat.le_refl n)]
  ·rw[if_neg h,aY.stay (by omega) (by omega)]
   rw[hyl]
   by_cases e:p.length-1=n
   ·rw[e,Pu.au (by omega),List.getElem_set_self];exact h
   ·rw[Pu.getD_set_ne (Ne.symm e)]
    have:=h1 (p.length-1) (by omega)
    omega
 rw[aY.eq]
 simp (disch:=omega) only[↓ay,sss,if_true,if_false,hco,hct,hcl,hn,key]
theorem bN.loop{k:Nat}{t:Pu.Tab}(hk:4194304+2≤k)(hi:Pu.b8 t.1=true)(ht:Pu.dz 1048576 1048576 t.2): ∀(m j i:Nat),i+m=t.2.length→m<j→
  bN.L0 k j t.2.length i ((Pu.cY t).take i) t.2 t.1=some (Pu.cY t)
 |m,0,i,_,hj=>by omega
 |0,j+1,i,hm,_=>by
  rw[bN.bo]
  have e:i=t.2.length:=by omega
  subst e
  rw[←Pu.jF t,List.take_length]
  simp only[↓ay,sss,if_true,if_false,Nat.lt_irrefl]
 |m+1,j+1,i,hm,hj=>by
  rw[bN.bo]
  have hlt:i<t.2.length:=by omega
  have hg:i<(Pu.cY t).length:=by rw[Pu.jF];exact hlt
  have hl:=ht.1
  have h9:=(Pu.bQ hi).2.2.1
  have hb:=Pu.dX hi i
  rw[Pu.cH]at hb
  have hrow:=ht.at i
  have ha:=eM.is (k:=k) (p:=t.1) (i:=(i:Int)) (by omega) (by omega)
  rw[Pu.cH]at ha
  have ih:=bN.loop (k:=k) (t:=t) hk hi ht m j (i+1) (by omega) (by omega)
  rw[Int.natCast_succ,Pu.take_succ hg [],Pu.sr hlt]at ih
  have hc:=ah.is (k:=k) (a:= [List.replicate (t.1.getD i 0).toNat 0,t.2.getD i []]) hk (by simp) (by simp only[List.flatten_cons,List.flatten_nil,List.append_nil,List.length_append,List.length_replicate];omega)
  simp only[List.flatten_cons,List.flatten_nil,List.append_nil]at hc
  have hn:(t.1.getD i 0).toNat≤1099511627776:=by omega
  have hb1:=hb.1
  have hln:((Pu.cY t).take i++ [List.replicate (t.1.getD i 0).toNat 0++t.2.getD i []]).length≤1099511627776:=by
   rw[List.length_append,List.length_take,Pu.jF];simp;omega
  simp (disch:=omega) only[↓ay,sss,if_true,if_false,hlt,ha,hb1,Int.le_refl,hn,hc,hln,ih]
theorem bN.is{k:Nat}{t:Pu.Tab}(hk:4194304+3≤k)(hi:Pu.b8 t.1=true)(ht:Pu.dz 1048576 1048576 t.2):bN k t=some (Pu.cY t):=by
 obtain⟨k,rfl⟩: ∃k',k=k'+1:=⟨k-1,by omega⟩
 rw[bN.eq]
 have hl:=ht.1
 have h:=bN.loop (k:=k) (t:=t) (by omega) hi ht t.2.length k 0 (by omega) (by omega)
 rw[Int.natCast_zero,List.take_zero]at h
 exact h
theorem hM.is{k:Nat}{a:LJ}{i c:Int}(hk:3≤k)(ha:Pu.dz 1048576 1048576 a):hM k a i c=some (Pu.uP a i c):=by
 obtain⟨k,rfl⟩: ∃k',k=k'+1:=⟨k-1,by omega⟩
 have hl:=ha.1
 rw[hM.eq]
 by_cases h0:i<0
 ·have h1: ¬0≤i:=by omega
  rw[Pu.Du h0]
  simp (disch:=omega) only[↓ay,sss,if_true,if_false,cw.is,Pu.within,h1]
 ·have h1:0≤i:=by omega
  by_cases h2:i≤(a.length:Int)-1
  ·have h3:i.toNat<a.length:=by omega
   have he:=eM.is (k:=k) (p:=a.getD i.toNat []) (i:=c) (by omega) (ha.at _)
   unfold Pu.uP
   simp (disch:=omega) only[↓ay,sss,if_true,if_false,cw.is,Pu.within,h0,h1,h2,h3,he]
  ·rw[Pu.Et (by omega)]
   simp (disch:=omega) only[↓ay,sss,if_true,if_false,cw.is,Pu.within,h1,h2]
theorem ar.loop{k:Nat}{q x4:LI}{x5:LJ}(hk:4≤k): ∀(m j:Nat) (g:LJ) (i c:Nat),Pu.dz 9 9 g→i<g.length→c<(g.getD i []).length→m<j→
  Pu.cel (Pu.dh m g i c).1 (Pu.dh m g i c).2.1 ((Pu.dh m g i c).2.2+1)=0→Pu.cel (Pu.dh m g i c).1 ((Pu.dh m g i c).2.1+1) (Pu.dh m g i c).2.2=0→
  ar.L1 k j i c q g x4 x5=ar.J2 k (Pu.dh m g i c).2.1 (Pu.dh m g i c).2.2 q (Pu.dh m g i c).1 x4 x5
 |m,0,g,i,c,_,_,_,hj,_,_=>by omega
 |0,j+1,g,i,c,hg,hi,hc,_,s1,s2=>by
  have hl:=hg.1
  have hw:=hg.at i
  have e5:=hM.is (k:=k+1) (a:=g) (i:=i) (c:=(c:Int)+1) (by omega) (hg.mono (by omega) (by omega))
  have e6:=hM.is (k:=k+1) (a:=g) (i:=(i:Int)+1) (c:=c) (by omega) (hg.mono (by omega) (by omega))
  rw[show(c:Int)+1=((c+1:Nat):Int) by omega,Pu.qE]at e5
  rw[show(i:Int)+1=((i+1:Nat):Int) by omega,Pu.qE]at e6
  have s1:(g.getD i []).getD (c+1) 0=0:=s1
  have s2:(g.getD (i+1) []).getD c 0=0:=s2
  rw[s1]at e5
  rw[s2]at e6
  rw[Int.natCast_succ]at e5 e6
  rw[ar.ep]
  simp (disch:=omega) only[↓ay,sss,if_true,if_false,e5,e6,Pu.dh]
 |m+1,j+1,g,i,c,hg,hi,hc,hj,s1,s2=>by
  have hl:=hg.1
  have hw:=hg.at i
  have e5:=hM.is (k:=k+1) (a:=g) (i:=i) (c:=(c:Int)+1) (by omega) (hg.mono (by omega) (by omega))
  have e6:=hM.is (k:=k+1) (a:=g) (i:=(i:Int)+1) (c:=c) (by omega) (hg.mono (by omega) (by omega))
  rw[show(c:Int)+1=((c+1:Nat):Int) by omega,Pu.qE,Int.natCast_succ,show(g.getD i []).getD (c+1) 0=Pu.cel g i (c+1)from rfl]at e5
  rw[show(i:Int)+1=((i+1:Nat):Int) by omega,Pu.qE,Int.natCast_succ,show(g.getD (i+1) []).getD c 0=Pu.cel g (i+1) c from rfl]at e6
  have hs: ∀v,Pu.dz 9 9 (Pu.g6 g i c v):=fun v=>hg.set i (by rw[List.length_set];exact hw)
  have es: ∀v,g.set i ((g.getD i []).set c v)=Pu.g6 g i c v:=fun _=>rfl
  rw[ar.ep]
  unfold Pu.dh at s1 s2⊢
  by_cases c1:Pu.cel g i (c+1)=0∧Pu.cel g (i+1) c=0
  ·rw[if_pos c1]at s1 s2⊢
   rw[c1.1]at e5
   rw[c1.2]at e6
   simp (disch:=omega) only[↓ay,sss,if_true,if_false,e5,e6]
  ·rw[if_neg c1]at s1 s2⊢
   by_cases c2:Pu.cel g i (c+1)=0∨(0<Pu.cel g (i+1) c∧Pu.cel g (i+1) c≤Pu.cel g i (c+1))
   ·rw[if_pos c2]at s1 s2⊢
    have hb:Pu.cel g (i+1) c≠0:=fun e=>by
     rcases c2 with c2|c2
     ·exact c1 ⟨c2,e⟩
     ·omega
    obtain⟨b1,b2⟩:=Pu.ny hb
    have ih:=ar.loop (q:=q) (x4:=x4) (x5:=x5) hk m j (Pu.g6 g i c (Pu.cel g (i+1) c)) (i+1) c (hs _) (by rw[Pu.dN];exact b1) (by rw[Pu.bG];exact b2) (by omega) s1 s2
    rw[Int.natCast_succ]at ih
    by_cases c3:Pu.cel g i (c+1)=0
    ·rw[c3]at e5
     simp (disch:=omega) only[↓ay,sss,if_true,if_false,e5,e6,hb,hi,hc,es,ar.ky,ih]
    ·have c4:0<Pu.cel g (i+1) c∧Pu.cel g (i+1) c≤Pu.cel g i (c+1):=c2.resolve_left c3
     simp (disch:=omega) only[↓ay,sss,if_true,if_false,e5,e6,c3,c4.1,c4.2,hi,hc,es,ar.ky,ih]
   ·rw[if_neg c2]at s1 s2⊢
    have c3: ¬Pu.cel g i (c+1)=0:=fun e=>c2 (.inl e)
    obtain⟨b1,b2⟩:=Pu.ny c3
    have ih:=ar.loop (q:=q) (x4:=x4) (x5:=x5) hk m j (Pu.g6 g i c (Pu.cel g i (c+1))) i (c+1) (hs _) (by rw[Pu.dN];exact b1) (by rw[Pu.bG];exact b2) (by omega) s1 s2
    rw[Int.natCast_succ]at ih
    by_cases c4:0<Pu.cel g (i+1) c
    ·have c5: ¬Pu.cel g (i+1) c≤Pu.cel g i (c+1):=fun e=>c2 (.inr ⟨c4,e⟩)
     simp (disch:=omega) only[↓ay,sss,if_true,if_false,e5,e6,c3,c4,c5,hi,hc,es,ar.ky,ih]
    ·simp (disch:=omega) only[↓ay,sss,if_true,if_false,e5,e6,c3,c4,hi,hc,es,ar.ky,ih]
theorem ar.rows{k:Nat}{q:LI}{G:LJ}{N:Nat}{x2 x3 x4 x5:Int}{x6:Nat}{x7:Int}{x8:Nat}{x11:LI}{x12:LJ}{x14:LI}{x15:LJ}(hk:4≤k)(hG:Pu.dz 9 9 G)(hq:q.length≤9)(hN:N≤G.length)
  (h1: ∀r,r<N→0<(G.getD r []).length∧0≤q.getD r 0∧q.getD r 0≤(G.getD r []).length) (h2: ∀r,N≤r→(G.getD r []).length=0): ∀(m j i:Nat),i+m=G.length→m<j→
  ar.L4 k j G.length i x2 x3 x4 x5 x6 x7 x8 q G x11 x12 ((Pu.cN q G N).take i) x14 x15=some ((q,Pu.cN q G N),(x2,true))
 |m,0,i,_,hj=>by omega
 |0,j+1,i,hm,_=>by
  rw[ar.uw]
  have e:i=G.length:=by omega
  subst e
  rw[List.take_of_length_le (by rw[Pu.eN];exact hN)]
  simp only[↓ay,sss,if_true,if_false,Nat.lt_irrefl]
 |m+1,j+1,i,hm,hj=>by
  have hl:=hG.1
  have hw:=hG.at i
  have hi:i<G.length:=by omega
  have ih:=ar.rows (k:=k) (x2:=x2) (x3:=x3) (x4:=x4) (x5:=x5) (x6:=x6) (x7:=x7) (x8:=x8) (x11:=x11) (x12:=x12) (x14:=x14) (x15:=x15) hk hG hq hN h1 h2 m j (i+1) (by omega) (by omega)
  rw[Int.natCast_succ]at ih
  rw[ar.uw]
  by_cases c:i<N
  ·obtain⟨a1,a2,a3⟩:=h1 i c
   rw[Pu.take_succ (by rw[Pu.eN];exact c) [],Pu.iE c]at ih
   have ha:=eM.is (k:=k) (p:=q) (i:=(i:Int)) (by omega) (by omega)
   rw[Pu.cH]at ha
   have et:(G.getD i []).drop (q.getD i 0).toNat=((G.getD i []).drop (q.getD i 0).toNat).take ((G.getD i []).length-(q.getD i 0).toNat):=(List.take_of_length_le (by rw[List.length_drop];exact Nat.le_refl _)).symm
   have hcl:=bI.is (k:=k) (a:=(G.getD i []).drop (q.getD i 0).toNat) (by omega) (by rw[List.length_drop];omega)
   have hln:((Pu.cN q G N).take i++ [(G.getD i []).drop (q.getD i 0).toNat]).length≤1099511627776:=by
    rw[List.length_append,List.length_take,List.length_singleton];omega
   have a4:(0:Int)<(G.getD i []).length:=by omega
   have a5:(q.getD i 0).toNat≤(G.getD i []).length:=by omega
   simp (disch:=omega) only[↓ay,sss,if_true,if_false,hi,a2,a4,a5,ha,gW,←et,hcl,hln,ar.Gi,ih]
  ·have a4: ¬(0:Int)<(G.getD i []).length:=by have:=h2 i (by omega);omega
   have e1:(Pu.cN q G N).take (i+1)=(Pu.cN q G N).take i:=by
    rw[List.take_of_length_le (by rw[Pu.eN];omega),List.take_of_length_le (by rw[Pu.eN];omega)]
   rw[e1]at ih
   simp (disch:=omega) only[↓ay,sss,if_true,if_false,hi,a4,ar.Gi,ih]
theorem ar.is{k:Nat}{t:Pu.Tab}{n:Nat}(hk:4194304+20≤k)(h:Pu.dD t=true)(hn:n<t.1.length)(hc:t.1.getD (n+1) 0<t.1.getD n 0):ar k t n=some ((Pu.kj t n).1,((Pu.kj t n).2:Int),true):=by
 obtain⟨k,rfl⟩: ∃k',k=k'+2:=⟨k-2,by omega⟩
 obtain⟨z1,z2⟩:=Pu.yL h
 obtain⟨hp,ho,hl,_⟩:=Pu.eW h
 have hit:=aF.is (k:=k+1) (t:=t) (by omega) (by omega) (by have:=z2.1;omega) (fun r hr=>by have:=z2.2 r hr;omega)
 rw[h]at hit
 have hco:=bO.is (k:=k+1) (p:=t.1) (by omega) (by omega)
 have hct:=cp.is (k:=k+1) (x:=(n:Int)) (r:=Pu.mZ t.1) (by omega) (by have:=Pu.ur t.1;omega)
 rw[Pu.uF hp hn hc]at hct
 have hrb:=aY.is (k:=k+1) (p:=t.1) (n:=n) (by omega) hp hn hc
 have hgr:=bN.is (k:=k+1) (t:=t) (by omega) hp (z2.mono (by omega) (by omega))
 have hb:=Pu.dX hp n
 rw[Pu.cH]at hb
 have hpos:1≤t.1.getD n 0:=by
  rw[Pu.au hn]
  exact((Pu.bQ hp).1 _ (List.getElem_mem hn)).1
 obtain⟨E,s1,s2⟩:=Pu.Gu h hn hc
 have hst:=Pu.xp h hn hc
 have a2:=ar.loop (k:=k) (q:=Pu.aR t.1 n) (x4:= []) (x5:= []) (by omega) 18 (k+1) (Pu.cY t) n (t.1.getD n 0-1).toNat ⟨by rw[Pu.jF];exact z2.1,fun r hr=>by
  obtain⟨q,hq,rfl⟩:=List.getElem_of_mem hr
  have a:=Pu.lO hp q
  have b:=(Pu.dX ho q).2
  rw[Pu.cH]at b
  rw[Pu.au hq]at a
  omega⟩ hst.hi hst.hc (by omega) s1 s2
 rw[show(((t.1.getD n 0-1).toNat:Nat):Int)=t.1.getD n 0-1 by omega]at a2
 have hS:Pu.dh 18 (Pu.cY t) n (t.1.getD n 0-1).toNat=Pu.cP t n:=rfl
 rw[hS]at a2
 rw[ar.eq,ar.fG,show((t.1,t.2):Pu.Tab)=t from rfl]
 unfold Pu.kj
 generalize Pu.cP t n=S at*
 obtain⟨g,i,c⟩:=S
 simp only at E a2⊢
 have hdl:=Pu.nj (Pu.outer t) i
 have hql:=Pu.nj t.1 n
 have hol:=Pu.du t
 have hgl:=E.len
 have hcl:(Pu.lW g i c).length=g.length:=Pu.l7 g i c
 have hi:=E.sl.hi
 have hcc:=E.sl.hc
 have hR:=fun x3 x4 x5 x6 x7 x8 x11 x12 x14 x15=>ar.rows (k:=k) (q:=Pu.aR t.1 n) (G:=Pu.lW g i c) (N:=(Pu.aR (Pu.outer t) i).length) (x2:=(i:Int)) (x3:=x3) (x4:=x4) (x5:=x5) (x6:=x6) (x7:=x7) (x8:=x8) (x11:=x11) (x12:=x12) (x14:=x14) (x15:=x15) (by omega) E.rows (by omega) (by omega)
  (fun r hr=>by
   have a:=E.cutl r
   have b:=Pu.xj ho E.hi E.cor hr
   have d:=E.ins r
   exact⟨by omega,E.sl.q0 r,by omega⟩)
  (fun r hr=>by
   have a:=E.cutl r
   rw[Pu.bS hr]at a
   omega) (Pu.lW g i c).length k 0 (by omega) (by have:=E.rows.1;omega)
 simp only[Int.natCast_zero,List.take_zero]at hR
 have ec:g.set i ((g.getD i []).take c)=Pu.lW g i c:=rfl
 have hcc':c≤(g.getD i []).length:=by omega
 rw[ar.iJ]at a2
 simp (disch:=omega) only[↓ay,sss,if_true,if_false,hi,hcc',gW,Nat.sub_zero,List.drop_zero,ec,hR,beq_self_eq_true]at a2
 simp (disch:=omega) only[↓ay,sss,if_true,if_false,hit,hco,hct,hrb,hgr,hn,a2]
theorem cG.loop{k:Nat}{x0:LI}{x1:LJ}(hk:4194304+20≤k): ∀(m j:Nat) (t:Pu.Tab),Pu.dD t=true→Pu.fX t.1≤m→m<j→cG.L0 k j x0 x1 t.1 t.2=some (Pu.mP m t,true)
 |m,0,t,_,_,hj=>by omega
 |0,j+1,t,h,hs,_=>by
  have hp:=(Pu.eW h).1
  have:=(Pu.bQ hp).2.2.2
  rw[cG.bo]
  have hn: ¬(0:Int)<t.1.length:=by omega
  simp only[↓ay,sss,if_true,if_false,hn,Pu.mP,Prod.eta]
 |m+1,j+1,t,h,hs,hj=>by
  have hp:=(Pu.eW h).1
  have hz:=(Pu.yL h).1
  rw[cG.bo]
  unfold Pu.mP
  by_cases c:t.1.length=0
  ·have hn: ¬(0:Int)<t.1.length:=by omega
   rw[if_pos c]
   simp only[↓ay,sss,if_true,if_false,hn,Prod.eta]
  ·have hn:(0:Int)<t.1.length:=by omega
   have hc:=Pu.m7 hp (by omega)
   have hi:=ar.is (k:=k) (t:=t) (n:=t.1.length-1) hk h (by omega) hc
   rw[show((t.1.length-1:Nat):Int)=(t.1.length:Int)-1 by omega]at hi
   have ih:=cG.loop (x0:=x0) (x1:=x1) hk m j (Pu.kj t (t.1.length-1)).1 (Pu.qg h (by omega) hc) (by
    have:=Pu.xh hp (show t.1.length-1<t.1.length by omega) hc
    show Pu.fX (Pu.aR t.1 (t.1.length-1))≤m
    omega) (by omega)
   rw[if_neg c,show((t.1,t.2):Pu.Tab)=t from rfl]
   simp (disch:=omega) only[↓ay,sss,if_true,if_false,hn,hi,ih]
theorem cG.is{k:Nat}{t:Pu.Tab}(hk:4194304+30≤k)(h1:t.1.length≤1048576)(ht:t.2.length≤1048576)(hr: ∀x∈t.2,x.length≤1048576):cG k t=some (Pu.j8 t):=by
 obtain⟨k,rfl⟩: ∃k',k=k'+1:=⟨k-1,by omega⟩
 rw[cG.eq,show((t.1,t.2):Pu.Tab)=t from rfl,aF.is (by omega) h1 ht hr,cS]
 unfold Pu.j8
 cases hb:Pu.dD t with
 |false=>simp
 |true=>
  have h9:=(Pu.bQ (Pu.eW hb).1).2.1
  have hcp:=bz.is (k:=k) (t:=t) (by omega) h1 ht hr
  have hl:=cG.loop (k:=k) (x0:= []) (x1:= []) (by omega) 9 k t hb h9 (by omega)
  simp only[↓ay,sss,if_true,if_false,hcp,hl]
theorem bc.at{k:Nat}{p:LI}(hk:4194304+200≤k):bc (k+1) p=some true:=by
 rw[bc.eq]
 refine bE (mF.is (by omega)) ?_
 by_cases c:(1048576:Int)<p.length
 ·rw[decide_eq_true c];exact tY rfl
 ·rw[decide_eq_false c]
  have hp:p.length≤1048576:=by omega
  obtain⟨w,e1,hw⟩:=aD.ok (k:=k) (b:=p) (by omega) hp
  obtain⟨⟨t,x⟩,e2,ht⟩:=cR.ok (k:=k) (b:=p) (by omega) hp
  obtain⟨⟨a,b⟩,e3,ha,hb⟩:=cF.ok (k:=k) (b:=p) (by omega) hp
  have ht:Pu.jo 10 9 10 t:=ht
  have ha:Pu.jo 9 9 9 a:=ha
  have hb:Pu.jo 10 9 10 b:=hb
  obtain⟨c1,c2,c3⟩:=ht.tab (by omega) (by omega) (by omega)
  have hA:Pu.iO a:=ha.tab (by omega) (by omega) (by omega)
  have hB:Pu.iO b:=hb.tab (by omega) (by omega) (by omega)
  have self: ∀{u:Pu.Tab},Pu.iO u→aU k u u=some true:=fun{u} h=>by
   have:=aU.is (k:=k) (a:=u) (b:=u) (by omega) h.1 h.2.1 h.2.2
   rw[decide_eq_true rfl]at this
   exact this
  have f1:=aN.is (k:=k) (w:=w) (by omega) (by omega)
  have f2:=aO.is (k:=k) (w:=w) (by omega) (by omega)
  rw[Pu.zZ]at f1 f2
  have g1:=aX.is (k:=k) (t:=t) (x:=x) (by omega) c1 c2 c3
  have g2:=ch.is (k:=k) (t:=t) (x:=x) (by omega) c1 c2 c3
  have h1:=bW.is (k:=k) (a:=a) (b:=b) (by omega) hA hB
  have h2:=bX.is (k:=k) (a:=a) (b:=b) (by omega) hA hB
  have i1:=bC.is (k:=k) (a:=a) (b:=b) (by omega) hA hB
  have i2:=an.is (k:=k) (a:=a) (b:=b) (by omega) hA hB
  have oc:=Pu.Dg (a:=a) (b:=b)
  have J2:bc.J2 k (Pu.dW a b).2 (Pu.eA a b).2 (Pu.dW a b).1.1 (Pu.dW a b).1.2 (Pu.eA a b).1.1 (Pu.eA a b).1.2=some true:=by
   rw[bc.iJ]
   cases h:(Pu.eA a b).2 with
   |false=>exact tM rfl
   |true=>
    obtain⟨q1,q2⟩:=Pu.Ah h
    have j1:=cG.is (k:=k) (t:=(Pu.eA a b).1) (by omega) oc.1 oc.2.1 oc.2.2
    rw[q2]at j1
    rw[q1]
    exact tN (bE j1 (tY (tY (bE (self Pu.sY) rfl))))
  have J1:bc.J1 k (Pu.bM t x).2 (Pu.dW a b).2 (Pu.eA a b).2 (Pu.bM t x).1.1 (Pu.bM t x).1.2 (Pu.dW a b).1.1 (Pu.dW a b).1.2 (Pu.eA a b).1.1 (Pu.eA a b).1.2=some true:=by
   rw[bc.eV]
   cases h:(Pu.bM t x).2 with
   |false=>exact tF J2
   |true=>
    have o:=Pu.mE (t:=t) (x:=x)
    have j1:=aF.is (k:=k) (t:=(Pu.bM t x).1) (by omega) o.1 o.2.1 o.2.2
    rw[Pu.lT h]at j1
    exact tY (bE j1 (tN J2))
  have J0:bc.J0 k (Pu.dE w).2 (Pu.bM t x).2 (Pu.dW a b).2 (Pu.eA a b).2 w (Pu.dE w).1.1 (Pu.dE w).1.2 (Pu.bM t x).1.1 (Pu.bM t x).1.2 (Pu.dW a b).1.1 (Pu.dW a b).1.2 (Pu.eA a b).1.1 (Pu.eA a b).1.2=some true:=by
   rw[bc.fG]
   have j1:=dY.is (k:=k) (w:=w) (by omega) (by omega)
   cases h:(Pu.dE w).2 with
   |false=>exact tF J1
   |true=>
    refine tY (bE j1 ?_)
    rw[h]
    exact tN (bE (self Pu.nw) (tN J1))
  exact tF (bE e1 (bE f1 (bE f2 (bE e2 (bE g1 (bE g2 (bE e3 (bE h1 (bE h2 (bE i1 (bE i2 (tB (bE (self Pu.nw) (tN (tB (bE (self Pu.mE) (tN (tB (bE (self Pu.sY) (tN (tB (bE (self oc) (tN J0)))))))))))))))))))))))
theorem bc.is{p:LI}(h1:p.length≤maxLen): ∃k,bc k p=some true:=⟨_,bc.at (Nat.le_refl (4194304+200))⟩
end Go.Am.Seat
