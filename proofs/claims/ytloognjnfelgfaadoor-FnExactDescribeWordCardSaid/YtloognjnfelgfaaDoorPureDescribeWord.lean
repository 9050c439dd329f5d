/- What the functions make of data, as plain words; each holds for all data within the bounds that it names. -/
import Derived.Test.YtloognjnfelgfaaDoorEqsDescribeWord
import Derived.Test.YtloognjnfelgfaaDoorPu
set_option linter.unusedSimpArgs false
set_option linter.unusedVariables false
set_option linter.unnecessarySimpa false
set_option linter.unusedSectionVars false
namespace Go.Am.Seat
open Go Go.Am Go.Am.Pu
attribute [local instance] D.real
set_option linter.unusedSimpArgs false
set_option linter.unusedVariables false
set_option maxRecDepth 4000
theorem cp.loop{k:Nat}{a:LI}(ha:a.length≤1048576): ∀(m j i:Nat),i+m=a.length→m<j→cp.L0 k j i a (a.take i++List.replicate (a.length-i) 0)=some a
 |m,0,i,_,hj=>by omega
 |0,j+1,i,hi,_=>by
  rw[cp.bt]
  have e:i=a.length:=by omega
  subst e
  simp
 |m+1,j+1,i,hi,hj=>by
  rw[cp.bt]
  have hlt:i<a.length:=by omega
  have ih:=cp.loop (k:=k) ha m j (i+1) (by omega) (by omega)
  rw[Int.natCast_succ]at ih
  have hl:i<(a.take i++List.replicate (a.length-i) (0:Int)).length:=by simp;omega
  have hf:=Pu.BR hlt (0:Int) 0
  simp (disch:=omega) only[aL,dh,dn,b6,bL,bO,bQ,de,bX,a8,bU,w64,Int.toNat_natCast,decide_eq_true_eq,Int.ofNat_lt,hlt,hl,if_true,Int.natCast_nonneg,decide_true,hf,ih]
theorem cp.is{k:Nat}{a:LI}(hk:4194304+1≤k)(ha:a.length≤1048576):cp k a=some a:=by
 obtain⟨k,rfl⟩: ∃k',k=k'+1:=⟨k-1,by omega⟩
 rw[cp.eq]
 have h:=cp.loop (k:=k) ha a.length k 0 (by omega) (by omega)
 rw[Int.natCast_zero]at h
 simp only[List.take_zero,List.nil_append,Nat.sub_zero]at h
 have hl:a.length≤1099511627776:=by omega
 simp[h,hl]
theorem fp.is{k:Nat}{x lo hi:Int}(hk:1≤k):fp k x lo hi=some (Pu.within x lo hi):=by
 obtain⟨k,rfl⟩: ∃k',k=k'+1:=⟨k-1,by omega⟩
 rw[fp.eq]
 by_cases h:lo≤x<;>simp[Pu.within,h]
theorem aT.loop{k:Nat}{w:LI}(hk:1≤k)(hw:w.length≤1048576): ∀(m j i:Nat),i+m=w.length→m<j→aT.L0 k j i w=some (decide (w.length≤9)&&(w.drop i).all fun n=>Pu.within n 1 9)
 |m,0,i,_,hj=>by omega
 |0,j+1,i,hi,_=>by
  rw[aT.bt]
  have hn: ¬(i:Int)<w.length:=by omega
  refine tX hn ?_
  rw[List.drop_of_length_le (by omega)]
  simp
  omega
 |m+1,j+1,i,hi,hj=>by
  have hlt:i<w.length:=by omega
  have hn:(i:Int)<w.length:=by omega
  have ih:=aT.loop hk hw m j (i+1) (by omega) (by omega)
  have hws:IntKind.i64.wrap ((i:Int)+1)=((i+1:Nat):Int):=by rw[w64 (by omega) (by omega)];omega
  rw[aT.bt,Pu.drop_cons hlt 0]
  simp only[bQ,bL,bO,de,bU,a8,Int.toNat_natCast,hws]
  refine tG hn (tG (Int.natCast_nonneg i) (tG hlt (tG hlt (bE (fp.is (by omega)) ?_))))
  cases c:Pu.within (w.getD i 0) 1 9 with
  |false=>refine tM ?_;simp only[List.all_cons,c,Bool.false_and,Bool.and_false]
  |true=>refine tN ?_;rw[ih,List.all_cons,c,Bool.true_and]
theorem aT.is{k:Nat}{w:LI}(hk:4194304+2≤k)(hw:w.length≤1048576):aT k w=some (Pu.isWord w):=by
 obtain⟨k,rfl⟩: ∃k',k=k'+1:=⟨k-1,by omega⟩
 have h:=aT.loop (k:=k) (by omega) hw w.length k 0 (by omega) (by omega)
 rw[Int.natCast_zero,List.drop_zero]at h
 rw[aT.eq]
 exact h
theorem cO.loop{k:Nat}{t:Pu.Tab}{x3 x4:LI}{x5:LJ}(ht:t.2.length≤1048576)(hr: ∀x∈t.2,x.length≤1048576): ∀(m j i:Nat),i+m=t.2.length→m<j→
  cO.L0 k j i t.1 t.2 x3 x5 x4 (t.2.take i)=some (x4,t.2)
 |m,0,i,_,hj=>by omega
 |0,j+1,i,hm,_=>by
  rw[cO.bt]
  have e:i=t.2.length:=by omega
  subst e
  simp
 |m+1,j+1,i,hm,hj=>by
  rw[cO.bt]
  have hlt:i<t.2.length:=by omega
  have hx:=hr _ (List.getElem_mem hlt)
  rw[←Pu.aw hlt []]at hx
  have ih:=cO.loop (k:=k) (x3:=x3) (x4:=x4) (x5:=x5) ht hr m j (i+1) (by omega) (by omega)
  rw[Int.natCast_succ,Pu.take_succ hlt []]at ih
  have hl:(t.2.take i++ [t.2.getD i []]).length≤1099511627776:=by simp;omega
  have hx':(t.2.getD i []).length≤1099511627776:=by omega
  simp (disch:=omega) only[↓aL,sss,if_true,if_false,hlt,hl,hx',List.nil_append,ih]
theorem cO.is{k:Nat}{t:Pu.Tab}(hk:4194304+1≤k)(h1:t.1.length≤1048576)(ht:t.2.length≤1048576)(hr: ∀x∈t.2,x.length≤1048576):cO k t=some t:=by
 obtain⟨k,rfl⟩: ∃k',k=k'+1:=⟨k-1,by omega⟩
 rw[cO.eq]
 have h:=cO.loop (k:=k) (t:=t) (x3:= []) (x4:=t.1) (x5:= []) ht hr t.2.length k 0 (by omega) (by omega)
 rw[Int.natCast_zero,List.take_zero]at h
 have hl:t.1.length≤1099511627776:=by omega
 simp only[↓aL,sss,if_true,if_false,List.nil_append,hl,h]
theorem aE.inner{k k1:Nat}{x:Int}{i:Nat}{x3 x5:LI}{x4 rows:LJ}(hlt:i<rows.length)(hx:(rows.getD i []).length≤1048576): ∀(m j q:Nat),q+m=(rows.getD i []).length→m<j→q≤(rows.getD i []).findIdx (fun n=>decide (x<n))→
  aE.L1 k k1 j x i q x3 x4 x5 rows=aE.J3 k k1 x i (((rows.getD i []).findIdx (fun n=>decide (x<n)):Nat):Int) x3 x4 x5 rows
 |m,0,q,_,hj,_=>by omega
 |0,j+1,q,hm,_,hq=>by
  rw[aE.fh]
  have hle:(rows.getD i []).findIdx (fun n=>decide (x<n))≤(rows.getD i []).length:=List.findIdx_le_length
  have e:(rows.getD i []).findIdx (fun n=>decide (x<n))=q:=by omega
  have hn: ¬q<(rows.getD i []).length:=by omega
  simp (disch:=omega) only[↓aL,sss,if_true,if_false,hlt,hn,e]
 |m+1,j+1,q,hm,hj,hq=>by
  rw[aE.fh]
  have hn:q<(rows.getD i []).length:=by omega
  simp (disch:=omega) only[↓aL,sss,if_true,if_false,hlt,hn,aE.lU]
  by_cases c:(rows.getD i []).getD q 0≤x
  ·have hne:(rows.getD i []).findIdx (fun n=>decide (x<n))≠q:=fun e=>by
    have:=Pu.pF (p:=fun n=>decide (x<n)) (r:=rows.getD i []) (by rw[e];exact hn)
    rw[e]at this
    simp only[decide_eq_true_eq]at this
    omega
   have ih:=aE.inner (k:=k) (k1:=k1) (x:=x) (x3:=x3) (x4:=x4) (x5:=x5) hlt hx m j (q+1) (by omega) (by omega) (by omega)
   rw[Int.natCast_succ]at ih
   simp (disch:=omega) only[↓aL,sss,if_true,if_false,c,ih]
  ·have e:(rows.getD i []).findIdx (fun n=>decide (x<n))=q:=by
    refine Nat.le_antisymm (Pu.findIdx_le hn ?_) hq
    simp only[decide_eq_true_eq];omega
   simp only[c,↓aL,sss,if_true,if_false,e]
theorem aE.loop{k:Nat}{inner x3:LI}{x4:LJ}(hk:4194304≤k): ∀(m j i:Nat) (x:Int) (rows:LJ),i+m=rows.length→m<j→rows.length≤1048576→(∀r∈rows,r.length≤1048576)→
  aE.L0 k j x i x3 x4 inner rows=some ((inner,rows.take i++(Pu.a7 (rows.drop i) x).1),((i+(Pu.a7 (rows.drop i) x).2:Nat):Int))
 |m,0,i,x,rows,_,hj,_,_=>by omega
 |0,j+1,i,x,rows,hm,_,hl,hr=>by
  rw[aE.bt]
  have e:i=rows.length:=by omega
  subst e
  have h1:rows.length+1≤1099511627776:=by omega
  simp (disch:=omega) only[↓aL,sss,if_true,if_false,Nat.lt_irrefl,h1,List.drop_length,List.take_length,Pu.a7,List.length_append,List.length_cons,List.length_nil,Int.natCast_add,Int.natCast_one,Int.natCast_zero,Int.add_zero,Int.zero_add,Nat.zero_add,Nat.add_zero,Int.add_sub_cancel]
 |m+1,j+1,i,x,rows,hm,hj,hl,hr=>by
  rw[aE.bt]
  have hlt:i<rows.length:=by omega
  have hx:=hr _ (List.getElem_mem hlt)
  rw[←Pu.aw hlt []]at hx
  have hin:=aE.inner (k:=k) (k1:=j) (x:=x) (x3:=x3) (x4:=x4) (x5:=inner) hlt hx (rows.getD i []).length k 0 (by omega) (by omega) (by omega)
  rw[Int.natCast_zero]at hin
  rw[Pu.drop_cons hlt []]
  unfold Pu.a7
  generalize hf:(rows.getD i []).findIdx (fun n=>decide (x<n))=f at*
  have hle:f≤(rows.getD i []).length:=by rw[←hf];exact List.findIdx_le_length
  simp (disch:=omega) only[↓aL,sss,if_true,if_false,hlt,hin]
  rw[aE.yF]
  by_cases c:f<(rows.getD i []).length
  ·rw[if_pos c]
   have ih:=aE.loop (inner:=inner) (x3:=x3) (x4:=x4) hk m j (i+1) ((rows.getD i []).getD f 0) (rows.set i ((rows.getD i []).set f x)) (by rw[List.length_set];omega) (by omega) (by rw[List.length_set];exact hl) (fun r h=>by
    rcases List.mem_or_eq_of_mem_set h with h|rfl
    ·exact hr r h
    ·rw[List.length_set];exact hx)
   rw[Pu.pd hlt,Pu.pb,Int.natCast_succ]at ih
   have hn: ¬(f:Int)=((rows.getD i []).length:Int):=by omega
   simp (disch:=omega) only[↓aL,sss,if_true,if_false,hlt,hn,c,ih]
   simp only[List.append_assoc,List.singleton_append]
   congr 2
   omega
  ·rw[if_neg c]
   have hn:(f:Int)=((rows.getD i []).length:Int):=by omega
   have h1:(rows.getD i []++ [x]).length≤1099511627776:=by simp only[List.length_append,List.length_cons,List.length_nil];omega
   simp (disch:=omega) only[↓aL,sss,if_true,if_false,hlt,hn,h1,Nat.add_zero]
   rw[Pu.wH hlt]
theorem aE.is{k:Nat}{t:Pu.Tab}{x:Int}(hk:4194304+2≤k)(h1:t.1.length≤1048576)(hl:t.2.length≤1048576)(hr: ∀r∈t.2,r.length≤1048576):
  aE k t x=some ((t.1,(Pu.a7 t.2 x).1),(((Pu.a7 t.2 x).2:Nat):Int)):=by
 obtain⟨k,rfl⟩: ∃k',k=k'+1:=⟨k-1,by omega⟩
 rw[aE.eq,cO.is (by omega) h1 hl hr,eB]
 have h:=aE.loop (k:=k) (inner:=t.1) (x3:= []) (x4:= []) (by omega) t.2.length k 0 x t.2 (by omega) (by omega) hl hr
 rw[Int.natCast_zero]at h
 simpa using h
theorem bn.add{k k1:Nat}{i a:Nat}{W:LI}{x3:LI}{x4:LJ}{x5:LI}{x6:LJ}{pi:LI}{P:LJ}{qi:LI}{F:LJ}(ha:a<F.length)(hF: ∀r,(F.getD r []).length≤1000)(hw:i≤1000):
  bn.J1 k k1 i a W x3 x4 x5 x6 pi P qi F=bn.L0 k k1 ((i+1:Nat):Int) W x3 x4 x5 x6 pi P qi (F.set a (F.getD a []++ [((i+1:Nat):Int)])):=by
 rw[bn.il]
 have h9:=hF a
 have hws:IntKind.i64.wrap ((i:Int)+1)=((i+1:Nat):Int):=by rw[w64 (by omega) (by omega)];omega
 have hap:(F.getD a []++ [((i+1:Nat):Int)]).length≤1099511627776:=by rw[List.length_append,List.length_singleton];omega
 simp only[bQ,bL,de,bX,bV,bU,a8,Int.toNat_natCast,hws]
 have a0:=Int.natCast_nonneg a
 exact tG a0 (tG ha (tG ha (tG ha (tG hap (tG a0 (tG ha (tG ha (tG rfl rfl))))))))
theorem bn.loop{k:Nat}{W:LI}{x3:LI}{x4:LJ}{x5:LI}{x6:LJ}(hk:4194304+20≤k)(hW:W.length≤9)(hx: ∀x∈W,1≤x∧x≤9): ∀(m j i:Nat) (P Q:LJ),i+m=W.length→m<j→Pu.Ins P Q i→
  bn.L0 k j i W x3 x4 x5 x6 [] P [] Q=some (([],Pu.jN (W.drop i) P),([],Pu.lN (W.drop i) P Q i))
 |m,0,i,P,Q,_,hj,_=>by omega
 |0,j+1,i,P,Q,hi,_,_=>by
  rw[bn.bt]
  have hn: ¬(i:Int)<W.length:=by omega
  refine tX hn ?_
  rw[List.drop_of_length_le (by omega)]
  rfl
 |m+1,j+1,i,P,Q,hi,hj,h=>by
  have hlt:i<W.length:=by omega
  have hn:(i:Int)<W.length:=by omega
  have hxi:=hx _ (List.getElem_mem hlt)
  rw[←Pu.aw hlt 0]at hxi
  obtain⟨s1,_,_⟩:=h.step hxi (by omega)
  have ih:=bn.loop (x3:=x3) (x4:=x4) (x5:=x5) (x6:=x6) hk hW hx m j (i+1) (Pu.a7 P (W.getD i 0)).1 (Pu.gA Q (Pu.a7 P (W.getD i 0)).2 ((i+1:Nat):Int)) (by omega) (by omega) s1
  have hP:=Pu.jo (Pu.sb h (by omega))
  have hQ:=Pu.jo h.pl
  have hP1:P.length≤9:=hP.1
  have hQ1:Q.length≤9:=hQ.1
  have hins:=aE.is (k:=k) (t:=([],P)) (x:=W.getD i 0) (by omega) (by simp) (by simp only;omega) (fun r hr=>by have:=hP.2 r hr;omega)
  have ha:=(tB P (W.getD i 0)).1
  rw[h.same.1]at ha
  rw[bn.bt,Pu.drop_cons hlt 0]
  show _=some (([],Pu.jN (W.drop (i+1)) (Pu.a7 P (W.getD i 0)).1),([],Pu.lN (W.drop (i+1)) (Pu.a7 P (W.getD i 0)).1 (Pu.gA Q (Pu.a7 P (W.getD i 0)).2 ((i+1:Nat):Int)) (i+1)))
  rw[←ih]
  simp only[bQ,bL,bO,de,Int.toNat_natCast]
  refine tG hn (tG (Int.natCast_nonneg i) (tG hlt (tG hlt (bE hins ?_))))
  simp only
  have hq9: ∀r,(Q.getD r []).length≤9:=fun r=>hQ.at r
  generalize(Pu.a7 P (W.getD i 0)).2=a at*
  unfold Pu.gA
  by_cases c:a=Q.length
  ·have hc:((a:Nat):Int)=(Q.length:Int):=by omega
   have hap:(Q++ [[]]).length≤1099511627776:=by rw[List.length_append,List.length_singleton];omega
   have hF: ∀r,((Q++ [[]]).getD r []).length≤1000:=fun r=>by
    by_cases hr:r<Q.length
    ·simp only[List.getD_eq_getElem?_getD,List.getElem?_append_left hr]
     have:=hq9 r
     simp only[List.getD_eq_getElem?_getD]at this
     omega
    ·simp only[List.getD_eq_getElem?_getD,List.getElem?_append_right (Nat.le_of_not_lt hr)]
     cases r-Q.length<;>simp
   refine tG hc (tG hap ?_)
   simp only[bV]
   rw[bn.add (by rw[List.length_append,List.length_singleton];omega) hF (by omega),if_pos c]
   congr 1
   rw[c]
   simp
  ·have hc: ¬((a:Nat):Int)=(Q.length:Int):=by omega
   refine tX hc ?_
   rw[bn.add (by omega) (fun r=>by have:=hq9 r;omega) (by omega),if_neg c]
theorem bn.is{k:Nat}{W:LI}(hk:4194304+30≤k)(h:Pu.isWord W=true):bn k W=some (([],Pu.jN W []),([],Pu.lN W [] [] 0)):=by
 obtain⟨k,rfl⟩: ∃k',k=k'+1:=⟨k-1,by omega⟩
 obtain⟨h1,h2⟩:=Pu.bJ h
 have hl:=bn.loop (k:=k) (x3:= []) (x4:= []) (x5:= []) (x6:= []) (by omega) h1 h2 W.length k 0 [] [] (by omega) (by omega) Pu.Ins.nil
 rw[Int.natCast_zero,List.drop_zero]at hl
 rw[bn.eq]
 exact hl
theorem aM.loop{k:Nat}{w:LI}(hk:4194304+5≤k)(hb:Pu.isWord w=true)(hw:w.length≤9)(hl: ∀x∈w,1≤x∧x≤9): ∀(m j:Nat) (c:LI),m≤w.length→m<j→c.length=10→(∀x∈c,0≤x∧x+m≤100)→Pu.Ok (aM.L0 k j ((m:Int)-1) w (c++ [0])) (· =Pu.sH w m c)
 |m,0,c,_,hj,_,_=>by omega
 |0,j+1,c,hm,_,hc,_=>by
  rw[aM.bt]
  simp only[dh,dn,b6,b7,cb,bL,bO,bQ,de,bX,bV,bh,bj,cd,a8,bU,cg,ck,cM,dq,ca,cf,bm,bo,bq,br,List.nil_append,List.cons_append]
  refine Pu.Ok.no (by omega) ?_
  refine Pu.Ok.cV (aT.is (by omega) (by omega)) ?_
  rw[hb]
  exact Pu.Ok.ret rfl
 |m+1,j+1,c,hm,hj,hc,hx=>by
  rw[aM.bt]
  have em:((m+1:Nat):Int)-1=m:=by omega
  rw[em]
  have hm':m<w.length:=by omega
  have hmem:w.getD m 0∈w:=by rw[Pu.aw hm' _];exact List.getElem_mem _
  have hx9:=hl _ hmem
  have hcn:(w.getD m 0).toNat<c.length:=by omega
  have hcm:c.getD (w.getD m 0).toNat 0∈c:=by rw[Pu.aw hcn _];exact List.getElem_mem _
  have hcv:=hx _ hcm
  simp only[dh,dn,b6,b7,cb,bL,bO,bQ,de,bX,bV,bh,bj,cd,a8,bU,cg,ck,cM,dq,ca,cf,bm,bo,bq,br,List.nil_append,List.cons_append]
  refine Pu.Ok.g (by omega) ?_
  refine Pu.Ok.cV (aT.is (by omega) (by omega)) ?_
  rw[hb]
  refine Pu.Ok.tb (fun _=> ?_) (fun h=>by cases h)
  rw[aM.il]
  simp only[dh,dn,b6,b7,cb,bL,bO,bQ,de,bX,bV,bh,bj,cd,a8,bU,cg,ck,cM,dq,ca,cf,bm,bo,bq,br,List.nil_append,List.cons_append]
  have g1:(c++ [0]).getD (w.getD m 0).toNat 0=c.getD (w.getD m 0).toNat 0:=by
   rw[List.getD_eq_getElem?_getD,List.getElem?_append_left hcn,←List.getD_eq_getElem?_getD]
  have g2: ∀v:Int,(c++ [0]).set (w.getD m 0).toNat v=c.set (w.getD m 0).toNat v++ [0]:=fun v=>List.set_append_left _ _ hcn
  have g3: ∀(v:Int) (q:Nat),q<10→(c.set (w.getD m 0).toNat v++ [0]).getD q 0=(c.set (w.getD m 0).toNat v).getD q 0:=fun v q hq=>by
   rw[List.getD_eq_getElem?_getD,List.getElem?_append_left (by rw[List.length_set];omega),←List.getD_eq_getElem?_getD]
  have e1:=w64 (n:=c.getD (w.getD m 0).toNat 0+1) (by omega) (by omega)
  have e2:=w64 (n:=w.getD m 0-1) (by omega) (by omega)
  have e3:(w.getD m 0-1).toNat=(w.getD m 0).toNat-1:=by omega
  have e4:=w64 (n:=(m:Int)-1) (by omega) (by omega)
  simp only[Int.toNat_natCast,g1,e1,g2,e2,e3,e4,g3 _ (w.getD m 0).toNat (by omega),g3 _ ((w.getD m 0).toNat-1) (by omega),List.length_append,List.length_set,List.length_cons,List.length_nil]
  have hset: ∀x∈c.set (w.getD m 0).toNat (c.getD (w.getD m 0).toNat 0+1),0≤x∧x+m≤100:=by
   intro x h
   rcases List.mem_or_eq_of_mem_set h with h|rfl
   ·have:=hx x h;omega
   ·omega
  have ih:=aM.loop (k:=k) hk hb hw hl m j (c.set (w.getD m 0).toNat (c.getD (w.getD m 0).toNat 0+1)) (by omega) (by omega) (by rw[List.length_set];exact hc) hset
  have ih2:Pu.Ok (aM.J2 k j (m:Int) w (c.set (w.getD m 0).toNat (c.getD (w.getD m 0).toNat 0+1)++ [0])) (· =Pu.sH w m (c.set (w.getD m 0).toNat (c.getD (w.getD m 0).toNat 0+1))):=by
   rw[aM.lU]
   simp only[dh,dn,b6,b7,cb,bL,bO,bQ,de,bX,bV,bh,bj,cd,a8,bU,cg,ck,cM,dq,ca,cf,bm,bo,bq,br,List.nil_append,List.cons_append]
   rw[e4]
   exact ih
  unfold Pu.sH
  (repeat (refine Pu.Ok.g (by first|omega|assumption|(simp only[List.length_append,List.length_cons,List.length_nil,List.length_set,List.length_take,List.length_drop,List.length_replicate]at*;omega)) ?_))
  refine Pu.Ok.t (fun h1=> ?_) (fun h1=> ?_)
  ·(repeat (refine Pu.Ok.g (by first|omega|assumption|(simp only[List.length_append,List.length_cons,List.length_nil,List.length_set,List.length_take,List.length_drop,List.length_replicate]at*;omega)) ?_))
   refine Pu.Ok.t (fun h2=> ?_) (fun h2=> ?_)
   ·rw[if_pos ⟨h1,h2⟩];exact Pu.Ok.ret rfl
   ·rw[if_neg (fun h=>h2 h.2)];exact ih2
  ·rw[if_neg (fun h=>h1 h.1)];exact ih2
theorem aM.is{k:Nat}{w:LI}(hk:4194304+10≤k)(hw:w.length≤1048576):aM k w=some (Pu.lat w):=by
 obtain⟨k,rfl⟩: ∃k',k=k'+1:=⟨k-1,by omega⟩
 apply Pu.ok_eq
 rw[aM.eq]
 simp only[dh,dn,b6,b7,cb,bL,bO,bQ,de,bX,bV,bh,bj,cd,a8,bU,cg,ck,cM,dq,ca,cf,bm,bo,bq,br,List.nil_append,List.cons_append]
 refine Pu.Ok.g (by decide) (Pu.Ok.g (by decide) (Pu.Ok.g (by decide) ?_))
 rw[w64 (n:=(w.length:Int)-1) (by omega) (by omega)]
 unfold Pu.lat
 cases hb:Pu.isWord w with
 |false=>
  obtain⟨j,hj⟩: ∃j,k=j+1:=⟨k-1,by omega⟩
  suffices h: ∀k',Pu.Ok (aM.L0 k (k'+1) ((w.length:Int)-1) w (List.replicate (11:Int).toNat 0)) (· =(false&&Pu.sH w w.length (List.replicate 10 0))) by
   have:=h j
   rw[←hj]at this
   exact this
  intro k'
  rw[aM.bt]
  simp only[dh,dn,b6,b7,cb,bL,bO,bQ,de,bX,bV,bh,bj,cd,a8,bU,cg,ck,cM,dq,ca,cf,bm,bo,bq,br,List.nil_append,List.cons_append]
  refine Pu.Ok.t (fun _=> ?_) (fun _=> ?_)
  ·refine Pu.Ok.cV (aT.is (by omega) hw) ?_
   rw[hb]
   refine Pu.Ok.tb (fun h=>by cases h) (fun _=> ?_)
   refine Pu.Ok.cV (aT.is (by omega) hw) ?_
   rw[hb]
   exact Pu.Ok.ret rfl
  ·refine Pu.Ok.cV (aT.is (by omega) hw) ?_
   rw[hb]
   exact Pu.Ok.ret rfl
 |true=>
  obtain⟨h1,h2⟩:=Pu.bJ hb
  exact aM.loop (k:=k) (by omega) hb h1 h2 w.length k (List.replicate 10 0) (Nat.le_refl _) (by omega) (by simp) (fun x hx=>by rw[List.eq_of_mem_replicate hx];omega)
theorem gL.is{k:Nat}{w:LI}{x:Int}(hk:4194304+5≤k)(hw:w.length≤1048576):gL k w x=some (Pu.isWord w&&Pu.within x 1 8):=by
 obtain⟨k,rfl⟩: ∃k',k=k'+1:=⟨k-1,by omega⟩
 apply Pu.ok_eq
 rw[gL.eq]
 refine Pu.Ok.cV (aT.is (by omega) hw) ?_
 refine Pu.Ok.tb (fun hb=> ?_) (fun hb=> ?_)
 ·rw[hb]
  refine Pu.Ok.cV (fp.is (by omega)) ?_
  rw[Bool.true_and]
  exact Pu.Ok.ret rfl
 ·rw[hb];exact Pu.Ok.ret rfl
theorem aC.both{k:Nat}{w:LI}{x:Int}(hw:w.length≤9)(hx:1≤x∧x≤8): ∀(m j i:Nat) (low high:LI),i+m=w.length→m<j→low.length≤i→high.length≤i→
  Pu.Ok (aC.L0 k j x i w low high) (· =Pu.fV w x m i low high)∧ ∀(n:Nat) (base:LI),n≤base.length→base.take n=high→Pu.Ok (aC.L3 k j x 0 n i w low base) (· =Pu.fV w x m i low high)
 |m,0,i,low,high,_,hj,_,_=>by omega
 |0,j+1,i,low,high,hi,_,_,_=>by
  refine⟨?_,fun n base hn hb=> ?_⟩
  ·rw[aC.bt]
   simp only[dh,dn,b6,b7,cb,bL,bO,bQ,de,bX,bV,bh,bj,cd,a8,bU,cg,ck,cM,dq,ca,cf,bm,bo,bq,br,List.nil_append,List.cons_append]
   exact Pu.Ok.no (by omega) (Pu.Ok.ret rfl)
  ·rw[aC.EI]
   simp only[dh,dn,b6,b7,cb,bL,bO,bQ,de,bX,bV,bh,bj,cd,a8,bU,cg,ck,cM,dq,ca,cf,bm,bo,bq,br,List.nil_append,List.cons_append]
   rw[List.drop_zero,hb]
   exact Pu.Ok.no (by omega) (Pu.Ok.ret rfl)
 |m+1,j+1,i,low,high,hi,hj,h1,h2=>by
  have ih:=fun low high a b=>aC.both (k:=k) hw hx m j (i+1) low high (by omega) (by omega) a b
  have e1:=w64 (n:=x+1) (by omega) (by omega)
  have e2:=w64 (n:=(i:Int)+1) (by omega) (by omega)
  have hi':i<w.length:=by omega
  have j1: ∀low high,low.length≤i+1→high.length≤i+1→Pu.Ok (aC.J1 k j x i w low high) (· =Pu.fV w x m (i+1) low high):=by
   intro low high a b
   rw[aC.il]
   simp only[dh,dn,b6,b7,cb,bL,bO,bQ,de,bX,bV,bh,bj,cd,a8,bU,cg,ck,cM,dq,ca,cf,bm,bo,bq,br,List.nil_append,List.cons_append]
   rw[e2]
   exact(ih low high a b).1
  have j2: ∀(n:Nat) (base low high:LI),low.length≤i+1→high.length≤i+1→n≤base.length→base.take n=high→Pu.Ok (aC.J2 k j x 0 n i w low base) (· =Pu.fV w x m (i+1) low high):=by
   intro n base low high a b c d
   rw[aC.lU]
   simp only[dh,dn,b6,b7,cb,bL,bO,bQ,de,bX,bV,bh,bj,cd,a8,bU,cg,ck,cM,dq,ca,cf,bm,bo,bq,br,List.nil_append,List.cons_append]
   rw[e2]
   exact(ih low high a b).2 n base c d
  unfold Pu.fV
  refine⟨?_,fun n base hn hb=> ?_⟩
  ·rw[aC.bt]
   simp only[dh,dn,b6,b7,cb,bL,bO,bQ,de,bX,bV,bh,bj,cd,a8,bU,cg,ck,cM,dq,ca,cf,bm,bo,bq,br,List.nil_append,List.cons_append]
   simp only[e1,Int.toNat_natCast]
   refine Pu.Ok.g (by omega) (Pu.Ok.g (by omega) (Pu.Ok.g (by omega) (Pu.Ok.g (by omega) ?_)))
   refine Pu.Ok.t (fun c1=> ?_) (fun c1=> ?_)
   ·rw[if_pos c1]
    refine Pu.Ok.g (by rw[List.length_append,List.length_singleton];omega) ?_
    exact j1 _ _ (by omega) (by rw[List.length_append,List.length_singleton];omega)
   ·rw[if_neg c1]
    refine Pu.Ok.g (by omega) (Pu.Ok.g (by omega) (Pu.Ok.g (by omega) ?_))
    refine Pu.Ok.t (fun c2=> ?_) (fun c2=> ?_)
    ·rw[if_pos c2]
     refine Pu.Ok.t (fun c3=> ?_) (fun c3=> ?_)
     ·have c3':0<high.length:=by omega
      rw[if_pos c3']
      have e3:=w64 (n:=(high.length:Int)-1) (by omega) (by omega)
      have e4:((high.length:Int)-1).toNat=high.length-1:=by omega
      simp only[e3,e4,Nat.sub_zero]
      refine Pu.Ok.g (by omega) (Pu.Ok.g (by omega) ?_)
      exact j2 (high.length-1) high low _ (by omega) (by rw[List.length_take];omega) (by omega) rfl
     ·have c3': ¬0<high.length:=by omega
      rw[if_neg c3']
      refine Pu.Ok.g (by omega) (Pu.Ok.g (by omega) (Pu.Ok.g (by omega) ?_))
      refine Pu.Ok.g c2 ?_
      refine Pu.Ok.g (by rw[List.length_append,List.length_singleton];omega) ?_
      exact j1 _ _ (by rw[List.length_append,List.length_singleton];omega) (by omega)
    ·rw[if_neg c2]
     refine Pu.Ok.g (by omega) (Pu.Ok.g (by omega) (Pu.Ok.g (by omega) ?_))
     refine Pu.Ok.no c2 ?_
     exact j1 _ _ (by omega) (by omega)
  ·rw[aC.EI]
   have hh:high.length=n:=by rw[←hb,List.length_take];omega
   simp only[dh,dn,b6,b7,cb,bL,bO,bQ,de,bX,bV,bh,bj,cd,a8,bU,cg,ck,cM,dq,ca,cf,bm,bo,bq,br,List.nil_append,List.cons_append]
   simp only[e1,Int.toNat_natCast,List.drop_zero,hb]
   refine Pu.Ok.g (by omega) (Pu.Ok.g (by omega) (Pu.Ok.g (by omega) (Pu.Ok.g (by omega) ?_)))
   refine Pu.Ok.t (fun c1=> ?_) (fun c1=> ?_)
   ·rw[if_pos c1]
    refine Pu.Ok.g (by rw[List.length_append,List.length_singleton];omega) ?_
    exact j1 _ _ (by omega) (by rw[List.length_append,List.length_singleton];omega)
   ·rw[if_neg c1]
    refine Pu.Ok.g (by omega) (Pu.Ok.g (by omega) (Pu.Ok.g (by omega) ?_))
    refine Pu.Ok.t (fun c2=> ?_) (fun c2=> ?_)
    ·rw[if_pos c2]
     refine Pu.Ok.t (fun c3=> ?_) (fun c3=> ?_)
     ·have c3':0<high.length:=by omega
      rw[if_pos c3']
      have e3:=w64 (n:=(n:Int)-1) (by omega) (by omega)
      have e4:((n:Int)-1).toNat=n-1:=by omega
      simp only[e3,e4,Nat.sub_zero,Nat.add_zero]
      refine Pu.Ok.g (by omega) (Pu.Ok.g (by omega) ?_)
      refine j2 (n-1) base low _ (by omega) (by rw[List.length_take];omega) (by omega) ?_
      rw[←hb,List.take_take,List.length_take]
      congr 1
      omega
     ·have c3': ¬0<high.length:=by omega
      rw[if_neg c3']
      refine Pu.Ok.g (by omega) (Pu.Ok.g (by omega) (Pu.Ok.g (by omega) ?_))
      refine Pu.Ok.g c2 ?_
      refine Pu.Ok.g (by rw[List.length_append,List.length_singleton];omega) ?_
      exact j2 n base _ _ (by rw[List.length_append,List.length_singleton];omega) (by omega) hn hb
    ·rw[if_neg c2]
     refine Pu.Ok.g (by omega) (Pu.Ok.g (by omega) (Pu.Ok.g (by omega) ?_))
     refine Pu.Ok.no c2 ?_
     exact j2 n base _ _ (by omega) (by omega) hn hb
theorem aC.is{k:Nat}{w:LI}{x:Int}(hk:100≤k)(hw:w.length≤9)(hx:1≤x∧x≤8):aC k w x=some (Pu.free w x):=by
 obtain⟨k,rfl⟩: ∃k',k=k'+1:=⟨k-1,by omega⟩
 apply Pu.ok_eq
 rw[aC.eq]
 exact(aC.both (k:=k) hw hx w.length k 0 [] [] (by omega) (by omega) (by simp) (by simp)).1
theorem fu.is{k:Nat}{w:LI}{x:Int}(hk:4194304+10≤k)(hw:w.length≤1048576):fu k w x=some (Pu.raise w x):=by
 obtain⟨k,rfl⟩: ∃k',k=k'+1:=⟨k-1,by omega⟩
 apply Pu.ok_eq
 rw[fu.eq]
 refine Pu.Ok.cV (gL.is (by omega) hw) ?_
 unfold Pu.raise
 simp only[cM]
 refine Pu.Ok.tn (fun hb=> ?_) (fun hb=> ?_)
 ·rw[hb];exact Pu.Ok.ret rfl
 ·rw[hb,if_pos rfl]
  simp only[Bool.and_eq_true,Pu.within,decide_eq_true_eq]at hb
  obtain⟨h1,h2⟩:=Pu.bJ hb.1
  refine Pu.Ok.cV (aC.is (by omega) h1 hb.2) ?_
  simp only[dh,dn,b6,b7,cb,bL,bO,bQ,de,bX,bV,bh,bj,cd,a8,bU,cg,ck,cM,dq,ca,cf,bm,bo,bq,br,List.nil_append,List.cons_append]
  refine Pu.Ok.t (fun c=> ?_) (fun c=> ?_)
  ·have:(Pu.free w x).2= []:=List.eq_nil_of_length_eq_zero (by omega)
   rw[if_pos this]
   exact Pu.Ok.ret rfl
  ·have hn:(Pu.free w x).2≠ []:=fun e=>c (by rw[e];rfl)
   rw[if_neg hn]
   obtain⟨n,e1,e2,e3⟩:=Pu.rq hn
   have e0:(0:Int).toNat=0:=rfl
   simp only[e0,e1,Int.toNat_natCast]
   (repeat (refine Pu.Ok.g (by first|omega|assumption|(simp only[List.length_append,List.length_cons,List.length_nil,List.length_set,List.length_take,List.length_drop,List.length_replicate]at*;omega)) ?_))
   exact Pu.Ok.ret rfl
theorem bT.loop{k:Nat}(hk:4194304+20≤k): ∀(m j:Nat) (x:Int) (w:LI),Pu.isWord w=true→1≤x→x≤9→Pu.fZ w*9+(9-x)<m→m<j→Pu.Ok (bT.L0 k j x w) (· =(Pu.nu m x w,true))
 |m,0,x,w,_,_,_,_,hj=>by omega
 |0,j+1,x,w,hw,h1,h2,hm,_=>by have:=(Pu.ql hw).1;omega
 |m+1,j+1,x,w,hw,h1,h2,hm,hj=>by
  rw[bT.bt]
  have hl:=(Pu.bJ hw).1
  unfold Pu.nu
  simp only[dh]
  refine Pu.Ok.t (fun c=> ?_) (fun c=> ?_)
  ·rw[if_pos c]
   refine Pu.Ok.cV (fu.is (by omega) (by omega)) ?_
   refine Pu.Ok.tb (fun hb=> ?_) (fun hb=> ?_)
   ·rw[if_pos hb]
    obtain⟨r1,r2,r3⟩:=Pu.vF (w:=w) (k:=x) (v:=(Pu.raise w x).1) (by rw[←hb])
    exact bT.loop hk m j 1 _ r2 (by omega) (by omega) (by rw[r3];omega) (by omega)
   ·rw[if_neg (by rw[hb];decide)]
    simp only[dh,dn,b6,b7,cb,bL,bO,bQ,de,bX,bV,bh,bj,cd,a8,bU,cg,ck,cM,dq,ca,cf,bm,bo,bq,br,List.nil_append,List.cons_append]
    rw[w64 (by omega) (by omega)]
    exact bT.loop hk m j (x+1) w hw (by omega) (by omega) (by omega) (by omega)
  ·rw[if_neg c];exact Pu.Ok.ret rfl
theorem bT.is{k:Nat}{w:LI}(hk:4194304+30≤k)(hw:w.length≤1048576):bT k w=some (Pu.ky w):=by
 obtain⟨k,rfl⟩: ∃k',k=k'+1:=⟨k-1,by omega⟩
 apply Pu.ok_eq
 rw[bT.eq]
 refine Pu.Ok.cV (aT.is (by omega) hw) ?_
 unfold Pu.ky
 simp only[cM]
 refine Pu.Ok.tn (fun hb=> ?_) (fun hb=> ?_)
 ·rw[hb];exact Pu.Ok.ret rfl
 ·rw[hb,if_pos rfl]
  simp only[dh,dn,b6,b7,cb,bL,bO,bQ,de,bX,bV,bh,bj,cd,a8,bU,cg,ck,cM,dq,ca,cf,bm,bo,bq,br,List.nil_append,List.cons_append]
  (repeat (refine Pu.Ok.g (by first|omega|assumption|(simp only[List.length_append,List.length_cons,List.length_nil,List.length_set,List.length_take,List.length_drop,List.length_replicate]at*;omega)) ?_))
  have:=Pu.ql hb
  exact bT.loop (k:=k) (by omega) 2000 k 1 w hb (by omega) (by omega) (by omega) (by omega)
theorem aG.loop{k:Nat}{p:LI}(hk:4194304≤k)(hp:p.length≤1048576): ∀(m j i:Nat) (s v:Int),i+m=p.length→m<j→(i=0→v=9)→(0<i→v=p.getD (i-1) 0)→v≤9→0≤s→s≤9→
  aG.L0 k j s i p=some (Pu.gP (p.drop i) v s)
 |m,0,i,s,v,_,hj,_,_,_,_,_=>by omega
 |0,j+1,i,s,v,hi,_,_,_,_,_,_=>by
  rw[aG.bt]
  have e:i=p.length:=by omega
  subst e
  simp[Pu.gP]
 |m+1,j+1,i,s,v,hi,hj,h0,h1,hv,hs,hs9=>by
  rw[aG.bt]
  have hlt:i<p.length:=by omega
  have hj1: ∀x:Int,x=p.getD i 0→1≤x→x≤v→aG.J1 k j s i p=some (decide (s+x≤9)&&Pu.gP (p.drop (i+1)) x (s+x)):=by
   intro x hx hx1 hx2
   rw[aG.il]
   simp (disch:=omega) only[↓aL,sss,if_true,if_false,hlt,←hx]
   by_cases c:9<s+x
   ·have: ¬s+x≤9:=by omega
    simp[c,this]
   ·have c':s+x≤9:=by omega
    have ih:=aG.loop hk hp m j (i+1) (s+x) x (by omega) (by omega) (by omega) (by simp[hx]) (by omega) (by omega) c'
    rw[Int.natCast_succ]at ih
    simp[c,c',ih]
  rw[Pu.drop_cons hlt 0]
  simp (disch:=omega) only[↓aL,sss,if_true,if_false,hlt,fp.is,Pu.gP]
  generalize hx:p.getD i 0=x at*
  unfold Pu.within
  by_cases c1:1≤x
  ·by_cases c2:x≤v
   ·have c3:x≤9:=by omega
    have hj:=hj1 x rfl c1 c2
    by_cases hi0:i=0
    ·have hpos: ¬(0:Int)<i:=by omega
     simp (disch:=omega) only[↓aL,sss,if_true,if_false,c1,c2,c3,hpos,hj]
    ·have hv':=h1 (by omega)
     have e:((i:Int)-1)=((i-1:Nat):Int):=by omega
     have hlt':i-1<p.length:=by omega
     have hge: ¬p.getD (i-1) 0<x:=by rw[←hv'];omega
     have hpos:(0:Int)<i:=by omega
     simp (disch:=omega) only[e,↓aL,sss,if_true,if_false,hlt',c1,c2,c3,hj,hpos,hge]
   ·simp only[c1,c2,↓aL,sss,if_true,if_false]
    by_cases c3:x≤9
    ·have hi0:0<i:=by
      rcases Nat.eq_zero_or_pos i with h|h
      ·have:=h0 h;omega
      ·exact h
     have hv':=h1 hi0
     have e:((i:Int)-1)=((i-1:Nat):Int):=by omega
     have hlt':i-1<p.length:=by omega
     have hge:p.getD (i-1) 0<x:=by rw[←hv'];omega
     have hpos:(0:Int)<i:=by omega
     simp (disch:=omega) only[e,↓aL,sss,if_true,if_false,hlt',c3,hpos,hge]
    ·simp only[c3,↓aL,sss,if_true,if_false]
  ·simp only[c1,↓aL,sss,if_true,if_false]
theorem aG.is{k:Nat}{p:LI}(hk:4194304+1≤k)(hp:p.length≤1048576):aG k p=some (Pu.cz p):=by
 obtain⟨k,rfl⟩: ∃k',k=k'+1:=⟨k-1,by omega⟩
 rw[aG.eq]
 exact aG.loop (k:=k) (by omega) hp p.length k 0 0 9 (by omega) (by omega) (fun _=>rfl) (by omega) (by omega) (by omega) (by omega)
theorem dD.is{k:Nat}{p:LI}{i:Int}(hk:1≤k):dD k p i=some (Pu.atI p i):=by
 obtain⟨k,rfl⟩: ∃k',k=k'+1:=⟨k-1,by omega⟩
 rw[dD.eq,dD.kF]
 by_cases h1:i<0
 ·simp only[↓aL,sss,if_true,if_false,h1,Pu.tw h1]
 ·by_cases h2:(p.length:Int)≤i
  ·simp only[↓aL,sss,if_true,if_false,h1,h2,Pu.AD h2]
  ·have h3:0≤i:=by omega
   have h4:i.toNat<p.length:=by omega
   simp only[↓aL,sss,if_true,if_false,h1,h2,h3,h4,Pu.atI]
theorem bC.loop{k:Nat}{q p:LI}(hq:q.length≤1048576)(hl:q.length≤p.length)(hk:q.length<k):bC.L1 k k 0 q p=some ((List.range' 0 q.length).all fun i=>decide (q.getD i 0≤p.getD i 0)):=by
 have h:=Pu.lr (fun j i=>bC.L1 k j (i:Int) q p) q.length (fun i=>decide (q.getD i 0≤p.getD i 0)) (some false) (some true)
  (fun j i hi=>by
   have hi2:i<p.length:=by omega
   rw[bC.fh]
   simp (disch:=omega) only[↓aL,sss,if_true,if_false,hi,hi2,Int.natCast_add,Int.natCast_one]
   by_cases c:q.getD i 0≤p.getD i 0
   ·have c': ¬p.getD i 0<q.getD i 0:=by omega
    simp only[c,c',↓aL,sss,if_true,if_false]
   ·have c':p.getD i 0<q.getD i 0:=by omega
    simp only[c,c',↓aL,sss,if_true,if_false])
  (fun j=>by
   rw[bC.fh]
   simp only[↓aL,sss,if_true,if_false,Nat.lt_irrefl]) q.length k 0 (by omega) hk
 simp only[Int.natCast_zero]at h
 rw[h]
 cases(List.range' 0 q.length).all fun i=>decide (q.getD i 0≤p.getD i 0)<;>simp
theorem bC.is{k:Nat}{q p:LI}(hk:4194304+2≤k)(hq:q.length≤1048576)(hp:p.length≤1048576):bC k q p=some (Pu.dY q p):=by
 obtain⟨k,rfl⟩: ∃k',k=k'+1:=⟨k-1,by omega⟩
 rw[bC.eq,aG.is (by omega) hq,eB,bC.kF]
 unfold Pu.dY
 cases c1:Pu.cz q with
 |false=>simp only[↓aL,sss,if_true,if_false]
 |true=>
  simp only[↓aL,sss,if_true,if_false]
  rw[aG.is (by omega) hp,eB]
  cases c2:Pu.cz p with
  |false=>simp only[↓aL,sss,if_true,if_false]
  |true=>
   simp only[↓aL,sss,if_true,if_false]
   by_cases c3:p.length<q.length
   ·have c3': ¬q.length≤p.length:=by omega
    simp only[c3,c3',↓aL,sss,if_true,if_false]
   ·have c3':q.length≤p.length:=by omega
    simp only[c3,c3',↓aL,sss,if_true,if_false]
    exact bC.loop hq c3' (by omega)
theorem gQ.is{k:Nat}{s:LI×LI}(hk:4194304+3≤k)(hq:s.1.length≤1048576)(hp:s.2.length≤1048576):gQ k s=some (Pu.dY s.2 s.1):=by
 obtain⟨k,rfl⟩: ∃k',k=k'+1:=⟨k-1,by omega⟩
 rw[gQ.eq,bC.is (by omega) hp hq]
 rfl
theorem bD.loop{k:Nat}{t:Pu.Tab}{x3 x4:LI}(hk:4194304+3≤k)(hi:Pu.cz t.1=true)(h2:t.2.length≤9)(hr: ∀x∈t.2,x.length≤1048576): ∀(m j i:Nat) (acc:LI),i+m=t.2.length→m<j→acc.length=i→
  bD.L1 k j i t.1 t.2 x3 x4 acc t.1=some (if Pu.dY t.1 (acc++Pu.fR t.1 i (t.2.drop i))=true then((acc++Pu.fR t.1 i (t.2.drop i),t.1),true)else(([],[]),false))
 |m,0,i,acc,_,hj,_=>by omega
 |0,j+1,i,acc,hm,_,hacc=>by
  rw[bD.fh]
  have e:i=t.2.length:=by omega
  have h9:=(Pu.cI hi).2.2.1
  have hlt: ¬i<t.2.length:=by omega
  rw[gQ.is (by omega) (by simp only;omega) (by simp only;omega),e]
  simp only[↓aL,sss,if_true,if_false,Nat.lt_irrefl,List.drop_length,Pu.fR,List.append_nil]
  cases Pu.dY t.1 acc<;>simp
 |m+1,j+1,i,acc,hm,hj,hacc=>by
  rw[bD.fh]
  have hlt:i<t.2.length:=by omega
  have hb:=Pu.fc hi i
  have hrow:=hr t.2[i] (List.getElem_mem hlt)
  rw[←Pu.aw hlt []]at hrow
  rw[dD.is (by omega)]
  have ih:=bD.loop (x3:=x3) (x4:=x4) hk hi h2 hr m j (i+1) (acc++ [Pu.atI t.1 i+(t.2.getD i []).length]) (by omega) (by omega) (by simp[hacc])
  rw[Int.natCast_succ]at ih
  rw[Pu.drop_cons hlt []]
  have hl:(acc++ [Pu.atI t.1 i+((t.2.getD i []).length:Int)]).length≤1099511627776:=by simp;omega
  simp (disch:=omega) only[↓aL,sss,if_true,if_false,hlt,hl,ih,Pu.fR]
  simp only[List.append_assoc,List.singleton_append,Pu.fE]
  rfl
theorem bD.is{k:Nat}{t:Pu.Tab}(hk:4194304+4≤k)(h1:t.1.length≤1048576)(h2:t.2.length≤1048576)(hr: ∀x∈t.2,x.length≤1048576):bD k t=some (Pu.shapeOf t):=by
 obtain⟨k,rfl⟩: ∃k',k=k'+1:=⟨k-1,by omega⟩
 rw[bD.eq,aG.is (by omega) h1,bD.kF]
 have hl:t.1.length≤1099511627776:=by omega
 simp only[↓aL,sss,if_true,if_false,List.nil_append,hl]
 unfold Pu.shapeOf
 cases c1:Pu.cz t.1 with
 |false=>
  have:Pu.dB t=false:=by unfold Pu.dB;rw[c1];rfl
  simp only[this,↓aL,sss,if_true,if_false]
 |true=>
  by_cases c2:t.2.length<t.1.length
  ·have:Pu.dB t=false:=by
    have: ¬t.1.length≤t.2.length:=by omega
    unfold Pu.dB;simp[this]
   simp only[this,c2,↓aL,sss,if_true,if_false]
  ·by_cases c3:9<t.2.length
   ·have:Pu.dB t=false:=by
     cases h:Pu.dB t with
     |false=>rfl
     |true=>have:=Pu.yv h;omega
    have c3':(9:Int)<t.2.length:=by omega
    simp only[this,c2,c3',↓aL,sss,if_true,if_false]
   ·have c3': ¬(9:Int)<t.2.length:=by omega
    have c2':t.1.length≤t.2.length:=by omega
    have hloop:=bD.loop (k:=k) (t:=t) (x3:= []) (x4:= []) (by omega) c1 (by omega) hr t.2.length k 0 [] (by omega) (by omega) rfl
    rw[Int.natCast_zero]at hloop
    simp only[c2,c3',↓aL,sss,if_true,if_false]
    rw[hloop]
    have:Pu.dB t=Pu.dY t.1 (Pu.outer t):=by unfold Pu.dB;simp[c1,c2']
    rw[this]
    rfl
theorem b9.is{k:Nat}{t:Pu.Tab}{r c:Int}(hk:2≤k)(hi:Pu.cz t.1=true)(h1: -1000000000≤c)(h2:c≤1000000000):b9 k t r c=some (Pu.entry t r c):=by
 obtain⟨k,rfl⟩: ∃k',k=k'+1:=⟨k-1,by omega⟩
 have hb:=Pu.fc hi r
 rw[b9.eq,b9.kF,dD.is (by omega)]
 unfold Pu.entry
 by_cases c1:r<0
 ·simp only[↓aL,sss,if_true,if_false,c1]
 ·by_cases c2:(t.2.length:Int)≤r
  ·simp only[↓aL,sss,if_true,if_false,c1,c2]
  ·have c3:0≤r:=by omega
   have c4:r.toNat<t.2.length:=by omega
   simp (disch:=omega) only[↓aL,sss,if_true,if_false,c1,c2,c3,c4]
   by_cases d1:c-Pu.atI t.1 r<0
   ·simp only[↓aL,sss,if_true,if_false,d1,Pu.tw d1]
   ·by_cases d2:((t.2.getD r.toNat []).length:Int)≤c-Pu.atI t.1 r
    ·simp only[↓aL,sss,if_true,if_false,d1,d2,Pu.AD d2]
    ·have d3:0≤c-Pu.atI t.1 r:=by omega
     have d4:(c-Pu.atI t.1 r).toNat<(t.2.getD r.toNat []).length:=by omega
     rw[b9.il]
     generalize c-Pu.atI t.1 r=z at*
     simp only[↓aL,sss,if_true,if_false,c3,c4,d1,d2,d3,d4,Pu.atI]
theorem az.Fx{k k1 k2:Nat}{t:Pu.Tab}{r:Nat}{c x v:Int}{o n:LI}(hk:3≤k)(hi:Pu.cz t.1=true)(h1:0≤c)(h2:c≤10000000)(hr:r≤1048576):
  az.J2 k k1 k2 r c x v t.1 t.2 o n=if(Pu.within x 1 9&&(decide (v≤x)&&decide (Pu.entry t ((r:Int)-1) c<x)))=true then az.L1 k k1 k2 r (c+1) t.1 t.2 o n else some false:=by
 have he:=b9.is (k:=k) (t:=t) (r:=(r:Int)-1) (c:=c) (by omega) hi (by omega) (by omega)
 rw[az.lU,fp.is (by omega),az.yF]
 simp (disch:=omega) only[↓aL,sss,if_true,if_false,he]
 cases Pu.within x 1 9 with
 |false=>simp
 |true=>
  by_cases c1:v≤x
  ·have c1': ¬x<v:=by omega
   by_cases c2:Pu.entry t ((r:Int)-1) c<x
   ·have c2': ¬x≤Pu.entry t ((r:Int)-1) c:=by omega
    simp[c1,c1',c2,c2']
   ·have c2':x≤Pu.entry t ((r:Int)-1) c:=by omega
    simp[c1,c1',c2,c2']
  ·have c1':x<v:=by omega
   simp[c1,c1']
theorem az.inner{k k1:Nat}{t:Pu.Tab}{r:Nat}{n:LI}(hk:4194304≤k)(hi:Pu.cz t.1=true)(ht:t.2.length≤1048576)(hr: ∀x∈t.2,x.length≤1048576)(hlt:r<t.2.length):
  az.L1 k k1 k r (t.1.getD r 0) t.1 t.2 (Pu.outer t) n=if((List.range' 0 (t.2.getD r []).length).all fun q=>Pu.gr t r q)=true then az.L0 k k1 ((r:Int)+1) t.1 t.2 (Pu.outer t) n else some false:=by
 have hx:=hr _ (List.getElem_mem hlt)
 rw[←Pu.aw hlt []]at hx
 have hb:=Pu.fc hi r
 rw[Pu.fE]at hb
 have hol:r<(Pu.outer t).length:=by unfold Pu.outer;rw[Pu.kN];exact hlt
 have ho:(Pu.outer t).getD r 0=t.1.getD r 0+((t.2.getD r []).length:Int):=by
  have:=Pu.iq t.1 t.2 0 r hlt
  rw[Nat.zero_add]at this
  exact this
 have h:=Pu.lr (fun j q=>az.L1 k k1 j r (t.1.getD r 0+(q:Int)) t.1 t.2 (Pu.outer t) n) (t.2.getD r []).length (fun q=>Pu.gr t r q) (some false) (az.L0 k k1 ((r:Int)+1) t.1 t.2 (Pu.outer t) n)
  (fun j q hq=>by
   rw[az.fh]
   have hc:t.1.getD r 0+(q:Int)<(Pu.outer t).getD r 0:=by rw[ho];omega
   have e1:=b9.is (k:=k) (t:=t) (r:=r) (c:=t.1.getD r 0+q) (by omega) hi (by omega) (by omega)
   have e2:=b9.is (k:=k) (t:=t) (r:=r) (c:=t.1.getD r 0+q-1) (by omega) hi (by omega) (by omega)
   rw[Pu.yU hlt]at e1
   rw[Pu.zY hlt]at e2
   have ej:=fun v=>az.Fx (k:=k) (k1:=k1) (k2:=j) (t:=t) (r:=r) (c:=t.1.getD r 0+q) (x:=(t.2.getD r []).getD q 0) (v:=v) (o:=Pu.outer t) (n:=n) (by omega) hi (by omega) (by omega) (by omega)
   have en:t.1.getD r 0+(q:Int)+1=t.1.getD r 0+((q+1:Nat):Int):=by omega
   rw[en]at ej
   have key: ∀v:Int,v=(if q=0 then 0 else(t.2.getD r []).getD (q-1) 0)→(Pu.within ((t.2.getD r []).getD q 0) 1 9&&(decide (v≤(t.2.getD r []).getD q 0)&&decide (Pu.entry t ((r:Int)-1) (t.1.getD r 0+q)<(t.2.getD r []).getD q 0)))=Pu.gr t r q:=by
    intro v hv
    unfold Pu.gr
    cases hw:Pu.within ((t.2.getD r []).getD q 0) 1 9 with
    |false=>rfl
    |true=>
     have hw1:1≤(t.2.getD r []).getD q 0:=by
      simp only[Pu.within,Bool.and_eq_true,decide_eq_true_eq]at hw;exact hw.1
     simp only[Bool.true_and]
     congr 1
     ·by_cases e:q=0
      ·have:v≤(t.2.getD r []).getD q 0:=by rw[hv,if_pos e];omega
       simp[e,this]
       simpa[e]using this
      ·rw[hv,if_neg e];simp[e]
     ·by_cases e:r=0
      ·subst e
       rw[Pu.Bq (by omega),decide_eq_true (show(0:Int)<(t.2.getD 0 []).getD q 0 by omega)]
       simp only[decide_true,Bool.true_or]
      ·simp[e]
   by_cases hc0:0<t.1.getD r 0+(q:Int)
   ·simp (disch:=omega) only[↓aL,sss,if_true,if_false,hol,hc,e1,hc0,e2,ej]
    rw[key _ rfl]
   ·simp (disch:=omega) only[↓aL,sss,if_true,if_false,hol,hc,e1,hc0,ej]
    rw[key 0 (by
           have:q=0:=by omega
           rw[if_pos this])])
  (fun j=>by
   rw[az.fh]
   have hc: ¬t.1.getD r 0+((t.2.getD r []).length:Int)<(Pu.outer t).getD r 0:=by rw[ho];omega
   simp (disch:=omega) only[↓aL,sss,if_true,if_false,hol,hc]) (t.2.getD r []).length k 0 (by omega) (by omega)
 simp only[Int.natCast_zero,Int.add_zero]at h
 exact h
theorem az.is{k:Nat}{t:Pu.Tab}(hk:4194304+5≤k)(h1:t.1.length≤1048576)(ht:t.2.length≤1048576)(hr: ∀x∈t.2,x.length≤1048576):az k t=some (Pu.gZ t):=by
 obtain⟨k,rfl⟩: ∃k',k=k'+1:=⟨k-1,by omega⟩
 rw[az.eq,bD.is (by omega) h1 ht hr,eB]
 unfold Pu.gZ Pu.shapeOf
 cases hs:Pu.dB t with
 |false=>simp[hs]
 |true=>
  have hi:Pu.cz t.1=true:=by
   simp only[Pu.dB,Bool.and_eq_true]at hs;exact hs.1
  have hol:(Pu.outer t).length=t.2.length:=by unfold Pu.outer;rw[Pu.kN]
  have h:=Pu.lr (fun j r=>az.L0 k j r t.1 t.2 (Pu.outer t) t.1) t.2.length (fun r=>(List.range' 0 (t.2.getD r []).length).all fun q=>Pu.gr t r q) (some false) (some true)
   (fun j r hlt=>by
    rw[az.bt,dD.is (by omega),Pu.fE]
    simp (disch:=omega) only[↓aL,sss,if_true,if_false,hol,hlt,az.inner (k1:=j) (n:=t.1) (show 4194304≤k by omega) hi ht hr hlt,Int.natCast_add,Int.natCast_one])
   (fun j=>by
    rw[az.bt]
    simp (disch:=omega) only[↓aL,sss,if_true,if_false,hol,Nat.lt_irrefl]) t.2.length k 0 (by omega) (by omega)
  simp only[Int.natCast_zero]at h
  simp only[if_true,↓aL,sss,if_true,if_false]
  rw[h]
  cases(List.range' 0 t.2.length).all fun r=>(List.range' 0 (t.2.getD r []).length).all fun q=>Pu.gr t r q<;>simp
theorem cw.sB{k:Nat}{sep:List UInt8}{ws:List (List UInt8)}(hs:sep.length≤10)(hw: ∀w∈ws,w.length≤10000)(hn:ws.length≤1000): ∀(m j i:Nat),i+m=ws.length→m<j→Pu.Ok (cw.L0 k j (Pu.tx sep) i (ws.map Pu.tx) ((Pu.oi ws sep i).map fun b=>(b.toNat:Int))) (· =Pu.tx (Lib.join ws sep))
 |m,0,i,_,hj=>by omega
 |0,j+1,i,hi,_=>by
  rw[cw.bt]
  simp only[dh,dn,b6,b7,cb,bL,bO,bQ,de,bX,bV,bh,bj,cd,a8,bU,cg,ck,cM,dq,ca,cf,bm,bo,bq,br,List.nil_append,List.cons_append]
  refine Pu.Ok.no (by rw[List.length_map];omega) ?_
  refine Pu.Ok.ret ?_
  unfold Pu.oi
  rw[List.take_of_length_le (by omega)]
  exact Pu.Ea _
 |m+1,j+1,i,hi,hj=>by
  rw[cw.bt]
  have hlen:(Pu.oi ws sep i).length≤1000*10010:=by
   have h1:=Pu.qd (ws.take i) sep 10000 (fun w h=>hw w (List.mem_of_mem_take h))
   have h2:(ws.take i).length*(10000+sep.length)≤1000*10010:=Nat.mul_le_mul (by rw[List.length_take];omega) (by omega)
   exact Nat.le_trans h1 h2
  have key: ∀acc:List UInt8,acc=Pu.oi ws sep i++(if i=0 then []else sep)→Pu.Ok (cw.J1 k j (Pu.tx sep) i (ws.map Pu.tx) (acc.map fun b=>(b.toNat:Int))) (· =Pu.tx (Lib.join ws sep)):=by
   intro acc ha
   rw[cw.il]
   have hi':i<ws.length:=by omega
   have e1:(ws.map Pu.tx).getD i (⟨#[]⟩:ByteArray)=Pu.tx (ws.getD i []):=by
    rw[Pu.aw (by rw[List.length_map];exact hi') _,Pu.aw hi' _,List.getElem_map]
   have hx:(ws.getD i []).length≤10000:=by
    rw[Pu.aw hi' _];exact hw _ (List.getElem_mem hi')
   have hal:acc.length≤1000*10010+10:=by
    rw[ha,List.length_append]
    split
    ·simp;omega
    ·omega
   simp only[CF]
   simp only[dh,dn,b6,b7,cb,bL,bO,bQ,de,bX,bV,bh,bj,cd,a8,bU,cg,ck,cM,dq,ca,cf,bm,bo,bq,br,List.nil_append,List.cons_append]
   (try simp only[Int.toNat_natCast]);(try simp (disch:=omega) only[w64])
   have e2:(Pu.tx (ws.getD i [])).data.toList=ws.getD i []:=rfl
   simp only[e1,e2,List.length_map (f:=Pu.tx)]
   refine Pu.Ok.g (by omega) (Pu.Ok.g hi' (Pu.Ok.g hi' (Pu.Ok.g (by rw[List.length_append,List.length_map,List.length_map];omega) ?_)))
   rw[←List.map_append,ha,←Pu.za hi']
   exact cw.sB hs hw hn m j (i+1) (by omega) (by omega)
  simp only[dh,dn,b6,b7,cb,bL,bO,bQ,de,bX,bV,bh,bj,cd,a8,bU,cg,ck,cM,dq,ca,cf,bm,bo,bq,br,List.nil_append,List.cons_append]
  refine Pu.Ok.g (by rw[List.length_map];omega) ?_
  simp only[CF]
  refine Pu.Ok.t (fun h0=> ?_) (fun h0=> ?_)
  ·have e2:(Pu.tx sep).data.toList=sep:=rfl
   simp only[e2]
   refine Pu.Ok.g (by rw[List.length_append,List.length_map,List.length_map];omega) ?_
   rw[←List.map_append]
   exact key _ (by rw[if_neg (by omega)])
  ·exact key _ (by rw[if_pos (by omega),List.append_nil])
theorem cw.isE{k:Nat}{sep:List UInt8}{ws:List (List UInt8)}(hk:2000≤k)(hs:sep.length≤10)(hw: ∀w∈ws,w.length≤10000)(hn:ws.length≤1000):cw k (ws.map Pu.tx) (Pu.tx sep)=some (Pu.tx (Lib.join ws sep)):=by
 obtain⟨k,rfl⟩: ∃k',k=k'+1:=⟨k-1,by omega⟩
 apply Pu.ok_eq
 rw[cw.eq]
 have h:=cw.sB (k:=k) hs hw hn ws.length k 0 (by omega) (by omega)
 unfold Pu.oi at h
 rw[List.take_zero,Lib.join_nil,List.map_nil]at h
 exact h
theorem aN.sB{k:Nat}: ∀(m j:Nat) (n:Int) (s:List UInt8),0≤n→n<10^m→m≤2→m<j→s.length+m≤1000→Pu.Ok (aN.L0 k j n false (Pu.tx s)) (· =Pu.tx ((if n=0 then []else Pu.dcm n)++s))
 |m,0,n,s,_,_,_,hj,_=>by omega
 |m,j+1,n,s,h0,hn,hm,hj,hs=>by
  rw[aN.bt]
  simp only[dh,dn,b6,b7,cb,bL,bO,bQ,de,bX,bV,bh,bj,cd,a8,bU,cg,ck,cM,dq,ca,cf,bm,bo,bq,br,List.nil_append,List.cons_append]
  refine Pu.Ok.tnd (fun hz=> ?_) (fun hz=> ?_)
  ·obtain⟨m,rfl⟩: ∃m',m=m'+1:=by
    cases m with
    |zero=>simp at hn;omega
    |succ m=>exact⟨m,rfl⟩
   have h10:n<100:=by
    have:(10:Int)^(m+1)≤10^2:=by rcases(by omega:m=0∨m=1)with rfl|rfl<;>decide
    omega
   refine Pu.Ok.gn (by decide) ?_
   simp only[EH,EG]
   have e1:n.tmod 10=n % 10:=Int.tmod_eq_emod_of_nonneg h0
   have e2:n.tdiv 10=n/10:=Int.tdiv_eq_ediv_of_nonneg h0
   refine Pu.Ok.no (by rw[e1];omega) ?_
   rw[aN.il]
   simp only[EH,EG,Dk,e1,e2]
   simp only[dh,dn,b6,b7,cb,bL,bO,bQ,de,bX,bV,bh,bj,cd,a8,bU,cg,ck,cM,dq,ca,cf,bm,bo,bq,br,List.nil_append,List.cons_append]
   rw[w64 (n:=48+n % 10) (by omega) (by omega),w64 (n:=n/10) (by omega) (by omega)]
   have ed:(⟨(([IntKind.u8.wrap (48+n % 10)]:LI).map fun n=>UInt8.ofNat n.toNat).toArray⟩:ByteArray)=Pu.tx [UInt8.ofNat (48+n.toNat % 10)]:=by
    have h1:IntKind.u8.wrap (48+n % 10)=48+n % 10:=by
     simp[IntKind.wrap,IntKind.bits,IntKind.signed];omega
    have h2:(48+n % 10).toNat=48+n.toNat % 10:=by omega
    simp only[List.map_cons,List.map_nil,h1,h2]
    rfl
   rw[ed,Pu.lI,Pu.gh,Pu.gh]
   refine Pu.Ok.g (by simp only[List.length_cons,List.length_nil];omega) ?_
   refine Pu.Ok.gn (by decide) ?_
   refine(aN.sB m j (n/10) _ (by omega) (by rw[Int.pow_succ]at hn;omega) (by omega) (by omega) (by simp only[List.length_append,List.length_cons,List.length_nil];omega)).mono ?_
   rintro _ rfl
   rw[if_neg hz]
   congr 1
   by_cases hc:n<10
   ·rw[if_pos (by omega),Pu.oM hc]
    have:n.toNat % 10=n.toNat:=by omega
    rw[this];rfl
   ·rw[if_neg (by omega),Pu.oM (n:=n/10) (by omega),Pu.Bb (by omega) h10]
    have:(n/10).toNat=n.toNat/10:=by omega
    rw[this];rfl
  ·rw[if_pos hz]
   exact Pu.Ok.tb (fun h=>by cases h) (fun _=>Pu.Ok.ret rfl)
theorem aN.isE{k:Nat}{n:Int}(hk:1000≤k)(h0:0≤n)(h1:n<100):aN k n=some (Pu.tx (Pu.dcm n)):=by
 obtain⟨k,rfl⟩: ∃k',k=k'+1:=⟨k-1,by omega⟩
 apply Pu.ok_eq
 rw[aN.eq]
 simp only[dh,dn,b6,b7,cb,bL,bO,bQ,de,bX,bV,bh,bj,cd,a8,bU,cg,ck,cM,dq,ca,cf,bm,bo,bq,br,List.nil_append,List.cons_append]
 refine Pu.Ok.t (fun h=> ?_) (fun h=> ?_)
 ·subst h
  rw[Pu.oM (by decide)]
  exact Pu.Ok.ret rfl
 ·rw[decide_eq_false (by omega: ¬n<0)]
  refine(aN.sB (k:=k) 2 k n [] h0 (by omega) (by omega) (by omega) (by decide)).mono ?_
  rintro _ rfl
  rw[if_neg h,List.append_nil]
theorem yM{t:Pu.Tab}(h:Pu.gZ t=true){i q:Nat}(hi:i<t.2.length)(hq:q<(t.2.getD i []).length):1≤(t.2.getD i []).getD q 0∧(t.2.getD i []).getD q 0≤9:=by
 simp only[Pu.gZ,Bool.and_eq_true]at h
 have h1:=Pu.fq.1 h.2 i hi
 have h2:=Pu.fq.1 h1 q hq
 simp only[Pu.gr,Pu.within,Bool.and_eq_true,decide_eq_true_eq]at h2
 exact h2.1
theorem ao.Fw{k k1:Nat}{i:Nat}{ws:List ByteArray}{t:Pu.Tab}{v:ByteArray}(hk:1000≤k)(ht:Pu.gZ t=true)(hi:i<t.2.length)(hw:ws.length≤9)(d:List UInt8)(hd:d.length≤10)
  (key:Pu.Ok (ao.L0 k k1 ((i:Int)+1) (ws++ [Pu.tx (d++Pu.gI (t.2.getD i []))]) t.1 t.2) (· =v)):
  ∀(m j q:Nat),q+m=(t.2.getD i []).length→m<j→Pu.Ok (ao.L2 k k1 j i (Pu.tx (d++Pu.gI ((t.2.getD i []).take q))) q ws t.1 t.2) (· =v)
 |m,0,q,_,hj=>by omega
 |0,j+1,q,hq,hj=>by
  rw[ao.Ey]
  have h9:=(Pu.gR ht).1
  have hr:=(Pu.gR ht).at i
  simp only[dh,dn,b6,b7,cb,bL,bO,bQ,de,bX,bV,bh,bj,cd,a8,bU,cg,ck,cM,dq,ca,cf,bm,bo,bq,br,List.nil_append,List.cons_append]
  (try simp only[Int.toNat_natCast]);(try simp (disch:=omega) only[w64])
  (repeat (refine Pu.Ok.g (by first|omega|assumption|(simp only[List.length_append,List.length_cons,List.length_nil,List.length_set,List.length_take,List.length_drop,List.length_replicate]at*;omega)) ?_))
  refine Pu.Ok.no (by omega) ?_
  (repeat (refine Pu.Ok.g (by first|omega|assumption|(simp only[List.length_append,List.length_cons,List.length_nil,List.length_set,List.length_take,List.length_drop,List.length_replicate]at*;omega)) ?_))
  (try simp only[Int.toNat_natCast]);(try simp (disch:=omega) only[w64])
  rw[List.take_of_length_le (by omega)]
  exact key
 |m+1,j+1,q,hq,hj=>by
  rw[ao.Ey]
  have h9:=(Pu.gR ht).1
  have hr:=(Pu.gR ht).at i
  have hq':q<(t.2.getD i []).length:=by omega
  have he:=yM ht hi hq'
  simp only[dh,dn,b6,b7,cb,bL,bO,bQ,de,bX,bV,bh,bj,cd,a8,bU,cg,ck,cM,dq,ca,cf,bm,bo,bq,br,List.nil_append,List.cons_append]
  (try simp only[Int.toNat_natCast]);(try simp (disch:=omega) only[w64])
  (repeat (refine Pu.Ok.g (by first|omega|assumption|(simp only[List.length_append,List.length_cons,List.length_nil,List.length_set,List.length_take,List.length_drop,List.length_replicate]at*;omega)) ?_))
  refine Pu.Ok.cV (aN.isE (by omega) (by omega) (by omega)) ?_
  have h1:=Pu.nr (w:=(t.2.getD i []).take q) (fun x hx=>by have:=(Pu.rW ht (List.mem_of_mem_take hx)).2;omega)
  have h2:=Pu.kB (n:=(t.2.getD i []).getD q 0) (by omega)
  rw[List.length_take]at h1
  rw[Pu.lI,Pu.gh,Pu.gh]
  refine Pu.Ok.g (by rw[List.length_append];omega) ?_
  (try simp only[Int.toNat_natCast]);(try simp (disch:=omega) only[w64])
  have e:d++Pu.gI ((t.2.getD i []).take q)++Pu.dcm ((t.2.getD i []).getD q 0)=d++Pu.gI ((t.2.getD i []).take (q+1)):=by
   unfold Pu.gI
   rw[List.take_add_one,List.flatMap_append,List.getElem?_eq_getElem hq',Pu.aw hq' _]
   simp
  rw[e]
  exact ao.Fw hk ht hi hw d hd key m j (q+1) (by omega) (by omega)
theorem ao.Fk{k k1:Nat}{i:Nat}{ws:List ByteArray}{t:Pu.Tab}{v:ByteArray}(hk:1000≤k)(ht:Pu.gZ t=true)(hi:i<t.2.length)(hw:ws.length≤9)
  (key:Pu.Ok (ao.L0 k k1 ((i:Int)+1) (ws++ [Pu.tx (Pu.oD t i)]) t.1 t.2) (· =v)):
  ∀(m j q:Nat),(q+m:Int)=Pu.atI t.1 i→m<j→Pu.Ok (ao.L1 k k1 j i (Pu.tx (List.replicate q 46)) q ws t.1 t.2) (· =v)
 |m,0,q,_,hj=>by omega
 |0,j+1,q,hq,hj=>by
  rw[ao.fh]
  simp only[dh,dn,b6,b7,cb,bL,bO,bQ,de,bX,bV,bh,bj,cd,a8,bU,cg,ck,cM,dq,ca,cf,bm,bo,bq,br,List.nil_append,List.cons_append]
  refine Pu.Ok.cV (dD.is (by omega)) ?_
  have hb:=Pu.fc (Pu.jy ht).1 i
  have hr:=(Pu.gR ht).at i
  refine Pu.Ok.no (by omega) ?_
  have h:=ao.Fw (k:=k) (k1:=k1) hk ht hi hw (List.replicate q 46) (by rw[List.length_replicate];omega) (by
   have e:List.replicate q (46:UInt8)++Pu.gI (t.2.getD i [])=Pu.oD t i:=by
    unfold Pu.oD
    have:q=(Pu.atI t.1 i).toNat:=by omega
    rw[this]
   rw[e];exact key) (t.2.getD i []).length k 0 (by omega) (by omega)
  rw[List.take_zero]at h
  have e0:Pu.gI []= []:=rfl
  rw[e0,List.append_nil]at h
  exact h
 |m+1,j+1,q,hq,hj=>by
  rw[ao.fh]
  simp only[dh,dn,b6,b7,cb,bL,bO,bQ,de,bX,bV,bh,bj,cd,a8,bU,cg,ck,cM,dq,ca,cf,bm,bo,bq,br,List.nil_append,List.cons_append]
  refine Pu.Ok.cV (dD.is (by omega)) ?_
  have hb:=Pu.fc (Pu.jy ht).1 i
  refine Pu.Ok.g (by omega) ?_
  have e46:(⟨#[46]⟩:ByteArray)=Pu.tx [46]:=rfl
  rw[e46,Pu.lI,Pu.gh,Pu.gh,List.length_replicate]
  refine Pu.Ok.g (by show q+1≤_;omega) ?_
  (try simp only[Int.toNat_natCast]);(try simp (disch:=omega) only[w64])
  have e:List.replicate q (46:UInt8)++ [46]=List.replicate (q+1) 46:=by rw[List.replicate_succ']
  rw[e]
  exact ao.Fk hk ht hi hw key m j (q+1) (by omega) (by omega)
theorem ao.Fe{k:Nat}{t:Pu.Tab}(hk:3000≤k)(ht:Pu.gZ t=true): ∀(m j i:Nat),i+m=t.2.length→m<j→Pu.Ok (ao.L0 k j i (((List.range i).map (Pu.oD t)).map Pu.tx) t.1 t.2) (· =Pu.tx (Lib.join ((List.range t.2.length).map (Pu.oD t)) [47]))
 |m,0,i,_,hj=>by omega
 |0,j+1,i,hi,_=>by
  rw[ao.bt]
  simp only[dh,dn,b6,b7,cb,bL,bO,bQ,de,bX,bV,bh,bj,cd,a8,bU,cg,ck,cM,dq,ca,cf,bm,bo,bq,br,List.nil_append,List.cons_append]
  refine Pu.Ok.no (by omega) ?_
  have e:i=t.2.length:=by omega
  subst e
  have h9:=(Pu.gR ht).1
  refine Pu.Ok.cV (cw.isE (sep:= [47]) (by omega) (by decide) (fun w hw=> ?_) (by rw[List.length_map,List.length_range];omega)) (Pu.Ok.ret rfl)
  obtain⟨x,hx,rfl⟩:=List.mem_map.1 hw
  have:=Pu.oU ht x
  omega
 |m+1,j+1,i,hi,hj=>by
  rw[ao.bt]
  have h9:=(Pu.gR ht).1
  have hb:=Pu.fc (Pu.jy ht).1 i
  simp only[dh,dn,b6,b7,cb,bL,bO,bQ,de,bX,bV,bh,bj,cd,a8,bU,cg,ck,cM,dq,ca,cf,bm,bo,bq,br,List.nil_append,List.cons_append]
  refine Pu.Ok.g (by omega) ?_
  refine ao.Fk (k:=k) (by omega) ht (by omega) (by rw[List.length_map,List.length_map,List.length_range];omega) ?_ (Pu.atI t.1 i).toNat k 0 (by omega) (by omega)
  have h:=ao.Fe hk ht m j (i+1) (by omega) (by omega)
  rw[List.range_succ,List.map_append,List.map_append]at h
  exact h
theorem ao.isE{k:Nat}{t:Pu.Tab}(hk:4194304+20≤k)(h1:t.1.length≤1048576)(h2:t.2.length≤1048576)(hr: ∀x∈t.2,x.length≤1048576):ao k t=some (Pu.tx (Pu.jA t)):=by
 obtain⟨k,rfl⟩: ∃k',k=k'+1:=⟨k-1,by omega⟩
 apply Pu.ok_eq
 rw[ao.eq]
 refine Pu.Ok.cV (az.is (by omega) h1 h2 hr) ?_
 unfold Pu.jA
 simp only[dh,dn,b6,b7,cb,bL,bO,bQ,de,bX,bV,bh,bj,cd,a8,bU,cg,ck,cM,dq,ca,cf,bm,bo,bq,br,List.nil_append,List.cons_append]
 refine Pu.Ok.tn (fun hb=> ?_) (fun hb=> ?_)
 ·rw[hb];exact Pu.Ok.ret rfl
 ·rw[hb]
  refine Pu.Ok.t (fun h=> ?_) (fun h=> ?_)
  ·have:t.2= []:=List.eq_nil_of_length_eq_zero (by simpa using h)
   rw[this]
   exact Pu.Ok.ret rfl
  ·have h0:t.2≠ []:=fun e=>h (by rw[e];rfl)
   rw[if_pos rfl,if_neg h0]
   exact ao.Fe (k:=k) (by omega) hb t.2.length k 0 (Nat.zero_add _) (by show t.2.length<k;omega)
theorem eY.is{k:Nat}{w:LI}(hk:4194304+40≤k)(hw:w.length≤1048576):eY k w=some (Pu.aW w):=by
 obtain⟨k,rfl⟩: ∃k',k=k'+1:=⟨k-1,by omega⟩
 have h1:=aT.is (k:=k) (w:=w) (by omega) hw
 rw[eY.eq]
 unfold Pu.aW
 refine bE h1 ?_
 cases c:Pu.isWord w with
 |false=>exact tM rfl
 |true=>exact tN (bE (bn.is (by omega) c) rfl)
theorem eC.is{k:Nat}{w:LI}(hk:4194304+50≤k)(hw:w.length≤1048576):eC k w=some (Pu.eO w):=by
 obtain⟨k,rfl⟩: ∃k',k=k'+1:=⟨k-1,by omega⟩
 have h1:=eY.is (k:=k) (w:=w) (by omega) hw
 have ho:=Pu.ku (w:=w)
 have hl:=Pu.jc (w:=w)
 rw[eC.eq]
 refine bE h1 ?_
 unfold Pu.eO at hl⊢
 cases c:Pu.isWord w with
 |false=>
  have e:(Pu.aW w).2=false:=by unfold Pu.aW;rw[c];rfl
  rw[e]
  exact tM rfl
 |true=>
  have e:(Pu.aW w).2=true:=by unfold Pu.aW;rw[c];rfl
  rw[e,if_pos rfl]
  rw[c,if_pos rfl]at hl
  have hp:=Pu.iH c
  have hp':=hp
  simp only[Pu.cx,Bool.and_eq_true]at hp'
  have hs:=bD.is (k:=k) (t:=(Pu.aW w).1) (by omega) ho.1 ho.2.1 ho.2.2
  have hso:Pu.shapeOf (Pu.aW w).1=((Pu.outer (Pu.aW w).1,(Pu.aW w).1.1),true):=by unfold Pu.shapeOf;rw[if_pos (Pu.oQ hp'.1)]
  rw[hso]at hs
  have hap:([]++Pu.outer (Pu.aW w).1).length≤1099511627776:=by rw[List.nil_append];omega
  exact tN (bE hs (tG hap rfl))
theorem cm.sB{k:Nat}{p:LI}(hk:2000≤k)(hp:p.length≤1000)(hl: ∀x∈p,0≤x∧x<100): ∀(m j i:Nat) (acc:List ByteArray),i+m=p.length→m<j→acc=(p.take i).map (fun n=>Pu.tx (Pu.dcm n))→Pu.Ok (cm.L0 k j i p acc) (· =Pu.tx (Lib.join (p.map Pu.dcm) [44]))
 |m,0,i,acc,_,hj,_=>by omega
 |0,j+1,i,acc,hi,_,ha=>by
  rw[cm.bt]
  simp only[dh,dn,b6,b7,cb,bL,bO,bQ,de,bX,bV,bh,bj,cd,a8,bU,cg,ck,cM,dq,ca,cf,bm,bo,bq,br,List.nil_append,List.cons_append]
  refine Pu.Ok.no (by omega) ?_
  have e:acc=(p.map Pu.dcm).map Pu.tx:=by
   rw[ha,List.take_of_length_le (by omega),List.map_map];rfl
  rw[e]
  refine Pu.Ok.cV (cw.isE (sep:= [44]) (by omega) (by decide) (fun w hw=> ?_) (by rw[List.length_map];omega)) (Pu.Ok.ret rfl)
  obtain⟨x,hx,rfl⟩:=List.mem_map.1 hw
  have:=Pu.kB (hl x hx).2
  omega
 |m+1,j+1,i,acc,hi,hj,ha=>by
  rw[cm.bt]
  have hlen:acc.length=i:=by rw[ha,List.length_map,List.length_take];omega
  simp only[dh,dn,b6,b7,cb,bL,bO,bQ,de,bX,bV,bh,bj,cd,a8,bU,cg,ck,cM,dq,ca,cf,bm,bo,bq,br,List.nil_append,List.cons_append]
  (try simp only[Int.toNat_natCast]);(try simp (disch:=omega) only[w64])
  (repeat (refine Pu.Ok.g (by first|omega|assumption|(simp only[List.length_append,List.length_cons,List.length_nil,List.length_set,List.length_take,List.length_drop,List.length_replicate]at*;omega)) ?_))
  have hm:p.getD i 0∈p:=by rw[Pu.aw (show i<p.length by omega) _];exact List.getElem_mem _
  refine Pu.Ok.cV (aN.isE (by omega) (hl _ hm).1 (hl _ hm).2) ?_
  (repeat (refine Pu.Ok.g (by first|omega|assumption|(simp only[List.length_append,List.length_cons,List.length_nil,List.length_set,List.length_take,List.length_drop,List.length_replicate]at*;omega)) ?_))
  (try simp only[Int.toNat_natCast]);(try simp (disch:=omega) only[w64])
  refine cm.sB hk hp hl m j (i+1) _ (by omega) (by omega) ?_
  rw[ha,List.take_add_one,List.map_append,List.getElem?_eq_getElem (show i<p.length by omega),Pu.aw (show i<p.length by omega) _]
  rfl
theorem cm.isE{k:Nat}{p:LI}(hk:3000≤k)(hp:p.length≤1000)(hl: ∀x∈p,0≤x∧x<100):cm k p=some (Pu.tx (Lib.join (p.map Pu.dcm) [44])):=by
 obtain⟨k,rfl⟩: ∃k',k=k'+1:=⟨k-1,by omega⟩
 apply Pu.ok_eq
 rw[cm.eq]
 exact cm.sB (k:=k) (by omega) hp hl p.length k 0 [] (by omega) (by omega) rfl
theorem dQ.isE{k:Nat}{w:LI}(hk:4194304+10≤k)(hw:w.length≤1048576):dQ k w=some (Pu.tx (Pu.jk w)):=by
 obtain⟨k,rfl⟩: ∃k',k=k'+1:=⟨k-1,by omega⟩
 apply Pu.ok_eq
 rw[dQ.eq]
 refine Pu.Ok.cV (aG.is (by omega) hw) ?_
 unfold Pu.jk
 simp only[dh,dn,b6,b7,cb,bL,bO,bQ,de,bX,bV,bh,bj,cd,a8,bU,cg,ck,cM,dq,ca,cf,bm,bo,bq,br,List.nil_append,List.cons_append]
 refine Pu.Ok.tn (fun hb=> ?_) (fun hb=> ?_)
 ·rw[hb];exact Pu.Ok.ret rfl
 ·rw[hb]
  refine Pu.Ok.t (fun h=> ?_) (fun h=> ?_)
  ·have:w= []:=List.eq_nil_of_length_eq_zero (by omega)
   subst this
   exact Pu.Ok.ret rfl
  ·have h0:w≠ []:=fun e=>h (by rw[e];rfl)
   rw[if_pos rfl,if_neg h0]
   obtain⟨hp,_,hl,_⟩:=Pu.cI hb
   exact Pu.Ok.cV (cm.isE (by omega) (by omega) (fun x hx=>by have:=hp x hx;omega)) (Pu.Ok.ret rfl)
theorem gH.is{k:Nat}{b:Bool}(hk:1≤k):gH k b=some (if b=true then 1 else 0):=by
 obtain⟨k,rfl⟩: ∃k',k=k'+1:=⟨k-1,by omega⟩
 rw[gH.eq]
 cases b<;>rfl
theorem ay.wq{k k1:Nat}{w:LI}{i:Nat}{v:Int}(hk:10≤k)(hw:w.length≤9)(hi:i<w.length): ∀(m j q:Nat) (a:Int),q+m=i→m<j→0≤a→a+m≤1000→Pu.Ok (ay.L0 k k1 (a+Pu.l6 w i m q) ((i:Int)+1) w) (· =v)→Pu.Ok (ay.L1 k k1 j a i q w) (· =v)
 |m,0,q,a,_,hj,_,_,_=>by omega
 |0,j+1,q,a,hq,hj,h0,h1,key=>by
  rw[ay.fh]
  simp only[dh,dn,b6,b7,cb,bL,bO,bQ,de,bX,bV,bh,bj,cd,a8,bU,cg,ck,cM,dq,ca,cf,bm,bo,bq,br,List.nil_append,List.cons_append]
  (try simp only[Int.toNat_natCast]);(try simp (disch:=omega) only[w64])
  refine Pu.Ok.no (by omega) ?_
  unfold Pu.l6 at key
  rw[Int.add_zero]at key
  exact key
 |m+1,j+1,q,a,hq,hj,h0,h1,key=>by
  rw[ay.fh]
  simp only[dh,dn,b6,b7,cb,bL,bO,bQ,de,bX,bV,bh,bj,cd,a8,bU,cg,ck,cM,dq,ca,cf,bm,bo,bq,br,List.nil_append,List.cons_append]
  (try simp only[Int.toNat_natCast]);(try simp (disch:=omega) only[w64])
  (repeat (refine Pu.Ok.g (by first|omega|assumption|(simp only[List.length_append,List.length_cons,List.length_nil,List.length_set,List.length_take,List.length_drop,List.length_replicate]at*;omega)) ?_))
  refine Pu.Ok.cV (gH.is (by omega)) ?_
  have hb:(if decide (w.getD i 0<w.getD q 0)=true then(1:Int)else 0)=if w.getD i 0<w.getD q 0 then 1 else 0:=by
   simp only[decide_eq_true_eq]
  rw[hb]
  have hw':0≤(if w.getD i 0<w.getD q 0 then(1:Int)else 0)∧(if w.getD i 0<w.getD q 0 then(1:Int)else 0)≤1:=by split<;>omega
  rw[w64 (n:=a+_) (by omega) (by omega)]
  refine ay.wq hk hw hi m j (q+1) _ (by omega) (by omega) (by omega) (by omega) ?_
  unfold Pu.l6 at key
  rw[←Int.add_assoc]at key
  exact key
theorem ay.loop{k:Nat}{w:LI}(hk:100≤k)(hw:w.length≤9): ∀(m j i:Nat) (a:Int),i+m=w.length→m<j→0≤a→a+m*9≤900→Pu.Ok (ay.L0 k j a i w) (· =a+Pu.mf w m i)
 |m,0,i,a,_,hj,_,_=>by omega
 |0,j+1,i,a,hi,_,_,_=>by
  rw[ay.bt]
  simp only[dh,dn,b6,b7,cb,bL,bO,bQ,de,bX,bV,bh,bj,cd,a8,bU,cg,ck,cM,dq,ca,cf,bm,bo,bq,br,List.nil_append,List.cons_append]
  refine Pu.Ok.no (by omega) ?_
  unfold Pu.mf
  rw[Int.add_zero]
  exact Pu.Ok.ret rfl
 |m+1,j+1,i,a,hi,hj,h0,h1=>by
  rw[ay.bt]
  simp only[dh,dn,b6,b7,cb,bL,bO,bQ,de,bX,bV,bh,bj,cd,a8,bU,cg,ck,cM,dq,ca,cf,bm,bo,bq,br,List.nil_append,List.cons_append]
  refine Pu.Ok.g (by omega) ?_
  have hb:=Pu.qt w i i 0
  refine ay.wq (by omega) hw (by omega) i k 0 a (by omega) (by omega) h0 (by omega) ?_
  have h:=ay.loop hk hw m j (i+1) (a+Pu.l6 w i i 0) (by omega) (by omega) (by omega) (by omega)
  rw[Int.natCast_succ]at h
  unfold Pu.mf
  rw[←Int.add_assoc]
  exact h
theorem ay.is{k:Nat}{w:LI}(hk:4194304+10≤k)(hw:w.length≤1048576):ay k w=some (Pu.inv w):=by
 obtain⟨k,rfl⟩: ∃k',k=k'+1:=⟨k-1,by omega⟩
 apply Pu.ok_eq
 rw[ay.eq]
 refine Pu.Ok.cV (aT.is (by omega) hw) ?_
 unfold Pu.inv
 simp only[cM]
 refine Pu.Ok.tn (fun hb=> ?_) (fun hb=> ?_)
 ·rw[hb];exact Pu.Ok.ret rfl
 ·rw[hb,if_pos rfl]
  have hl:=(Pu.bJ hb).1
  by_cases c:w.length=0
  ·have e:w= []:=List.eq_nil_of_length_eq_zero c
   subst e
   obtain⟨k,rfl⟩: ∃k',k=k'+1:=⟨k-1,by omega⟩
   rw[ay.bt]
   exact Pu.Ok.no (by decide) (Pu.Ok.ret rfl)
  ·have h:=ay.loop (k:=k) (by omega) hl (w.length-1) k 1 0 (by omega) (by omega) (by omega) (by omega)
   have e:Pu.mf w w.length 0=0+Pu.mf w (w.length-1) 1:=by
    obtain⟨n,hn⟩: ∃n,w.length=n+1:=⟨w.length-1,by omega⟩
    rw[hn];rfl
   rw[e]
   exact h
theorem bF.loop{k:Nat}{w:LI}(hk:100≤k)(hw:w.length≤9): ∀(m j i:Nat) (a:Int),i+m=w.length→1≤i→m<j→0≤a→a+m*9≤900→Pu.Ok (bF.L0 k j a i w) (· =a+Pu.mH w m i)
 |m,0,i,a,_,_,hj,_,_=>by omega
 |0,j+1,i,a,hi,_,_,_,_=>by
  rw[bF.bt]
  simp only[dh,dn,b6,b7,cb,bL,bO,bQ,de,bX,bV,bh,bj,cd,a8,bU,cg,ck,cM,dq,ca,cf,bm,bo,bq,br,List.nil_append,List.cons_append]
  refine Pu.Ok.no (by omega) ?_
  unfold Pu.mH
  rw[Int.add_zero]
  exact Pu.Ok.ret rfl
 |m+1,j+1,i,a,hi,h1,hj,h0,h2=>by
  rw[bF.bt]
  simp only[dh,dn,b6,b7,cb,bL,bO,bQ,de,bX,bV,bh,bj,cd,a8,bU,cg,ck,cM,dq,ca,cf,bm,bo,bq,br,List.nil_append,List.cons_append]
  have e1:=w64 (n:=(i:Int)-1) (by omega) (by omega)
  have e2:((i:Int)-1).toNat=i-1:=by omega
  simp only[e1,e2,Int.toNat_natCast]
  (repeat (refine Pu.Ok.g (by first|omega|assumption|(simp only[List.length_append,List.length_cons,List.length_nil,List.length_set,List.length_take,List.length_drop,List.length_replicate]at*;omega)) ?_))
  refine Pu.Ok.cV (gH.is (by omega)) ?_
  have hb:(if decide (w.getD i 0<w.getD (i-1) 0)=true then(1:Int)else 0)=if w.getD i 0<w.getD (i-1) 0 then 1 else 0:=by
   simp only[decide_eq_true_eq]
  rw[hb]
  have hm:(i:Int)*(if w.getD i 0<w.getD (i-1) 0 then(1:Int)else 0)=if w.getD i 0<w.getD (i-1) 0 then(i:Int)else 0:=by
   split<;>omega
  rw[hm]
  have hw':0≤(if w.getD i 0<w.getD (i-1) 0 then(i:Int)else 0)∧(if w.getD i 0<w.getD (i-1) 0 then(i:Int)else 0)≤9:=by split<;>omega
  rw[w64 (n:=(if w.getD i 0<w.getD (i-1) 0 then(i:Int)else 0)) (by omega) (by omega),w64 (n:=a+_) (by omega) (by omega),w64 (n:=(i:Int)+1) (by omega) (by omega)]
  have h:=bF.loop hk hw m j (i+1) (a+if w.getD i 0<w.getD (i-1) 0 then(i:Int)else 0) (by omega) (by omega) (by omega) (by omega) (by omega)
  rw[Int.natCast_succ]at h
  unfold Pu.mH
  rw[←Int.add_assoc]
  exact h
theorem bF.is{k:Nat}{w:LI}(hk:4194304+10≤k)(hw:w.length≤1048576):bF k w=some (Pu.maj w):=by
 obtain⟨k,rfl⟩: ∃k',k=k'+1:=⟨k-1,by omega⟩
 apply Pu.ok_eq
 rw[bF.eq]
 refine Pu.Ok.cV (aT.is (by omega) hw) ?_
 unfold Pu.maj
 simp only[cM]
 refine Pu.Ok.tn (fun hb=> ?_) (fun hb=> ?_)
 ·rw[hb];exact Pu.Ok.ret rfl
 ·rw[hb,if_pos rfl]
  have hl:=(Pu.bJ hb).1
  by_cases c:w.length=0
  ·have e:w= []:=List.eq_nil_of_length_eq_zero c
   subst e
   obtain⟨k,rfl⟩: ∃k',k=k'+1:=⟨k-1,by omega⟩
   rw[bF.bt]
   exact Pu.Ok.no (by decide) (Pu.Ok.ret rfl)
  ·have h:=bF.loop (k:=k) (by omega) hl (w.length-1) k 1 0 (by omega) (by omega) (by omega) (by omega) (by omega)
   rw[Int.zero_add]at h
   exact h
theorem cl.loop{k:Nat}{w:LI}(hk:2000≤k)(hw:w.length≤9)(hl: ∀x∈w,1≤x∧x≤9): ∀(m j i:Nat),i+m=w.length→m<j→Pu.Ok (cl.L0 k j (Pu.tx (Pu.gI (w.take i))) i w) (· =Pu.tx (Pu.gI w))
 |m,0,i,_,hj=>by omega
 |0,j+1,i,hi,_=>by
  rw[cl.bt]
  simp only[dh,dn,b6,b7,cb,bL,bO,bQ,de,bX,bV,bh,bj,cd,a8,bU,cg,ck,cM,dq,ca,cf,bm,bo,bq,br,List.nil_append,List.cons_append]
  refine Pu.Ok.no (by omega) ?_
  rw[List.take_of_length_le (by omega)]
  exact Pu.Ok.ret rfl
 |m+1,j+1,i,hi,hj=>by
  rw[cl.bt]
  simp only[dh,dn,b6,b7,cb,bL,bO,bQ,de,bX,bV,bh,bj,cd,a8,bU,cg,ck,cM,dq,ca,cf,bm,bo,bq,br,List.nil_append,List.cons_append]
  (try simp only[Int.toNat_natCast]);(try simp (disch:=omega) only[w64])
  (repeat (refine Pu.Ok.g (by first|omega|assumption|(simp only[List.length_append,List.length_cons,List.length_nil,List.length_set,List.length_take,List.length_drop,List.length_replicate]at*;omega)) ?_))
  have hm:w.getD i 0∈w:=by rw[Pu.aw (show i<w.length by omega) _];exact List.getElem_mem _
  have hx:=hl _ hm
  refine Pu.Ok.cV (aN.isE (by omega) (by omega) (by omega)) ?_
  have h1:=Pu.nr (w:=w.take i) (fun x hx=>by have:=(hl x (List.mem_of_mem_take hx)).2;omega)
  have h2:=Pu.kB (n:=w.getD i 0) (by omega)
  rw[List.length_take]at h1
  rw[Pu.lI,Pu.gh,Pu.gh]
  refine Pu.Ok.g (by omega) ?_
  (try simp only[Int.toNat_natCast]);(try simp (disch:=omega) only[w64])
  have e:Pu.gI (w.take i)++Pu.dcm (w.getD i 0)=Pu.gI (w.take (i+1)):=by
   unfold Pu.gI
   rw[List.take_add_one,List.flatMap_append,List.getElem?_eq_getElem (show i<w.length by omega),Pu.aw (show i<w.length by omega) _]
   simp
  rw[e]
  exact cl.loop hk hw hl m j (i+1) (by omega) (by omega)
theorem cl.is{k:Nat}{w:LI}(hk:4194304+10≤k)(hw:w.length≤1048576):cl k w=some (Pu.tx (Pu.jg w)):=by
 obtain⟨k,rfl⟩: ∃k',k=k'+1:=⟨k-1,by omega⟩
 apply Pu.ok_eq
 rw[cl.eq]
 refine Pu.Ok.cV (aT.is (by omega) hw) ?_
 unfold Pu.jg
 simp only[dh,dn,b6,b7,cb,bL,bO,bQ,de,bX,bV,bh,bj,cd,a8,bU,cg,ck,cM,dq,ca,cf,bm,bo,bq,br,List.nil_append,List.cons_append]
 refine Pu.Ok.tn (fun hb=> ?_) (fun hb=> ?_)
 ·rw[hb];exact Pu.Ok.ret rfl
 ·rw[hb]
  obtain⟨h1,h2⟩:=Pu.bJ hb
  refine Pu.Ok.t (fun h=> ?_) (fun h=> ?_)
  ·have:w= []:=List.eq_nil_of_length_eq_zero (by omega)
   subst this
   exact Pu.Ok.ret rfl
  ·have h0:w≠ []:=fun e=>h (by rw[e];rfl)
   rw[if_pos rfl,if_neg h0]
   exact cl.loop (k:=k) (by omega) h1 h2 w.length k 0 (by omega) (by omega)
set_option maxHeartbeats 4000000 in
theorem bz.yE{k:Nat}{w:LI}{s:List UInt8}(hk:4194304+60≤k)(hw:Pu.isWord w=true)(hs:s=if Pu.lat w=true then [108,97,116,116,105,99,101]else [111,116,104,101,114]):
  Pu.Ok (bz.J0 k (Pu.tx s) w (Pu.aW w).1.1 (Pu.aW w).1.2 (Pu.cR w).1.1 (Pu.cR w).1.2) (· =Pu.tx (Lib.join (Pu.iO w) [32])):=by
 have hl:=(Pu.bJ hw).1
 obtain⟨i1,i2,i3⟩:=Pu.ku (w:=w)
 obtain⟨r1,r2,r3⟩:=Pu.o7 (w:=w)
 have a1:=Pu.kr (Pu.aW w).1
 have a2:=Pu.kr (Pu.cR w).1
 have a3:=Pu.ou (Pu.eO w)
 have a4:=Pu.kB (Pu.rB hw).2
 have a5:=Pu.kB (Pu.sk hw).2
 have a6:=Pu.oh (Pu.ky w).1
 have hs7:s.length≤7:=by rw[hs];split<;>simp
 have hh:=(Pu.bJ (Pu.qG w)).1
 have hsh:(Pu.eO w).length≤1048576:=by have:=Pu.jc (w:=w);omega
 rw[bz.kF]
 refine Pu.Ok.cV (bT.is (by omega) (by omega)) ?_
 refine Pu.Ok.cV (ao.isE (t:=(Pu.aW w).1) (by omega) i1 i2 i3) ?_
 have L: ∀l:List UInt8,(⟨l.toArray⟩:ByteArray)=Pu.tx l:=fun _=>rfl
 simp only[L,bo,bm,bq,b7,Pu.lI,Pu.gh,List.length_append,List.length_cons,List.length_nil]
 refine Pu.Ok.g (by omega) (Pu.Ok.g (by omega) ?_)
 refine Pu.Ok.cV (ao.isE (t:=(Pu.cR w).1) (by omega) r1 r2 r3) ?_
 simp only[Pu.lI,Pu.gh,List.length_append,List.length_cons,List.length_nil]
 refine Pu.Ok.g (by omega) (Pu.Ok.g (by omega) ?_)
 refine Pu.Ok.cV (eC.is (by omega) (by omega)) ?_
 refine Pu.Ok.cV (dQ.isE (by omega) hsh) ?_
 simp only[Pu.lI,Pu.gh,List.length_append,List.length_cons,List.length_nil]
 refine Pu.Ok.g (by omega) (Pu.Ok.g (by omega) ?_)
 refine Pu.Ok.cV (ay.is (by omega) (by omega)) ?_
 refine Pu.Ok.cV (aN.isE (by omega) (Pu.rB hw).1 (Pu.rB hw).2) ?_
 simp only[Pu.lI,Pu.gh,List.length_append,List.length_cons,List.length_nil]
 refine Pu.Ok.g (by omega) (Pu.Ok.g (by omega) ?_)
 refine Pu.Ok.cV (bF.is (by omega) (by omega)) ?_
 refine Pu.Ok.cV (aN.isE (by omega) (Pu.sk hw).1 (Pu.sk hw).2) ?_
 simp only[Pu.lI,Pu.gh,List.length_append,List.length_cons,List.length_nil]
 refine Pu.Ok.g (by omega) (Pu.Ok.g (by omega) (Pu.Ok.g (by omega) (Pu.Ok.g (by omega) ?_)))
 refine Pu.Ok.cV (cl.is (by omega) (by omega)) ?_
 simp only[Pu.lI,Pu.gh,List.length_append,List.length_cons,List.length_nil]
 refine Pu.Ok.g (by omega) (Pu.Ok.ret ?_)
 congr 1
 unfold Pu.iO
 rw[Lib.join_cons,hs]
 simp only[Lib.joinTail,List.map_cons,List.map_nil,List.flatten_cons,List.flatten_nil,List.append_assoc,List.cons_append,List.nil_append,List.append_nil]
theorem bz.is{k:Nat}{w:LI}(hk:4194304+70≤k)(hw:w.length≤1048576):bz k w=some (Pu.tx (Pu.say w)):=by
 obtain⟨k,rfl⟩: ∃k',k=k'+1:=⟨k-1,by omega⟩
 apply Pu.ok_eq
 rw[bz.eq]
 refine Pu.Ok.cV (aT.is (by omega) hw) ?_
 unfold Pu.say
 simp only[cM]
 refine Pu.Ok.tn (fun hb=> ?_) (fun hb=> ?_)
 ·rw[hb];exact Pu.Ok.ret rfl
 ·rw[hb,if_pos rfl]
  refine Pu.Ok.cV (bn.is (by omega) hb) ?_
  refine Pu.Ok.cV (aM.is (by omega) hw) ?_
  have e1:(([],Pu.jN w []):Pu.Tab)=(Pu.aW w).1:=by unfold Pu.aW;rw[if_pos hb]
  have e2:(([],Pu.lN w [] [] 0):Pu.Tab)=(Pu.cR w).1:=by unfold Pu.cR;rw[if_pos hb]
  rw[e1,e2]
  refine Pu.Ok.tb (fun hc=> ?_) (fun hc=> ?_)
  ·exact bz.yE (by omega) hb (by rw[if_pos hc])
  ·exact bz.yE (by omega) hb (by rw[if_neg (by rw[hc];decide)])
theorem cZ.is{k:Nat}{x lo hi:Int}(hk:1≤k):cZ k x lo hi=some (Pu.within x lo hi):=by
 obtain⟨k,rfl⟩: ∃k',k=k'+1:=⟨k-1,by omega⟩
 rw[cZ.eq]
 by_cases h:lo≤x<;>simp[Pu.within,h]
theorem eZ.is{k:Nat}{x:Int}(hk:2≤k):eZ k x=some (!Pu.within x 1 9,()):=by
 obtain⟨k,rfl⟩: ∃k',k=k'+1:=⟨k-1,by omega⟩
 rw[eZ.eq,cZ.is (by omega)]
 rfl
theorem aq.is{k:Nat}{r:LI}(hk:4194304+1≤k)(hr:r.length≤1048577):aq k r=some (Pu.Cp (fun y=> !Pu.within y 1 9) r,()):=by
 obtain⟨k,rfl⟩: ∃k',k=k'+1:=⟨k-1,by omega⟩
 rw[aq.eq]
 have h:=Pu.yB r 0 (fun y=> !Pu.within y 1 9) (fun j i=>aq.L0 k j r.length i r) (fun i=>some ((i:Int),())) (some (-1,()))
  (fun j i hi=>by
   rw[aq.bt,eZ.is (by omega)]
   cases c:Pu.within (r.getD i 0) 1 9<;>simp (disch:=omega) only[↓aL,sss,if_true,if_false,hi,c,Int.natCast_add,Int.natCast_one])
  (fun j=>by
   rw[aq.bt]
   simp only[↓aL,sss,if_true,if_false,Nat.lt_irrefl]) r.length k 0 (by omega) (by omega) (by omega)
 simp only[Int.natCast_zero]at h
 simp only[bO,bL]
 rw[h]
 unfold Pu.Cp
 split<;>rfl
theorem aY.is{k:Nat}{r:LI}(hk:4194304+2≤k)(hr:r.length≤1048577):aY k r=some (r.any fun y=> !Pu.within y 1 9,()):=by
 obtain⟨k,rfl⟩: ∃k',k=k'+1:=⟨k-1,by omega⟩
 rw[aY.eq,aq.is (by omega) hr,eB,dn,Pu.CK]
theorem cu.is{k:Nat}{w:LI}(hk:4194304+3≤k)(hw:w.length≤1048576):cu k w=some (Pu.isWord w):=by
 obtain⟨k,rfl⟩: ∃k',k=k'+1:=⟨k-1,by omega⟩
 rw[cu.eq,aY.is (by omega) (by omega),eB]
 unfold Pu.isWord
 have e:(!w.any fun y=> !Pu.within y 1 9)=w.all fun n=>Pu.within n 1 9:=by rw[List.all_eq_not_any_not]
 by_cases c:w.length≤9
 ·have c':(w.length:Int)≤9:=by omega
  simp only[↓aL,sss,if_true,if_false,c,c',e]
 ·have c': ¬(w.length:Int)≤9:=by omega
  simp only[↓aL,sss,if_true,if_false,c,c']
theorem dv.loop{k:Nat}{n:Nat}(hn:n≤1000): ∀(m j i:Nat),i+m=n→m<j→dv.L0 k j n i (Pu.mw i)=some (Pu.mw n)
 |m,0,i,_,hj=>by omega
 |0,j+1,i,hi,_=>by
  rw[dv.bt]
  have e:i=n:=by omega
  have hc: ¬(i:Int)<(n:Int):=by omega
  exact tX hc (by rw[e])
 |m+1,j+1,i,hi,hj=>by
  have hc:(i:Int)<(n:Int):=by omega
  have ih:=dv.loop (k:=k) hn m j (i+1) (by omega) (by omega)
  have hws:IntKind.i64.wrap ((i:Int)+1)=((i+1:Nat):Int):=by rw[w64 (by omega) (by omega)];omega
  have hu:Pu.mw i++ [((i+1:Nat):Int)]=Pu.mw (i+1):=by
   unfold Pu.mw
   rw[List.range_succ,List.map_append]
   rfl
  have hap:(Pu.mw i++ [((i+1:Nat):Int)]).length≤1099511627776:=by rw[hu,Pu.mG];omega
  rw[dv.bt]
  simp only[bU,a8,bV,bL,hws]
  refine tG hc (tG hap ?_)
  rw[hu,ih]
theorem dv.is{k n:Nat}(hk:4194304+1≤k)(hn:n≤1000):dv k n=some (Pu.mw n):=by
 obtain⟨k,rfl⟩: ∃k',k=k'+1:=⟨k-1,by omega⟩
 have h:=dv.loop (k:=k) hn n k 0 (by omega) (by omega)
 rw[Int.natCast_zero]at h
 rw[dv.eq]
 exact h
theorem cF.is{k:Nat}{n x:Int}(hk:1≤k):cF k n x=some (decide (x<n),x):=by
 obtain⟨k,rfl⟩: ∃k',k=k'+1:=⟨k-1,by omega⟩
 rw[cF.eq]
 rfl
theorem ai.loop{k:Nat}{r:LI}{x:Int}(hk:1≤k)(hr:r.length≤1048577): ∀(m j i:Nat),i+m=r.length→m<j→i≤r.findIdx (fun n=>decide (x<n))→
  ai.L0 k j r.length i r x=some (if r.findIdx (fun n=>decide (x<n))<r.length then((r.findIdx (fun n=>decide (x<n)):Nat):Int)else-1,x)
 |m,0,i,_,hj,_=>by omega
 |0,j+1,i,hm,_,hi=>by
  rw[ai.bt]
  have e:i=r.length:=by omega
  have h: ¬r.findIdx (fun n=>decide (x<n))<r.length:=by omega
  subst e
  rw[if_neg h]
  simp
 |m+1,j+1,i,hm,hj,hi=>by
  rw[ai.bt]
  have hlt:i<r.length:=by omega
  simp (disch:=omega) only[↓aL,sss,if_true,if_false,hlt,cF.is]
  by_cases c:x<r.getD i 0
  ·have e:r.findIdx (fun n=>decide (x<n))=i:=by
    refine Nat.le_antisymm ?_ hi
    exact Pu.findIdx_le hlt (by simpa using c)
   simp only[c,↓aL,sss,if_true,if_false,e,hlt]
  ·have hne:r.findIdx (fun n=>decide (x<n))≠i:=fun e=>by
    have:=Pu.pF (p:=fun n=>decide (x<n)) (r:=r) (by rw[e];exact hlt)
    rw[e]at this
    exact c (by simpa using this)
   have ih:=ai.loop (k:=k) (x:=x) hk hr m j (i+1) (by omega) (by omega) (by omega)
   rw[Int.natCast_succ]at ih
   simp only[c,↓aL,sss,if_true,if_false,ih]
theorem ai.is{k:Nat}{r:LI}{x:Int}(hk:4194304+1≤k)(hr:r.length≤1048577):
  ai k x r=some (if r.findIdx (fun n=>decide (x<n))<r.length then((r.findIdx (fun n=>decide (x<n)):Nat):Int)else-1,x):=by
 obtain⟨k,rfl⟩: ∃k',k=k'+1:=⟨k-1,by omega⟩
 rw[ai.eq]
 exact ai.loop (k:=k) (by omega) hr r.length k 0 (by omega) (by omega) (by omega)
theorem aJ.loop{k:Nat}{inner:LI}(hk:4194304+1≤k): ∀(m j i:Nat) (x:Int) (rows:LJ),i+m=rows.length→m<j→rows.length≤1048576→(∀r∈rows,r.length≤1048576)→
  aJ.L0 k j rows.length i x rows inner=some (((i+(Pu.a7 (rows.drop i) x).2:Nat):Int),(inner,rows.take i++(Pu.a7 (rows.drop i) x).1))
 |m,0,i,x,rows,_,hj,_,_=>by omega
 |0,j+1,i,x,rows,hm,_,hl,hr=>by
  rw[aJ.bt]
  have e:i=rows.length:=by omega
  subst e
  have h1:rows.length+1≤1099511627776:=by omega
  simp (disch:=omega) only[↓aL,sss,if_true,if_false,Nat.lt_irrefl,h1,List.drop_length,List.take_length,Pu.a7,List.length_append,List.length_cons,List.length_nil,Int.natCast_add,Int.natCast_one,Int.natCast_zero,Int.add_zero,Int.zero_add,Nat.zero_add,Nat.add_zero,Int.add_sub_cancel]
 |m+1,j+1,i,x,rows,hm,hj,hl,hr=>by
  rw[aJ.bt]
  have hlt:i<rows.length:=by omega
  have hx:=hr _ (List.getElem_mem hlt)
  rw[←Pu.aw hlt []]at hx
  have hi:=ai.is (k:=k) (r:=rows.getD i []) (x:=x) (by omega) (by omega)
  rw[Pu.drop_cons hlt []]
  unfold Pu.a7
  generalize hf:(rows.getD i []).findIdx (fun n=>decide (x<n))=f at*
  by_cases c:f<(rows.getD i []).length
  ·rw[if_pos c]at hi⊢
   have ih:=aJ.loop (inner:=inner) hk m j (i+1) ((rows.getD i []).getD f 0) (rows.set i ((rows.getD i []).set f x)) (by rw[List.length_set];omega) (by omega) (by rw[List.length_set];exact hl) (fun r h=>by
    rcases List.mem_or_eq_of_mem_set h with h|rfl
    ·exact hr r h
    ·rw[List.length_set];exact hx)
   rw[Pu.pd hlt,Pu.pb,List.length_set,Int.natCast_succ]at ih
   have hn: ¬(f:Int)<0:=by omega
   simp (disch:=omega) only[↓aL,sss,if_true,if_false,hlt,hi,hn,c,ih]
   simp only[List.append_assoc,List.singleton_append]
   congr 2
   omega
  ·rw[if_neg c]at hi⊢
   have hn:(-1:Int)<0:=by omega
   have h1:(rows.getD i []++ [x]).length≤1099511627776:=by simp only[List.length_append,List.length_cons,List.length_nil];omega
   simp (disch:=omega) only[↓aL,sss,if_true,if_false,hlt,hi,hn,h1,Nat.add_zero]
   rw[Pu.wH hlt]
theorem aJ.is{k:Nat}{inner:LI}{x:Int}{rows:LJ}(hk:4194304+2≤k)(hl:rows.length≤1048576)(hr: ∀r∈rows,r.length≤1048576):
  aJ k x inner rows=some ((((Pu.a7 rows x).2:Nat):Int),(inner,(Pu.a7 rows x).1)):=by
 obtain⟨k,rfl⟩: ∃k',k=k'+1:=⟨k-1,by omega⟩
 rw[aJ.eq]
 have h:=aJ.loop (k:=k) (inner:=inner) (by omega) rows.length k 0 x rows (by omega) (by omega) hl hr
 rw[Int.natCast_zero]at h
 simpa using h
theorem aB.add{k k1:Nat}{i a n:Nat}{W v:LI}{x4:LI}{x5:LJ}{x6:LI}{x7:LJ}{pi:LI}{P:LJ}{qi:LI}{F:LJ}{z:Int}(hi:i<v.length)(hz:v.getD i 0=z)(ha:a<F.length)(hF: ∀r,(F.getD r []).length≤1000)(hw:i≤1000):
  aB.J1 k k1 i a n i v W x4 x5 x6 x7 pi P qi F=aB.L0 k k1 n ((i+1:Nat):Int) v W x4 x5 x6 x7 pi P qi (F.set a (F.getD a []++ [z])):=by
 rw[aB.il]
 have h9:=hF a
 have hws:IntKind.i64.wrap ((i:Int)+1)=((i+1:Nat):Int):=by rw[w64 (by omega) (by omega)];omega
 have hap:(F.getD a []++ [z]).length≤1099511627776:=by rw[List.length_append,List.length_singleton];omega
 simp only[bQ,bL,de,bX,bV,bU,a8,Int.toNat_natCast,hws,hz]
 have a0:=Int.natCast_nonneg a
 exact tG a0 (tG ha (tG ha (tG (Int.natCast_nonneg i) (tG hi (tG hi (tG ha (tG hap (tG a0 (tG ha (tG ha (tG rfl rfl)))))))))))
theorem aB.loop{k:Nat}{W v:LI}{x4:LI}{x5:LJ}{x6:LI}{x7:LJ}(hk:4194304+20≤k)(hW:W.length≤9)(hx: ∀x∈W,1≤x∧x≤9)(hv:v.length=W.length): ∀(m j i:Nat) (P Q Q':LJ),i+m=W.length→m<j→Pu.Ins P Q' i→Pu.eu Q Q'→
  aB.L0 k j W.length i v W x4 x5 x6 x7 [] P [] Q=some (([],Pu.jN (W.drop i) P),([],Pu.Ae ((v.zip W).drop i) P Q))
 |m,0,i,P,Q,Q',_,hj,_,_=>by omega
 |0,j+1,i,P,Q,Q',hi,_,_,_=>by
  rw[aB.bt]
  have hn: ¬(i:Int)<W.length:=by omega
  refine tX hn ?_
  rw[List.drop_of_length_le (by omega),List.drop_of_length_le (by rw[List.length_zip];omega)]
  rfl
 |m+1,j+1,i,P,Q,Q',hi,hj,h,hs=>by
  have hlt:i<W.length:=by omega
  have hn:(i:Int)<W.length:=by omega
  have hxi:=hx _ (List.getElem_mem hlt)
  rw[←Pu.aw hlt 0]at hxi
  obtain⟨s1,_,_⟩:=h.step hxi (by omega)
  have ha:=(tB P (W.getD i 0)).1
  rw[h.same.1,←hs.1]at ha
  have ih:=aB.loop (x4:=x4) (x5:=x5) (x6:=x6) (x7:=x7) hk hW hx hv m j (i+1) (Pu.a7 P (W.getD i 0)).1 (Pu.gA Q (Pu.a7 P (W.getD i 0)).2 (v.getD i 0)) _ (by omega) (by omega) s1 (Pu.zP hs ha _ _)
  have hP:=Pu.jo (Pu.sb h (by omega))
  have hQ:=Pu.jo h.pl
  have hP1:P.length≤9:=hP.1
  have hQ1:Q.length≤9:=by rw[hs.1];exact hQ.1
  have hins:=aJ.is (k:=k) (inner:= []) (x:=W.getD i 0) (rows:=P) (by omega) (by omega) (fun r hr=>by have:=hP.2 r hr;omega)
  have hul:i<v.length:=by omega
  rw[aB.bt,Pu.drop_cons hlt 0,Pu.CV hul hlt]
  show _=some (([],Pu.jN (W.drop (i+1)) (Pu.a7 P (W.getD i 0)).1),([],Pu.Ae ((v.zip W).drop (i+1)) (Pu.a7 P (W.getD i 0)).1 (Pu.gA Q (Pu.a7 P (W.getD i 0)).2 (v.getD i 0))))
  rw[←ih]
  simp only[bQ,bL,bO,de,Int.toNat_natCast]
  refine tG hn (tG (Int.natCast_nonneg i) (tG hlt (tG hlt (bE hins ?_))))
  simp only
  have hq9: ∀r,(Q.getD r []).length≤9:=fun r=>by rw[hs.2];exact hQ.at r
  generalize(Pu.a7 P (W.getD i 0)).2=a at*
  unfold Pu.gA
  by_cases c:a=Q.length
  ·have hc:((a:Nat):Int)=(Q.length:Int):=by omega
   have hap:(Q++ [[]]).length≤1099511627776:=by rw[List.length_append,List.length_singleton];omega
   have hF: ∀r,((Q++ [[]]).getD r []).length≤1000:=fun r=>by
    by_cases hr:r<Q.length
    ·simp only[List.getD_eq_getElem?_getD,List.getElem?_append_left hr]
     have:=hq9 r
     simp only[List.getD_eq_getElem?_getD]at this
     omega
    ·simp only[List.getD_eq_getElem?_getD,List.getElem?_append_right (Nat.le_of_not_lt hr)]
     cases r-Q.length<;>simp
   refine tG hc (tG hap ?_)
   simp only[bV]
   rw[aB.add hul rfl (by rw[List.length_append,List.length_singleton];omega) hF (by omega),if_pos c]
   congr 1
   rw[c]
   simp
  ·have hc: ¬((a:Nat):Int)=(Q.length:Int):=by omega
   refine tX hc ?_
   rw[aB.add hul rfl (by omega) (fun r=>by have:=hq9 r;omega) (by omega),if_neg c]
theorem aB.isL{k:Nat}{W v:LI}(hk:4194304+30≤k)(h:Pu.isWord W=true)(hv:v.length=W.length):aB k W v=some (([],Pu.jN W []),([],Pu.Ae (v.zip W) [] [])):=by
 obtain⟨k,rfl⟩: ∃k',k=k'+1:=⟨k-1,by omega⟩
 obtain⟨h1,h2⟩:=Pu.bJ h
 have hl:=aB.loop (k:=k) (x4:= []) (x5:= []) (x6:= []) (x7:= []) (by omega) h1 h2 hv W.length k 0 [] [] [] (by omega) (by omega) Pu.Ins.nil ⟨rfl,fun _=>rfl⟩
 rw[Int.natCast_zero,List.drop_zero,List.drop_zero]at hl
 rw[aB.eq]
 exact hl
theorem aB.is{k:Nat}{W:LI}(hk:4194304+30≤k)(h:Pu.isWord W=true):aB k W (Pu.mw W.length)=some (([],Pu.jN W []),([],Pu.lN W [] [] 0)):=by
 rw[←Pu.Cw]
 exact aB.isL hk h (Pu.mG _)
theorem dJ.is{k:Nat}{w:LI}(hk:4194304+40≤k)(hw:w.length≤1048576):dJ k w=some (Pu.aW w):=by
 obtain⟨k,rfl⟩: ∃k',k=k'+1:=⟨k-1,by omega⟩
 have h1:=cu.is (k:=k) (w:=w) (by omega) hw
 rw[dJ.eq]
 unfold Pu.aW
 refine bE h1 ?_
 cases c:Pu.isWord w with
 |false=>exact tM rfl
 |true=>
  have h9:=(Pu.bJ c).1
  exact tN (bE (dv.is (n:=w.length) (by omega) (by omega)) (bE (aB.is (by omega) c) rfl))
theorem fb.is{k:Nat}{w:LI}(hk:4194304+40≤k)(hw:w.length≤1048576):fb k w=some (Pu.cR w):=by
 obtain⟨k,rfl⟩: ∃k',k=k'+1:=⟨k-1,by omega⟩
 have h1:=cu.is (k:=k) (w:=w) (by omega) hw
 rw[fb.eq]
 unfold Pu.cR
 refine bE h1 ?_
 cases c:Pu.isWord w with
 |false=>exact tM rfl
 |true=>
  have h9:=(Pu.bJ c).1
  exact tN (bE (dv.is (n:=w.length) (by omega) (by omega)) (bE (aB.is (by omega) c) rfl))
theorem bZ.is{k:Nat}{a:LI}(hk:1≤k)(ha:a.length≤1099511627776):bZ k a=some a:=by
 obtain⟨k,rfl⟩: ∃k',k=k'+1:=⟨k-1,by omega⟩
 rw[bZ.eq]
 by_cases h:a.length=0
 ·have:a= []:=List.eq_nil_of_length_eq_zero h
  subst this
  simp[EK,Cs]
 ·simp[h,ha]
theorem aO.both{k:Nat}{w:LI}{x:Int}(hw:w.length≤9)(hx:1≤x∧x≤8): ∀(m j i:Nat) (low high:LI),i+m=w.length→m<j→low.length≤i→high.length≤i→
  Pu.Ok (aO.L1 k j x (w.length:Int) i low high w) (· =((Pu.fV w x m i low high).1,((Pu.fV w x m i low high).2,true)))∧ ∀(n:Nat) (base:LI),n≤base.length→base.take n=high→Pu.Ok (aO.L4 k j x 0 n (w.length:Int) i low base w) (· =((Pu.fV w x m i low high).1,((Pu.fV w x m i low high).2,true)))
 |m,0,i,low,high,_,hj,_,_=>by omega
 |0,j+1,i,low,high,hi,_,_,_=>by
  refine⟨?_,fun n base hn hb=> ?_⟩
  ·rw[aO.fh]
   simp only[dh,dn,b6,b7,cb,bL,bO,bQ,de,bX,bV,bh,bj,cd,a8,bU,cg,ck,cM,dq,ca,cf,bm,bo,bq,br,List.nil_append,List.cons_append]
   exact Pu.Ok.no (by omega) (Pu.Ok.ret rfl)
  ·rw[aO.ED]
   simp only[dh,dn,b6,b7,cb,bL,bO,bQ,de,bX,bV,bh,bj,cd,a8,bU,cg,ck,cM,dq,ca,cf,bm,bo,bq,br,List.nil_append,List.cons_append]
   rw[List.drop_zero,hb]
   exact Pu.Ok.no (by omega) (Pu.Ok.ret rfl)
 |m+1,j+1,i,low,high,hi,hj,h1,h2=>by
  have ih:=fun low high a b=>aO.both (k:=k) hw hx m j (i+1) low high (by omega) (by omega) a b
  have e1:=w64 (n:=x+1) (by omega) (by omega)
  have e2:=w64 (n:=(i:Int)+1) (by omega) (by omega)
  have hi':i<w.length:=by omega
  have j1: ∀low high,low.length≤i+1→high.length≤i+1→Pu.Ok (aO.J2 k j x (w.length:Int) i low high w) (· =((Pu.fV w x m (i+1) low high).1,((Pu.fV w x m (i+1) low high).2,true))):=by
   intro low high a b
   rw[aO.lU]
   simp only[dh,dn,b6,b7,cb,bL,bO,bQ,de,bX,bV,bh,bj,cd,a8,bU,cg,ck,cM,dq,ca,cf,bm,bo,bq,br,List.nil_append,List.cons_append]
   rw[e2]
   exact(ih low high a b).1
  have j2: ∀(n:Nat) (base low high:LI),low.length≤i+1→high.length≤i+1→n≤base.length→base.take n=high→Pu.Ok (aO.J3 k j x 0 n (w.length:Int) i low base w) (· =((Pu.fV w x m (i+1) low high).1,((Pu.fV w x m (i+1) low high).2,true))):=by
   intro n base low high a b c d
   rw[aO.yF]
   simp only[dh,dn,b6,b7,cb,bL,bO,bQ,de,bX,bV,bh,bj,cd,a8,bU,cg,ck,cM,dq,ca,cf,bm,bo,bq,br,List.nil_append,List.cons_append]
   rw[e2]
   exact(ih low high a b).2 n base c d
  unfold Pu.fV
  refine⟨?_,fun n base hn hb=> ?_⟩
  ·rw[aO.fh]
   simp only[dh,dn,b6,b7,cb,bL,bO,bQ,de,bX,bV,bh,bj,cd,a8,bU,cg,ck,cM,dq,ca,cf,bm,bo,bq,br,List.nil_append,List.cons_append]
   simp only[e1,Int.toNat_natCast]
   refine Pu.Ok.g (by omega) (Pu.Ok.g (by omega) (Pu.Ok.g (by omega) (Pu.Ok.g (by omega) ?_)))
   refine Pu.Ok.t (fun c1=> ?_) (fun c1=> ?_)
   ·rw[if_pos c1]
    refine Pu.Ok.g (by rw[List.length_append,List.length_singleton];omega) ?_
    exact j1 _ _ (by omega) (by rw[List.length_append,List.length_singleton];omega)
   ·rw[if_neg c1]
    refine Pu.Ok.t (fun c2=> ?_) (fun c2=> ?_)
    ·rw[if_pos c2]
     refine Pu.Ok.t (fun c3=> ?_) (fun c3=> ?_)
     ·have c3':0<high.length:=by omega
      rw[if_pos c3']
      have e3:=w64 (n:=(high.length:Int)-1) (by omega) (by omega)
      have e4:((high.length:Int)-1).toNat=high.length-1:=by omega
      simp only[e3,e4,Nat.sub_zero]
      refine Pu.Ok.g (by omega) (Pu.Ok.g (by omega) ?_)
      exact j2 (high.length-1) high low _ (by omega) (by rw[List.length_take];omega) (by omega) rfl
     ·have c3': ¬0<high.length:=by omega
      rw[if_neg c3']
      refine Pu.Ok.g c2 ?_
      refine Pu.Ok.g (by rw[List.length_append,List.length_singleton];omega) ?_
      exact j1 _ _ (by rw[List.length_append,List.length_singleton];omega) (by omega)
    ·rw[if_neg c2]
     refine Pu.Ok.no c2 ?_
     exact j1 _ _ (by omega) (by omega)
  ·rw[aO.ED]
   have hh:high.length=n:=by rw[←hb,List.length_take];omega
   simp only[dh,dn,b6,b7,cb,bL,bO,bQ,de,bX,bV,bh,bj,cd,a8,bU,cg,ck,cM,dq,ca,cf,bm,bo,bq,br,List.nil_append,List.cons_append]
   simp only[e1,Int.toNat_natCast,List.drop_zero,hb]
   refine Pu.Ok.g (by omega) (Pu.Ok.g (by omega) (Pu.Ok.g (by omega) (Pu.Ok.g (by omega) ?_)))
   refine Pu.Ok.t (fun c1=> ?_) (fun c1=> ?_)
   ·rw[if_pos c1]
    refine Pu.Ok.g (by rw[List.length_append,List.length_singleton];omega) ?_
    exact j1 _ _ (by omega) (by rw[List.length_append,List.length_singleton];omega)
   ·rw[if_neg c1]
    refine Pu.Ok.t (fun c2=> ?_) (fun c2=> ?_)
    ·rw[if_pos c2]
     refine Pu.Ok.t (fun c3=> ?_) (fun c3=> ?_)
     ·have c3':0<high.length:=by omega
      rw[if_pos c3']
      have e3:=w64 (n:=(n:Int)-1) (by omega) (by omega)
      have e4:((n:Int)-1).toNat=n-1:=by omega
      simp only[e3,e4,Nat.sub_zero,Nat.add_zero]
      refine Pu.Ok.g (by omega) (Pu.Ok.g (by omega) ?_)
      refine j2 (n-1) base low _ (by omega) (by rw[List.length_take];omega) (by omega) ?_
      rw[←hb,List.take_take,List.length_take]
      congr 1
      omega
     ·have c3': ¬0<high.length:=by omega
      rw[if_neg c3']
      refine Pu.Ok.g c2 ?_
      refine Pu.Ok.g (by rw[List.length_append,List.length_singleton];omega) ?_
      exact j2 n base _ _ (by rw[List.length_append,List.length_singleton];omega) (by omega) hn hb
    ·rw[if_neg c2]
     refine Pu.Ok.no c2 ?_
     exact j2 n base _ _ (by omega) (by omega) hn hb
theorem aO.is{k:Nat}{w:LI}{x:Int}(hk:4194304+10≤k)(hw:w.length≤1048576):aO k w x=some (if(Pu.isWord w&&Pu.within x 1 8)=true then((Pu.free w x).1,((Pu.free w x).2,true))else([],([],false))):=by
 obtain⟨k,rfl⟩: ∃k',k=k'+1:=⟨k-1,by omega⟩
 apply Pu.ok_eq
 rw[aO.eq]
 refine Pu.Ok.cV (cu.is (by omega) hw) ?_
 simp only[cM]
 refine Pu.Ok.tn (fun hb=> ?_) (fun hb=> ?_)
 ·rw[hb];exact Pu.Ok.ret rfl
 ·rw[hb,Bool.true_and]
  refine Pu.Ok.cV (cZ.is (by omega)) ?_
  refine Pu.Ok.tn (fun hc=> ?_) (fun hc=> ?_)
  ·rw[hc];exact Pu.Ok.ret rfl
  ·rw[hc,if_pos rfl]
   simp only[Pu.within,Bool.and_eq_true,decide_eq_true_eq]at hc
   obtain⟨h1,h2⟩:=Pu.bJ hb
   rw[aO.kF]
   exact(aO.both (k:=k) h1 hc w.length k 0 [] [] (by omega) (by omega) (by simp) (by simp)).1
theorem j6.is{k n:Nat}{w:LI}{x:Int}(hk:2≤k)(hw:w.length≤1048576)(hn:n<w.length):j6 k w n x=some (w.set n x):=by
 obtain⟨k,rfl⟩: ∃k',k=k'+1:=⟨k-1,by omega⟩
 apply Pu.ok_eq
 rw[j6.eq]
 refine Pu.Ok.cV (bZ.is (by omega) (by omega)) ?_
 simp only[dh,dn,b6,b7,cb,bL,bO,bQ,de,bX,bV,bh,bj,cd,a8,bU,cg,ck,cM,dq,ca,cf,bm,bo,bq,br,List.nil_append,List.cons_append]
 (try simp only[Int.toNat_natCast]);(try simp (disch:=omega) only[w64])
 (repeat (refine Pu.Ok.g (by first|omega|assumption|(simp only[List.length_append,List.length_cons,List.length_nil,List.length_set,List.length_take,List.length_drop,List.length_replicate]at*;omega)) ?_))
 exact Pu.Ok.ret rfl
theorem fw.is{k:Nat}{w:LI}{x:Int}(hk:4194304+20≤k)(hw:w.length≤1048576):fw k w x=some (Pu.raise w x):=by
 obtain⟨k,rfl⟩: ∃k',k=k'+1:=⟨k-1,by omega⟩
 apply Pu.ok_eq
 rw[fw.eq]
 refine Pu.Ok.cV (aO.is (by omega) hw) ?_
 unfold Pu.raise
 by_cases hb:(Pu.isWord w&&Pu.within x 1 8)=true
 ·rw[if_pos hb,if_pos hb]
  simp only[dh,dn,b6,b7,cb,bL,bO,bQ,de,bX,bV,bh,bj,cd,a8,bU,cg,ck,cM,dq,ca,cf,bm,bo,bq,br,List.nil_append,List.cons_append]
  refine Pu.Ok.t (fun c=> ?_) (fun c=> ?_)
  ·have:(Pu.free w x).2= []:=List.eq_nil_of_length_eq_zero (by omega)
   rw[if_pos this]
   exact Pu.Ok.ret rfl
  ·have hn:(Pu.free w x).2≠ []:=fun e=>c (by rw[e];rfl)
   rw[if_neg hn]
   obtain⟨n,e1,e2,e3⟩:=Pu.rq hn
   have e0:(0:Int).toNat=0:=rfl
   simp only[e0,e1,Int.toNat_natCast]
   (repeat (refine Pu.Ok.g (by first|omega|assumption|(simp only[List.length_append,List.length_cons,List.length_nil,List.length_set,List.length_take,List.length_drop,List.length_replicate]at*;omega)) ?_))
   exact Pu.Ok.cV (j6.is (by omega) hw e2) (Pu.Ok.ret rfl)
 ·rw[if_neg hb,if_neg hb]
  exact Pu.Ok.ret rfl
theorem bc.loop{k:Nat}(hk:4194304+30≤k): ∀(m j:Nat) (x:Int) (w:LI),Pu.isWord w=true→1≤x→x≤9→Pu.fZ w*9+(9-x)<m→m<j→Pu.Ok (bc.L0 k j x w) (· =(Pu.nu m x w,true))
 |m,0,x,w,_,_,_,_,hj=>by omega
 |0,j+1,x,w,hw,h1,h2,hm,_=>by have:=(Pu.ql hw).1;omega
 |m+1,j+1,x,w,hw,h1,h2,hm,hj=>by
  rw[bc.bt]
  have hl:=(Pu.bJ hw).1
  unfold Pu.nu
  simp only[dh]
  refine Pu.Ok.t (fun c=> ?_) (fun c=> ?_)
  ·rw[if_pos c]
   refine Pu.Ok.cV (fw.is (by omega) (by omega)) ?_
   refine Pu.Ok.tb (fun hb=> ?_) (fun hb=> ?_)
   ·rw[if_pos hb]
    obtain⟨r1,r2,r3⟩:=Pu.vF (w:=w) (k:=x) (v:=(Pu.raise w x).1) (by rw[←hb])
    rw[bc.il]
    simp only[dh,dn,b6,b7,cb,bL,bO,bQ,de,bX,bV,bh,bj,cd,a8,bU,cg,ck,cM,dq,ca,cf,bm,bo,bq,br,List.nil_append,List.cons_append]
    rw[w64 (by omega) (by omega)]
    exact bc.loop hk m j (0+1) _ r2 (by omega) (by omega) (by rw[r3];omega) (by omega)
   ·rw[if_neg (by rw[hb];decide)]
    rw[bc.il]
    simp only[dh,dn,b6,b7,cb,bL,bO,bQ,de,bX,bV,bh,bj,cd,a8,bU,cg,ck,cM,dq,ca,cf,bm,bo,bq,br,List.nil_append,List.cons_append]
    rw[w64 (by omega) (by omega)]
    exact bc.loop hk m j (x+1) w hw (by omega) (by omega) (by omega) (by omega)
  ·rw[if_neg c];exact Pu.Ok.ret rfl
theorem bc.is{k:Nat}{w:LI}(hk:4194304+40≤k)(hw:w.length≤1048576):bc k w=some (Pu.ky w):=by
 obtain⟨k,rfl⟩: ∃k',k=k'+1:=⟨k-1,by omega⟩
 apply Pu.ok_eq
 rw[bc.eq]
 refine Pu.Ok.cV (cu.is (by omega) hw) ?_
 unfold Pu.ky
 simp only[cM]
 refine Pu.Ok.tn (fun hb=> ?_) (fun hb=> ?_)
 ·rw[hb];exact Pu.Ok.ret rfl
 ·rw[hb,if_pos rfl]
  refine Pu.Ok.cV (bZ.is (by omega) (by omega)) ?_
  have:=Pu.ql hb
  exact bc.loop (k:=k) (by omega) 2000 k 1 w hb (by omega) (by omega) (by omega) (by omega)
theorem bR.loop{k:Nat}{w:LI}{n:Bool}(hw:w.length≤9)(hl: ∀x∈w,1≤x∧x≤9): ∀(m j:Nat) (c:LI),m≤w.length→m<j→c.length=10→(∀x∈c,0≤x∧x+m≤100)→Pu.Ok (bR.L0 k j ((m:Int)-1) n w c) (· =Pu.sH w m c)
 |m,0,c,_,hj,_,_=>by omega
 |0,j+1,c,hm,_,hc,_=>by
  rw[bR.bt]
  simp only[dh,dn,b6,b7,cb,bL,bO,bQ,de,bX,bV,bh,bj,cd,a8,bU,cg,ck,cM,dq,ca,cf,bm,bo,bq,br,List.nil_append,List.cons_append]
  exact Pu.Ok.no (by omega) (Pu.Ok.ret rfl)
 |m+1,j+1,c,hm,hj,hc,hx=>by
  rw[bR.bt]
  have em:((m+1:Nat):Int)-1=m:=by omega
  rw[em]
  have hm':m<w.length:=by omega
  have hmem:w.getD m 0∈w:=by rw[Pu.aw hm' _];exact List.getElem_mem _
  have hx9:=hl _ hmem
  have hcn:(w.getD m 0).toNat<c.length:=by omega
  have hcm:c.getD (w.getD m 0).toNat 0∈c:=by rw[Pu.aw hcn _];exact List.getElem_mem _
  have hcv:=hx _ hcm
  simp only[dh,dn,b6,b7,cb,bL,bO,bQ,de,bX,bV,bh,bj,cd,a8,bU,cg,ck,cM,dq,ca,cf,bm,bo,bq,br,List.nil_append,List.cons_append]
  have e1:=w64 (n:=c.getD (w.getD m 0).toNat 0+1) (by omega) (by omega)
  have e2:=w64 (n:=w.getD m 0-1) (by omega) (by omega)
  have e3:(w.getD m 0-1).toNat=(w.getD m 0).toNat-1:=by omega
  have e4:=w64 (n:=(m:Int)-1) (by omega) (by omega)
  simp only[Int.toNat_natCast,e1,e2,e3,e4,List.length_set]
  have hset: ∀x∈c.set (w.getD m 0).toNat (c.getD (w.getD m 0).toNat 0+1),0≤x∧x+m≤100:=by
   intro x h
   rcases List.mem_or_eq_of_mem_set h with h|rfl
   ·have:=hx x h;omega
   ·omega
  have ih:=bR.loop (k:=k) (n:=n) hw hl m j (c.set (w.getD m 0).toNat (c.getD (w.getD m 0).toNat 0+1)) (by omega) (by omega) (by rw[List.length_set];exact hc) hset
  unfold Pu.sH
  (repeat (refine Pu.Ok.g (by first|omega|assumption|(simp only[List.length_append,List.length_cons,List.length_nil,List.length_set,List.length_take,List.length_drop,List.length_replicate]at*;omega)) ?_))
  refine Pu.Ok.t (fun h1=> ?_) (fun h1=> ?_)
  ·(repeat (refine Pu.Ok.g (by first|omega|assumption|(simp only[List.length_append,List.length_cons,List.length_nil,List.length_set,List.length_take,List.length_drop,List.length_replicate]at*;omega)) ?_))
   refine Pu.Ok.t (fun h2=> ?_) (fun h2=> ?_)
   ·rw[if_pos ⟨h1,h2⟩];exact Pu.Ok.ret rfl
   ·rw[if_neg (fun h=>h2 h.2)];exact ih
  ·rw[if_neg (fun h=>h1 h.1)];exact ih
theorem bR.is{k:Nat}{w:LI}(hk:4194304+10≤k)(hw:w.length≤1048576):bR k w=some (Pu.lat w):=by
 obtain⟨k,rfl⟩: ∃k',k=k'+1:=⟨k-1,by omega⟩
 apply Pu.ok_eq
 rw[bR.eq]
 refine Pu.Ok.cV (cu.is (by omega) hw) ?_
 unfold Pu.lat
 simp only[cM]
 refine Pu.Ok.tn (fun hb=> ?_) (fun hb=> ?_)
 ·rw[hb];exact Pu.Ok.ret rfl
 ·rw[hb,Bool.true_and]
  obtain⟨h1,h2⟩:=Pu.bJ hb
  simp only[dh,dn,b6,b7,cb,bL,bO,bQ,de,bX,bV,bh,bj,cd,a8,bU,cg,ck,cM,dq,ca,cf,bm,bo,bq,br,List.nil_append,List.cons_append]
  refine Pu.Ok.g (by decide) (Pu.Ok.g (by decide) (Pu.Ok.g (by decide) ?_))
  rw[w64 (n:=(w.length:Int)-1) (by omega) (by omega)]
  exact bR.loop (k:=k) h1 h2 w.length k (List.replicate 10 0) (Nat.le_refl _) (by omega) (by simp) (fun x hx=>by rw[List.eq_of_mem_replicate hx];omega)
theorem aH.loop{k:Nat}{p:LI}(hk:4194304≤k)(hp:p.length≤1048576): ∀(m j i:Nat) (s v:Int),i+m=p.length→m<j→(i=0→v=9)→(0<i→v=p.getD (i-1) 0)→v≤9→0≤s→s≤9→
  aH.L0 k j s p.length i p=some (Pu.gP (p.drop i) v s)
 |m,0,i,s,v,_,hj,_,_,_,_,_=>by omega
 |0,j+1,i,s,v,hi,_,_,_,_,_,_=>by
  rw[aH.bt]
  have e:i=p.length:=by omega
  subst e
  simp[Pu.gP]
 |m+1,j+1,i,s,v,hi,hj,h0,h1,hv,hs,hs9=>by
  rw[aH.bt]
  have hlt:i<p.length:=by omega
  have hj1: ∀x:Int,x=p.getD i 0→1≤x→x≤v→aH.J1 k j s x p.length i p=some (decide (s+x≤9)&&Pu.gP (p.drop (i+1)) x (s+x)):=by
   intro x hx hx1 hx2
   rw[aH.il]
   simp (disch:=omega) only[↓aL,sss,if_true,if_false]
   by_cases c:9<s+x
   ·have: ¬s+x≤9:=by omega
    simp[c,this]
   ·have c':s+x≤9:=by omega
    have ih:=aH.loop hk hp m j (i+1) (s+x) x (by omega) (by omega) (by omega) (by simp[hx]) (by omega) (by omega) c'
    rw[Int.natCast_succ]at ih
    simp[c,c',ih]
  rw[Pu.drop_cons hlt 0]
  simp (disch:=omega) only[↓aL,sss,if_true,if_false,hlt,cZ.is,Pu.gP]
  generalize hx:p.getD i 0=x at*
  unfold Pu.within
  by_cases c1:1≤x
  ·by_cases c2:x≤v
   ·have c3:x≤9:=by omega
    have hj:=hj1 x rfl c1 c2
    by_cases hi0:i=0
    ·have hpos: ¬(0:Int)<i:=by omega
     simp (disch:=omega) only[↓aL,sss,if_true,if_false,c1,c2,c3,hpos,hj]
    ·have hv':=h1 (by omega)
     have e:((i:Int)-1)=((i-1:Nat):Int):=by omega
     have hlt':i-1<p.length:=by omega
     have hge: ¬p.getD (i-1) 0<x:=by rw[←hv'];omega
     have hpos:(0:Int)<i:=by omega
     simp (disch:=omega) only[e,↓aL,sss,if_true,if_false,hlt',c1,c2,c3,hj,hpos,hge]
   ·simp only[c1,c2,↓aL,sss,if_true,if_false]
    by_cases c3:x≤9
    ·have hi0:0<i:=by
      rcases Nat.eq_zero_or_pos i with h|h
      ·have:=h0 h;omega
      ·exact h
     have hv':=h1 hi0
     have e:((i:Int)-1)=((i-1:Nat):Int):=by omega
     have hlt':i-1<p.length:=by omega
     have hge:p.getD (i-1) 0<x:=by rw[←hv'];omega
     have hpos:(0:Int)<i:=by omega
     simp (disch:=omega) only[e,↓aL,sss,if_true,if_false,hlt',c3,hpos,hge]
    ·simp only[c3,↓aL,sss,if_true,if_false]
  ·simp only[c1,↓aL,sss,if_true,if_false]
theorem aH.is{k:Nat}{p:LI}(hk:4194304+1≤k)(hp:p.length≤1048576):aH k p=some (Pu.cz p):=by
 obtain⟨k,rfl⟩: ∃k',k=k'+1:=⟨k-1,by omega⟩
 rw[aH.eq]
 exact aH.loop (k:=k) (by omega) hp p.length k 0 0 9 (by omega) (by omega) (fun _=>rfl) (by omega) (by omega) (by omega) (by omega)
theorem fN.is{k:Nat}{p:LI}{i:Int}(hk:2≤k)(hp:p.length≤1048576):fN k p i=some (Pu.atI p i):=by
 obtain⟨k,rfl⟩: ∃k',k=k'+1:=⟨k-1,by omega⟩
 rw[fN.eq,cZ.is (by omega)]
 unfold Pu.within
 by_cases h1:0≤i
 ·have h0: ¬i<0:=by omega
  by_cases h2:i≤(p.length:Int)-1
  ·have h4:i.toNat<p.length:=by omega
   simp (disch:=omega) only[↓aL,sss,if_true,if_false,h0,h1,h2,h4,Pu.atI]
  ·simp (disch:=omega) only[↓aL,sss,if_true,if_false,h1,h2,Pu.AD (p:=p) (i:=i) (by omega)]
 ·simp (disch:=omega) only[↓aL,sss,if_true,if_false,h1,Pu.tw (p:=p) (i:=i) (by omega)]
theorem bB.loop{k:Nat}{q p:LI}(hq:q.length≤1048576)(hp:p.length≤1048576)(hk:4194304+2≤k):bB.L1 k k q.length 0 p q=some ((List.range' 0 q.length).all fun i=>decide (q.getD i 0≤p.getD i 0)):=by
 have h:=Pu.lr (fun j i=>bB.L1 k j q.length (i:Int) p q) q.length (fun i=>decide (q.getD i 0≤p.getD i 0)) (some false) (some true)
  (fun j i hi=>by
   rw[bB.fh,fN.is (by omega) hp,Pu.fE]
   simp (disch:=omega) only[↓aL,sss,if_true,if_false,hi,Int.natCast_add,Int.natCast_one]
   by_cases c:q.getD i 0≤p.getD i 0
   ·have c': ¬p.getD i 0<q.getD i 0:=by omega
    simp only[c,c',↓aL,sss,if_true,if_false]
   ·have c':p.getD i 0<q.getD i 0:=by omega
    simp only[c,c',↓aL,sss,if_true,if_false])
  (fun j=>by
   rw[bB.fh]
   simp only[↓aL,sss,if_true,if_false,Nat.lt_irrefl]) q.length k 0 (by omega) (by omega)
 simp only[Int.natCast_zero]at h
 rw[h]
 cases(List.range' 0 q.length).all fun i=>decide (q.getD i 0≤p.getD i 0)<;>simp
theorem bB.is{k:Nat}{q p:LI}(hk:4194304+3≤k)(hq:q.length≤1048576)(hp:p.length≤1048576):bB k q p=some (Pu.dY q p):=by
 obtain⟨k,rfl⟩: ∃k',k=k'+1:=⟨k-1,by omega⟩
 rw[bB.eq,aH.is (by omega) hq,eB,bB.kF,Pu.yS]
 cases c1:Pu.cz q with
 |false=>simp only[↓aL,sss,if_true,if_false]
 |true=>
  simp only[↓aL,sss,if_true,if_false]
  rw[aH.is (by omega) hp,eB]
  cases c2:Pu.cz p with
  |false=>simp only[↓aL,sss,if_true,if_false]
  |true=>
   simp only[↓aL,sss,if_true,if_false]
   exact bB.loop hq hp (by omega)
theorem gJ.is{k:Nat}{s:LI×LI}(hk:4194304+4≤k)(hq:s.1.length≤1048576)(hp:s.2.length≤1048576):gJ k s=some (Pu.dY s.2 s.1):=by
 obtain⟨k,rfl⟩: ∃k',k=k'+1:=⟨k-1,by omega⟩
 rw[gJ.eq,bB.is (by omega) hp hq]
 rfl
theorem bG.loop{k:Nat}{t:Pu.Tab}{x3 x4:LI}(hk:4194304+4≤k)(hi:Pu.cz t.1=true)(h2:t.2.length≤1048576)(hr: ∀x∈t.2,x.length≤1048576): ∀(m j i:Nat) (acc:LI),i+m=t.2.length→m<j→acc.length=i→
  bG.L1 k j t.2.length i t.2 t.1 x3 x4 acc t.1=some (if Pu.dY t.1 (acc++Pu.fR t.1 i (t.2.drop i))=true then((acc++Pu.fR t.1 i (t.2.drop i),t.1),true)else(([],[]),false))
 |m,0,i,acc,_,hj,_=>by omega
 |0,j+1,i,acc,hm,_,hacc=>by
  rw[bG.fh]
  have e:i=t.2.length:=by omega
  have h9:=(Pu.cI hi).2.2.1
  have hlt: ¬i<t.2.length:=by omega
  rw[gJ.is (by omega) (by simp only;omega) (by simp only;omega),e]
  simp only[↓aL,sss,if_true,if_false,Nat.lt_irrefl,List.drop_length,Pu.fR,List.append_nil]
  cases Pu.dY t.1 acc<;>simp
 |m+1,j+1,i,acc,hm,hj,hacc=>by
  rw[bG.fh]
  have hlt:i<t.2.length:=by omega
  have hb:=Pu.fc hi i
  have h9:=(Pu.cI hi).2.2.1
  have hrow:=hr t.2[i] (List.getElem_mem hlt)
  rw[←Pu.aw hlt []]at hrow
  rw[fN.is (by omega) (by omega)]
  have ih:=bG.loop (x3:=x3) (x4:=x4) hk hi h2 hr m j (i+1) (acc++ [Pu.atI t.1 i+(t.2.getD i []).length]) (by omega) (by omega) (by simp[hacc])
  rw[Int.natCast_succ]at ih
  rw[Pu.drop_cons hlt []]
  have hl:(acc++ [Pu.atI t.1 i+((t.2.getD i []).length:Int)]).length≤1099511627776:=by simp;omega
  simp (disch:=omega) only[↓aL,sss,if_true,if_false,hlt,hl,ih,Pu.fR]
  simp only[List.append_assoc,List.singleton_append,Pu.fE]
  rfl
theorem bG.is{k:Nat}{t:Pu.Tab}(hk:4194304+5≤k)(h1:t.1.length≤1048576)(h2:t.2.length≤1048576)(hr: ∀x∈t.2,x.length≤1048576):bG k t=some (Pu.shapeOf t):=by
 obtain⟨k,rfl⟩: ∃k',k=k'+1:=⟨k-1,by omega⟩
 rw[bG.eq,aH.is (by omega) h1,bG.kF,bZ.is (by omega) (by omega)]
 simp only[↓aL,sss,if_true,if_false]
 unfold Pu.shapeOf
 cases c1:Pu.cz t.1 with
 |false=>
  have:Pu.dB t=false:=by unfold Pu.dB;rw[c1];rfl
  simp only[this,↓aL,sss,if_true,if_false]
 |true=>
  by_cases c2:t.2.length<t.1.length
  ·have:Pu.dB t=false:=by
    have: ¬t.1.length≤t.2.length:=by omega
    unfold Pu.dB;simp[this]
   simp only[this,c2,↓aL,sss,if_true,if_false]
  ·have c2':t.1.length≤t.2.length:=by omega
   have hloop:=bG.loop (k:=k) (t:=t) (x3:= []) (x4:= []) (by omega) c1 h2 hr t.2.length k 0 [] (by omega) (by omega) rfl
   rw[Int.natCast_zero]at hloop
   simp only[c2,↓aL,sss,if_true,if_false]
   rw[hloop]
   have:Pu.dB t=Pu.dY t.1 (Pu.outer t):=by unfold Pu.dB;simp[c1,c2']
   rw[this]
   rfl
theorem dy.is{k:Nat}{t:Pu.Tab}{r c:Int}(hk:3≤k)(hi:Pu.cz t.1=true)(ht:t.2.length≤1048576)(hr: ∀x∈t.2,x.length≤1048576)(h1: -1000000000≤c)(h2:c≤1000000000):dy k t r c=some (Pu.entry t r c):=by
 obtain⟨k,rfl⟩: ∃k',k=k'+1:=⟨k-1,by omega⟩
 have hb:=Pu.fc hi r
 have h9:=(Pu.cI hi).2.2.1
 rw[dy.eq,cZ.is (by omega)]
 unfold Pu.entry Pu.within
 by_cases c1:r<0
 ·have c1': ¬0≤r:=by omega
  simp (disch:=omega) only[↓aL,sss,if_true,if_false,c1,c1']
 ·have c3:0≤r:=by omega
  by_cases c2:(t.2.length:Int)≤r
  ·have c2': ¬r≤(t.2.length:Int)-1:=by omega
   simp (disch:=omega) only[↓aL,sss,if_true,if_false,c1,c3,c2,c2']
  ·have c2':r≤(t.2.length:Int)-1:=by omega
   have c4:r.toNat<t.2.length:=by omega
   have hx:=hr _ (List.getElem_mem c4)
   rw[←Pu.aw c4 []]at hx
   simp (disch:=omega) only[↓aL,sss,if_true,if_false,c1,c2,c2',c3,c4,fN.is]
theorem aD.inner{k k1:Nat}{t:Pu.Tab}{r:Nat}(hk:4194304≤k)(hi:Pu.cz t.1=true)(ht:t.2.length≤1048576)(hr: ∀x∈t.2,x.length≤1048576)(hlt:r<t.2.length)(n:Int):
  aD.L1 k k1 k r r n r r (t.2.getD r []).length 0 t.2 t.1=if((List.range' 0 (t.2.getD r []).length).all fun q=>Pu.gr t r q)=true then aD.L0 k k1 n ((r:Int)+1) t.2 t.1 else some false:=by
 have hx:=hr _ (List.getElem_mem hlt)
 rw[←Pu.aw hlt []]at hx
 have hb:=Pu.fc hi r
 have h9:=(Pu.cI hi).2.2.1
 have h:=Pu.lr (fun j q=>aD.L1 k k1 j r r n r r (t.2.getD r []).length (q:Int) t.2 t.1) (t.2.getD r []).length (fun q=>Pu.gr t r q) (some false) (aD.L0 k k1 n ((r:Int)+1) t.2 t.1)
  (fun j q hq=>by
   have e3:=dy.is (k:=k) (t:=t) (r:=(r:Int)-1) (c:=t.1.getD r 0+q) (by omega) hi ht hr (by rw[Pu.fE]at hb;omega) (by rw[Pu.fE]at hb;omega)
   have ea:=fN.is (k:=k) (p:=t.1) (i:=r) (by omega) (by omega)
   rw[Pu.fE]at ea
   rw[Pu.fE]at hb
   rw[aD.fh]
   simp (maxSteps:=10000000) (disch:=omega) only[↓aL,sss,if_true,if_false,hlt,hq,cZ.is,ea,e3,aD.lU,Int.natCast_add,Int.natCast_one]
   unfold Pu.gr
   generalize hx0:(t.2.getD r []).getD q 0=x at*
   cases Pu.within x 1 9 with
   |false=>simp
   |true=>
    have up:(if(0:Int)<r then(if x≤Pu.entry t ((r:Int)-1) (t.1.getD r 0+q)then some false else aD.L1 k k1 j r r n r r (t.2.getD r []).length ((q:Int)+1) t.2 t.1)else aD.L1 k k1 j r r n r r (t.2.getD r []).length ((q:Int)+1) t.2 t.1)=
      if(decide (r=0)||decide (Pu.entry t ((r:Int)-1) (t.1.getD r 0+q)<x))=true then aD.L1 k k1 j r r n r r (t.2.getD r []).length ((q:Int)+1) t.2 t.1 else some false:=by
     by_cases e:r=0
     ·subst e;simp
     ·have e':(0:Int)<r:=by omega
      by_cases c:x≤Pu.entry t ((r:Int)-1) (t.1.getD r 0+q)
      ·have c': ¬Pu.entry t ((r:Int)-1) (t.1.getD r 0+q)<x:=by omega
       simp only[e',c,c',e,if_true,if_false,decide_false,Bool.or_false,Bool.false_eq_true]
      ·have c':Pu.entry t ((r:Int)-1) (t.1.getD r 0+q)<x:=by omega
       simp only[e',c,c',e,if_true,if_false,decide_true,decide_false,Bool.false_or]
    by_cases e:q=0
    ·have e': ¬(0:Int)<q:=by omega
     simp only[e',e,↓aL,sss,if_true,if_false,Bool.true_or]
     rw[e]at up
     exact up
    ·have e':(0:Int)<q:=by omega
     have eq:(q:Int)-1=((q-1:Nat):Int):=by omega
     have hq':q-1<(t.2.getD r []).length:=by omega
     simp (disch:=omega) only[e',e,↓aL,sss,if_true,if_false,eq,hq',Bool.false_or]
     by_cases c:x<(t.2.getD r []).getD (q-1) 0
     ·have c': ¬(t.2.getD r []).getD (q-1) 0≤x:=by omega
      simp only[c,c',↓aL,sss,if_true,if_false]
     ·have c':(t.2.getD r []).getD (q-1) 0≤x:=by omega
      simp only[c,c',↓aL,sss,if_true,if_false]
      exact up)
  (fun j=>by
   rw[aD.fh]
   simp (maxSteps:=10000000) (disch:=omega) only[↓aL,sss,if_true,if_false,Nat.lt_irrefl]) (t.2.getD r []).length k 0 (by omega) (by omega)
 simp only[Int.natCast_zero]at h
 exact h
theorem aD.is{k:Nat}{t:Pu.Tab}(hk:4194304+6≤k)(h1:t.1.length≤1048576)(ht:t.2.length≤1048576)(hr: ∀x∈t.2,x.length≤1048576):aD k t=some (Pu.gZ t):=by
 obtain⟨k,rfl⟩: ∃k',k=k'+1:=⟨k-1,by omega⟩
 rw[aD.eq,bG.is (by omega) h1 ht hr,eB]
 unfold Pu.gZ Pu.shapeOf
 cases hs:Pu.dB t with
 |false=>simp[hs]
 |true=>
  have hi:Pu.cz t.1=true:=by
   simp only[Pu.dB,Bool.and_eq_true]at hs;exact hs.1
  have h:=Pu.lr (fun j r=>aD.L0 k j t.2.length r t.2 t.1) t.2.length (fun r=>(List.range' 0 (t.2.getD r []).length).all fun q=>Pu.gr t r q) (some false) (some true)
   (fun j r hlt=>by
    rw[aD.bt]
    simp (disch:=omega) only[↓aL,sss,if_true,if_false,hlt,aD.inner (k1:=j) (show 4194304≤k by omega) hi ht hr hlt,Int.natCast_add,Int.natCast_one])
   (fun j=>by
    rw[aD.bt]
    simp (disch:=omega) only[↓aL,sss,if_true,if_false,Nat.lt_irrefl]) t.2.length k 0 (by omega) (by omega)
  simp only[Int.natCast_zero]at h
  simp only[if_true,↓aL,sss,if_true,if_false]
  rw[h]
  cases(List.range' 0 t.2.length).all fun r=>(List.range' 0 (t.2.getD r []).length).all fun q=>Pu.gr t r q<;>simp
theorem strings_Repeat.is{k:Nat}{n:Int}(hk:1≤k)(h0:0≤n)(h1:n≤1000):strings_Repeat k (Pu.tx [46]) n=some (Pu.tx (List.replicate n.toNat 46)):=by
 obtain⟨k,rfl⟩: ∃k',k=k'+1:=⟨k-1,by omega⟩
 rw[strings_Repeat.eq]
 exact Pu.CD h0 h1
theorem strconv_Itoa.is{k:Nat}{n:Int}(hk:1≤k)(h0:0≤n)(h1:n<100):strconv_Itoa k n=some (Pu.tx (Pu.dcm n)):=by
 obtain⟨k,rfl⟩: ∃k',k=k'+1:=⟨k-1,by omega⟩
 rw[strconv_Itoa.eq]
 exact Pu.BY h0 h1
theorem dx.is{k:Nat}{n:Int}(hk:2≤k)(h0:0≤n)(h1:n<100):dx k n=some (Pu.tx (Pu.dcm n)):=by
 obtain⟨k,rfl⟩: ∃k',k=k'+1:=⟨k-1,by omega⟩
 rw[dx.eq,strconv_Itoa.is (by omega) h0 h1,eB]
theorem strings_Join.is{k:Nat}{ws:List (List UInt8)}{sep:List UInt8}(hk:1≤k)(h1:ws.length≤1000)(h2: ∀w∈ws,w.length≤10000)(hs:sep.length≤10):strings_Join k (ws.map Pu.tx) (Pu.tx sep)=some (Pu.tx (Lib.join ws sep)):=by
 obtain⟨k,rfl⟩: ∃k',k=k'+1:=⟨k-1,by omega⟩
 rw[strings_Join.eq]
 exact Pu.Cm h1 h2 hs
theorem gw.is{k:Nat}{ws:List (List UInt8)}{sep:List UInt8}(hk:2≤k)(h1:ws.length≤1000)(h2: ∀w∈ws,w.length≤10000)(hs:sep.length≤10):gw k (ws.map Pu.tx) (Pu.tx sep)=some (Pu.tx (Lib.join ws sep)):=by
 obtain⟨k,rfl⟩: ∃k',k=k'+1:=⟨k-1,by omega⟩
 rw[gw.eq,strings_Join.is (by omega) h1 h2 hs,eB]
theorem cn.loop{k:Nat}{sep:List UInt8}{l:LI}(hk:10≤k)(hs:sep.length≤10)(hn:l.length≤1000)(hl: ∀x∈l,0≤x∧x<100): ∀(m j i:Nat) (acc:List ByteArray),i+m=l.length→m<j→acc=(l.take i).map (fun n=>Pu.tx (Pu.dcm n))→Pu.Ok (cn.L0 k j (Pu.tx sep) (l.length:Int) i acc l) (· =Pu.tx (Lib.join (l.map Pu.dcm) sep))
 |m,0,i,acc,_,hj,_=>by omega
 |0,j+1,i,acc,hi,_,ha=>by
  rw[cn.bt]
  simp only[dh,dn,b6,b7,cb,bL,bO,bQ,de,bX,bV,bh,bj,cd,a8,bU,cg,ck,cM,dq,ca,cf,bm,bo,bq,br,List.nil_append,List.cons_append]
  refine Pu.Ok.no (by omega) ?_
  have e:acc=(l.map Pu.dcm).map Pu.tx:=by
   rw[ha,List.take_of_length_le (by omega),List.map_map];rfl
  rw[e]
  refine Pu.Ok.cV (gw.is (by omega) (by rw[List.length_map];omega) (fun w hw=> ?_) hs) (Pu.Ok.ret rfl)
  obtain⟨x,hx,rfl⟩:=List.mem_map.1 hw
  have:=Pu.kB (hl x hx).2
  omega
 |m+1,j+1,i,acc,hi,hj,ha=>by
  rw[cn.bt]
  have hlen:acc.length=i:=by rw[ha,List.length_map,List.length_take];omega
  simp only[dh,dn,b6,b7,cb,bL,bO,bQ,de,bX,bV,bh,bj,cd,a8,bU,cg,ck,cM,dq,ca,cf,bm,bo,bq,br,List.nil_append,List.cons_append]
  (try simp only[Int.toNat_natCast]);(try simp (disch:=omega) only[w64])
  (repeat (refine Pu.Ok.g (by first|omega|assumption|(simp only[List.length_append,List.length_cons,List.length_nil,List.length_set,List.length_take,List.length_drop,List.length_replicate]at*;omega)) ?_))
  have hm:l.getD i 0∈l:=by rw[Pu.aw (show i<l.length by omega) _];exact List.getElem_mem _
  refine Pu.Ok.cV (dx.is (by omega) (hl _ hm).1 (hl _ hm).2) ?_
  (repeat (refine Pu.Ok.g (by first|omega|assumption|(simp only[List.length_append,List.length_cons,List.length_nil,List.length_set,List.length_take,List.length_drop,List.length_replicate]at*;omega)) ?_))
  (try simp only[Int.toNat_natCast]);(try simp (disch:=omega) only[w64])
  refine cn.loop hk hs hn hl m j (i+1) _ (by omega) (by omega) ?_
  rw[ha,List.take_add_one,List.map_append,List.getElem?_eq_getElem (show i<l.length by omega),Pu.aw (show i<l.length by omega) _]
  rfl
theorem cn.is{k:Nat}{sep:List UInt8}{l:LI}(hk:2000≤k)(hs:sep.length≤10)(hn:l.length≤1000)(hl: ∀x∈l,0≤x∧x<100):cn k l (Pu.tx sep)=some (Pu.tx (Lib.join (l.map Pu.dcm) sep)):=by
 obtain⟨k,rfl⟩: ∃k',k=k'+1:=⟨k-1,by omega⟩
 apply Pu.ok_eq
 rw[cn.eq]
 exact cn.loop (k:=k) (by omega) hs hn hl l.length k 0 [] (by omega) (by omega) rfl
theorem bg.loop{k:Nat}{t:Pu.Tab}(hk:3000≤k)(ht:Pu.gZ t=true): ∀(m j i:Nat) (acc:List ByteArray),i+m=t.2.length→m<j→acc=((List.range i).map (Pu.oD t)).map Pu.tx→Pu.Ok (bg.L0 k j (t.2.length:Int) i acc t.2 t.1) (· =Pu.tx (Lib.join ((List.range t.2.length).map (Pu.oD t)) [47]))
 |m,0,i,acc,_,hj,_=>by omega
 |0,j+1,i,acc,hi,_,ha=>by
  rw[bg.bt]
  simp only[dh,dn,b6,b7,cb,bL,bO,bQ,de,bX,bV,bh,bj,cd,a8,bU,cg,ck,cM,dq,ca,cf,bm,bo,bq,br,List.nil_append,List.cons_append]
  refine Pu.Ok.no (by omega) ?_
  have e:i=t.2.length:=by omega
  subst e
  have h9:=(Pu.gR ht).1
  rw[ha]
  refine Pu.Ok.cV (gw.is (sep:= [47]) (by omega) (by rw[List.length_map,List.length_range];omega) (fun w hw=> ?_) (by decide)) (Pu.Ok.ret rfl)
  obtain⟨x,hx,rfl⟩:=List.mem_map.1 hw
  have:=Pu.oU ht x
  omega
 |m+1,j+1,i,acc,hi,hj,ha=>by
  rw[bg.bt]
  have hlen:acc.length=i:=by rw[ha,List.length_map,List.length_map,List.length_range]
  have h9:=(Pu.gR ht).1
  obtain⟨p1,p2,p3,p4⟩:=Pu.jy ht
  simp only[dh,dn,b6,b7,cb,bL,bO,bQ,de,bX,bV,bh,bj,cd,a8,bU,cg,ck,cM,dq,ca,cf,bm,bo,bq,br,List.nil_append,List.cons_append]
  (try simp only[Int.toNat_natCast]);(try simp (disch:=omega) only[w64])
  (repeat (refine Pu.Ok.g (by first|omega|assumption|(simp only[List.length_append,List.length_cons,List.length_nil,List.length_set,List.length_take,List.length_drop,List.length_replicate]at*;omega)) ?_))
  have hb:=Pu.fc p1 i
  refine Pu.Ok.cV (fN.is (by omega) (by omega)) ?_
  have e46:(⟨#[46]⟩:ByteArray)=Pu.tx [46]:=rfl
  have e0:(⟨#[]⟩:ByteArray)=Pu.tx []:=rfl
  rw[e46,e0]
  refine Pu.Ok.cV (strings_Repeat.is (by omega) hb.1 (by omega)) ?_
  (repeat (refine Pu.Ok.g (by first|omega|assumption|(simp only[List.length_append,List.length_cons,List.length_nil,List.length_set,List.length_take,List.length_drop,List.length_replicate]at*;omega)) ?_))
  have hr:=(Pu.gR ht).at i
  refine Pu.Ok.cV (cn.is (by omega) (by decide) (by omega) (fun x hx=>by have:=Pu.rW ht hx;omega)) ?_
  rw[Pu.sq,Pu.lI,Pu.gh,Pu.gh]
  have hrl:=Pu.oU ht i
  have hrl':(List.replicate (Pu.atI t.1 i).toNat (46:UInt8)).length+(Pu.gI (t.2.getD i [])).length≤100:=by
   rw[←List.length_append];exact hrl
  refine Pu.Ok.g (by omega) ?_
  (repeat (refine Pu.Ok.g (by first|omega|assumption|(simp only[List.length_append,List.length_cons,List.length_nil,List.length_set,List.length_take,List.length_drop,List.length_replicate]at*;omega)) ?_))
  (try simp only[Int.toNat_natCast]);(try simp (disch:=omega) only[w64])
  refine bg.loop hk ht m j (i+1) _ (by omega) (by omega) ?_
  rw[ha,List.range_succ,List.map_append,List.map_append]
  rfl
theorem bg.is{k:Nat}{t:Pu.Tab}(hk:4194304+20≤k)(h1:t.1.length≤1048576)(h2:t.2.length≤1048576)(hr: ∀x∈t.2,x.length≤1048576):bg k t=some (Pu.tx (Pu.jA t)):=by
 obtain⟨k,rfl⟩: ∃k',k=k'+1:=⟨k-1,by omega⟩
 apply Pu.ok_eq
 rw[bg.eq]
 refine Pu.Ok.cV (aD.is (by omega) h1 h2 hr) ?_
 unfold Pu.jA
 simp only[dh,dn,b6,b7,cb,bL,bO,bQ,de,bX,bV,bh,bj,cd,a8,bU,cg,ck,cM,dq,ca,cf,bm,bo,bq,br,List.nil_append,List.cons_append]
 refine Pu.Ok.tn (fun hb=> ?_) (fun hb=> ?_)
 ·rw[hb];exact Pu.Ok.ret rfl
 ·rw[hb]
  refine Pu.Ok.t (fun h=> ?_) (fun h=> ?_)
  ·have:t.2= []:=List.eq_nil_of_length_eq_zero (by simpa using h)
   rw[this]
   exact Pu.Ok.ret rfl
  ·have h0:t.2≠ []:=fun e=>h (by rw[e];rfl)
   rw[if_pos rfl,if_neg h0]
   exact bg.loop (k:=k) (by omega) hb t.2.length k 0 [] (Nat.zero_add _) (by show t.2.length<k;omega) rfl
theorem eD.is{k:Nat}{w:LI}(hk:4194304+50≤k)(hw:w.length≤1048576):eD k w=some (Pu.eO w):=by
 obtain⟨k,rfl⟩: ∃k',k=k'+1:=⟨k-1,by omega⟩
 have h1:=dJ.is (k:=k) (w:=w) (by omega) hw
 have ho:=Pu.ku (w:=w)
 have hl:=Pu.jc (w:=w)
 rw[eD.eq]
 refine bE h1 ?_
 unfold Pu.eO at hl⊢
 cases c:Pu.isWord w with
 |false=>
  have e:(Pu.aW w).2=false:=by unfold Pu.aW;rw[c];rfl
  rw[e]
  exact tM rfl
 |true=>
  have e:(Pu.aW w).2=true:=by unfold Pu.aW;rw[c];rfl
  rw[e,if_pos rfl]
  rw[c,if_pos rfl]at hl
  have hp:=Pu.iH c
  have hp':=hp
  simp only[Pu.cx,Bool.and_eq_true]at hp'
  have hs:=bG.is (k:=k) (t:=(Pu.aW w).1) (by omega) ho.1 ho.2.1 ho.2.2
  have hso:Pu.shapeOf (Pu.aW w).1=((Pu.outer (Pu.aW w).1,(Pu.aW w).1.1),true):=by unfold Pu.shapeOf;rw[if_pos (Pu.oQ hp'.1)]
  rw[hso]at hs
  exact tN (bE hs rfl)
theorem dP.is{k:Nat}{w:LI}(hk:4194304+10≤k)(hw:w.length≤1048576):dP k w=some (Pu.tx (Pu.jk w)):=by
 obtain⟨k,rfl⟩: ∃k',k=k'+1:=⟨k-1,by omega⟩
 apply Pu.ok_eq
 rw[dP.eq]
 refine Pu.Ok.cV (aH.is (by omega) hw) ?_
 unfold Pu.jk
 simp only[dh,dn,b6,b7,cb,bL,bO,bQ,de,bX,bV,bh,bj,cd,a8,bU,cg,ck,cM,dq,ca,cf,bm,bo,bq,br,List.nil_append,List.cons_append]
 refine Pu.Ok.tn (fun hb=> ?_) (fun hb=> ?_)
 ·rw[hb];exact Pu.Ok.ret rfl
 ·rw[hb]
  refine Pu.Ok.t (fun h=> ?_) (fun h=> ?_)
  ·have:w= []:=List.eq_nil_of_length_eq_zero (by omega)
   subst this
   exact Pu.Ok.ret rfl
  ·have h0:w≠ []:=fun e=>h (by rw[e];rfl)
   rw[if_pos rfl,if_neg h0]
   obtain⟨hp,_,hl,_⟩:=Pu.cI hb
   refine Pu.Ok.cV (cn.is (sep:= [44]) (by omega) (by decide) (by omega) (fun x hx=>by have:=hp x hx;omega)) (Pu.Ok.ret rfl)
theorem al.wq{k k1:Nat}{w:LI}{i:Nat}{n v:Int}(hk:10≤k)(hw:w.length≤9)(hi:i<w.length): ∀(m j q:Nat) (a:Int),q+m=i→m<j→0≤a→a+m≤1000→Pu.Ok (al.L0 k k1 (a+Pu.l6 w i m q) n ((i:Int)+1) w) (· =v)→Pu.Ok (al.L1 k k1 j a i n i i q w) (· =v)
 |m,0,q,a,_,hj,_,_,_=>by omega
 |0,j+1,q,a,hq,hj,h0,h1,key=>by
  rw[al.fh]
  simp only[dh,dn,b6,b7,cb,bL,bO,bQ,de,bX,bV,bh,bj,cd,a8,bU,cg,ck,cM,dq,ca,cf,bm,bo,bq,br,List.nil_append,List.cons_append]
  (try simp only[Int.toNat_natCast]);(try simp (disch:=omega) only[w64])
  refine Pu.Ok.no (by omega) ?_
  unfold Pu.l6 at key
  rw[Int.add_zero]at key
  exact key
 |m+1,j+1,q,a,hq,hj,h0,h1,key=>by
  rw[al.fh]
  simp only[dh,dn,b6,b7,cb,bL,bO,bQ,de,bX,bV,bh,bj,cd,a8,bU,cg,ck,cM,dq,ca,cf,bm,bo,bq,br,List.nil_append,List.cons_append]
  (try simp only[Int.toNat_natCast]);(try simp (disch:=omega) only[w64])
  (repeat (refine Pu.Ok.g (by first|omega|assumption|(simp only[List.length_append,List.length_cons,List.length_nil,List.length_set,List.length_take,List.length_drop,List.length_replicate]at*;omega)) ?_))
  unfold Pu.l6 at key
  rw[←Int.add_assoc]at key
  refine Pu.Ok.t (fun c=> ?_) (fun c=> ?_)
  ·rw[if_pos c]at key
   rw[al.lU]
   simp only[dh,dn,b6,b7,cb,bL,bO,bQ,de,bX,bV,bh,bj,cd,a8,bU,cg,ck,cM,dq,ca,cf,bm,bo,bq,br,List.nil_append,List.cons_append]
   (try simp only[Int.toNat_natCast]);(try simp (disch:=omega) only[w64])
   exact al.wq hk hw hi m j (q+1) (a+1) (by omega) (by omega) (by omega) (by omega) key
  ·rw[if_neg c,Int.add_zero]at key
   rw[al.lU]
   simp only[dh,dn,b6,b7,cb,bL,bO,bQ,de,bX,bV,bh,bj,cd,a8,bU,cg,ck,cM,dq,ca,cf,bm,bo,bq,br,List.nil_append,List.cons_append]
   (try simp only[Int.toNat_natCast]);(try simp (disch:=omega) only[w64])
   exact al.wq hk hw hi m j (q+1) a (by omega) (by omega) (by omega) (by omega) key
theorem al.loop{k:Nat}{w:LI}(hk:100≤k)(hw:w.length≤9): ∀(m j i:Nat) (a:Int),i+m=w.length→m<j→0≤a→a+m*9≤900→Pu.Ok (al.L0 k j a (w.length:Int) i w) (· =a+Pu.mf w m i)
 |m,0,i,a,_,hj,_,_=>by omega
 |0,j+1,i,a,hi,_,_,_=>by
  rw[al.bt]
  simp only[dh,dn,b6,b7,cb,bL,bO,bQ,de,bX,bV,bh,bj,cd,a8,bU,cg,ck,cM,dq,ca,cf,bm,bo,bq,br,List.nil_append,List.cons_append]
  refine Pu.Ok.no (by omega) ?_
  unfold Pu.mf
  rw[Int.add_zero]
  exact Pu.Ok.ret rfl
 |m+1,j+1,i,a,hi,hj,h0,h1=>by
  rw[al.bt]
  simp only[dh,dn,b6,b7,cb,bL,bO,bQ,de,bX,bV,bh,bj,cd,a8,bU,cg,ck,cM,dq,ca,cf,bm,bo,bq,br,List.nil_append,List.cons_append]
  refine Pu.Ok.g (by omega) ?_
  have hb:=Pu.qt w i i 0
  refine al.wq (by omega) hw (by omega) i k 0 a (by omega) (by omega) h0 (by omega) ?_
  have h:=al.loop hk hw m j (i+1) (a+Pu.l6 w i i 0) (by omega) (by omega) (by omega) (by omega)
  rw[Int.natCast_succ]at h
  unfold Pu.mf
  rw[←Int.add_assoc]
  exact h
theorem al.is{k:Nat}{w:LI}(hk:4194304+10≤k)(hw:w.length≤1048576):al k w=some (Pu.inv w):=by
 obtain⟨k,rfl⟩: ∃k',k=k'+1:=⟨k-1,by omega⟩
 apply Pu.ok_eq
 rw[al.eq]
 refine Pu.Ok.cV (cu.is (by omega) hw) ?_
 unfold Pu.inv
 simp only[cM]
 refine Pu.Ok.tn (fun hb=> ?_) (fun hb=> ?_)
 ·rw[hb];exact Pu.Ok.ret rfl
 ·rw[hb,if_pos rfl]
  have hl:=(Pu.bJ hb).1
  have h:=al.loop (k:=k) (by omega) hl w.length k 0 0 (by omega) (by omega) (by omega) (by omega)
  rw[Int.zero_add]at h
  exact h
theorem aP.loop{k:Nat}{w:LI}(hk:100≤k)(hw:w.length≤9): ∀(m j i:Nat) (a:Int),i+m=w.length→1≤i→m<j→0≤a→a+m*9≤900→Pu.Ok (aP.L0 k j a i w) (· =a+Pu.mH w m i)
 |m,0,i,a,_,_,hj,_,_=>by omega
 |0,j+1,i,a,hi,_,_,_,_=>by
  rw[aP.bt]
  simp only[dh,dn,b6,b7,cb,bL,bO,bQ,de,bX,bV,bh,bj,cd,a8,bU,cg,ck,cM,dq,ca,cf,bm,bo,bq,br,List.nil_append,List.cons_append]
  refine Pu.Ok.no (by omega) ?_
  unfold Pu.mH
  rw[Int.add_zero]
  exact Pu.Ok.ret rfl
 |m+1,j+1,i,a,hi,h1,hj,h0,h2=>by
  rw[aP.bt]
  simp only[dh,dn,b6,b7,cb,bL,bO,bQ,de,bX,bV,bh,bj,cd,a8,bU,cg,ck,cM,dq,ca,cf,bm,bo,bq,br,List.nil_append,List.cons_append]
  have e1:=w64 (n:=(i:Int)-1) (by omega) (by omega)
  have e2:((i:Int)-1).toNat=i-1:=by omega
  simp only[e1,e2,Int.toNat_natCast]
  (repeat (refine Pu.Ok.g (by first|omega|assumption|(simp only[List.length_append,List.length_cons,List.length_nil,List.length_set,List.length_take,List.length_drop,List.length_replicate]at*;omega)) ?_))
  unfold Pu.mH
  rw[←Int.add_assoc]
  refine Pu.Ok.t (fun c=> ?_) (fun c=> ?_)
  ·rw[if_pos c,aP.il]
   simp only[dh,dn,b6,b7,cb,bL,bO,bQ,de,bX,bV,bh,bj,cd,a8,bU,cg,ck,cM,dq,ca,cf,bm,bo,bq,br,List.nil_append,List.cons_append]
   rw[w64 (n:=a+_) (by omega) (by omega),w64 (n:=(i:Int)+1) (by omega) (by omega)]
   exact aP.loop hk hw m j (i+1) (a+(i:Int)) (by omega) (by omega) (by omega) (by omega) (by omega)
  ·rw[if_neg c,Int.add_zero,aP.il]
   simp only[dh,dn,b6,b7,cb,bL,bO,bQ,de,bX,bV,bh,bj,cd,a8,bU,cg,ck,cM,dq,ca,cf,bm,bo,bq,br,List.nil_append,List.cons_append]
   rw[w64 (n:=(i:Int)+1) (by omega) (by omega)]
   exact aP.loop hk hw m j (i+1) a (by omega) (by omega) (by omega) (by omega) (by omega)
theorem aP.is{k:Nat}{w:LI}(hk:4194304+10≤k)(hw:w.length≤1048576):aP k w=some (Pu.maj w):=by
 obtain⟨k,rfl⟩: ∃k',k=k'+1:=⟨k-1,by omega⟩
 apply Pu.ok_eq
 rw[aP.eq]
 refine Pu.Ok.cV (cu.is (by omega) hw) ?_
 unfold Pu.maj
 simp only[cM]
 refine Pu.Ok.tn (fun hb=> ?_) (fun hb=> ?_)
 ·rw[hb];exact Pu.Ok.ret rfl
 ·rw[hb,if_pos rfl]
  have hl:=(Pu.bJ hb).1
  by_cases c:w.length=0
  ·have e:w= []:=List.eq_nil_of_length_eq_zero c
   subst e
   obtain⟨k,rfl⟩: ∃k',k=k'+1:=⟨k-1,by omega⟩
   rw[aP.bt]
   exact Pu.Ok.no (by decide) (Pu.Ok.ret rfl)
  ·have h:=aP.loop (k:=k) (by omega) hl (w.length-1) k 1 0 (by omega) (by omega) (by omega) (by omega) (by omega)
   rw[Int.zero_add]at h
   exact h
theorem fT.is{k:Nat}{w:LI}(hk:4194304+10≤k)(hw:w.length≤1048576):fT k w=some (Pu.tx (Pu.jg w)):=by
 obtain⟨k,rfl⟩: ∃k',k=k'+1:=⟨k-1,by omega⟩
 apply Pu.ok_eq
 rw[fT.eq]
 refine Pu.Ok.cV (cu.is (by omega) hw) ?_
 unfold Pu.jg
 simp only[dh,dn,b6,b7,cb,bL,bO,bQ,de,bX,bV,bh,bj,cd,a8,bU,cg,ck,cM,dq,ca,cf,bm,bo,bq,br,List.nil_append,List.cons_append]
 refine Pu.Ok.tn (fun hb=> ?_) (fun hb=> ?_)
 ·rw[hb];exact Pu.Ok.ret rfl
 ·rw[hb]
  obtain⟨h1,h2⟩:=Pu.bJ hb
  refine Pu.Ok.t (fun h=> ?_) (fun h=> ?_)
  ·have:w= []:=List.eq_nil_of_length_eq_zero (by omega)
   subst this
   exact Pu.Ok.ret rfl
  ·have h0:w≠ []:=fun e=>h (by rw[e];rfl)
   rw[if_pos rfl,if_neg h0]
   refine Pu.Ok.cV (cn.is (sep:= []) (by omega) (by decide) (by omega) (fun x hx=>⟨by have:=(h2 x hx).1;omega,by have:=(h2 x hx).2;omega⟩)) ?_
   rw[Pu.sq]
   exact Pu.Ok.ret rfl
theorem bw.yE{k:Nat}{w:LI}{s:List UInt8}(hk:4194304+60≤k)(hw:Pu.isWord w=true)(hs:s=if Pu.lat w=true then [108,97,116,116,105,99,101]else [111,116,104,101,114]):
  Pu.Ok (bw.J0 k (Pu.tx s) w (Pu.ky w).1 (Pu.aW w).1.1 (Pu.aW w).1.2 (Pu.cR w).1.1 (Pu.cR w).1.2) (· =Pu.tx (Lib.join (Pu.iO w) [32])):=by
 have hl:=(Pu.bJ hw).1
 obtain⟨i1,i2,i3⟩:=Pu.ku (w:=w)
 obtain⟨r1,r2,r3⟩:=Pu.o7 (w:=w)
 have hh:=(Pu.bJ (Pu.qG w)).1
 have hsh:(Pu.eO w).length≤1048576:=by have:=Pu.jc (w:=w);omega
 rw[bw.kF]
 refine Pu.Ok.cV (bg.is (t:=(Pu.aW w).1) (by omega) i1 i2 i3) ?_
 refine Pu.Ok.cV (bg.is (t:=(Pu.cR w).1) (by omega) r1 r2 r3) ?_
 refine Pu.Ok.cV (eD.is (by omega) (by omega)) ?_
 refine Pu.Ok.cV (dP.is (by omega) hsh) ?_
 refine Pu.Ok.cV (al.is (by omega) (by omega)) ?_
 refine Pu.Ok.cV (dx.is (by omega) (Pu.rB hw).1 (Pu.rB hw).2) ?_
 refine Pu.Ok.cV (aP.is (by omega) (by omega)) ?_
 refine Pu.Ok.cV (dx.is (by omega) (Pu.sk hw).1 (Pu.sk hw).2) ?_
 refine Pu.Ok.cV (fT.is (by omega) (by omega)) ?_
 have h:=gw.is (k:=k) (ws:=Pu.iO w) (sep:= [32]) (by omega) (by simp[Pu.iO]) (Pu.xE hw) (by decide)
 unfold Pu.iO at h
 rw[←hs]at h
 refine Pu.Ok.cV h ?_
 unfold Pu.iO
 rw[←hs]
 exact Pu.Ok.ret rfl
theorem bw.is{k:Nat}{w:LI}(hk:4194304+70≤k)(hw:w.length≤1048576):bw k w=some (Pu.tx (Pu.say w)):=by
 obtain⟨k,rfl⟩: ∃k',k=k'+1:=⟨k-1,by omega⟩
 apply Pu.ok_eq
 rw[bw.eq]
 refine Pu.Ok.cV (dJ.is (by omega) hw) ?_
 unfold Pu.say
 simp only[cM]
 by_cases hb:Pu.isWord w=true
 ·have e1:(Pu.aW w).2=true:=by unfold Pu.aW;rw[if_pos hb]
  rw[e1,if_pos hb]
  refine Pu.Ok.tn (fun h=>by cases h) (fun _=> ?_)
  refine Pu.Ok.cV (fb.is (by omega) hw) ?_
  refine Pu.Ok.cV (bc.is (by omega) hw) ?_
  refine Pu.Ok.cV (bR.is (by omega) hw) ?_
  refine Pu.Ok.tb (fun hc=> ?_) (fun hc=> ?_)
  ·exact bw.yE (by omega) hb (by rw[if_pos hc])
  ·exact bw.yE (by omega) hb (by rw[if_neg (by rw[hc];decide)])
 ·have e1:(Pu.aW w).2=false:=by unfold Pu.aW;rw[if_neg hb]
  rw[e1,if_neg hb]
  exact Pu.Ok.tn (fun _=>Pu.Ok.ret rfl) (fun h=>by cases h)
theorem cN.loop{k:Nat}{a b:LI}(hl:a.length=b.length)(ha:a.length≤1048576): ∀(m j i:Nat),i+m=a.length→m<j→cN.L0 k j i a b=some (decide (a.drop i=b.drop i))
 |m,0,i,_,hj=>by omega
 |0,j+1,i,hi,_=>by
  rw[cN.bt]
  have e:i=a.length:=by omega
  subst e
  simp[hl]
 |m+1,j+1,i,hi,hj=>by
  rw[cN.bt]
  have h1:i<a.length:=by omega
  have h2:i<b.length:=by omega
  have ih:=cN.loop (k:=k) hl ha m j (i+1) (by omega) (by omega)
  rw[Int.natCast_succ]at ih
  rw[Pu.drop_cons h1 0,Pu.drop_cons h2 0]
  by_cases e:a.getD i 0=b.getD i 0<;>simp (disch:=omega) only[aL,dh,dn,b6,bL,bO,bQ,de,a8,bU,cM,dq,w64,Int.toNat_natCast,decide_eq_true_eq,Int.ofNat_lt,h1,h2,if_true,Int.natCast_nonneg,decide_true,ih,e,List.cons.injEq,true_and,false_and,decide_false,Bool.not_true,Bool.not_false,if_false,Bool.false_eq_true]
theorem cN.is{k:Nat}{a b:LI}(hk:4194304+1≤k)(ha:a.length≤1048576):cN k a b=some (decide (a=b)):=by
 obtain⟨k,rfl⟩: ∃k',k=k'+1:=⟨k-1,by omega⟩
 rw[cN.eq]
 by_cases hl:a.length=b.length
 ·have h:=cN.loop (k:=k) hl ha a.length k 0 (by omega) (by omega)
  rw[Int.natCast_zero]at h
  simp only[List.drop_zero]at h
  have hl':(a.length:Int)=b.length:=by omega
  simp only[aL,cM,dq,bO,bL,hl',decide_true,Bool.not_true,Bool.false_eq_true,if_false,h]
 ·have hne:a≠b:=fun e=>hl (by rw[e])
  have hl': ¬(a.length:Int)=b.length:=by omega
  simp[hl',hne]
theorem bP.at{k:Nat}{w:LI}(hk:4194304+80≤k)(hw:w.length≤maxLen):bP (k+1) w=some true:=by
 apply Pu.ok_eq
 rw[bP.eq]
 simp only[dh,bO,bL]
 refine Pu.Ok.t (fun c=>Pu.Ok.ret rfl) (fun c=> ?_)
 have hl:w.length≤1048576:=by omega
 refine Pu.Ok.cV (cp.is (by omega) hl) ?_
 refine Pu.Ok.cV (bz.is (by omega) hl) ?_
 refine Pu.Ok.cV (cp.is (by omega) hl) ?_
 refine Pu.Ok.cV (bw.is (by omega) hl) ?_
 simp only[Fb,beq_self_eq_true]
 refine Pu.Ok.tn (fun h=>by cases h) (fun _=> ?_)
 refine Pu.Ok.cV (cp.is (by omega) hl) ?_
 refine Pu.Ok.cV (cN.is (by omega) hl) ?_
 exact Pu.Ok.tn (fun h=>by simp at h) (fun _=>Pu.Ok.ret rfl)
theorem bP.is{w:LI}(hw:w.length≤maxLen): ∃k,bP k w=some true:=⟨_,bP.at (Nat.le_refl _) hw⟩
end Go.Am.Seat
