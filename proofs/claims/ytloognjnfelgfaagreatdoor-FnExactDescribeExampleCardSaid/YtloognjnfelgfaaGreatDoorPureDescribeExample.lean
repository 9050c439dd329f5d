/- What the functions make of data, as plain words; each holds for all data within the bounds that it names. -/
import Derived.Test.YtloognjnfelgfaaGreatDoorEqsDescribeExample
import Derived.Test.YtloognjnfelgfaaGreatDoorPu
set_option linter.unusedSimpArgs false
set_option linter.unusedVariables false
set_option linter.unnecessarySimpa false
set_option linter.unusedSectionVars false
namespace Go.Am.Seat
open Go Go.Am Go.Am.Pu
attribute [local instance] D.real
set_option linter.unusedSimpArgs false
set_option linter.unusedVariables false
set_option maxRecDepth 4000
theorem eH.is{k:Nat}{n:Int}(hk:1≤k):eH k n=some (Pu.tx (Pu.lR n)):=by
 obtain⟨k,rfl⟩: ∃k',k=k'+1:=⟨k-1,by omega⟩
 rw[eH.eq]
 unfold Pu.lR
 simp only[di]
 by_cases h1:n=1
 ·rw[if_pos h1];exact tG h1 rfl
 rw[if_neg h1];refine tX h1 ?_
 by_cases h2:n=2
 ·rw[if_pos h2];exact tG h2 rfl
 rw[if_neg h2];refine tX h2 ?_
 by_cases h3:n=3
 ·rw[if_pos h3];exact tG h3 rfl
 rw[if_neg h3];refine tX h3 ?_
 by_cases h4:n=4
 ·rw[if_pos h4];exact tG h4 rfl
 rw[if_neg h4];refine tX h4 ?_
 by_cases h5:n=5
 ·rw[if_pos h5];exact tG h5 rfl
 rw[if_neg h5];refine tX h5 ?_
 by_cases h6:n=6
 ·rw[if_pos h6];exact tG h6 rfl
 rw[if_neg h6];exact tX h6 rfl
theorem fA.is{k:Nat}{x lo hi:Int}(hk:1≤k):fA k x lo hi=some (Pu.within x lo hi):=by
 obtain⟨k,rfl⟩: ∃k',k=k'+1:=⟨k-1,by omega⟩
 rw[fA.eq]
 by_cases h:lo≤x<;>simp[Pu.within,h]
theorem aU.loop{k:Nat}{w:LI}(hk:1≤k)(hw:w.length≤1048576): ∀(m j i:Nat),i+m=w.length→m<j→aU.L0 k j i w=some (decide (w.length≤9)&&(w.drop i).all fun n=>Pu.within n 1 9)
 |m,0,i,_,hj=>by omega
 |0,j+1,i,hi,_=>by
  rw[aU.bw]
  have hn: ¬(i:Int)<w.length:=by omega
  refine tX hn ?_
  rw[List.drop_of_length_le (by omega)]
  simp
  omega
 |m+1,j+1,i,hi,hj=>by
  have hlt:i<w.length:=by omega
  have hn:(i:Int)<w.length:=by omega
  have ih:=aU.loop hk hw m j (i+1) (by omega) (by omega)
  have hws:IntKind.i64.wrap ((i:Int)+1)=((i+1:Nat):Int):=by rw[w64 (by omega) (by omega)];omega
  rw[aU.bw,Pu.drop_cons hlt 0]
  simp only[bO,bL,bT,cS,bS,ba,Int.toNat_natCast,hws]
  refine tG hn (tG (Int.natCast_nonneg i) (tG hlt (tG hlt (bE (fA.is (by omega)) ?_))))
  cases c:Pu.within (w.getD i 0) 1 9 with
  |false=>refine tM ?_;simp only[List.all_cons,c,Bool.false_and,Bool.and_false]
  |true=>refine tN ?_;rw[ih,List.all_cons,c,Bool.true_and]
theorem aU.is{k:Nat}{w:LI}(hk:4194304+2≤k)(hw:w.length≤1048576):aU k w=some (Pu.isWord w):=by
 obtain⟨k,rfl⟩: ∃k',k=k'+1:=⟨k-1,by omega⟩
 have h:=aU.loop (k:=k) (by omega) hw w.length k 0 (by omega) (by omega)
 rw[Int.natCast_zero,List.drop_zero]at h
 rw[aU.eq]
 exact h
theorem aO.tf{k:Nat}: ∀(m j:Nat) (n:Int) (s:List UInt8),0≤n→n<10^m→m≤2→m<j→s.length+m≤1000→Pu.Ok (aO.L0 k j n false (Pu.tx s)) (· =Pu.tx ((if n=0 then []else Pu.dcm n)++s))
 |m,0,n,s,_,_,_,hj,_=>by omega
 |m,j+1,n,s,h0,hn,hm,hj,hs=>by
  rw[aO.bw]
  simp only[de,dj,ca,bZ,cb,bL,bT,bO,cS,bV,bR,bg,bh,b8,ba,bS,b9,cg,cF,di,b7,b6,bn,bm,bo,bq,List.nil_append,List.cons_append]
  refine Pu.Ok.tnd (fun hz=> ?_) (fun hz=> ?_)
  ·obtain⟨m,rfl⟩: ∃m',m=m'+1:=by
    cases m with
    |zero=>simp at hn;omega
    |succ m=>exact⟨m,rfl⟩
   have h10:n<100:=by
    have:(10:Int)^(m+1)≤10^2:=by rcases(by omega:m=0∨m=1)with rfl|rfl<;>decide
    omega
   refine Pu.Ok.gn (by decide) ?_
   simp only[ER,ES]
   have e1:n.tmod 10=n % 10:=Int.tmod_eq_emod_of_nonneg h0
   have e2:n.tdiv 10=n/10:=Int.tdiv_eq_ediv_of_nonneg h0
   refine Pu.Ok.no (by rw[e1];omega) ?_
   rw[aO.gw]
   simp only[ER,ES,Dg,e1,e2]
   simp only[de,dj,ca,bZ,cb,bL,bT,bO,cS,bV,bR,bg,bh,b8,ba,bS,b9,cg,cF,di,b7,b6,bn,bm,bo,bq,List.nil_append,List.cons_append]
   rw[w64 (n:=48+n % 10) (by omega) (by omega),w64 (n:=n/10) (by omega) (by omega)]
   have ed:(⟨(([IntKind.u8.wrap (48+n % 10)]:LI).map fun n=>UInt8.ofNat n.toNat).toArray⟩:ByteArray)=Pu.tx [UInt8.ofNat (48+n.toNat % 10)]:=by
    have h1:IntKind.u8.wrap (48+n % 10)=48+n % 10:=by
     simp[IntKind.wrap,IntKind.bits,IntKind.signed];omega
    have h2:(48+n % 10).toNat=48+n.toNat % 10:=by omega
    simp only[List.map_cons,List.map_nil,h1,h2]
    rfl
   rw[ed,Pu.lF,Pu.eY,Pu.eY]
   refine Pu.Ok.g (by simp only[List.length_cons,List.length_nil];omega) ?_
   refine Pu.Ok.gn (by decide) ?_
   refine(aO.tf m j (n/10) _ (by omega) (by rw[Int.pow_succ]at hn;omega) (by omega) (by omega) (by simp only[List.length_append,List.length_cons,List.length_nil];omega)).mono ?_
   rintro _ rfl
   rw[if_neg hz]
   congr 1
   by_cases hc:n<10
   ·rw[if_pos (by omega),Pu.oU hc]
    have:n.toNat % 10=n.toNat:=by omega
    rw[this];rfl
   ·rw[if_neg (by omega),Pu.oU (n:=n/10) (by omega),Pu.Bc (by omega) h10]
    have:(n/10).toNat=n.toNat/10:=by omega
    rw[this];rfl
  ·rw[if_pos hz]
   exact Pu.Ok.tb (fun h=>by cases h) (fun _=>Pu.Ok.ret rfl)
theorem aO.isE{k:Nat}{n:Int}(hk:1000≤k)(h0:0≤n)(h1:n<100):aO k n=some (Pu.tx (Pu.dcm n)):=by
 obtain⟨k,rfl⟩: ∃k',k=k'+1:=⟨k-1,by omega⟩
 apply Pu.ok_eq
 rw[aO.eq]
 simp only[de,dj,ca,bZ,cb,bL,bT,bO,cS,bV,bR,bg,bh,b8,ba,bS,b9,cg,cF,di,b7,b6,bn,bm,bo,bq,List.nil_append,List.cons_append]
 refine Pu.Ok.t (fun h=> ?_) (fun h=> ?_)
 ·subst h
  rw[Pu.oU (by decide)]
  exact Pu.Ok.ret rfl
 ·rw[decide_eq_false (by omega: ¬n<0)]
  refine(aO.tf (k:=k) 2 k n [] h0 (by omega) (by omega) (by omega) (by decide)).mono ?_
  rintro _ rfl
  rw[if_neg h,List.append_nil]
theorem cf.loop{k:Nat}{w:LI}(hk:2000≤k)(hw:w.length≤9)(hl: ∀x∈w,1≤x∧x≤9): ∀(m j i:Nat),i+m=w.length→m<j→Pu.Ok (cf.L0 k j (Pu.tx (Pu.gX (w.take i))) i w) (· =Pu.tx (Pu.gX w))
 |m,0,i,_,hj=>by omega
 |0,j+1,i,hi,_=>by
  rw[cf.bw]
  simp only[de,dj,ca,bZ,cb,bL,bT,bO,cS,bV,bR,bg,bh,b8,ba,bS,b9,cg,cF,di,b7,b6,bn,bm,bo,bq,List.nil_append,List.cons_append]
  refine Pu.Ok.no (by omega) ?_
  rw[List.take_of_length_le (by omega)]
  exact Pu.Ok.ret rfl
 |m+1,j+1,i,hi,hj=>by
  rw[cf.bw]
  simp only[de,dj,ca,bZ,cb,bL,bT,bO,cS,bV,bR,bg,bh,b8,ba,bS,b9,cg,cF,di,b7,b6,bn,bm,bo,bq,List.nil_append,List.cons_append]
  (try simp only[Int.toNat_natCast]);(try simp (disch:=omega) only[w64])
  (repeat (refine Pu.Ok.g (by first|omega|assumption|(simp only[List.length_append,List.length_cons,List.length_nil,List.length_set,List.length_take,List.length_drop,List.length_replicate]at*;omega)) ?_))
  have hm:w.getD i 0∈w:=by rw[Pu.aw (show i<w.length by omega) _];exact List.getElem_mem _
  have hx:=hl _ hm
  refine Pu.Ok.cP (aO.isE (by omega) (by omega) (by omega)) ?_
  have h1:=Pu.nu (w:=w.take i) (fun x hx=>by have:=(hl x (List.mem_of_mem_take hx)).2;omega)
  have h2:=Pu.ky (n:=w.getD i 0) (by omega)
  rw[List.length_take]at h1
  rw[Pu.lF,Pu.eY,Pu.eY]
  refine Pu.Ok.g (by omega) ?_
  (try simp only[Int.toNat_natCast]);(try simp (disch:=omega) only[w64])
  have e:Pu.gX (w.take i)++Pu.dcm (w.getD i 0)=Pu.gX (w.take (i+1)):=by
   unfold Pu.gX
   rw[List.take_add_one,List.flatMap_append,List.getElem?_eq_getElem (show i<w.length by omega),Pu.aw (show i<w.length by omega) _]
   simp
  rw[e]
  exact cf.loop hk hw hl m j (i+1) (by omega) (by omega)
theorem cf.is{k:Nat}{w:LI}(hk:4194304+10≤k)(hw:w.length≤1048576):cf k w=some (Pu.tx (Pu.gT w)):=by
 obtain⟨k,rfl⟩: ∃k',k=k'+1:=⟨k-1,by omega⟩
 apply Pu.ok_eq
 rw[cf.eq]
 refine Pu.Ok.cP (aU.is (by omega) hw) ?_
 unfold Pu.gT
 simp only[de,dj,ca,bZ,cb,bL,bT,bO,cS,bV,bR,bg,bh,b8,ba,bS,b9,cg,cF,di,b7,b6,bn,bm,bo,bq,List.nil_append,List.cons_append]
 refine Pu.Ok.tn (fun hb=> ?_) (fun hb=> ?_)
 ·rw[hb];exact Pu.Ok.ret rfl
 ·rw[hb]
  obtain⟨h1,h2⟩:=Pu.bQ hb
  refine Pu.Ok.t (fun h=> ?_) (fun h=> ?_)
  ·have:w= []:=List.eq_nil_of_length_eq_zero (by omega)
   subst this
   exact Pu.Ok.ret rfl
  ·have h0:w≠ []:=fun e=>h (by rw[e];rfl)
   rw[if_pos rfl,if_neg h0]
   exact cf.loop (k:=k) (by omega) h1 h2 w.length k 0 (by omega) (by omega)
theorem aJ.Bq{k:Nat}{s:ByteArray}{w:LI}(hk:4194304+10≤k)(hw:w.length≤1000)(e:(if(s.toList==(Pu.tx [45]).toList)=true then []else Pu.dL s.data.toList)=w):Pu.Ok (aJ.J2 k s w) (· =Pu.jK s):=by
 rw[aJ.lf]
 refine Pu.Ok.cP (cf.is (by omega) (by omega)) ?_
 unfold Pu.jK
 rw[e]
 simp only[wI,cF]
 refine Pu.Ok.tn (fun hb=> ?_) (fun hb=> ?_)
 ·rw[hb];exact Pu.Ok.ret rfl
 ·rw[hb];exact Pu.Ok.ret rfl
theorem aJ.loop{k:Nat}{s:ByteArray}(hk:4194304+10≤k)(hs:s.size≤1000)(hd:(s.toList==(Pu.tx [45]).toList)=false): ∀(m j i:Nat) (acc:LI),i+m=s.size→m<j→acc=Pu.dL (s.data.toList.take i)→Pu.Ok (aJ.L0 k j s i acc) (· =Pu.jK s)
 |m,0,i,acc,_,hj,_=>by omega
 |0,j+1,i,acc,hi,_,ha=>by
  rw[aJ.bw]
  simp only[de,dj,ca,bZ,cb,bL,bT,bO,cS,bV,bR,bg,bh,b8,ba,bS,b9,cg,cF,di,b7,b6,bn,bm,bo,bq,List.nil_append,List.cons_append]
  refine Pu.Ok.no (by omega) ?_
  have hsz:s.data.toList.length=s.size:=rfl
  have e:acc=Pu.dL s.data.toList:=by rw[ha,List.take_of_length_le (by omega)]
  refine aJ.Bq hk (by rw[e];unfold Pu.dL;rw[List.length_map];omega) ?_
  rw[hd,e];rfl
 |m+1,j+1,i,acc,hi,hj,ha=>by
  rw[aJ.bw]
  have hsz:s.data.toList.length=s.size:=rfl
  have hlen:acc.length=i:=by rw[ha];unfold Pu.dL;rw[List.length_map,List.length_take];omega
  simp only[de,dj,ca,bZ,cb,bL,bT,bO,cS,bV,bR,bg,bh,b8,ba,bS,b9,cg,cF,di,b7,b6,bn,bm,bo,bq,List.nil_append,List.cons_append]
  refine Pu.Ok.g (by omega) ?_
  simp only[wI]
  have e45:(⟨#[45]⟩:ByteArray)=Pu.tx [45]:=rfl
  rw[e45,hd]
  refine Pu.Ok.tn (fun _=> ?_) (fun h=>by cases h)
  rw[aJ.gw]
  simp only[C8]
  simp only[de,dj,ca,bZ,cb,bL,bT,bO,cS,bV,bR,bg,bh,b8,ba,bS,b9,cg,cF,di,b7,b6,bn,bm,bo,bq,List.nil_append,List.cons_append]
  (try simp only[Int.toNat_natCast]);(try simp (disch:=omega) only[w64])
  have hb:=(s.data.getD i 0).toNat_lt
  have e1:=w64 (n:=((s.data.getD i 0).toNat:Int)) (by omega) (by omega)
  have e2:=w64 (n:=((s.data.getD i 0).toNat:Int)-48) (by omega) (by omega)
  simp only[e1,e2]
  (repeat (refine Pu.Ok.g (by first|omega|assumption|(simp only[List.length_append,List.length_cons,List.length_nil,List.length_set,List.length_take,List.length_drop,List.length_replicate]at*;omega)) ?_))
  refine aJ.loop hk hs hd m j (i+1) _ (by omega) (by omega) ?_
  rw[ha]
  unfold Pu.dL
  rw[List.take_add_one,List.map_append,List.getElem?_eq_getElem (show i<s.data.toList.length by omega)]
  have:s.data.getD i 0=s.data.toList[i]'(show i<s.data.toList.length by omega):=by
   have h':i<s.data.size:=by
    have:s.data.size=s.size:=rfl
    omega
   rw[Array.getD,dif_pos h'];rfl
  rw[this];rfl
theorem aJ.is{k:Nat}{s:ByteArray}(hk:4194304+20≤k)(hs:s.size≤1000):aJ k s=some (Pu.jK s):=by
 obtain⟨k,rfl⟩: ∃k',k=k'+1:=⟨k-1,by omega⟩
 apply Pu.ok_eq
 rw[aJ.eq]
 cases hd:(s.toList==(Pu.tx [45]).toList)with
 |false=>exact aJ.loop (k:=k) (by omega) hs hd s.size k 0 [] (by omega) (by omega) rfl
 |true=>
  obtain⟨j,hj⟩: ∃j,k=j+1:=⟨k-1,by omega⟩
  have key:Pu.Ok (aJ.J2 k s []) (· =Pu.jK s):=aJ.Bq (by omega) (by simp) (by rw[hd];rfl)
  suffices h: ∀k',Pu.Ok (aJ.L0 k (k'+1) s 0 []) (· =Pu.jK s) by
   have:=h j
   rw[←hj]at this
   exact this
  intro k'
  rw[aJ.bw]
  simp only[de,dj,ca,bZ,cb,bL,bT,bO,cS,bV,bR,bg,bh,b8,ba,bS,b9,cg,cF,di,b7,b6,bn,bm,bo,bq,List.nil_append,List.cons_append]
  refine Pu.Ok.t (fun _=> ?_) (fun _=>key)
  simp only[wI]
  have e45:(⟨#[45]⟩:ByteArray)=Pu.tx [45]:=rfl
  rw[e45,hd]
  exact Pu.Ok.tn (fun h=>by cases h) (fun _=>key)
theorem cR.loop{k:Nat}{t:Pu.Tab}{x3 x4:LI}{x5:LJ}(ht:t.2.length≤1048576)(hr: ∀x∈t.2,x.length≤1048576): ∀(m j i:Nat),i+m=t.2.length→m<j→
  cR.L0 k j i t.1 t.2 x3 x5 x4 (t.2.take i)=some (x4,t.2)
 |m,0,i,_,hj=>by omega
 |0,j+1,i,hm,_=>by
  rw[cR.bw]
  have e:i=t.2.length:=by omega
  subst e
  simp
 |m+1,j+1,i,hm,hj=>by
  rw[cR.bw]
  have hlt:i<t.2.length:=by omega
  have hx:=hr _ (List.getElem_mem hlt)
  rw[←Pu.aw hlt []]at hx
  have ih:=cR.loop (k:=k) (x3:=x3) (x4:=x4) (x5:=x5) ht hr m j (i+1) (by omega) (by omega)
  rw[Int.natCast_succ,Pu.take_succ hlt []]at ih
  have hl:(t.2.take i++ [t.2.getD i []]).length≤1099511627776:=by simp;omega
  have hx':(t.2.getD i []).length≤1099511627776:=by omega
  simp (disch:=omega) only[↓aM,sss,if_true,if_false,hlt,hl,hx',List.nil_append,ih]
theorem cR.is{k:Nat}{t:Pu.Tab}(hk:4194304+1≤k)(h1:t.1.length≤1048576)(ht:t.2.length≤1048576)(hr: ∀x∈t.2,x.length≤1048576):cR k t=some t:=by
 obtain⟨k,rfl⟩: ∃k',k=k'+1:=⟨k-1,by omega⟩
 rw[cR.eq]
 have h:=cR.loop (k:=k) (t:=t) (x3:= []) (x4:=t.1) (x5:= []) ht hr t.2.length k 0 (by omega) (by omega)
 rw[Int.natCast_zero,List.take_zero]at h
 have hl:t.1.length≤1099511627776:=by omega
 simp only[↓aM,sss,if_true,if_false,List.nil_append,hl,h]
theorem aE.inner{k k1:Nat}{x:Int}{i:Nat}{x3 x5:LI}{x4 rows:LJ}(hlt:i<rows.length)(hx:(rows.getD i []).length≤1048576): ∀(m j q:Nat),q+m=(rows.getD i []).length→m<j→q≤(rows.getD i []).findIdx (fun n=>decide (x<n))→
  aE.L1 k k1 j x i q x3 x4 x5 rows=aE.J3 k k1 x i (((rows.getD i []).findIdx (fun n=>decide (x<n)):Nat):Int) x3 x4 x5 rows
 |m,0,q,_,hj,_=>by omega
 |0,j+1,q,hm,_,hq=>by
  rw[aE.fx]
  have hle:(rows.getD i []).findIdx (fun n=>decide (x<n))≤(rows.getD i []).length:=List.findIdx_le_length
  have e:(rows.getD i []).findIdx (fun n=>decide (x<n))=q:=by omega
  have hn: ¬q<(rows.getD i []).length:=by omega
  simp (disch:=omega) only[↓aM,sss,if_true,if_false,hlt,hn,e]
 |m+1,j+1,q,hm,hj,hq=>by
  rw[aE.fx]
  have hn:q<(rows.getD i []).length:=by omega
  simp (disch:=omega) only[↓aM,sss,if_true,if_false,hlt,hn,aE.lf]
  by_cases c:(rows.getD i []).getD q 0≤x
  ·have hne:(rows.getD i []).findIdx (fun n=>decide (x<n))≠q:=fun e=>by
    have:=Pu.qh (p:=fun n=>decide (x<n)) (r:=rows.getD i []) (by rw[e];exact hn)
    rw[e]at this
    simp only[decide_eq_true_eq]at this
    omega
   have ih:=aE.inner (k:=k) (k1:=k1) (x:=x) (x3:=x3) (x4:=x4) (x5:=x5) hlt hx m j (q+1) (by omega) (by omega) (by omega)
   rw[Int.natCast_succ]at ih
   simp (disch:=omega) only[↓aM,sss,if_true,if_false,c,ih]
  ·have e:(rows.getD i []).findIdx (fun n=>decide (x<n))=q:=by
    refine Nat.le_antisymm (Pu.findIdx_le hn ?_) hq
    simp only[decide_eq_true_eq];omega
   simp only[c,↓aM,sss,if_true,if_false,e]
theorem aE.loop{k:Nat}{inner x3:LI}{x4:LJ}(hk:4194304≤k): ∀(m j i:Nat) (x:Int) (rows:LJ),i+m=rows.length→m<j→rows.length≤1048576→(∀r∈rows,r.length≤1048576)→
  aE.L0 k j x i x3 x4 inner rows=some ((inner,rows.take i++(Pu.bc (rows.drop i) x).1),((i+(Pu.bc (rows.drop i) x).2:Nat):Int))
 |m,0,i,x,rows,_,hj,_,_=>by omega
 |0,j+1,i,x,rows,hm,_,hl,hr=>by
  rw[aE.bw]
  have e:i=rows.length:=by omega
  subst e
  have h1:rows.length+1≤1099511627776:=by omega
  simp (disch:=omega) only[↓aM,sss,if_true,if_false,Nat.lt_irrefl,h1,List.drop_length,List.take_length,Pu.bc,List.length_append,List.length_cons,List.length_nil,Int.natCast_add,Int.natCast_one,Int.natCast_zero,Int.add_zero,Int.zero_add,Nat.zero_add,Nat.add_zero,Int.add_sub_cancel]
 |m+1,j+1,i,x,rows,hm,hj,hl,hr=>by
  rw[aE.bw]
  have hlt:i<rows.length:=by omega
  have hx:=hr _ (List.getElem_mem hlt)
  rw[←Pu.aw hlt []]at hx
  have hin:=aE.inner (k:=k) (k1:=j) (x:=x) (x3:=x3) (x4:=x4) (x5:=inner) hlt hx (rows.getD i []).length k 0 (by omega) (by omega) (by omega)
  rw[Int.natCast_zero]at hin
  rw[Pu.drop_cons hlt []]
  unfold Pu.bc
  generalize hf:(rows.getD i []).findIdx (fun n=>decide (x<n))=f at*
  have hle:f≤(rows.getD i []).length:=by rw[←hf];exact List.findIdx_le_length
  simp (disch:=omega) only[↓aM,sss,if_true,if_false,hlt,hin]
  rw[aE.yK]
  by_cases c:f<(rows.getD i []).length
  ·rw[if_pos c]
   have ih:=aE.loop (inner:=inner) (x3:=x3) (x4:=x4) hk m j (i+1) ((rows.getD i []).getD f 0) (rows.set i ((rows.getD i []).set f x)) (by rw[List.length_set];omega) (by omega) (by rw[List.length_set];exact hl) (fun r h=>by
    rcases List.mem_or_eq_of_mem_set h with h|rfl
    ·exact hr r h
    ·rw[List.length_set];exact hx)
   rw[Pu.pC hlt,Pu.pE,Int.natCast_succ]at ih
   have hn: ¬(f:Int)=((rows.getD i []).length:Int):=by omega
   simp (disch:=omega) only[↓aM,sss,if_true,if_false,hlt,hn,c,ih]
   simp only[List.append_assoc,List.singleton_append]
   congr 2
   omega
  ·rw[if_neg c]
   have hn:(f:Int)=((rows.getD i []).length:Int):=by omega
   have h1:(rows.getD i []++ [x]).length≤1099511627776:=by simp only[List.length_append,List.length_cons,List.length_nil];omega
   simp (disch:=omega) only[↓aM,sss,if_true,if_false,hlt,hn,h1,Nat.add_zero]
   rw[Pu.wy hlt]
theorem aE.is{k:Nat}{t:Pu.Tab}{x:Int}(hk:4194304+2≤k)(h1:t.1.length≤1048576)(hl:t.2.length≤1048576)(hr: ∀r∈t.2,r.length≤1048576):
  aE k t x=some ((t.1,(Pu.bc t.2 x).1),(((Pu.bc t.2 x).2:Nat):Int)):=by
 obtain⟨k,rfl⟩: ∃k',k=k'+1:=⟨k-1,by omega⟩
 rw[aE.eq,cR.is (by omega) h1 hl hr,eL]
 have h:=aE.loop (k:=k) (inner:=t.1) (x3:= []) (x4:= []) (by omega) t.2.length k 0 x t.2 (by omega) (by omega) hl hr
 rw[Int.natCast_zero]at h
 simpa using h
theorem bu.add{k k1:Nat}{i a:Nat}{W:LI}{x3:LI}{x4:LJ}{x5:LI}{x6:LJ}{pi:LI}{P:LJ}{qi:LI}{F:LJ}(ha:a<F.length)(hF: ∀r,(F.getD r []).length≤1000)(hw:i≤1000):
  bu.J1 k k1 i a W x3 x4 x5 x6 pi P qi F=bu.L0 k k1 ((i+1:Nat):Int) W x3 x4 x5 x6 pi P qi (F.set a (F.getD a []++ [((i+1:Nat):Int)])):=by
 rw[bu.gw]
 have h9:=hF a
 have hws:IntKind.i64.wrap ((i:Int)+1)=((i+1:Nat):Int):=by rw[w64 (by omega) (by omega)];omega
 have hap:(F.getD a []++ [((i+1:Nat):Int)]).length≤1099511627776:=by rw[List.length_append,List.length_singleton];omega
 simp only[bO,bL,cS,bV,bR,bS,ba,Int.toNat_natCast,hws]
 have a0:=Int.natCast_nonneg a
 exact tG a0 (tG ha (tG ha (tG ha (tG hap (tG a0 (tG ha (tG ha (tG rfl rfl))))))))
theorem bu.loop{k:Nat}{W:LI}{x3:LI}{x4:LJ}{x5:LI}{x6:LJ}(hk:4194304+20≤k)(hW:W.length≤9)(hx: ∀x∈W,1≤x∧x≤9): ∀(m j i:Nat) (P Q:LJ),i+m=W.length→m<j→Pu.Ins P Q i→
  bu.L0 k j i W x3 x4 x5 x6 [] P [] Q=some (([],Pu.jQ (W.drop i) P),([],Pu.lW (W.drop i) P Q i))
 |m,0,i,P,Q,_,hj,_=>by omega
 |0,j+1,i,P,Q,hi,_,_=>by
  rw[bu.bw]
  have hn: ¬(i:Int)<W.length:=by omega
  refine tX hn ?_
  rw[List.drop_of_length_le (by omega)]
  rfl
 |m+1,j+1,i,P,Q,hi,hj,h=>by
  have hlt:i<W.length:=by omega
  have hn:(i:Int)<W.length:=by omega
  have hxi:=hx _ (List.getElem_mem hlt)
  rw[←Pu.aw hlt 0]at hxi
  obtain⟨s1,_,_⟩:=h.step hxi (by omega)
  have ih:=bu.loop (x3:=x3) (x4:=x4) (x5:=x5) (x6:=x6) hk hW hx m j (i+1) (Pu.bc P (W.getD i 0)).1 (Pu.gu Q (Pu.bc P (W.getD i 0)).2 ((i+1:Nat):Int)) (by omega) (by omega) s1
  have hP:=Pu.ju (Pu.se h (by omega))
  have hQ:=Pu.ju h.pl
  have hP1:P.length≤9:=hP.1
  have hQ1:Q.length≤9:=hQ.1
  have hins:=aE.is (k:=k) (t:=([],P)) (x:=W.getD i 0) (by omega) (by simp) (by simp only;omega) (fun r hr=>by have:=hP.2 r hr;omega)
  have ha:=(Pu.tK P (W.getD i 0)).1
  rw[h.same.1]at ha
  rw[bu.bw,Pu.drop_cons hlt 0]
  show _=some (([],Pu.jQ (W.drop (i+1)) (Pu.bc P (W.getD i 0)).1),([],Pu.lW (W.drop (i+1)) (Pu.bc P (W.getD i 0)).1 (Pu.gu Q (Pu.bc P (W.getD i 0)).2 ((i+1:Nat):Int)) (i+1)))
  rw[←ih]
  simp only[bO,bL,bT,cS,Int.toNat_natCast]
  refine tG hn (tG (Int.natCast_nonneg i) (tG hlt (tG hlt (bE hins ?_))))
  simp only
  have hq9: ∀r,(Q.getD r []).length≤9:=fun r=>hQ.at r
  generalize(Pu.bc P (W.getD i 0)).2=a at*
  unfold Pu.gu
  by_cases c:a=Q.length
  ·have hc:((a:Nat):Int)=(Q.length:Int):=by omega
   have hap:(Q++ [[]]).length≤1099511627776:=by rw[List.length_append,List.length_singleton];omega
   have hF: ∀r,((Q++ [[]]).getD r []).length≤1000:=fun r=>by
    by_cases hr:r<Q.length
    ·simp only[List.getD_eq_getElem?_getD,List.getElem?_append_left hr]
     have:=hq9 r
     simp only[List.getD_eq_getElem?_getD]at this
     omega
    ·simp only[List.getD_eq_getElem?_getD,List.getElem?_append_right (Nat.le_of_not_lt hr)]
     cases r-Q.length<;>simp
   refine tG hc (tG hap ?_)
   simp only[bR]
   rw[bu.add (by rw[List.length_append,List.length_singleton];omega) hF (by omega),if_pos c]
   congr 1
   rw[c]
   simp
  ·have hc: ¬((a:Nat):Int)=(Q.length:Int):=by omega
   refine tX hc ?_
   rw[bu.add (by omega) (fun r=>by have:=hq9 r;omega) (by omega),if_neg c]
theorem bu.is{k:Nat}{W:LI}(hk:4194304+30≤k)(h:Pu.isWord W=true):bu k W=some (([],Pu.jQ W []),([],Pu.lW W [] [] 0)):=by
 obtain⟨k,rfl⟩: ∃k',k=k'+1:=⟨k-1,by omega⟩
 obtain⟨h1,h2⟩:=Pu.bQ h
 have hl:=bu.loop (k:=k) (x3:= []) (x4:= []) (x5:= []) (x6:= []) (by omega) h1 h2 W.length k 0 [] [] (by omega) (by omega) Pu.Ins.nil
 rw[Int.natCast_zero,List.drop_zero]at hl
 rw[bu.eq]
 exact hl
theorem aN.loop{k:Nat}{w:LI}(hk:4194304+5≤k)(hb:Pu.isWord w=true)(hw:w.length≤9)(hl: ∀x∈w,1≤x∧x≤9): ∀(m j:Nat) (c:LI),m≤w.length→m<j→c.length=10→(∀x∈c,0≤x∧x+m≤100)→Pu.Ok (aN.L0 k j ((m:Int)-1) w (c++ [0])) (· =Pu.sP w m c)
 |m,0,c,_,hj,_,_=>by omega
 |0,j+1,c,hm,_,hc,_=>by
  rw[aN.bw]
  simp only[de,dj,ca,bZ,cb,bL,bT,bO,cS,bV,bR,bg,bh,b8,ba,bS,b9,cg,cF,di,b7,b6,bn,bm,bo,bq,List.nil_append,List.cons_append]
  refine Pu.Ok.no (by omega) ?_
  refine Pu.Ok.cP (aU.is (by omega) (by omega)) ?_
  rw[hb]
  exact Pu.Ok.ret rfl
 |m+1,j+1,c,hm,hj,hc,hx=>by
  rw[aN.bw]
  have em:((m+1:Nat):Int)-1=m:=by omega
  rw[em]
  have hm':m<w.length:=by omega
  have hmem:w.getD m 0∈w:=by rw[Pu.aw hm' _];exact List.getElem_mem _
  have hx9:=hl _ hmem
  have hcn:(w.getD m 0).toNat<c.length:=by omega
  have hcm:c.getD (w.getD m 0).toNat 0∈c:=by rw[Pu.aw hcn _];exact List.getElem_mem _
  have hcv:=hx _ hcm
  simp only[de,dj,ca,bZ,cb,bL,bT,bO,cS,bV,bR,bg,bh,b8,ba,bS,b9,cg,cF,di,b7,b6,bn,bm,bo,bq,List.nil_append,List.cons_append]
  refine Pu.Ok.g (by omega) ?_
  refine Pu.Ok.cP (aU.is (by omega) (by omega)) ?_
  rw[hb]
  refine Pu.Ok.tb (fun _=> ?_) (fun h=>by cases h)
  rw[aN.gw]
  simp only[de,dj,ca,bZ,cb,bL,bT,bO,cS,bV,bR,bg,bh,b8,ba,bS,b9,cg,cF,di,b7,b6,bn,bm,bo,bq,List.nil_append,List.cons_append]
  have g1:(c++ [0]).getD (w.getD m 0).toNat 0=c.getD (w.getD m 0).toNat 0:=by
   rw[List.getD_eq_getElem?_getD,List.getElem?_append_left hcn,←List.getD_eq_getElem?_getD]
  have g2: ∀v:Int,(c++ [0]).set (w.getD m 0).toNat v=c.set (w.getD m 0).toNat v++ [0]:=fun v=>List.set_append_left _ _ hcn
  have g3: ∀(v:Int) (q:Nat),q<10→(c.set (w.getD m 0).toNat v++ [0]).getD q 0=(c.set (w.getD m 0).toNat v).getD q 0:=fun v q hq=>by
   rw[List.getD_eq_getElem?_getD,List.getElem?_append_left (by rw[List.length_set];omega),←List.getD_eq_getElem?_getD]
  have e1:=w64 (n:=c.getD (w.getD m 0).toNat 0+1) (by omega) (by omega)
  have e2:=w64 (n:=w.getD m 0-1) (by omega) (by omega)
  have e3:(w.getD m 0-1).toNat=(w.getD m 0).toNat-1:=by omega
  have e4:=w64 (n:=(m:Int)-1) (by omega) (by omega)
  simp only[Int.toNat_natCast,g1,e1,g2,e2,e3,e4,g3 _ (w.getD m 0).toNat (by omega),g3 _ ((w.getD m 0).toNat-1) (by omega),List.length_append,List.length_set,List.length_cons,List.length_nil]
  have hset: ∀x∈c.set (w.getD m 0).toNat (c.getD (w.getD m 0).toNat 0+1),0≤x∧x+m≤100:=by
   intro x h
   rcases List.mem_or_eq_of_mem_set h with h|rfl
   ·have:=hx x h;omega
   ·omega
  have ih:=aN.loop (k:=k) hk hb hw hl m j (c.set (w.getD m 0).toNat (c.getD (w.getD m 0).toNat 0+1)) (by omega) (by omega) (by rw[List.length_set];exact hc) hset
  have ih2:Pu.Ok (aN.J2 k j (m:Int) w (c.set (w.getD m 0).toNat (c.getD (w.getD m 0).toNat 0+1)++ [0])) (· =Pu.sP w m (c.set (w.getD m 0).toNat (c.getD (w.getD m 0).toNat 0+1))):=by
   rw[aN.lf]
   simp only[de,dj,ca,bZ,cb,bL,bT,bO,cS,bV,bR,bg,bh,b8,ba,bS,b9,cg,cF,di,b7,b6,bn,bm,bo,bq,List.nil_append,List.cons_append]
   rw[e4]
   exact ih
  unfold Pu.sP
  (repeat (refine Pu.Ok.g (by first|omega|assumption|(simp only[List.length_append,List.length_cons,List.length_nil,List.length_set,List.length_take,List.length_drop,List.length_replicate]at*;omega)) ?_))
  refine Pu.Ok.t (fun h1=> ?_) (fun h1=> ?_)
  ·(repeat (refine Pu.Ok.g (by first|omega|assumption|(simp only[List.length_append,List.length_cons,List.length_nil,List.length_set,List.length_take,List.length_drop,List.length_replicate]at*;omega)) ?_))
   refine Pu.Ok.t (fun h2=> ?_) (fun h2=> ?_)
   ·rw[if_pos ⟨h1,h2⟩];exact Pu.Ok.ret rfl
   ·rw[if_neg (fun h=>h2 h.2)];exact ih2
  ·rw[if_neg (fun h=>h1 h.1)];exact ih2
theorem aN.is{k:Nat}{w:LI}(hk:4194304+10≤k)(hw:w.length≤1048576):aN k w=some (Pu.lat w):=by
 obtain⟨k,rfl⟩: ∃k',k=k'+1:=⟨k-1,by omega⟩
 apply Pu.ok_eq
 rw[aN.eq]
 simp only[de,dj,ca,bZ,cb,bL,bT,bO,cS,bV,bR,bg,bh,b8,ba,bS,b9,cg,cF,di,b7,b6,bn,bm,bo,bq,List.nil_append,List.cons_append]
 refine Pu.Ok.g (by decide) (Pu.Ok.g (by decide) (Pu.Ok.g (by decide) ?_))
 rw[w64 (n:=(w.length:Int)-1) (by omega) (by omega)]
 unfold Pu.lat
 cases hb:Pu.isWord w with
 |false=>
  obtain⟨j,hj⟩: ∃j,k=j+1:=⟨k-1,by omega⟩
  suffices h: ∀k',Pu.Ok (aN.L0 k (k'+1) ((w.length:Int)-1) w (List.replicate (11:Int).toNat 0)) (· =(false&&Pu.sP w w.length (List.replicate 10 0))) by
   have:=h j
   rw[←hj]at this
   exact this
  intro k'
  rw[aN.bw]
  simp only[de,dj,ca,bZ,cb,bL,bT,bO,cS,bV,bR,bg,bh,b8,ba,bS,b9,cg,cF,di,b7,b6,bn,bm,bo,bq,List.nil_append,List.cons_append]
  refine Pu.Ok.t (fun _=> ?_) (fun _=> ?_)
  ·refine Pu.Ok.cP (aU.is (by omega) hw) ?_
   rw[hb]
   refine Pu.Ok.tb (fun h=>by cases h) (fun _=> ?_)
   refine Pu.Ok.cP (aU.is (by omega) hw) ?_
   rw[hb]
   exact Pu.Ok.ret rfl
  ·refine Pu.Ok.cP (aU.is (by omega) hw) ?_
   rw[hb]
   exact Pu.Ok.ret rfl
 |true=>
  obtain⟨h1,h2⟩:=Pu.bQ hb
  exact aN.loop (k:=k) (by omega) hb h1 h2 w.length k (List.replicate 10 0) (Nat.le_refl _) (by omega) (by simp) (fun x hx=>by rw[List.eq_of_mem_replicate hx];omega)
theorem gW.is{k:Nat}{w:LI}{x:Int}(hk:4194304+5≤k)(hw:w.length≤1048576):gW k w x=some (Pu.isWord w&&Pu.within x 1 8):=by
 obtain⟨k,rfl⟩: ∃k',k=k'+1:=⟨k-1,by omega⟩
 apply Pu.ok_eq
 rw[gW.eq]
 refine Pu.Ok.cP (aU.is (by omega) hw) ?_
 refine Pu.Ok.tb (fun hb=> ?_) (fun hb=> ?_)
 ·rw[hb]
  refine Pu.Ok.cP (fA.is (by omega)) ?_
  rw[Bool.true_and]
  exact Pu.Ok.ret rfl
 ·rw[hb];exact Pu.Ok.ret rfl
theorem aC.both{k:Nat}{w:LI}{x:Int}(hw:w.length≤9)(hx:1≤x∧x≤8): ∀(m j i:Nat) (low high:LI),i+m=w.length→m<j→low.length≤i→high.length≤i→
  Pu.Ok (aC.L0 k j x i w low high) (· =Pu.fZ w x m i low high)∧ ∀(n:Nat) (base:LI),n≤base.length→base.take n=high→Pu.Ok (aC.L3 k j x 0 n i w low base) (· =Pu.fZ w x m i low high)
 |m,0,i,low,high,_,hj,_,_=>by omega
 |0,j+1,i,low,high,hi,_,_,_=>by
  refine⟨?_,fun n base hn hb=> ?_⟩
  ·rw[aC.bw]
   simp only[de,dj,ca,bZ,cb,bL,bT,bO,cS,bV,bR,bg,bh,b8,ba,bS,b9,cg,cF,di,b7,b6,bn,bm,bo,bq,List.nil_append,List.cons_append]
   exact Pu.Ok.no (by omega) (Pu.Ok.ret rfl)
  ·rw[aC.EU]
   simp only[de,dj,ca,bZ,cb,bL,bT,bO,cS,bV,bR,bg,bh,b8,ba,bS,b9,cg,cF,di,b7,b6,bn,bm,bo,bq,List.nil_append,List.cons_append]
   rw[List.drop_zero,hb]
   exact Pu.Ok.no (by omega) (Pu.Ok.ret rfl)
 |m+1,j+1,i,low,high,hi,hj,h1,h2=>by
  have ih:=fun low high a b=>aC.both (k:=k) hw hx m j (i+1) low high (by omega) (by omega) a b
  have e1:=w64 (n:=x+1) (by omega) (by omega)
  have e2:=w64 (n:=(i:Int)+1) (by omega) (by omega)
  have hi':i<w.length:=by omega
  have j1: ∀low high,low.length≤i+1→high.length≤i+1→Pu.Ok (aC.J1 k j x i w low high) (· =Pu.fZ w x m (i+1) low high):=by
   intro low high a b
   rw[aC.gw]
   simp only[de,dj,ca,bZ,cb,bL,bT,bO,cS,bV,bR,bg,bh,b8,ba,bS,b9,cg,cF,di,b7,b6,bn,bm,bo,bq,List.nil_append,List.cons_append]
   rw[e2]
   exact(ih low high a b).1
  have j2: ∀(n:Nat) (base low high:LI),low.length≤i+1→high.length≤i+1→n≤base.length→base.take n=high→Pu.Ok (aC.J2 k j x 0 n i w low base) (· =Pu.fZ w x m (i+1) low high):=by
   intro n base low high a b c d
   rw[aC.lf]
   simp only[de,dj,ca,bZ,cb,bL,bT,bO,cS,bV,bR,bg,bh,b8,ba,bS,b9,cg,cF,di,b7,b6,bn,bm,bo,bq,List.nil_append,List.cons_append]
   rw[e2]
   exact(ih low high a b).2 n base c d
  unfold Pu.fZ
  refine⟨?_,fun n base hn hb=> ?_⟩
  ·rw[aC.bw]
   simp only[de,dj,ca,bZ,cb,bL,bT,bO,cS,bV,bR,bg,bh,b8,ba,bS,b9,cg,cF,di,b7,b6,bn,bm,bo,bq,List.nil_append,List.cons_append]
   simp only[e1,Int.toNat_natCast]
   refine Pu.Ok.g (by omega) (Pu.Ok.g (by omega) (Pu.Ok.g (by omega) (Pu.Ok.g (by omega) ?_)))
   refine Pu.Ok.t (fun c1=> ?_) (fun c1=> ?_)
   ·rw[if_pos c1]
    refine Pu.Ok.g (by rw[List.length_append,List.length_singleton];omega) ?_
    exact j1 _ _ (by omega) (by rw[List.length_append,List.length_singleton];omega)
   ·rw[if_neg c1]
    refine Pu.Ok.g (by omega) (Pu.Ok.g (by omega) (Pu.Ok.g (by omega) ?_))
    refine Pu.Ok.t (fun c2=> ?_) (fun c2=> ?_)
    ·rw[if_pos c2]
     refine Pu.Ok.t (fun c3=> ?_) (fun c3=> ?_)
     ·have c3':0<high.length:=by omega
      rw[if_pos c3']
      have e3:=w64 (n:=(high.length:Int)-1) (by omega) (by omega)
      have e4:((high.length:Int)-1).toNat=high.length-1:=by omega
      simp only[e3,e4,Nat.sub_zero]
      refine Pu.Ok.g (by omega) (Pu.Ok.g (by omega) ?_)
      exact j2 (high.length-1) high low _ (by omega) (by rw[List.length_take];omega) (by omega) rfl
     ·have c3': ¬0<high.length:=by omega
      rw[if_neg c3']
      refine Pu.Ok.g (by omega) (Pu.Ok.g (by omega) (Pu.Ok.g (by omega) ?_))
      refine Pu.Ok.g c2 ?_
      refine Pu.Ok.g (by rw[List.length_append,List.length_singleton];omega) ?_
      exact j1 _ _ (by rw[List.length_append,List.length_singleton];omega) (by omega)
    ·rw[if_neg c2]
     refine Pu.Ok.g (by omega) (Pu.Ok.g (by omega) (Pu.Ok.g (by omega) ?_))
     refine Pu.Ok.no c2 ?_
     exact j1 _ _ (by omega) (by omega)
  ·rw[aC.EU]
   have hh:high.length=n:=by rw[←hb,List.length_take];omega
   simp only[de,dj,ca,bZ,cb,bL,bT,bO,cS,bV,bR,bg,bh,b8,ba,bS,b9,cg,cF,di,b7,b6,bn,bm,bo,bq,List.nil_append,List.cons_append]
   simp only[e1,Int.toNat_natCast,List.drop_zero,hb]
   refine Pu.Ok.g (by omega) (Pu.Ok.g (by omega) (Pu.Ok.g (by omega) (Pu.Ok.g (by omega) ?_)))
   refine Pu.Ok.t (fun c1=> ?_) (fun c1=> ?_)
   ·rw[if_pos c1]
    refine Pu.Ok.g (by rw[List.length_append,List.length_singleton];omega) ?_
    exact j1 _ _ (by omega) (by rw[List.length_append,List.length_singleton];omega)
   ·rw[if_neg c1]
    refine Pu.Ok.g (by omega) (Pu.Ok.g (by omega) (Pu.Ok.g (by omega) ?_))
    refine Pu.Ok.t (fun c2=> ?_) (fun c2=> ?_)
    ·rw[if_pos c2]
     refine Pu.Ok.t (fun c3=> ?_) (fun c3=> ?_)
     ·have c3':0<high.length:=by omega
      rw[if_pos c3']
      have e3:=w64 (n:=(n:Int)-1) (by omega) (by omega)
      have e4:((n:Int)-1).toNat=n-1:=by omega
      simp only[e3,e4,Nat.sub_zero,Nat.add_zero]
      refine Pu.Ok.g (by omega) (Pu.Ok.g (by omega) ?_)
      refine j2 (n-1) base low _ (by omega) (by rw[List.length_take];omega) (by omega) ?_
      rw[←hb,List.take_take,List.length_take]
      congr 1
      omega
     ·have c3': ¬0<high.length:=by omega
      rw[if_neg c3']
      refine Pu.Ok.g (by omega) (Pu.Ok.g (by omega) (Pu.Ok.g (by omega) ?_))
      refine Pu.Ok.g c2 ?_
      refine Pu.Ok.g (by rw[List.length_append,List.length_singleton];omega) ?_
      exact j2 n base _ _ (by rw[List.length_append,List.length_singleton];omega) (by omega) hn hb
    ·rw[if_neg c2]
     refine Pu.Ok.g (by omega) (Pu.Ok.g (by omega) (Pu.Ok.g (by omega) ?_))
     refine Pu.Ok.no c2 ?_
     exact j2 n base _ _ (by omega) (by omega) hn hb
theorem aC.is{k:Nat}{w:LI}{x:Int}(hk:100≤k)(hw:w.length≤9)(hx:1≤x∧x≤8):aC k w x=some (Pu.free w x):=by
 obtain⟨k,rfl⟩: ∃k',k=k'+1:=⟨k-1,by omega⟩
 apply Pu.ok_eq
 rw[aC.eq]
 exact(aC.both (k:=k) hw hx w.length k 0 [] [] (by omega) (by omega) (by simp) (by simp)).1
theorem fC.is{k:Nat}{w:LI}{x:Int}(hk:4194304+10≤k)(hw:w.length≤1048576):fC k w x=some (Pu.raise w x):=by
 obtain⟨k,rfl⟩: ∃k',k=k'+1:=⟨k-1,by omega⟩
 apply Pu.ok_eq
 rw[fC.eq]
 refine Pu.Ok.cP (gW.is (by omega) hw) ?_
 unfold Pu.raise
 simp only[cF]
 refine Pu.Ok.tn (fun hb=> ?_) (fun hb=> ?_)
 ·rw[hb];exact Pu.Ok.ret rfl
 ·rw[hb,if_pos rfl]
  simp only[Bool.and_eq_true,Pu.within,decide_eq_true_eq]at hb
  obtain⟨h1,h2⟩:=Pu.bQ hb.1
  refine Pu.Ok.cP (aC.is (by omega) h1 hb.2) ?_
  simp only[de,dj,ca,bZ,cb,bL,bT,bO,cS,bV,bR,bg,bh,b8,ba,bS,b9,cg,cF,di,b7,b6,bn,bm,bo,bq,List.nil_append,List.cons_append]
  refine Pu.Ok.t (fun c=> ?_) (fun c=> ?_)
  ·have:(Pu.free w x).2= []:=List.eq_nil_of_length_eq_zero (by omega)
   rw[if_pos this]
   exact Pu.Ok.ret rfl
  ·have hn:(Pu.free w x).2≠ []:=fun e=>c (by rw[e];rfl)
   rw[if_neg hn]
   obtain⟨n,e1,e2,e3⟩:=Pu.rM hn
   have e0:(0:Int).toNat=0:=rfl
   simp only[e0,e1,Int.toNat_natCast]
   (repeat (refine Pu.Ok.g (by first|omega|assumption|(simp only[List.length_append,List.length_cons,List.length_nil,List.length_set,List.length_take,List.length_drop,List.length_replicate]at*;omega)) ?_))
   exact Pu.Ok.ret rfl
theorem bY.loop{k:Nat}(hk:4194304+20≤k): ∀(m j:Nat) (x:Int) (w:LI),Pu.isWord w=true→1≤x→x≤9→Pu.gp w*9+(9-x)<m→m<j→Pu.Ok (bY.L0 k j x w) (· =(Pu.nB m x w,true))
 |m,0,x,w,_,_,_,_,hj=>by omega
 |0,j+1,x,w,hw,h1,h2,hm,_=>by have:=(Pu.q7 hw).1;omega
 |m+1,j+1,x,w,hw,h1,h2,hm,hj=>by
  rw[bY.bw]
  have hl:=(Pu.bQ hw).1
  unfold Pu.nB
  simp only[de]
  refine Pu.Ok.t (fun c=> ?_) (fun c=> ?_)
  ·rw[if_pos c]
   refine Pu.Ok.cP (fC.is (by omega) (by omega)) ?_
   refine Pu.Ok.tb (fun hb=> ?_) (fun hb=> ?_)
   ·rw[if_pos hb]
    obtain⟨r1,r2,r3⟩:=Pu.uQ (w:=w) (k:=x) (v:=(Pu.raise w x).1) (by rw[←hb])
    exact bY.loop hk m j 1 _ r2 (by omega) (by omega) (by rw[r3];omega) (by omega)
   ·rw[if_neg (by rw[hb];decide)]
    simp only[de,dj,ca,bZ,cb,bL,bT,bO,cS,bV,bR,bg,bh,b8,ba,bS,b9,cg,cF,di,b7,b6,bn,bm,bo,bq,List.nil_append,List.cons_append]
    rw[w64 (by omega) (by omega)]
    exact bY.loop hk m j (x+1) w hw (by omega) (by omega) (by omega) (by omega)
  ·rw[if_neg c];exact Pu.Ok.ret rfl
theorem bY.is{k:Nat}{w:LI}(hk:4194304+30≤k)(hw:w.length≤1048576):bY k w=some (Pu.kE w):=by
 obtain⟨k,rfl⟩: ∃k',k=k'+1:=⟨k-1,by omega⟩
 apply Pu.ok_eq
 rw[bY.eq]
 refine Pu.Ok.cP (aU.is (by omega) hw) ?_
 unfold Pu.kE
 simp only[cF]
 refine Pu.Ok.tn (fun hb=> ?_) (fun hb=> ?_)
 ·rw[hb];exact Pu.Ok.ret rfl
 ·rw[hb,if_pos rfl]
  simp only[de,dj,ca,bZ,cb,bL,bT,bO,cS,bV,bR,bg,bh,b8,ba,bS,b9,cg,cF,di,b7,b6,bn,bm,bo,bq,List.nil_append,List.cons_append]
  (repeat (refine Pu.Ok.g (by first|omega|assumption|(simp only[List.length_append,List.length_cons,List.length_nil,List.length_set,List.length_take,List.length_drop,List.length_replicate]at*;omega)) ?_))
  have:=Pu.q7 hb
  exact bY.loop (k:=k) (by omega) 2000 k 1 w hb (by omega) (by omega) (by omega) (by omega)
theorem aG.loop{k:Nat}{p:LI}(hk:4194304≤k)(hp:p.length≤1048576): ∀(m j i:Nat) (s v:Int),i+m=p.length→m<j→(i=0→v=9)→(0<i→v=p.getD (i-1) 0)→v≤9→0≤s→s≤9→
  aG.L0 k j s i p=some (Pu.gO (p.drop i) v s)
 |m,0,i,s,v,_,hj,_,_,_,_,_=>by omega
 |0,j+1,i,s,v,hi,_,_,_,_,_,_=>by
  rw[aG.bw]
  have e:i=p.length:=by omega
  subst e
  simp[Pu.gO]
 |m+1,j+1,i,s,v,hi,hj,h0,h1,hv,hs,hs9=>by
  rw[aG.bw]
  have hlt:i<p.length:=by omega
  have hj1: ∀x:Int,x=p.getD i 0→1≤x→x≤v→aG.J1 k j s i p=some (decide (s+x≤9)&&Pu.gO (p.drop (i+1)) x (s+x)):=by
   intro x hx hx1 hx2
   rw[aG.gw]
   simp (disch:=omega) only[↓aM,sss,if_true,if_false,hlt,←hx]
   by_cases c:9<s+x
   ·have: ¬s+x≤9:=by omega
    simp[c,this]
   ·have c':s+x≤9:=by omega
    have ih:=aG.loop hk hp m j (i+1) (s+x) x (by omega) (by omega) (by omega) (by simp[hx]) (by omega) (by omega) c'
    rw[Int.natCast_succ]at ih
    simp[c,c',ih]
  rw[Pu.drop_cons hlt 0]
  simp (disch:=omega) only[↓aM,sss,if_true,if_false,hlt,fA.is,Pu.gO]
  generalize hx:p.getD i 0=x at*
  unfold Pu.within
  by_cases c1:1≤x
  ·by_cases c2:x≤v
   ·have c3:x≤9:=by omega
    have hj:=hj1 x rfl c1 c2
    by_cases hi0:i=0
    ·have hpos: ¬(0:Int)<i:=by omega
     simp (disch:=omega) only[↓aM,sss,if_true,if_false,c1,c2,c3,hpos,hj]
    ·have hv':=h1 (by omega)
     have e:((i:Int)-1)=((i-1:Nat):Int):=by omega
     have hlt':i-1<p.length:=by omega
     have hge: ¬p.getD (i-1) 0<x:=by rw[←hv'];omega
     have hpos:(0:Int)<i:=by omega
     simp (disch:=omega) only[e,↓aM,sss,if_true,if_false,hlt',c1,c2,c3,hj,hpos,hge]
   ·simp only[c1,c2,↓aM,sss,if_true,if_false]
    by_cases c3:x≤9
    ·have hi0:0<i:=by
      rcases Nat.eq_zero_or_pos i with h|h
      ·have:=h0 h;omega
      ·exact h
     have hv':=h1 hi0
     have e:((i:Int)-1)=((i-1:Nat):Int):=by omega
     have hlt':i-1<p.length:=by omega
     have hge:p.getD (i-1) 0<x:=by rw[←hv'];omega
     have hpos:(0:Int)<i:=by omega
     simp (disch:=omega) only[e,↓aM,sss,if_true,if_false,hlt',c3,hpos,hge]
    ·simp only[c3,↓aM,sss,if_true,if_false]
  ·simp only[c1,↓aM,sss,if_true,if_false]
theorem aG.is{k:Nat}{p:LI}(hk:4194304+1≤k)(hp:p.length≤1048576):aG k p=some (Pu.cz p):=by
 obtain⟨k,rfl⟩: ∃k',k=k'+1:=⟨k-1,by omega⟩
 rw[aG.eq]
 exact aG.loop (k:=k) (by omega) hp p.length k 0 0 9 (by omega) (by omega) (fun _=>rfl) (by omega) (by omega) (by omega) (by omega)
theorem dB.is{k:Nat}{p:LI}{i:Int}(hk:1≤k):dB k p i=some (Pu.atI p i):=by
 obtain⟨k,rfl⟩: ∃k',k=k'+1:=⟨k-1,by omega⟩
 rw[dB.eq,dB.kP]
 by_cases h1:i<0
 ·simp only[↓aM,sss,if_true,if_false,h1,Pu.tH h1]
 ·by_cases h2:(p.length:Int)≤i
  ·simp only[↓aM,sss,if_true,if_false,h1,h2,Pu.AE h2]
  ·have h3:0≤i:=by omega
   have h4:i.toNat<p.length:=by omega
   simp only[↓aM,sss,if_true,if_false,h1,h2,h3,h4,Pu.atI]
theorem bG.loop{k:Nat}{q p:LI}(hq:q.length≤1048576)(hl:q.length≤p.length)(hk:q.length<k):bG.L1 k k 0 q p=some ((List.range' 0 q.length).all fun i=>decide (q.getD i 0≤p.getD i 0)):=by
 have h:=Pu.lT (fun j i=>bG.L1 k j (i:Int) q p) q.length (fun i=>decide (q.getD i 0≤p.getD i 0)) (some false) (some true)
  (fun j i hi=>by
   have hi2:i<p.length:=by omega
   rw[bG.fx]
   simp (disch:=omega) only[↓aM,sss,if_true,if_false,hi,hi2,Int.natCast_add,Int.natCast_one]
   by_cases c:q.getD i 0≤p.getD i 0
   ·have c': ¬p.getD i 0<q.getD i 0:=by omega
    simp only[c,c',↓aM,sss,if_true,if_false]
   ·have c':p.getD i 0<q.getD i 0:=by omega
    simp only[c,c',↓aM,sss,if_true,if_false])
  (fun j=>by
   rw[bG.fx]
   simp only[↓aM,sss,if_true,if_false,Nat.lt_irrefl]) q.length k 0 (by omega) hk
 simp only[Int.natCast_zero]at h
 rw[h]
 cases(List.range' 0 q.length).all fun i=>decide (q.getD i 0≤p.getD i 0)<;>simp
theorem bG.is{k:Nat}{q p:LI}(hk:4194304+2≤k)(hq:q.length≤1048576)(hp:p.length≤1048576):bG k q p=some (Pu.ep q p):=by
 obtain⟨k,rfl⟩: ∃k',k=k'+1:=⟨k-1,by omega⟩
 rw[bG.eq,aG.is (by omega) hq,eL,bG.kP]
 unfold Pu.ep
 cases c1:Pu.cz q with
 |false=>simp only[↓aM,sss,if_true,if_false]
 |true=>
  simp only[↓aM,sss,if_true,if_false]
  rw[aG.is (by omega) hp,eL]
  cases c2:Pu.cz p with
  |false=>simp only[↓aM,sss,if_true,if_false]
  |true=>
   simp only[↓aM,sss,if_true,if_false]
   by_cases c3:p.length<q.length
   ·have c3': ¬q.length≤p.length:=by omega
    simp only[c3,c3',↓aM,sss,if_true,if_false]
   ·have c3':q.length≤p.length:=by omega
    simp only[c3,c3',↓aM,sss,if_true,if_false]
    exact bG.loop hq c3' (by omega)
theorem gQ.is{k:Nat}{s:LI×LI}(hk:4194304+3≤k)(hq:s.1.length≤1048576)(hp:s.2.length≤1048576):gQ k s=some (Pu.ep s.2 s.1):=by
 obtain⟨k,rfl⟩: ∃k',k=k'+1:=⟨k-1,by omega⟩
 rw[gQ.eq,bG.is (by omega) hp hq]
 rfl
theorem bI.loop{k:Nat}{t:Pu.Tab}{x3 x4:LI}(hk:4194304+3≤k)(hi:Pu.cz t.1=true)(h2:t.2.length≤9)(hr: ∀x∈t.2,x.length≤1048576): ∀(m j i:Nat) (acc:LI),i+m=t.2.length→m<j→acc.length=i→
  bI.L1 k j i t.1 t.2 x3 x4 acc t.1=some (if Pu.ep t.1 (acc++Pu.fV t.1 i (t.2.drop i))=true then((acc++Pu.fV t.1 i (t.2.drop i),t.1),true)else(([],[]),false))
 |m,0,i,acc,_,hj,_=>by omega
 |0,j+1,i,acc,hm,_,hacc=>by
  rw[bI.fx]
  have e:i=t.2.length:=by omega
  have h9:=(Pu.cL hi).2.2.1
  have hlt: ¬i<t.2.length:=by omega
  rw[gQ.is (by omega) (by simp only;omega) (by simp only;omega),e]
  simp only[↓aM,sss,if_true,if_false,Nat.lt_irrefl,List.drop_length,Pu.fV,List.append_nil]
  cases Pu.ep t.1 acc<;>simp
 |m+1,j+1,i,acc,hm,hj,hacc=>by
  rw[bI.fx]
  have hlt:i<t.2.length:=by omega
  have hb:=Pu.fp hi i
  have hrow:=hr t.2[i] (List.getElem_mem hlt)
  rw[←Pu.aw hlt []]at hrow
  rw[dB.is (by omega)]
  have ih:=bI.loop (x3:=x3) (x4:=x4) hk hi h2 hr m j (i+1) (acc++ [Pu.atI t.1 i+(t.2.getD i []).length]) (by omega) (by omega) (by simp[hacc])
  rw[Int.natCast_succ]at ih
  rw[Pu.drop_cons hlt []]
  have hl:(acc++ [Pu.atI t.1 i+((t.2.getD i []).length:Int)]).length≤1099511627776:=by simp;omega
  simp (disch:=omega) only[↓aM,sss,if_true,if_false,hlt,hl,ih,Pu.fV]
  simp only[List.append_assoc,List.singleton_append,Pu.fK]
  rfl
theorem bI.is{k:Nat}{t:Pu.Tab}(hk:4194304+4≤k)(h1:t.1.length≤1048576)(h2:t.2.length≤1048576)(hr: ∀x∈t.2,x.length≤1048576):bI k t=some (Pu.shapeOf t):=by
 obtain⟨k,rfl⟩: ∃k',k=k'+1:=⟨k-1,by omega⟩
 rw[bI.eq,aG.is (by omega) h1,bI.kP]
 have hl:t.1.length≤1099511627776:=by omega
 simp only[↓aM,sss,if_true,if_false,List.nil_append,hl]
 unfold Pu.shapeOf
 cases c1:Pu.cz t.1 with
 |false=>
  have:Pu.dC t=false:=by unfold Pu.dC;rw[c1];rfl
  simp only[this,↓aM,sss,if_true,if_false]
 |true=>
  by_cases c2:t.2.length<t.1.length
  ·have:Pu.dC t=false:=by
    have: ¬t.1.length≤t.2.length:=by omega
    unfold Pu.dC;simp[this]
   simp only[this,c2,↓aM,sss,if_true,if_false]
  ·by_cases c3:9<t.2.length
   ·have:Pu.dC t=false:=by
     cases h:Pu.dC t with
     |false=>rfl
     |true=>have:=Pu.yA h;omega
    have c3':(9:Int)<t.2.length:=by omega
    simp only[this,c2,c3',↓aM,sss,if_true,if_false]
   ·have c3': ¬(9:Int)<t.2.length:=by omega
    have c2':t.1.length≤t.2.length:=by omega
    have hloop:=bI.loop (k:=k) (t:=t) (x3:= []) (x4:= []) (by omega) c1 (by omega) hr t.2.length k 0 [] (by omega) (by omega) rfl
    rw[Int.natCast_zero]at hloop
    simp only[c2,c3',↓aM,sss,if_true,if_false]
    rw[hloop]
    have:Pu.dC t=Pu.ep t.1 (Pu.outer t):=by unfold Pu.dC;simp[c1,c2']
    rw[this]
    rfl
theorem cm.is{k:Nat}{t:Pu.Tab}{r c:Int}(hk:2≤k)(hi:Pu.cz t.1=true)(h1: -1000000000≤c)(h2:c≤1000000000):cm k t r c=some (Pu.entry t r c):=by
 obtain⟨k,rfl⟩: ∃k',k=k'+1:=⟨k-1,by omega⟩
 have hb:=Pu.fp hi r
 rw[cm.eq,cm.kP,dB.is (by omega)]
 unfold Pu.entry
 by_cases c1:r<0
 ·simp only[↓aM,sss,if_true,if_false,c1]
 ·by_cases c2:(t.2.length:Int)≤r
  ·simp only[↓aM,sss,if_true,if_false,c1,c2]
  ·have c3:0≤r:=by omega
   have c4:r.toNat<t.2.length:=by omega
   simp (disch:=omega) only[↓aM,sss,if_true,if_false,c1,c2,c3,c4]
   by_cases d1:c-Pu.atI t.1 r<0
   ·simp only[↓aM,sss,if_true,if_false,d1,Pu.tH d1]
   ·by_cases d2:((t.2.getD r.toNat []).length:Int)≤c-Pu.atI t.1 r
    ·simp only[↓aM,sss,if_true,if_false,d1,d2,Pu.AE d2]
    ·have d3:0≤c-Pu.atI t.1 r:=by omega
     have d4:(c-Pu.atI t.1 r).toNat<(t.2.getD r.toNat []).length:=by omega
     rw[cm.gw]
     generalize c-Pu.atI t.1 r=z at*
     simp only[↓aM,sss,if_true,if_false,c3,c4,d1,d2,d3,d4,Pu.atI]
theorem az.Bq{k k1 k2:Nat}{t:Pu.Tab}{r:Nat}{c x v:Int}{o n:LI}(hk:3≤k)(hi:Pu.cz t.1=true)(h1:0≤c)(h2:c≤10000000)(hr:r≤1048576):
  az.J2 k k1 k2 r c x v t.1 t.2 o n=if(Pu.within x 1 9&&(decide (v≤x)&&decide (Pu.entry t ((r:Int)-1) c<x)))=true then az.L1 k k1 k2 r (c+1) t.1 t.2 o n else some false:=by
 have he:=cm.is (k:=k) (t:=t) (r:=(r:Int)-1) (c:=c) (by omega) hi (by omega) (by omega)
 rw[az.lf,fA.is (by omega),az.yK]
 simp (disch:=omega) only[↓aM,sss,if_true,if_false,he]
 cases Pu.within x 1 9 with
 |false=>simp
 |true=>
  by_cases c1:v≤x
  ·have c1': ¬x<v:=by omega
   by_cases c2:Pu.entry t ((r:Int)-1) c<x
   ·have c2': ¬x≤Pu.entry t ((r:Int)-1) c:=by omega
    simp[c1,c1',c2,c2']
   ·have c2':x≤Pu.entry t ((r:Int)-1) c:=by omega
    simp[c1,c1',c2,c2']
  ·have c1':x<v:=by omega
   simp[c1,c1']
theorem az.inner{k k1:Nat}{t:Pu.Tab}{r:Nat}{n:LI}(hk:4194304≤k)(hi:Pu.cz t.1=true)(ht:t.2.length≤1048576)(hr: ∀x∈t.2,x.length≤1048576)(hlt:r<t.2.length):
  az.L1 k k1 k r (t.1.getD r 0) t.1 t.2 (Pu.outer t) n=if((List.range' 0 (t.2.getD r []).length).all fun q=>Pu.gE t r q)=true then az.L0 k k1 ((r:Int)+1) t.1 t.2 (Pu.outer t) n else some false:=by
 have hx:=hr _ (List.getElem_mem hlt)
 rw[←Pu.aw hlt []]at hx
 have hb:=Pu.fp hi r
 rw[Pu.fK]at hb
 have hol:r<(Pu.outer t).length:=by unfold Pu.outer;rw[Pu.kS];exact hlt
 have ho:(Pu.outer t).getD r 0=t.1.getD r 0+((t.2.getD r []).length:Int):=by
  have:=Pu.iC t.1 t.2 0 r hlt
  rw[Nat.zero_add]at this
  exact this
 have h:=Pu.lT (fun j q=>az.L1 k k1 j r (t.1.getD r 0+(q:Int)) t.1 t.2 (Pu.outer t) n) (t.2.getD r []).length (fun q=>Pu.gE t r q) (some false) (az.L0 k k1 ((r:Int)+1) t.1 t.2 (Pu.outer t) n)
  (fun j q hq=>by
   rw[az.fx]
   have hc:t.1.getD r 0+(q:Int)<(Pu.outer t).getD r 0:=by rw[ho];omega
   have e1:=cm.is (k:=k) (t:=t) (r:=r) (c:=t.1.getD r 0+q) (by omega) hi (by omega) (by omega)
   have e2:=cm.is (k:=k) (t:=t) (r:=r) (c:=t.1.getD r 0+q-1) (by omega) hi (by omega) (by omega)
   rw[Pu.yL hlt]at e1
   rw[Pu.Ar hlt]at e2
   have ej:=fun v=>az.Bq (k:=k) (k1:=k1) (k2:=j) (t:=t) (r:=r) (c:=t.1.getD r 0+q) (x:=(t.2.getD r []).getD q 0) (v:=v) (o:=Pu.outer t) (n:=n) (by omega) hi (by omega) (by omega) (by omega)
   have en:t.1.getD r 0+(q:Int)+1=t.1.getD r 0+((q+1:Nat):Int):=by omega
   rw[en]at ej
   have key: ∀v:Int,v=(if q=0 then 0 else(t.2.getD r []).getD (q-1) 0)→(Pu.within ((t.2.getD r []).getD q 0) 1 9&&(decide (v≤(t.2.getD r []).getD q 0)&&decide (Pu.entry t ((r:Int)-1) (t.1.getD r 0+q)<(t.2.getD r []).getD q 0)))=Pu.gE t r q:=by
    intro v hv
    unfold Pu.gE
    cases hw:Pu.within ((t.2.getD r []).getD q 0) 1 9 with
    |false=>rfl
    |true=>
     have hw1:1≤(t.2.getD r []).getD q 0:=by
      simp only[Pu.within,Bool.and_eq_true,decide_eq_true_eq]at hw;exact hw.1
     simp only[Bool.true_and]
     congr 1
     ·by_cases e:q=0
      ·have:v≤(t.2.getD r []).getD q 0:=by rw[hv,if_pos e];omega
       simp[e,this]
       simpa[e]using this
      ·rw[hv,if_neg e];simp[e]
     ·by_cases e:r=0
      ·subst e
       rw[Pu.BH (by omega),decide_eq_true (show(0:Int)<(t.2.getD 0 []).getD q 0 by omega)]
       simp only[decide_true,Bool.true_or]
      ·simp[e]
   by_cases hc0:0<t.1.getD r 0+(q:Int)
   ·simp (disch:=omega) only[↓aM,sss,if_true,if_false,hol,hc,e1,hc0,e2,ej]
    rw[key _ rfl]
   ·simp (disch:=omega) only[↓aM,sss,if_true,if_false,hol,hc,e1,hc0,ej]
    rw[key 0 (by
           have:q=0:=by omega
           rw[if_pos this])])
  (fun j=>by
   rw[az.fx]
   have hc: ¬t.1.getD r 0+((t.2.getD r []).length:Int)<(Pu.outer t).getD r 0:=by rw[ho];omega
   simp (disch:=omega) only[↓aM,sss,if_true,if_false,hol,hc]) (t.2.getD r []).length k 0 (by omega) (by omega)
 simp only[Int.natCast_zero,Int.add_zero]at h
 exact h
theorem az.is{k:Nat}{t:Pu.Tab}(hk:4194304+5≤k)(h1:t.1.length≤1048576)(ht:t.2.length≤1048576)(hr: ∀x∈t.2,x.length≤1048576):az k t=some (Pu.ig t):=by
 obtain⟨k,rfl⟩: ∃k',k=k'+1:=⟨k-1,by omega⟩
 rw[az.eq,bI.is (by omega) h1 ht hr,eL]
 unfold Pu.ig Pu.shapeOf
 cases hs:Pu.dC t with
 |false=>simp[hs]
 |true=>
  have hi:Pu.cz t.1=true:=by
   simp only[Pu.dC,Bool.and_eq_true]at hs;exact hs.1
  have hol:(Pu.outer t).length=t.2.length:=by unfold Pu.outer;rw[Pu.kS]
  have h:=Pu.lT (fun j r=>az.L0 k j r t.1 t.2 (Pu.outer t) t.1) t.2.length (fun r=>(List.range' 0 (t.2.getD r []).length).all fun q=>Pu.gE t r q) (some false) (some true)
   (fun j r hlt=>by
    rw[az.bw,dB.is (by omega),Pu.fK]
    simp (disch:=omega) only[↓aM,sss,if_true,if_false,hol,hlt,az.inner (k1:=j) (n:=t.1) (show 4194304≤k by omega) hi ht hr hlt,Int.natCast_add,Int.natCast_one])
   (fun j=>by
    rw[az.bw]
    simp (disch:=omega) only[↓aM,sss,if_true,if_false,hol,Nat.lt_irrefl]) t.2.length k 0 (by omega) (by omega)
  simp only[Int.natCast_zero]at h
  simp only[if_true,↓aM,sss,if_true,if_false]
  rw[h]
  cases(List.range' 0 t.2.length).all fun r=>(List.range' 0 (t.2.getD r []).length).all fun q=>Pu.gE t r q<;>simp
theorem cx.tf{k:Nat}{sep:List UInt8}{ws:List (List UInt8)}(hs:sep.length≤10)(hw: ∀w∈ws,w.length≤10000)(hn:ws.length≤1000): ∀(m j i:Nat),i+m=ws.length→m<j→Pu.Ok (cx.L0 k j (Pu.tx sep) i (ws.map Pu.tx) ((Pu.n0 ws sep i).map fun b=>(b.toNat:Int))) (· =Pu.tx (Lib.join ws sep))
 |m,0,i,_,hj=>by omega
 |0,j+1,i,hi,_=>by
  rw[cx.bw]
  simp only[de,dj,ca,bZ,cb,bL,bT,bO,cS,bV,bR,bg,bh,b8,ba,bS,b9,cg,cF,di,b7,b6,bn,bm,bo,bq,List.nil_append,List.cons_append]
  refine Pu.Ok.no (by rw[List.length_map];omega) ?_
  refine Pu.Ok.ret ?_
  unfold Pu.n0
  rw[List.take_of_length_le (by omega)]
  exact Pu.El _
 |m+1,j+1,i,hi,hj=>by
  rw[cx.bw]
  have hlen:(Pu.n0 ws sep i).length≤1000*10010:=by
   have h1:=Pu.rk (ws.take i) sep 10000 (fun w h=>hw w (List.mem_of_mem_take h))
   have h2:(ws.take i).length*(10000+sep.length)≤1000*10010:=Nat.mul_le_mul (by rw[List.length_take];omega) (by omega)
   exact Nat.le_trans h1 h2
  have key: ∀acc:List UInt8,acc=Pu.n0 ws sep i++(if i=0 then []else sep)→Pu.Ok (cx.J1 k j (Pu.tx sep) i (ws.map Pu.tx) (acc.map fun b=>(b.toNat:Int))) (· =Pu.tx (Lib.join ws sep)):=by
   intro acc ha
   rw[cx.gw]
   have hi':i<ws.length:=by omega
   have e1:(ws.map Pu.tx).getD i (⟨#[]⟩:ByteArray)=Pu.tx (ws.getD i []):=by
    rw[Pu.aw (by rw[List.length_map];exact hi') _,Pu.aw hi' _,List.getElem_map]
   have hx:(ws.getD i []).length≤10000:=by
    rw[Pu.aw hi' _];exact hw _ (List.getElem_mem hi')
   have hal:acc.length≤1000*10010+10:=by
    rw[ha,List.length_append]
    split
    ·simp;omega
    ·omega
   simp only[Dl]
   simp only[de,dj,ca,bZ,cb,bL,bT,bO,cS,bV,bR,bg,bh,b8,ba,bS,b9,cg,cF,di,b7,b6,bn,bm,bo,bq,List.nil_append,List.cons_append]
   (try simp only[Int.toNat_natCast]);(try simp (disch:=omega) only[w64])
   have e2:(Pu.tx (ws.getD i [])).data.toList=ws.getD i []:=rfl
   simp only[e1,e2,List.length_map (f:=Pu.tx)]
   refine Pu.Ok.g (by omega) (Pu.Ok.g hi' (Pu.Ok.g hi' (Pu.Ok.g (by rw[List.length_append,List.length_map,List.length_map];omega) ?_)))
   rw[←List.map_append,ha,←Pu.y7 hi']
   exact cx.tf hs hw hn m j (i+1) (by omega) (by omega)
  simp only[de,dj,ca,bZ,cb,bL,bT,bO,cS,bV,bR,bg,bh,b8,ba,bS,b9,cg,cF,di,b7,b6,bn,bm,bo,bq,List.nil_append,List.cons_append]
  refine Pu.Ok.g (by rw[List.length_map];omega) ?_
  simp only[Dl]
  refine Pu.Ok.t (fun h0=> ?_) (fun h0=> ?_)
  ·have e2:(Pu.tx sep).data.toList=sep:=rfl
   simp only[e2]
   refine Pu.Ok.g (by rw[List.length_append,List.length_map,List.length_map];omega) ?_
   rw[←List.map_append]
   exact key _ (by rw[if_neg (by omega)])
  ·exact key _ (by rw[if_pos (by omega),List.append_nil])
theorem cx.isE{k:Nat}{sep:List UInt8}{ws:List (List UInt8)}(hk:2000≤k)(hs:sep.length≤10)(hw: ∀w∈ws,w.length≤10000)(hn:ws.length≤1000):cx k (ws.map Pu.tx) (Pu.tx sep)=some (Pu.tx (Lib.join ws sep)):=by
 obtain⟨k,rfl⟩: ∃k',k=k'+1:=⟨k-1,by omega⟩
 apply Pu.ok_eq
 rw[cx.eq]
 have h:=cx.tf (k:=k) hs hw hn ws.length k 0 (by omega) (by omega)
 unfold Pu.n0 at h
 rw[List.take_zero,Lib.join_nil,List.map_nil]at h
 exact h
theorem yb{t:Pu.Tab}(h:Pu.ig t=true){i q:Nat}(hi:i<t.2.length)(hq:q<(t.2.getD i []).length):1≤(t.2.getD i []).getD q 0∧(t.2.getD i []).getD q 0≤9:=by
 simp only[Pu.ig,Bool.and_eq_true]at h
 have h1:=Pu.fB.1 h.2 i hi
 have h2:=Pu.fB.1 h1 q hq
 simp only[Pu.gE,Pu.within,Bool.and_eq_true,decide_eq_true_eq]at h2
 exact h2.1
theorem ao.Ft{k k1:Nat}{i:Nat}{ws:List ByteArray}{t:Pu.Tab}{v:ByteArray}(hk:1000≤k)(ht:Pu.ig t=true)(hi:i<t.2.length)(hw:ws.length≤9)(d:List UInt8)(hd:d.length≤10)
  (key:Pu.Ok (ao.L0 k k1 ((i:Int)+1) (ws++ [Pu.tx (d++Pu.gX (t.2.getD i []))]) t.1 t.2) (· =v)):
  ∀(m j q:Nat),q+m=(t.2.getD i []).length→m<j→Pu.Ok (ao.L2 k k1 j i (Pu.tx (d++Pu.gX ((t.2.getD i []).take q))) q ws t.1 t.2) (· =v)
 |m,0,q,_,hj=>by omega
 |0,j+1,q,hq,hj=>by
  rw[ao.EM]
  have h9:=(Pu.hU ht).1
  have hr:=(Pu.hU ht).at i
  simp only[de,dj,ca,bZ,cb,bL,bT,bO,cS,bV,bR,bg,bh,b8,ba,bS,b9,cg,cF,di,b7,b6,bn,bm,bo,bq,List.nil_append,List.cons_append]
  (try simp only[Int.toNat_natCast]);(try simp (disch:=omega) only[w64])
  (repeat (refine Pu.Ok.g (by first|omega|assumption|(simp only[List.length_append,List.length_cons,List.length_nil,List.length_set,List.length_take,List.length_drop,List.length_replicate]at*;omega)) ?_))
  refine Pu.Ok.no (by omega) ?_
  (repeat (refine Pu.Ok.g (by first|omega|assumption|(simp only[List.length_append,List.length_cons,List.length_nil,List.length_set,List.length_take,List.length_drop,List.length_replicate]at*;omega)) ?_))
  (try simp only[Int.toNat_natCast]);(try simp (disch:=omega) only[w64])
  rw[List.take_of_length_le (by omega)]
  exact key
 |m+1,j+1,q,hq,hj=>by
  rw[ao.EM]
  have h9:=(Pu.hU ht).1
  have hr:=(Pu.hU ht).at i
  have hq':q<(t.2.getD i []).length:=by omega
  have he:=yb ht hi hq'
  simp only[de,dj,ca,bZ,cb,bL,bT,bO,cS,bV,bR,bg,bh,b8,ba,bS,b9,cg,cF,di,b7,b6,bn,bm,bo,bq,List.nil_append,List.cons_append]
  (try simp only[Int.toNat_natCast]);(try simp (disch:=omega) only[w64])
  (repeat (refine Pu.Ok.g (by first|omega|assumption|(simp only[List.length_append,List.length_cons,List.length_nil,List.length_set,List.length_take,List.length_drop,List.length_replicate]at*;omega)) ?_))
  refine Pu.Ok.cP (aO.isE (by omega) (by omega) (by omega)) ?_
  have h1:=Pu.nu (w:=(t.2.getD i []).take q) (fun x hx=>by have:=(Pu.sw ht (List.mem_of_mem_take hx)).2;omega)
  have h2:=Pu.ky (n:=(t.2.getD i []).getD q 0) (by omega)
  rw[List.length_take]at h1
  rw[Pu.lF,Pu.eY,Pu.eY]
  refine Pu.Ok.g (by rw[List.length_append];omega) ?_
  (try simp only[Int.toNat_natCast]);(try simp (disch:=omega) only[w64])
  have e:d++Pu.gX ((t.2.getD i []).take q)++Pu.dcm ((t.2.getD i []).getD q 0)=d++Pu.gX ((t.2.getD i []).take (q+1)):=by
   unfold Pu.gX
   rw[List.take_add_one,List.flatMap_append,List.getElem?_eq_getElem hq',Pu.aw hq' _]
   simp
  rw[e]
  exact ao.Ft hk ht hi hw d hd key m j (q+1) (by omega) (by omega)
theorem ao.FT{k k1:Nat}{i:Nat}{ws:List ByteArray}{t:Pu.Tab}{v:ByteArray}(hk:1000≤k)(ht:Pu.ig t=true)(hi:i<t.2.length)(hw:ws.length≤9)
  (key:Pu.Ok (ao.L0 k k1 ((i:Int)+1) (ws++ [Pu.tx (Pu.nR t i)]) t.1 t.2) (· =v)):
  ∀(m j q:Nat),(q+m:Int)=Pu.atI t.1 i→m<j→Pu.Ok (ao.L1 k k1 j i (Pu.tx (List.replicate q 46)) q ws t.1 t.2) (· =v)
 |m,0,q,_,hj=>by omega
 |0,j+1,q,hq,hj=>by
  rw[ao.fx]
  simp only[de,dj,ca,bZ,cb,bL,bT,bO,cS,bV,bR,bg,bh,b8,ba,bS,b9,cg,cF,di,b7,b6,bn,bm,bo,bq,List.nil_append,List.cons_append]
  refine Pu.Ok.cP (dB.is (by omega)) ?_
  have hb:=Pu.fp (Pu.jD ht).1 i
  have hr:=(Pu.hU ht).at i
  refine Pu.Ok.no (by omega) ?_
  have h:=ao.Ft (k:=k) (k1:=k1) hk ht hi hw (List.replicate q 46) (by rw[List.length_replicate];omega) (by
   have e:List.replicate q (46:UInt8)++Pu.gX (t.2.getD i [])=Pu.nR t i:=by
    unfold Pu.nR
    have:q=(Pu.atI t.1 i).toNat:=by omega
    rw[this]
   rw[e];exact key) (t.2.getD i []).length k 0 (by omega) (by omega)
  rw[List.take_zero]at h
  have e0:Pu.gX []= []:=rfl
  rw[e0,List.append_nil]at h
  exact h
 |m+1,j+1,q,hq,hj=>by
  rw[ao.fx]
  simp only[de,dj,ca,bZ,cb,bL,bT,bO,cS,bV,bR,bg,bh,b8,ba,bS,b9,cg,cF,di,b7,b6,bn,bm,bo,bq,List.nil_append,List.cons_append]
  refine Pu.Ok.cP (dB.is (by omega)) ?_
  have hb:=Pu.fp (Pu.jD ht).1 i
  refine Pu.Ok.g (by omega) ?_
  have e46:(⟨#[46]⟩:ByteArray)=Pu.tx [46]:=rfl
  rw[e46,Pu.lF,Pu.eY,Pu.eY,List.length_replicate]
  refine Pu.Ok.g (by show q+1≤_;omega) ?_
  (try simp only[Int.toNat_natCast]);(try simp (disch:=omega) only[w64])
  have e:List.replicate q (46:UInt8)++ [46]=List.replicate (q+1) 46:=by rw[List.replicate_succ']
  rw[e]
  exact ao.FT hk ht hi hw key m j (q+1) (by omega) (by omega)
theorem ao.FR{k:Nat}{t:Pu.Tab}(hk:3000≤k)(ht:Pu.ig t=true): ∀(m j i:Nat),i+m=t.2.length→m<j→Pu.Ok (ao.L0 k j i (((List.range i).map (Pu.nR t)).map Pu.tx) t.1 t.2) (· =Pu.tx (Lib.join ((List.range t.2.length).map (Pu.nR t)) [47]))
 |m,0,i,_,hj=>by omega
 |0,j+1,i,hi,_=>by
  rw[ao.bw]
  simp only[de,dj,ca,bZ,cb,bL,bT,bO,cS,bV,bR,bg,bh,b8,ba,bS,b9,cg,cF,di,b7,b6,bn,bm,bo,bq,List.nil_append,List.cons_append]
  refine Pu.Ok.no (by omega) ?_
  have e:i=t.2.length:=by omega
  subst e
  have h9:=(Pu.hU ht).1
  refine Pu.Ok.cP (cx.isE (sep:= [47]) (by omega) (by decide) (fun w hw=> ?_) (by rw[List.length_map,List.length_range];omega)) (Pu.Ok.ret rfl)
  obtain⟨x,hx,rfl⟩:=List.mem_map.1 hw
  have:=Pu.oX ht x
  omega
 |m+1,j+1,i,hi,hj=>by
  rw[ao.bw]
  have h9:=(Pu.hU ht).1
  have hb:=Pu.fp (Pu.jD ht).1 i
  simp only[de,dj,ca,bZ,cb,bL,bT,bO,cS,bV,bR,bg,bh,b8,ba,bS,b9,cg,cF,di,b7,b6,bn,bm,bo,bq,List.nil_append,List.cons_append]
  refine Pu.Ok.g (by omega) ?_
  refine ao.FT (k:=k) (by omega) ht (by omega) (by rw[List.length_map,List.length_map,List.length_range];omega) ?_ (Pu.atI t.1 i).toNat k 0 (by omega) (by omega)
  have h:=ao.FR hk ht m j (i+1) (by omega) (by omega)
  rw[List.range_succ,List.map_append,List.map_append]at h
  exact h
theorem ao.isE{k:Nat}{t:Pu.Tab}(hk:4194304+20≤k)(h1:t.1.length≤1048576)(h2:t.2.length≤1048576)(hr: ∀x∈t.2,x.length≤1048576):ao k t=some (Pu.tx (Pu.jE t)):=by
 obtain⟨k,rfl⟩: ∃k',k=k'+1:=⟨k-1,by omega⟩
 apply Pu.ok_eq
 rw[ao.eq]
 refine Pu.Ok.cP (az.is (by omega) h1 h2 hr) ?_
 unfold Pu.jE
 simp only[de,dj,ca,bZ,cb,bL,bT,bO,cS,bV,bR,bg,bh,b8,ba,bS,b9,cg,cF,di,b7,b6,bn,bm,bo,bq,List.nil_append,List.cons_append]
 refine Pu.Ok.tn (fun hb=> ?_) (fun hb=> ?_)
 ·rw[hb];exact Pu.Ok.ret rfl
 ·rw[hb]
  refine Pu.Ok.t (fun h=> ?_) (fun h=> ?_)
  ·have:t.2= []:=List.eq_nil_of_length_eq_zero (by simpa using h)
   rw[this]
   exact Pu.Ok.ret rfl
  ·have h0:t.2≠ []:=fun e=>h (by rw[e];rfl)
   rw[if_pos rfl,if_neg h0]
   exact ao.FR (k:=k) (by omega) hb t.2.length k 0 (Nat.zero_add _) (by show t.2.length<k;omega)
theorem fe.is{k:Nat}{w:LI}(hk:4194304+40≤k)(hw:w.length≤1048576):fe k w=some (Pu.a7 w):=by
 obtain⟨k,rfl⟩: ∃k',k=k'+1:=⟨k-1,by omega⟩
 have h1:=aU.is (k:=k) (w:=w) (by omega) hw
 rw[fe.eq]
 unfold Pu.a7
 refine bE h1 ?_
 cases c:Pu.isWord w with
 |false=>exact tM rfl
 |true=>exact tN (bE (bu.is (by omega) c) rfl)
theorem eE.is{k:Nat}{w:LI}(hk:4194304+50≤k)(hw:w.length≤1048576):eE k w=some (Pu.eU w):=by
 obtain⟨k,rfl⟩: ∃k',k=k'+1:=⟨k-1,by omega⟩
 have h1:=fe.is (k:=k) (w:=w) (by omega) hw
 have ho:=Pu.kF (w:=w)
 have hl:=Pu.jk (w:=w)
 rw[eE.eq]
 refine bE h1 ?_
 unfold Pu.eU at hl⊢
 cases c:Pu.isWord w with
 |false=>
  have e:(Pu.a7 w).2=false:=by unfold Pu.a7;rw[c];rfl
  rw[e]
  exact tM rfl
 |true=>
  have e:(Pu.a7 w).2=true:=by unfold Pu.a7;rw[c];rfl
  rw[e,if_pos rfl]
  rw[c,if_pos rfl]at hl
  have hp:=Pu.iG c
  have hp':=hp
  simp only[Pu.cy,Bool.and_eq_true]at hp'
  have hs:=bI.is (k:=k) (t:=(Pu.a7 w).1) (by omega) ho.1 ho.2.1 ho.2.2
  have hso:Pu.shapeOf (Pu.a7 w).1=((Pu.outer (Pu.a7 w).1,(Pu.a7 w).1.1),true):=by unfold Pu.shapeOf;rw[if_pos (Pu.pb hp'.1)]
  rw[hso]at hs
  have hap:([]++Pu.outer (Pu.a7 w).1).length≤1099511627776:=by rw[List.nil_append];omega
  exact tN (bE hs (tG hap rfl))
theorem cp.tf{k:Nat}{p:LI}(hk:2000≤k)(hp:p.length≤1000)(hl: ∀x∈p,0≤x∧x<100): ∀(m j i:Nat) (acc:List ByteArray),i+m=p.length→m<j→acc=(p.take i).map (fun n=>Pu.tx (Pu.dcm n))→Pu.Ok (cp.L0 k j i p acc) (· =Pu.tx (Lib.join (p.map Pu.dcm) [44]))
 |m,0,i,acc,_,hj,_=>by omega
 |0,j+1,i,acc,hi,_,ha=>by
  rw[cp.bw]
  simp only[de,dj,ca,bZ,cb,bL,bT,bO,cS,bV,bR,bg,bh,b8,ba,bS,b9,cg,cF,di,b7,b6,bn,bm,bo,bq,List.nil_append,List.cons_append]
  refine Pu.Ok.no (by omega) ?_
  have e:acc=(p.map Pu.dcm).map Pu.tx:=by
   rw[ha,List.take_of_length_le (by omega),List.map_map];rfl
  rw[e]
  refine Pu.Ok.cP (cx.isE (sep:= [44]) (by omega) (by decide) (fun w hw=> ?_) (by rw[List.length_map];omega)) (Pu.Ok.ret rfl)
  obtain⟨x,hx,rfl⟩:=List.mem_map.1 hw
  have:=Pu.ky (hl x hx).2
  omega
 |m+1,j+1,i,acc,hi,hj,ha=>by
  rw[cp.bw]
  have hlen:acc.length=i:=by rw[ha,List.length_map,List.length_take];omega
  simp only[de,dj,ca,bZ,cb,bL,bT,bO,cS,bV,bR,bg,bh,b8,ba,bS,b9,cg,cF,di,b7,b6,bn,bm,bo,bq,List.nil_append,List.cons_append]
  (try simp only[Int.toNat_natCast]);(try simp (disch:=omega) only[w64])
  (repeat (refine Pu.Ok.g (by first|omega|assumption|(simp only[List.length_append,List.length_cons,List.length_nil,List.length_set,List.length_take,List.length_drop,List.length_replicate]at*;omega)) ?_))
  have hm:p.getD i 0∈p:=by rw[Pu.aw (show i<p.length by omega) _];exact List.getElem_mem _
  refine Pu.Ok.cP (aO.isE (by omega) (hl _ hm).1 (hl _ hm).2) ?_
  (repeat (refine Pu.Ok.g (by first|omega|assumption|(simp only[List.length_append,List.length_cons,List.length_nil,List.length_set,List.length_take,List.length_drop,List.length_replicate]at*;omega)) ?_))
  (try simp only[Int.toNat_natCast]);(try simp (disch:=omega) only[w64])
  refine cp.tf hk hp hl m j (i+1) _ (by omega) (by omega) ?_
  rw[ha,List.take_add_one,List.map_append,List.getElem?_eq_getElem (show i<p.length by omega),Pu.aw (show i<p.length by omega) _]
  rfl
theorem cp.isE{k:Nat}{p:LI}(hk:3000≤k)(hp:p.length≤1000)(hl: ∀x∈p,0≤x∧x<100):cp k p=some (Pu.tx (Lib.join (p.map Pu.dcm) [44])):=by
 obtain⟨k,rfl⟩: ∃k',k=k'+1:=⟨k-1,by omega⟩
 apply Pu.ok_eq
 rw[cp.eq]
 exact cp.tf (k:=k) (by omega) hp hl p.length k 0 [] (by omega) (by omega) rfl
theorem dU.isE{k:Nat}{w:LI}(hk:4194304+10≤k)(hw:w.length≤1048576):dU k w=some (Pu.tx (Pu.jt w)):=by
 obtain⟨k,rfl⟩: ∃k',k=k'+1:=⟨k-1,by omega⟩
 apply Pu.ok_eq
 rw[dU.eq]
 refine Pu.Ok.cP (aG.is (by omega) hw) ?_
 unfold Pu.jt
 simp only[de,dj,ca,bZ,cb,bL,bT,bO,cS,bV,bR,bg,bh,b8,ba,bS,b9,cg,cF,di,b7,b6,bn,bm,bo,bq,List.nil_append,List.cons_append]
 refine Pu.Ok.tn (fun hb=> ?_) (fun hb=> ?_)
 ·rw[hb];exact Pu.Ok.ret rfl
 ·rw[hb]
  refine Pu.Ok.t (fun h=> ?_) (fun h=> ?_)
  ·have:w= []:=List.eq_nil_of_length_eq_zero (by omega)
   subst this
   exact Pu.Ok.ret rfl
  ·have h0:w≠ []:=fun e=>h (by rw[e];rfl)
   rw[if_pos rfl,if_neg h0]
   obtain⟨hp,_,hl,_⟩:=Pu.cL hb
   exact Pu.Ok.cP (cp.isE (by omega) (by omega) (fun x hx=>by have:=hp x hx;omega)) (Pu.Ok.ret rfl)
theorem gY.is{k:Nat}{b:Bool}(hk:1≤k):gY k b=some (if b=true then 1 else 0):=by
 obtain⟨k,rfl⟩: ∃k',k=k'+1:=⟨k-1,by omega⟩
 rw[gY.eq]
 cases b<;>rfl
theorem ay.wM{k k1:Nat}{w:LI}{i:Nat}{v:Int}(hk:10≤k)(hw:w.length≤9)(hi:i<w.length): ∀(m j q:Nat) (a:Int),q+m=i→m<j→0≤a→a+m≤1000→Pu.Ok (ay.L0 k k1 (a+Pu.l8 w i m q) ((i:Int)+1) w) (· =v)→Pu.Ok (ay.L1 k k1 j a i q w) (· =v)
 |m,0,q,a,_,hj,_,_,_=>by omega
 |0,j+1,q,a,hq,hj,h0,h1,key=>by
  rw[ay.fx]
  simp only[de,dj,ca,bZ,cb,bL,bT,bO,cS,bV,bR,bg,bh,b8,ba,bS,b9,cg,cF,di,b7,b6,bn,bm,bo,bq,List.nil_append,List.cons_append]
  (try simp only[Int.toNat_natCast]);(try simp (disch:=omega) only[w64])
  refine Pu.Ok.no (by omega) ?_
  unfold Pu.l8 at key
  rw[Int.add_zero]at key
  exact key
 |m+1,j+1,q,a,hq,hj,h0,h1,key=>by
  rw[ay.fx]
  simp only[de,dj,ca,bZ,cb,bL,bT,bO,cS,bV,bR,bg,bh,b8,ba,bS,b9,cg,cF,di,b7,b6,bn,bm,bo,bq,List.nil_append,List.cons_append]
  (try simp only[Int.toNat_natCast]);(try simp (disch:=omega) only[w64])
  (repeat (refine Pu.Ok.g (by first|omega|assumption|(simp only[List.length_append,List.length_cons,List.length_nil,List.length_set,List.length_take,List.length_drop,List.length_replicate]at*;omega)) ?_))
  refine Pu.Ok.cP (gY.is (by omega)) ?_
  have hb:(if decide (w.getD i 0<w.getD q 0)=true then(1:Int)else 0)=if w.getD i 0<w.getD q 0 then 1 else 0:=by
   simp only[decide_eq_true_eq]
  rw[hb]
  have hw':0≤(if w.getD i 0<w.getD q 0 then(1:Int)else 0)∧(if w.getD i 0<w.getD q 0 then(1:Int)else 0)≤1:=by split<;>omega
  rw[w64 (n:=a+_) (by omega) (by omega)]
  refine ay.wM hk hw hi m j (q+1) _ (by omega) (by omega) (by omega) (by omega) ?_
  unfold Pu.l8 at key
  rw[←Int.add_assoc]at key
  exact key
theorem ay.loop{k:Nat}{w:LI}(hk:100≤k)(hw:w.length≤9): ∀(m j i:Nat) (a:Int),i+m=w.length→m<j→0≤a→a+m*9≤900→Pu.Ok (ay.L0 k j a i w) (· =a+Pu.me w m i)
 |m,0,i,a,_,hj,_,_=>by omega
 |0,j+1,i,a,hi,_,_,_=>by
  rw[ay.bw]
  simp only[de,dj,ca,bZ,cb,bL,bT,bO,cS,bV,bR,bg,bh,b8,ba,bS,b9,cg,cF,di,b7,b6,bn,bm,bo,bq,List.nil_append,List.cons_append]
  refine Pu.Ok.no (by omega) ?_
  unfold Pu.me
  rw[Int.add_zero]
  exact Pu.Ok.ret rfl
 |m+1,j+1,i,a,hi,hj,h0,h1=>by
  rw[ay.bw]
  simp only[de,dj,ca,bZ,cb,bL,bT,bO,cS,bV,bR,bg,bh,b8,ba,bS,b9,cg,cF,di,b7,b6,bn,bm,bo,bq,List.nil_append,List.cons_append]
  refine Pu.Ok.g (by omega) ?_
  have hb:=Pu.qt w i i 0
  refine ay.wM (by omega) hw (by omega) i k 0 a (by omega) (by omega) h0 (by omega) ?_
  have h:=ay.loop hk hw m j (i+1) (a+Pu.l8 w i i 0) (by omega) (by omega) (by omega) (by omega)
  rw[Int.natCast_succ]at h
  unfold Pu.me
  rw[←Int.add_assoc]
  exact h
theorem ay.is{k:Nat}{w:LI}(hk:4194304+10≤k)(hw:w.length≤1048576):ay k w=some (Pu.inv w):=by
 obtain⟨k,rfl⟩: ∃k',k=k'+1:=⟨k-1,by omega⟩
 apply Pu.ok_eq
 rw[ay.eq]
 refine Pu.Ok.cP (aU.is (by omega) hw) ?_
 unfold Pu.inv
 simp only[cF]
 refine Pu.Ok.tn (fun hb=> ?_) (fun hb=> ?_)
 ·rw[hb];exact Pu.Ok.ret rfl
 ·rw[hb,if_pos rfl]
  have hl:=(Pu.bQ hb).1
  by_cases c:w.length=0
  ·have e:w= []:=List.eq_nil_of_length_eq_zero c
   subst e
   obtain⟨k,rfl⟩: ∃k',k=k'+1:=⟨k-1,by omega⟩
   rw[ay.bw]
   exact Pu.Ok.no (by decide) (Pu.Ok.ret rfl)
  ·have h:=ay.loop (k:=k) (by omega) hl (w.length-1) k 1 0 (by omega) (by omega) (by omega) (by omega)
   have e:Pu.me w w.length 0=0+Pu.me w (w.length-1) 1:=by
    obtain⟨n,hn⟩: ∃n,w.length=n+1:=⟨w.length-1,by omega⟩
    rw[hn];rfl
   rw[e]
   exact h
theorem bH.loop{k:Nat}{w:LI}(hk:100≤k)(hw:w.length≤9): ∀(m j i:Nat) (a:Int),i+m=w.length→1≤i→m<j→0≤a→a+m*9≤900→Pu.Ok (bH.L0 k j a i w) (· =a+Pu.mY w m i)
 |m,0,i,a,_,_,hj,_,_=>by omega
 |0,j+1,i,a,hi,_,_,_,_=>by
  rw[bH.bw]
  simp only[de,dj,ca,bZ,cb,bL,bT,bO,cS,bV,bR,bg,bh,b8,ba,bS,b9,cg,cF,di,b7,b6,bn,bm,bo,bq,List.nil_append,List.cons_append]
  refine Pu.Ok.no (by omega) ?_
  unfold Pu.mY
  rw[Int.add_zero]
  exact Pu.Ok.ret rfl
 |m+1,j+1,i,a,hi,h1,hj,h0,h2=>by
  rw[bH.bw]
  simp only[de,dj,ca,bZ,cb,bL,bT,bO,cS,bV,bR,bg,bh,b8,ba,bS,b9,cg,cF,di,b7,b6,bn,bm,bo,bq,List.nil_append,List.cons_append]
  have e1:=w64 (n:=(i:Int)-1) (by omega) (by omega)
  have e2:((i:Int)-1).toNat=i-1:=by omega
  simp only[e1,e2,Int.toNat_natCast]
  (repeat (refine Pu.Ok.g (by first|omega|assumption|(simp only[List.length_append,List.length_cons,List.length_nil,List.length_set,List.length_take,List.length_drop,List.length_replicate]at*;omega)) ?_))
  refine Pu.Ok.cP (gY.is (by omega)) ?_
  have hb:(if decide (w.getD i 0<w.getD (i-1) 0)=true then(1:Int)else 0)=if w.getD i 0<w.getD (i-1) 0 then 1 else 0:=by
   simp only[decide_eq_true_eq]
  rw[hb]
  have hm:(i:Int)*(if w.getD i 0<w.getD (i-1) 0 then(1:Int)else 0)=if w.getD i 0<w.getD (i-1) 0 then(i:Int)else 0:=by
   split<;>omega
  rw[hm]
  have hw':0≤(if w.getD i 0<w.getD (i-1) 0 then(i:Int)else 0)∧(if w.getD i 0<w.getD (i-1) 0 then(i:Int)else 0)≤9:=by split<;>omega
  rw[w64 (n:=(if w.getD i 0<w.getD (i-1) 0 then(i:Int)else 0)) (by omega) (by omega),w64 (n:=a+_) (by omega) (by omega),w64 (n:=(i:Int)+1) (by omega) (by omega)]
  have h:=bH.loop hk hw m j (i+1) (a+if w.getD i 0<w.getD (i-1) 0 then(i:Int)else 0) (by omega) (by omega) (by omega) (by omega) (by omega)
  rw[Int.natCast_succ]at h
  unfold Pu.mY
  rw[←Int.add_assoc]
  exact h
theorem bH.is{k:Nat}{w:LI}(hk:4194304+10≤k)(hw:w.length≤1048576):bH k w=some (Pu.maj w):=by
 obtain⟨k,rfl⟩: ∃k',k=k'+1:=⟨k-1,by omega⟩
 apply Pu.ok_eq
 rw[bH.eq]
 refine Pu.Ok.cP (aU.is (by omega) hw) ?_
 unfold Pu.maj
 simp only[cF]
 refine Pu.Ok.tn (fun hb=> ?_) (fun hb=> ?_)
 ·rw[hb];exact Pu.Ok.ret rfl
 ·rw[hb,if_pos rfl]
  have hl:=(Pu.bQ hb).1
  by_cases c:w.length=0
  ·have e:w= []:=List.eq_nil_of_length_eq_zero c
   subst e
   obtain⟨k,rfl⟩: ∃k',k=k'+1:=⟨k-1,by omega⟩
   rw[bH.bw]
   exact Pu.Ok.no (by decide) (Pu.Ok.ret rfl)
  ·have h:=bH.loop (k:=k) (by omega) hl (w.length-1) k 1 0 (by omega) (by omega) (by omega) (by omega) (by omega)
   rw[Int.zero_add]at h
   exact h
set_option maxHeartbeats 4000000 in
theorem bD.yM{k:Nat}{w:LI}{s:List UInt8}(hk:4194304+60≤k)(hw:Pu.isWord w=true)(hs:s=if Pu.lat w=true then [108,97,116,116,105,99,101]else [111,116,104,101,114]):
  Pu.Ok (bD.J0 k (Pu.tx s) w (Pu.a7 w).1.1 (Pu.a7 w).1.2 (Pu.cV w).1.1 (Pu.cV w).1.2) (· =Pu.tx (Lib.join (Pu.iZ w) [32])):=by
 have hl:=(Pu.bQ hw).1
 obtain⟨i1,i2,i3⟩:=Pu.kF (w:=w)
 obtain⟨r1,r2,r3⟩:=Pu.pM (w:=w)
 have a1:=Pu.kx (Pu.a7 w).1
 have a2:=Pu.kx (Pu.cV w).1
 have a3:=Pu.oB (Pu.eU w)
 have a4:=Pu.ky (Pu.rU hw).2
 have a5:=Pu.ky (Pu.sg hw).2
 have a6:=Pu.nS (Pu.kE w).1
 have hs7:s.length≤7:=by rw[hs];split<;>simp
 have hh:=(Pu.bQ (Pu.q8 w)).1
 have hsh:(Pu.eU w).length≤1048576:=by have:=Pu.jk (w:=w);omega
 rw[bD.kP]
 refine Pu.Ok.cP (bY.is (by omega) (by omega)) ?_
 refine Pu.Ok.cP (ao.isE (t:=(Pu.a7 w).1) (by omega) i1 i2 i3) ?_
 have L: ∀l:List UInt8,(⟨l.toArray⟩:ByteArray)=Pu.tx l:=fun _=>rfl
 simp only[L,bm,bn,bo,bZ,Pu.lF,Pu.eY,List.length_append,List.length_cons,List.length_nil]
 refine Pu.Ok.g (by omega) (Pu.Ok.g (by omega) ?_)
 refine Pu.Ok.cP (ao.isE (t:=(Pu.cV w).1) (by omega) r1 r2 r3) ?_
 simp only[Pu.lF,Pu.eY,List.length_append,List.length_cons,List.length_nil]
 refine Pu.Ok.g (by omega) (Pu.Ok.g (by omega) ?_)
 refine Pu.Ok.cP (eE.is (by omega) (by omega)) ?_
 refine Pu.Ok.cP (dU.isE (by omega) hsh) ?_
 simp only[Pu.lF,Pu.eY,List.length_append,List.length_cons,List.length_nil]
 refine Pu.Ok.g (by omega) (Pu.Ok.g (by omega) ?_)
 refine Pu.Ok.cP (ay.is (by omega) (by omega)) ?_
 refine Pu.Ok.cP (aO.isE (by omega) (Pu.rU hw).1 (Pu.rU hw).2) ?_
 simp only[Pu.lF,Pu.eY,List.length_append,List.length_cons,List.length_nil]
 refine Pu.Ok.g (by omega) (Pu.Ok.g (by omega) ?_)
 refine Pu.Ok.cP (bH.is (by omega) (by omega)) ?_
 refine Pu.Ok.cP (aO.isE (by omega) (Pu.sg hw).1 (Pu.sg hw).2) ?_
 simp only[Pu.lF,Pu.eY,List.length_append,List.length_cons,List.length_nil]
 refine Pu.Ok.g (by omega) (Pu.Ok.g (by omega) (Pu.Ok.g (by omega) (Pu.Ok.g (by omega) ?_)))
 refine Pu.Ok.cP (cf.is (by omega) (by omega)) ?_
 simp only[Pu.lF,Pu.eY,List.length_append,List.length_cons,List.length_nil]
 refine Pu.Ok.g (by omega) (Pu.Ok.ret ?_)
 congr 1
 unfold Pu.iZ
 rw[Lib.join_cons,hs]
 simp only[Lib.joinTail,List.map_cons,List.map_nil,List.flatten_cons,List.flatten_nil,List.append_assoc,List.cons_append,List.nil_append,List.append_nil]
theorem bD.is{k:Nat}{w:LI}(hk:4194304+70≤k)(hw:w.length≤1048576):bD k w=some (Pu.tx (Pu.say w)):=by
 obtain⟨k,rfl⟩: ∃k',k=k'+1:=⟨k-1,by omega⟩
 apply Pu.ok_eq
 rw[bD.eq]
 refine Pu.Ok.cP (aU.is (by omega) hw) ?_
 unfold Pu.say
 simp only[cF]
 refine Pu.Ok.tn (fun hb=> ?_) (fun hb=> ?_)
 ·rw[hb];exact Pu.Ok.ret rfl
 ·rw[hb,if_pos rfl]
  refine Pu.Ok.cP (bu.is (by omega) hb) ?_
  refine Pu.Ok.cP (aN.is (by omega) hw) ?_
  have e1:(([],Pu.jQ w []):Pu.Tab)=(Pu.a7 w).1:=by unfold Pu.a7;rw[if_pos hb]
  have e2:(([],Pu.lW w [] [] 0):Pu.Tab)=(Pu.cV w).1:=by unfold Pu.cV;rw[if_pos hb]
  rw[e1,e2]
  refine Pu.Ok.tb (fun hc=> ?_) (fun hc=> ?_)
  ·exact bD.yM (by omega) hb (by rw[if_pos hc])
  ·exact bD.yM (by omega) hb (by rw[if_neg (by rw[hc];decide)])
theorem dz.is{k:Nat}{n:Int}(hk:4194304+80≤k):dz k n=some (Pu.tx (Pu.nC n)):=by
 obtain⟨k,rfl⟩: ∃k',k=k'+1:=⟨k-1,by omega⟩
 apply Pu.ok_eq
 rw[dz.eq]
 have hx:=Pu.vx n
 have hp:=Pu.uY (Pu.tx (Pu.lR n))
 rw[Pu.eY]at hp
 refine Pu.Ok.cP (eH.is (by omega)) ?_
 refine Pu.Ok.cP (aJ.is (by omega) (by rw[Pu.eY];omega)) ?_
 unfold Pu.nC
 simp only[cF]
 refine Pu.Ok.tn (fun hb=> ?_) (fun hb=> ?_)
 ·rw[hb];exact Pu.Ok.ret rfl
 ·rw[hb,if_pos rfl]
  exact Pu.Ok.cP (bD.is (by omega) (by omega)) (Pu.Ok.ret rfl)
theorem cM.is{k:Nat}{x lo hi:Int}(hk:1≤k):cM k x lo hi=some (Pu.within x lo hi):=by
 obtain⟨k,rfl⟩: ∃k',k=k'+1:=⟨k-1,by omega⟩
 rw[cM.eq]
 by_cases h:lo≤x<;>simp[Pu.within,h]
theorem eI.is{k:Nat}{n:Int}(hk:2≤k):eI k n=some (Pu.tx (Pu.lR n)):=by
 obtain⟨k,rfl⟩: ∃k',k=k'+1:=⟨k-1,by omega⟩
 apply Pu.ok_eq
 rw[eI.eq]
 refine Pu.Ok.cP (cM.is (by omega)) ?_
 unfold Pu.within
 by_cases c:1≤n∧n≤6
 ·have e:n=1∨n=2∨n=3∨n=4∨n=5∨n=6:=by omega
  rcases e with rfl|rfl|rfl|rfl|rfl|rfl<;>exact Pu.Ok.ret rfl
 ·have e:(decide (1≤n)&&decide (n≤6))=false:=by
   rw[Bool.and_eq_false_iff]
   by_cases h:1≤n
   ·right;exact decide_eq_false (by omega)
   ·left;exact decide_eq_false h
  rw[e]
  have e2:Pu.lR n= []:=by
   unfold Pu.lR
   rw[if_neg (by omega),if_neg (by omega),if_neg (by omega),if_neg (by omega),if_neg (by omega),if_neg (by omega)]
  rw[e2]
  exact Pu.Ok.ret rfl
theorem fj.is{k:Nat}{x:Int}(hk:2≤k):fj k x=some (!Pu.within x 1 9,()):=by
 obtain⟨k,rfl⟩: ∃k',k=k'+1:=⟨k-1,by omega⟩
 rw[fj.eq,cM.is (by omega)]
 rfl
theorem aq.is{k:Nat}{r:LI}(hk:4194304+1≤k)(hr:r.length≤1048577):aq k r=some (Pu.BR (fun y=> !Pu.within y 1 9) r,()):=by
 obtain⟨k,rfl⟩: ∃k',k=k'+1:=⟨k-1,by omega⟩
 rw[aq.eq]
 have h:=Pu.yE r 0 (fun y=> !Pu.within y 1 9) (fun j i=>aq.L0 k j r.length i r) (fun i=>some ((i:Int),())) (some (-1,()))
  (fun j i hi=>by
   rw[aq.bw,fj.is (by omega)]
   cases c:Pu.within (r.getD i 0) 1 9<;>simp (disch:=omega) only[↓aM,sss,if_true,if_false,hi,c,Int.natCast_add,Int.natCast_one])
  (fun j=>by
   rw[aq.bw]
   simp only[↓aM,sss,if_true,if_false,Nat.lt_irrefl]) r.length k 0 (by omega) (by omega) (by omega)
 simp only[Int.natCast_zero]at h
 simp only[bT,bL]
 rw[h]
 unfold Pu.BR
 split<;>rfl
theorem aZ.is{k:Nat}{r:LI}(hk:4194304+2≤k)(hr:r.length≤1048577):aZ k r=some (r.any fun y=> !Pu.within y 1 9,()):=by
 obtain⟨k,rfl⟩: ∃k',k=k'+1:=⟨k-1,by omega⟩
 rw[aZ.eq,aq.is (by omega) hr,eL,dj,Pu.DT]
theorem cw.is{k:Nat}{w:LI}(hk:4194304+3≤k)(hw:w.length≤1048576):cw k w=some (Pu.isWord w):=by
 obtain⟨k,rfl⟩: ∃k',k=k'+1:=⟨k-1,by omega⟩
 rw[cw.eq,aZ.is (by omega) (by omega),eL]
 unfold Pu.isWord
 have e:(!w.any fun y=> !Pu.within y 1 9)=w.all fun n=>Pu.within n 1 9:=by rw[List.all_eq_not_any_not]
 by_cases c:w.length≤9
 ·have c':(w.length:Int)≤9:=by omega
  simp only[↓aM,sss,if_true,if_false,c,c',e]
 ·have c': ¬(w.length:Int)≤9:=by omega
  simp only[↓aM,sss,if_true,if_false,c,c']
theorem strconv_Itoa.is{k:Nat}{n:Int}(hk:1≤k)(h0:0≤n)(h1:n<100):strconv_Itoa k n=some (Pu.tx (Pu.dcm n)):=by
 obtain⟨k,rfl⟩: ∃k',k=k'+1:=⟨k-1,by omega⟩
 rw[strconv_Itoa.eq]
 exact Pu.CG h0 h1
theorem dy.is{k:Nat}{n:Int}(hk:2≤k)(h0:0≤n)(h1:n<100):dy k n=some (Pu.tx (Pu.dcm n)):=by
 obtain⟨k,rfl⟩: ∃k',k=k'+1:=⟨k-1,by omega⟩
 rw[dy.eq,strconv_Itoa.is (by omega) h0 h1,eL]
theorem strings_Join.is{k:Nat}{ws:List (List UInt8)}{sep:List UInt8}(hk:1≤k)(h1:ws.length≤1000)(h2: ∀w∈ws,w.length≤10000)(hs:sep.length≤10):strings_Join k (ws.map Pu.tx) (Pu.tx sep)=some (Pu.tx (Lib.join ws sep)):=by
 obtain⟨k,rfl⟩: ∃k',k=k'+1:=⟨k-1,by omega⟩
 rw[strings_Join.eq]
 exact Pu.Cy h1 h2 hs
theorem gG.is{k:Nat}{ws:List (List UInt8)}{sep:List UInt8}(hk:2≤k)(h1:ws.length≤1000)(h2: ∀w∈ws,w.length≤10000)(hs:sep.length≤10):gG k (ws.map Pu.tx) (Pu.tx sep)=some (Pu.tx (Lib.join ws sep)):=by
 obtain⟨k,rfl⟩: ∃k',k=k'+1:=⟨k-1,by omega⟩
 rw[gG.eq,strings_Join.is (by omega) h1 h2 hs,eL]
theorem cq.loop{k:Nat}{sep:List UInt8}{l:LI}(hk:10≤k)(hs:sep.length≤10)(hn:l.length≤1000)(hl: ∀x∈l,0≤x∧x<100): ∀(m j i:Nat) (acc:List ByteArray),i+m=l.length→m<j→acc=(l.take i).map (fun n=>Pu.tx (Pu.dcm n))→Pu.Ok (cq.L0 k j (Pu.tx sep) (l.length:Int) i acc l) (· =Pu.tx (Lib.join (l.map Pu.dcm) sep))
 |m,0,i,acc,_,hj,_=>by omega
 |0,j+1,i,acc,hi,_,ha=>by
  rw[cq.bw]
  simp only[de,dj,ca,bZ,cb,bL,bT,bO,cS,bV,bR,bg,bh,b8,ba,bS,b9,cg,cF,di,b7,b6,bn,bm,bo,bq,List.nil_append,List.cons_append]
  refine Pu.Ok.no (by omega) ?_
  have e:acc=(l.map Pu.dcm).map Pu.tx:=by
   rw[ha,List.take_of_length_le (by omega),List.map_map];rfl
  rw[e]
  refine Pu.Ok.cP (gG.is (by omega) (by rw[List.length_map];omega) (fun w hw=> ?_) hs) (Pu.Ok.ret rfl)
  obtain⟨x,hx,rfl⟩:=List.mem_map.1 hw
  have:=Pu.ky (hl x hx).2
  omega
 |m+1,j+1,i,acc,hi,hj,ha=>by
  rw[cq.bw]
  have hlen:acc.length=i:=by rw[ha,List.length_map,List.length_take];omega
  simp only[de,dj,ca,bZ,cb,bL,bT,bO,cS,bV,bR,bg,bh,b8,ba,bS,b9,cg,cF,di,b7,b6,bn,bm,bo,bq,List.nil_append,List.cons_append]
  (try simp only[Int.toNat_natCast]);(try simp (disch:=omega) only[w64])
  (repeat (refine Pu.Ok.g (by first|omega|assumption|(simp only[List.length_append,List.length_cons,List.length_nil,List.length_set,List.length_take,List.length_drop,List.length_replicate]at*;omega)) ?_))
  have hm:l.getD i 0∈l:=by rw[Pu.aw (show i<l.length by omega) _];exact List.getElem_mem _
  refine Pu.Ok.cP (dy.is (by omega) (hl _ hm).1 (hl _ hm).2) ?_
  (repeat (refine Pu.Ok.g (by first|omega|assumption|(simp only[List.length_append,List.length_cons,List.length_nil,List.length_set,List.length_take,List.length_drop,List.length_replicate]at*;omega)) ?_))
  (try simp only[Int.toNat_natCast]);(try simp (disch:=omega) only[w64])
  refine cq.loop hk hs hn hl m j (i+1) _ (by omega) (by omega) ?_
  rw[ha,List.take_add_one,List.map_append,List.getElem?_eq_getElem (show i<l.length by omega),Pu.aw (show i<l.length by omega) _]
  rfl
theorem cq.is{k:Nat}{sep:List UInt8}{l:LI}(hk:2000≤k)(hs:sep.length≤10)(hn:l.length≤1000)(hl: ∀x∈l,0≤x∧x<100):cq k l (Pu.tx sep)=some (Pu.tx (Lib.join (l.map Pu.dcm) sep)):=by
 obtain⟨k,rfl⟩: ∃k',k=k'+1:=⟨k-1,by omega⟩
 apply Pu.ok_eq
 rw[cq.eq]
 exact cq.loop (k:=k) (by omega) hs hn hl l.length k 0 [] (by omega) (by omega) rfl
theorem eP.is{k:Nat}{w:LI}(hk:4194304+10≤k)(hw:w.length≤1048576):eP k w=some (Pu.tx (Pu.gT w)):=by
 obtain⟨k,rfl⟩: ∃k',k=k'+1:=⟨k-1,by omega⟩
 apply Pu.ok_eq
 rw[eP.eq]
 refine Pu.Ok.cP (cw.is (by omega) hw) ?_
 unfold Pu.gT
 simp only[de,dj,ca,bZ,cb,bL,bT,bO,cS,bV,bR,bg,bh,b8,ba,bS,b9,cg,cF,di,b7,b6,bn,bm,bo,bq,List.nil_append,List.cons_append]
 refine Pu.Ok.tn (fun hb=> ?_) (fun hb=> ?_)
 ·rw[hb];exact Pu.Ok.ret rfl
 ·rw[hb]
  obtain⟨h1,h2⟩:=Pu.bQ hb
  refine Pu.Ok.t (fun h=> ?_) (fun h=> ?_)
  ·have:w= []:=List.eq_nil_of_length_eq_zero (by omega)
   subst this
   exact Pu.Ok.ret rfl
  ·have h0:w≠ []:=fun e=>h (by rw[e];rfl)
   rw[if_pos rfl,if_neg h0]
   refine Pu.Ok.cP (cq.is (sep:= []) (by omega) (by decide) (by omega) (fun x hx=>⟨by have:=(h2 x hx).1;omega,by have:=(h2 x hx).2;omega⟩)) ?_
   rw[Pu.s9]
   exact Pu.Ok.ret rfl
theorem aX.EV{k:Nat}{s:ByteArray}{w:LI}(hk:4194304+11≤k)(hw:w.length≤1000)(e:(if(s.toList==(Pu.tx [45]).toList)=true then []else Pu.dL s.data.toList)=w):Pu.Ok (aX.J1 k s w) (· =Pu.jK s):=by
 rw[aX.gw]
 refine Pu.Ok.cP (eP.is (by omega) (by omega)) ?_
 unfold Pu.jK
 rw[e]
 simp only[wI,cF]
 refine Pu.Ok.tn (fun hb=> ?_) (fun hb=> ?_)
 ·rw[hb];exact Pu.Ok.ret rfl
 ·rw[hb];exact Pu.Ok.ret rfl
theorem aX.loop{k:Nat}{s:ByteArray}(hk:4194304+11≤k)(hs:s.size≤1000)(hd:(s.toList==(Pu.tx [45]).toList)=false): ∀(m j i:Nat) (acc:LI),i+m=s.size→m<j→acc=Pu.dL (s.data.toList.take i)→Pu.Ok (aX.L0 k j s (s.size:Int) i acc) (· =Pu.jK s)
 |m,0,i,acc,_,hj,_=>by omega
 |0,j+1,i,acc,hi,_,ha=>by
  rw[aX.bw]
  simp only[de,dj,ca,bZ,cb,bL,bT,bO,cS,bV,bR,bg,bh,b8,ba,bS,b9,cg,cF,di,b7,b6,bn,bm,bo,bq,List.nil_append,List.cons_append]
  refine Pu.Ok.no (by omega) ?_
  have hsz:s.data.toList.length=s.size:=rfl
  have e:acc=Pu.dL s.data.toList:=by rw[ha,List.take_of_length_le (by omega)]
  refine aX.EV hk (by rw[e];unfold Pu.dL;rw[List.length_map];omega) ?_
  rw[hd,e];rfl
 |m+1,j+1,i,acc,hi,hj,ha=>by
  rw[aX.bw]
  have hsz:s.data.toList.length=s.size:=rfl
  have hlen:acc.length=i:=by rw[ha];unfold Pu.dL;rw[List.length_map,List.length_take];omega
  simp only[C8]
  simp only[de,dj,ca,bZ,cb,bL,bT,bO,cS,bV,bR,bg,bh,b8,ba,bS,b9,cg,cF,di,b7,b6,bn,bm,bo,bq,List.nil_append,List.cons_append]
  (try simp only[Int.toNat_natCast]);(try simp (disch:=omega) only[w64])
  have hb:=(s.data.getD i 0).toNat_lt
  have e1:=w64 (n:=((s.data.getD i 0).toNat:Int)) (by omega) (by omega)
  have e2:=w64 (n:=((s.data.getD i 0).toNat:Int)-48) (by omega) (by omega)
  simp only[e1,e2]
  (repeat (refine Pu.Ok.g (by first|omega|assumption|(simp only[List.length_append,List.length_cons,List.length_nil,List.length_set,List.length_take,List.length_drop,List.length_replicate]at*;omega)) ?_))
  refine aX.loop hk hs hd m j (i+1) _ (by omega) (by omega) ?_
  rw[ha]
  unfold Pu.dL
  rw[List.take_add_one,List.map_append,List.getElem?_eq_getElem (show i<s.data.toList.length by omega)]
  have:s.data.getD i 0=s.data.toList[i]'(show i<s.data.toList.length by omega):=by
   have h':i<s.data.size:=by
    have:s.data.size=s.size:=rfl
    omega
   rw[Array.getD,dif_pos h'];rfl
  rw[this];rfl
theorem aX.is{k:Nat}{s:ByteArray}(hk:4194304+20≤k)(hs:s.size≤1000):aX k s=some (Pu.jK s):=by
 obtain⟨k,rfl⟩: ∃k',k=k'+1:=⟨k-1,by omega⟩
 apply Pu.ok_eq
 rw[aX.eq]
 simp only[wI]
 have e45:(⟨#[45]⟩:ByteArray)=Pu.tx [45]:=rfl
 rw[e45]
 cases hd:(s.toList==(Pu.tx [45]).toList)with
 |false=>exact Pu.Ok.tn (fun _=>aX.loop (k:=k) (by omega) hs hd s.size k 0 [] (by omega) (by omega) rfl) (fun h=>by cases h)
 |true=>exact Pu.Ok.tn (fun h=>by cases h) (fun _=>aX.EV (by omega) (by simp) (by rw[hd];rfl))
theorem dv.loop{k:Nat}{n:Nat}(hn:n≤1000): ∀(m j i:Nat),i+m=n→m<j→dv.L0 k j n i (Pu.mJ i)=some (Pu.mJ n)
 |m,0,i,_,hj=>by omega
 |0,j+1,i,hi,_=>by
  rw[dv.bw]
  have e:i=n:=by omega
  have hc: ¬(i:Int)<(n:Int):=by omega
  exact tX hc (by rw[e])
 |m+1,j+1,i,hi,hj=>by
  have hc:(i:Int)<(n:Int):=by omega
  have ih:=dv.loop (k:=k) hn m j (i+1) (by omega) (by omega)
  have hws:IntKind.i64.wrap ((i:Int)+1)=((i+1:Nat):Int):=by rw[w64 (by omega) (by omega)];omega
  have hu:Pu.mJ i++ [((i+1:Nat):Int)]=Pu.mJ (i+1):=by
   unfold Pu.mJ
   rw[List.range_succ,List.map_append]
   rfl
  have hap:(Pu.mJ i++ [((i+1:Nat):Int)]).length≤1099511627776:=by rw[hu,Pu.mK];omega
  rw[dv.bw]
  simp only[bS,ba,bR,bL,hws]
  refine tG hc (tG hap ?_)
  rw[hu,ih]
theorem dv.is{k n:Nat}(hk:4194304+1≤k)(hn:n≤1000):dv k n=some (Pu.mJ n):=by
 obtain⟨k,rfl⟩: ∃k',k=k'+1:=⟨k-1,by omega⟩
 have h:=dv.loop (k:=k) hn n k 0 (by omega) (by omega)
 rw[Int.natCast_zero]at h
 rw[dv.eq]
 exact h
theorem cH.is{k:Nat}{n x:Int}(hk:1≤k):cH k n x=some (decide (x<n),x):=by
 obtain⟨k,rfl⟩: ∃k',k=k'+1:=⟨k-1,by omega⟩
 rw[cH.eq]
 rfl
theorem ai.loop{k:Nat}{r:LI}{x:Int}(hk:1≤k)(hr:r.length≤1048577): ∀(m j i:Nat),i+m=r.length→m<j→i≤r.findIdx (fun n=>decide (x<n))→
  ai.L0 k j r.length i r x=some (if r.findIdx (fun n=>decide (x<n))<r.length then((r.findIdx (fun n=>decide (x<n)):Nat):Int)else-1,x)
 |m,0,i,_,hj,_=>by omega
 |0,j+1,i,hm,_,hi=>by
  rw[ai.bw]
  have e:i=r.length:=by omega
  have h: ¬r.findIdx (fun n=>decide (x<n))<r.length:=by omega
  subst e
  rw[if_neg h]
  simp
 |m+1,j+1,i,hm,hj,hi=>by
  rw[ai.bw]
  have hlt:i<r.length:=by omega
  simp (disch:=omega) only[↓aM,sss,if_true,if_false,hlt,cH.is]
  by_cases c:x<r.getD i 0
  ·have e:r.findIdx (fun n=>decide (x<n))=i:=by
    refine Nat.le_antisymm ?_ hi
    exact Pu.findIdx_le hlt (by simpa using c)
   simp only[c,↓aM,sss,if_true,if_false,e,hlt]
  ·have hne:r.findIdx (fun n=>decide (x<n))≠i:=fun e=>by
    have:=Pu.qh (p:=fun n=>decide (x<n)) (r:=r) (by rw[e];exact hlt)
    rw[e]at this
    exact c (by simpa using this)
   have ih:=ai.loop (k:=k) (x:=x) hk hr m j (i+1) (by omega) (by omega) (by omega)
   rw[Int.natCast_succ]at ih
   simp only[c,↓aM,sss,if_true,if_false,ih]
theorem ai.is{k:Nat}{r:LI}{x:Int}(hk:4194304+1≤k)(hr:r.length≤1048577):
  ai k x r=some (if r.findIdx (fun n=>decide (x<n))<r.length then((r.findIdx (fun n=>decide (x<n)):Nat):Int)else-1,x):=by
 obtain⟨k,rfl⟩: ∃k',k=k'+1:=⟨k-1,by omega⟩
 rw[ai.eq]
 exact ai.loop (k:=k) (by omega) hr r.length k 0 (by omega) (by omega) (by omega)
theorem aK.loop{k:Nat}{inner:LI}(hk:4194304+1≤k): ∀(m j i:Nat) (x:Int) (rows:LJ),i+m=rows.length→m<j→rows.length≤1048576→(∀r∈rows,r.length≤1048576)→
  aK.L0 k j rows.length i x rows inner=some (((i+(Pu.bc (rows.drop i) x).2:Nat):Int),(inner,rows.take i++(Pu.bc (rows.drop i) x).1))
 |m,0,i,x,rows,_,hj,_,_=>by omega
 |0,j+1,i,x,rows,hm,_,hl,hr=>by
  rw[aK.bw]
  have e:i=rows.length:=by omega
  subst e
  have h1:rows.length+1≤1099511627776:=by omega
  simp (disch:=omega) only[↓aM,sss,if_true,if_false,Nat.lt_irrefl,h1,List.drop_length,List.take_length,Pu.bc,List.length_append,List.length_cons,List.length_nil,Int.natCast_add,Int.natCast_one,Int.natCast_zero,Int.add_zero,Int.zero_add,Nat.zero_add,Nat.add_zero,Int.add_sub_cancel]
 |m+1,j+1,i,x,rows,hm,hj,hl,hr=>by
  rw[aK.bw]
  have hlt:i<rows.length:=by omega
  have hx:=hr _ (List.getElem_mem hlt)
  rw[←Pu.aw hlt []]at hx
  have hi:=ai.is (k:=k) (r:=rows.getD i []) (x:=x) (by omega) (by omega)
  rw[Pu.drop_cons hlt []]
  unfold Pu.bc
  generalize hf:(rows.getD i []).findIdx (fun n=>decide (x<n))=f at*
  by_cases c:f<(rows.getD i []).length
  ·rw[if_pos c]at hi⊢
   have ih:=aK.loop (inner:=inner) hk m j (i+1) ((rows.getD i []).getD f 0) (rows.set i ((rows.getD i []).set f x)) (by rw[List.length_set];omega) (by omega) (by rw[List.length_set];exact hl) (fun r h=>by
    rcases List.mem_or_eq_of_mem_set h with h|rfl
    ·exact hr r h
    ·rw[List.length_set];exact hx)
   rw[Pu.pC hlt,Pu.pE,List.length_set,Int.natCast_succ]at ih
   have hn: ¬(f:Int)<0:=by omega
   simp (disch:=omega) only[↓aM,sss,if_true,if_false,hlt,hi,hn,c,ih]
   simp only[List.append_assoc,List.singleton_append]
   congr 2
   omega
  ·rw[if_neg c]at hi⊢
   have hn:(-1:Int)<0:=by omega
   have h1:(rows.getD i []++ [x]).length≤1099511627776:=by simp only[List.length_append,List.length_cons,List.length_nil];omega
   simp (disch:=omega) only[↓aM,sss,if_true,if_false,hlt,hi,hn,h1,Nat.add_zero]
   rw[Pu.wy hlt]
theorem aK.is{k:Nat}{inner:LI}{x:Int}{rows:LJ}(hk:4194304+2≤k)(hl:rows.length≤1048576)(hr: ∀r∈rows,r.length≤1048576):
  aK k x inner rows=some ((((Pu.bc rows x).2:Nat):Int),(inner,(Pu.bc rows x).1)):=by
 obtain⟨k,rfl⟩: ∃k',k=k'+1:=⟨k-1,by omega⟩
 rw[aK.eq]
 have h:=aK.loop (k:=k) (inner:=inner) (by omega) rows.length k 0 x rows (by omega) (by omega) hl hr
 rw[Int.natCast_zero]at h
 simpa using h
theorem aB.add{k k1:Nat}{i a n:Nat}{W v:LI}{x4:LI}{x5:LJ}{x6:LI}{x7:LJ}{pi:LI}{P:LJ}{qi:LI}{F:LJ}{z:Int}(hi:i<v.length)(hz:v.getD i 0=z)(ha:a<F.length)(hF: ∀r,(F.getD r []).length≤1000)(hw:i≤1000):
  aB.J1 k k1 i a n i v W x4 x5 x6 x7 pi P qi F=aB.L0 k k1 n ((i+1:Nat):Int) v W x4 x5 x6 x7 pi P qi (F.set a (F.getD a []++ [z])):=by
 rw[aB.gw]
 have h9:=hF a
 have hws:IntKind.i64.wrap ((i:Int)+1)=((i+1:Nat):Int):=by rw[w64 (by omega) (by omega)];omega
 have hap:(F.getD a []++ [z]).length≤1099511627776:=by rw[List.length_append,List.length_singleton];omega
 simp only[bO,bL,cS,bV,bR,bS,ba,Int.toNat_natCast,hws,hz]
 have a0:=Int.natCast_nonneg a
 exact tG a0 (tG ha (tG ha (tG (Int.natCast_nonneg i) (tG hi (tG hi (tG ha (tG hap (tG a0 (tG ha (tG ha (tG rfl rfl)))))))))))
theorem aB.loop{k:Nat}{W v:LI}{x4:LI}{x5:LJ}{x6:LI}{x7:LJ}(hk:4194304+20≤k)(hW:W.length≤9)(hx: ∀x∈W,1≤x∧x≤9)(hv:v.length=W.length): ∀(m j i:Nat) (P Q Q':LJ),i+m=W.length→m<j→Pu.Ins P Q' i→Pu.ez Q Q'→
  aB.L0 k j W.length i v W x4 x5 x6 x7 [] P [] Q=some (([],Pu.jQ (W.drop i) P),([],Pu.zN ((v.zip W).drop i) P Q))
 |m,0,i,P,Q,Q',_,hj,_,_=>by omega
 |0,j+1,i,P,Q,Q',hi,_,_,_=>by
  rw[aB.bw]
  have hn: ¬(i:Int)<W.length:=by omega
  refine tX hn ?_
  rw[List.drop_of_length_le (by omega),List.drop_of_length_le (by rw[List.length_zip];omega)]
  rfl
 |m+1,j+1,i,P,Q,Q',hi,hj,h,hs=>by
  have hlt:i<W.length:=by omega
  have hn:(i:Int)<W.length:=by omega
  have hxi:=hx _ (List.getElem_mem hlt)
  rw[←Pu.aw hlt 0]at hxi
  obtain⟨s1,_,_⟩:=h.step hxi (by omega)
  have ha:=(Pu.tK P (W.getD i 0)).1
  rw[h.same.1,←hs.1]at ha
  have ih:=aB.loop (x4:=x4) (x5:=x5) (x6:=x6) (x7:=x7) hk hW hx hv m j (i+1) (Pu.bc P (W.getD i 0)).1 (Pu.gu Q (Pu.bc P (W.getD i 0)).2 (v.getD i 0)) _ (by omega) (by omega) s1 (Pu.Au hs ha _ _)
  have hP:=Pu.ju (Pu.se h (by omega))
  have hQ:=Pu.ju h.pl
  have hP1:P.length≤9:=hP.1
  have hQ1:Q.length≤9:=by rw[hs.1];exact hQ.1
  have hins:=aK.is (k:=k) (inner:= []) (x:=W.getD i 0) (rows:=P) (by omega) (by omega) (fun r hr=>by have:=hP.2 r hr;omega)
  have hul:i<v.length:=by omega
  rw[aB.bw,Pu.drop_cons hlt 0,Pu.DN hul hlt]
  show _=some (([],Pu.jQ (W.drop (i+1)) (Pu.bc P (W.getD i 0)).1),([],Pu.zN ((v.zip W).drop (i+1)) (Pu.bc P (W.getD i 0)).1 (Pu.gu Q (Pu.bc P (W.getD i 0)).2 (v.getD i 0))))
  rw[←ih]
  simp only[bO,bL,bT,cS,Int.toNat_natCast]
  refine tG hn (tG (Int.natCast_nonneg i) (tG hlt (tG hlt (bE hins ?_))))
  simp only
  have hq9: ∀r,(Q.getD r []).length≤9:=fun r=>by rw[hs.2];exact hQ.at r
  generalize(Pu.bc P (W.getD i 0)).2=a at*
  unfold Pu.gu
  by_cases c:a=Q.length
  ·have hc:((a:Nat):Int)=(Q.length:Int):=by omega
   have hap:(Q++ [[]]).length≤1099511627776:=by rw[List.length_append,List.length_singleton];omega
   have hF: ∀r,((Q++ [[]]).getD r []).length≤1000:=fun r=>by
    by_cases hr:r<Q.length
    ·simp only[List.getD_eq_getElem?_getD,List.getElem?_append_left hr]
     have:=hq9 r
     simp only[List.getD_eq_getElem?_getD]at this
     omega
    ·simp only[List.getD_eq_getElem?_getD,List.getElem?_append_right (Nat.le_of_not_lt hr)]
     cases r-Q.length<;>simp
   refine tG hc (tG hap ?_)
   simp only[bR]
   rw[aB.add hul rfl (by rw[List.length_append,List.length_singleton];omega) hF (by omega),if_pos c]
   congr 1
   rw[c]
   simp
  ·have hc: ¬((a:Nat):Int)=(Q.length:Int):=by omega
   refine tX hc ?_
   rw[aB.add hul rfl (by omega) (fun r=>by have:=hq9 r;omega) (by omega),if_neg c]
theorem aB.isL{k:Nat}{W v:LI}(hk:4194304+30≤k)(h:Pu.isWord W=true)(hv:v.length=W.length):aB k W v=some (([],Pu.jQ W []),([],Pu.zN (v.zip W) [] [])):=by
 obtain⟨k,rfl⟩: ∃k',k=k'+1:=⟨k-1,by omega⟩
 obtain⟨h1,h2⟩:=Pu.bQ h
 have hl:=aB.loop (k:=k) (x4:= []) (x5:= []) (x6:= []) (x7:= []) (by omega) h1 h2 hv W.length k 0 [] [] [] (by omega) (by omega) Pu.Ins.nil ⟨rfl,fun _=>rfl⟩
 rw[Int.natCast_zero,List.drop_zero,List.drop_zero]at hl
 rw[aB.eq]
 exact hl
theorem aB.is{k:Nat}{W:LI}(hk:4194304+30≤k)(h:Pu.isWord W=true):aB k W (Pu.mJ W.length)=some (([],Pu.jQ W []),([],Pu.lW W [] [] 0)):=by
 rw[←Pu.CH]
 exact aB.isL hk h (Pu.mK _)
theorem dN.is{k:Nat}{w:LI}(hk:4194304+40≤k)(hw:w.length≤1048576):dN k w=some (Pu.a7 w):=by
 obtain⟨k,rfl⟩: ∃k',k=k'+1:=⟨k-1,by omega⟩
 have h1:=cw.is (k:=k) (w:=w) (by omega) hw
 rw[dN.eq]
 unfold Pu.a7
 refine bE h1 ?_
 cases c:Pu.isWord w with
 |false=>exact tM rfl
 |true=>
  have h9:=(Pu.bQ c).1
  exact tN (bE (dv.is (n:=w.length) (by omega) (by omega)) (bE (aB.is (by omega) c) rfl))
theorem fk.is{k:Nat}{w:LI}(hk:4194304+40≤k)(hw:w.length≤1048576):fk k w=some (Pu.cV w):=by
 obtain⟨k,rfl⟩: ∃k',k=k'+1:=⟨k-1,by omega⟩
 have h1:=cw.is (k:=k) (w:=w) (by omega) hw
 rw[fk.eq]
 unfold Pu.cV
 refine bE h1 ?_
 cases c:Pu.isWord w with
 |false=>exact tM rfl
 |true=>
  have h9:=(Pu.bQ c).1
  exact tN (bE (dv.is (n:=w.length) (by omega) (by omega)) (bE (aB.is (by omega) c) rfl))
theorem ck.is{k:Nat}{a:LI}(hk:1≤k)(ha:a.length≤1099511627776):ck k a=some a:=by
 obtain⟨k,rfl⟩: ∃k',k=k'+1:=⟨k-1,by omega⟩
 rw[ck.eq]
 by_cases h:a.length=0
 ·have:a= []:=List.eq_nil_of_length_eq_zero h
  subst this
  simp[E9,B4]
 ·simp[h,ha]
theorem aP.both{k:Nat}{w:LI}{x:Int}(hw:w.length≤9)(hx:1≤x∧x≤8): ∀(m j i:Nat) (low high:LI),i+m=w.length→m<j→low.length≤i→high.length≤i→
  Pu.Ok (aP.L1 k j x (w.length:Int) i low high w) (· =((Pu.fZ w x m i low high).1,((Pu.fZ w x m i low high).2,true)))∧ ∀(n:Nat) (base:LI),n≤base.length→base.take n=high→Pu.Ok (aP.L4 k j x 0 n (w.length:Int) i low base w) (· =((Pu.fZ w x m i low high).1,((Pu.fZ w x m i low high).2,true)))
 |m,0,i,low,high,_,hj,_,_=>by omega
 |0,j+1,i,low,high,hi,_,_,_=>by
  refine⟨?_,fun n base hn hb=> ?_⟩
  ·rw[aP.fx]
   simp only[de,dj,ca,bZ,cb,bL,bT,bO,cS,bV,bR,bg,bh,b8,ba,bS,b9,cg,cF,di,b7,b6,bn,bm,bo,bq,List.nil_append,List.cons_append]
   exact Pu.Ok.no (by omega) (Pu.Ok.ret rfl)
  ·rw[aP.EO]
   simp only[de,dj,ca,bZ,cb,bL,bT,bO,cS,bV,bR,bg,bh,b8,ba,bS,b9,cg,cF,di,b7,b6,bn,bm,bo,bq,List.nil_append,List.cons_append]
   rw[List.drop_zero,hb]
   exact Pu.Ok.no (by omega) (Pu.Ok.ret rfl)
 |m+1,j+1,i,low,high,hi,hj,h1,h2=>by
  have ih:=fun low high a b=>aP.both (k:=k) hw hx m j (i+1) low high (by omega) (by omega) a b
  have e1:=w64 (n:=x+1) (by omega) (by omega)
  have e2:=w64 (n:=(i:Int)+1) (by omega) (by omega)
  have hi':i<w.length:=by omega
  have j1: ∀low high,low.length≤i+1→high.length≤i+1→Pu.Ok (aP.J2 k j x (w.length:Int) i low high w) (· =((Pu.fZ w x m (i+1) low high).1,((Pu.fZ w x m (i+1) low high).2,true))):=by
   intro low high a b
   rw[aP.lf]
   simp only[de,dj,ca,bZ,cb,bL,bT,bO,cS,bV,bR,bg,bh,b8,ba,bS,b9,cg,cF,di,b7,b6,bn,bm,bo,bq,List.nil_append,List.cons_append]
   rw[e2]
   exact(ih low high a b).1
  have j2: ∀(n:Nat) (base low high:LI),low.length≤i+1→high.length≤i+1→n≤base.length→base.take n=high→Pu.Ok (aP.J3 k j x 0 n (w.length:Int) i low base w) (· =((Pu.fZ w x m (i+1) low high).1,((Pu.fZ w x m (i+1) low high).2,true))):=by
   intro n base low high a b c d
   rw[aP.yK]
   simp only[de,dj,ca,bZ,cb,bL,bT,bO,cS,bV,bR,bg,bh,b8,ba,bS,b9,cg,cF,di,b7,b6,bn,bm,bo,bq,List.nil_append,List.cons_append]
   rw[e2]
   exact(ih low high a b).2 n base c d
  unfold Pu.fZ
  refine⟨?_,fun n base hn hb=> ?_⟩
  ·rw[aP.fx]
   simp only[de,dj,ca,bZ,cb,bL,bT,bO,cS,bV,bR,bg,bh,b8,ba,bS,b9,cg,cF,di,b7,b6,bn,bm,bo,bq,List.nil_append,List.cons_append]
   simp only[e1,Int.toNat_natCast]
   refine Pu.Ok.g (by omega) (Pu.Ok.g (by omega) (Pu.Ok.g (by omega) (Pu.Ok.g (by omega) ?_)))
   refine Pu.Ok.t (fun c1=> ?_) (fun c1=> ?_)
   ·rw[if_pos c1]
    refine Pu.Ok.g (by rw[List.length_append,List.length_singleton];omega) ?_
    exact j1 _ _ (by omega) (by rw[List.length_append,List.length_singleton];omega)
   ·rw[if_neg c1]
    refine Pu.Ok.t (fun c2=> ?_) (fun c2=> ?_)
    ·rw[if_pos c2]
     refine Pu.Ok.t (fun c3=> ?_) (fun c3=> ?_)
     ·have c3':0<high.length:=by omega
      rw[if_pos c3']
      have e3:=w64 (n:=(high.length:Int)-1) (by omega) (by omega)
      have e4:((high.length:Int)-1).toNat=high.length-1:=by omega
      simp only[e3,e4,Nat.sub_zero]
      refine Pu.Ok.g (by omega) (Pu.Ok.g (by omega) ?_)
      exact j2 (high.length-1) high low _ (by omega) (by rw[List.length_take];omega) (by omega) rfl
     ·have c3': ¬0<high.length:=by omega
      rw[if_neg c3']
      refine Pu.Ok.g c2 ?_
      refine Pu.Ok.g (by rw[List.length_append,List.length_singleton];omega) ?_
      exact j1 _ _ (by rw[List.length_append,List.length_singleton];omega) (by omega)
    ·rw[if_neg c2]
     refine Pu.Ok.no c2 ?_
     exact j1 _ _ (by omega) (by omega)
  ·rw[aP.EO]
   have hh:high.length=n:=by rw[←hb,List.length_take];omega
   simp only[de,dj,ca,bZ,cb,bL,bT,bO,cS,bV,bR,bg,bh,b8,ba,bS,b9,cg,cF,di,b7,b6,bn,bm,bo,bq,List.nil_append,List.cons_append]
   simp only[e1,Int.toNat_natCast,List.drop_zero,hb]
   refine Pu.Ok.g (by omega) (Pu.Ok.g (by omega) (Pu.Ok.g (by omega) (Pu.Ok.g (by omega) ?_)))
   refine Pu.Ok.t (fun c1=> ?_) (fun c1=> ?_)
   ·rw[if_pos c1]
    refine Pu.Ok.g (by rw[List.length_append,List.length_singleton];omega) ?_
    exact j1 _ _ (by omega) (by rw[List.length_append,List.length_singleton];omega)
   ·rw[if_neg c1]
    refine Pu.Ok.t (fun c2=> ?_) (fun c2=> ?_)
    ·rw[if_pos c2]
     refine Pu.Ok.t (fun c3=> ?_) (fun c3=> ?_)
     ·have c3':0<high.length:=by omega
      rw[if_pos c3']
      have e3:=w64 (n:=(n:Int)-1) (by omega) (by omega)
      have e4:((n:Int)-1).toNat=n-1:=by omega
      simp only[e3,e4,Nat.sub_zero,Nat.add_zero]
      refine Pu.Ok.g (by omega) (Pu.Ok.g (by omega) ?_)
      refine j2 (n-1) base low _ (by omega) (by rw[List.length_take];omega) (by omega) ?_
      rw[←hb,List.take_take,List.length_take]
      congr 1
      omega
     ·have c3': ¬0<high.length:=by omega
      rw[if_neg c3']
      refine Pu.Ok.g c2 ?_
      refine Pu.Ok.g (by rw[List.length_append,List.length_singleton];omega) ?_
      exact j2 n base _ _ (by rw[List.length_append,List.length_singleton];omega) (by omega) hn hb
    ·rw[if_neg c2]
     refine Pu.Ok.no c2 ?_
     exact j2 n base _ _ (by omega) (by omega) hn hb
theorem aP.is{k:Nat}{w:LI}{x:Int}(hk:4194304+10≤k)(hw:w.length≤1048576):aP k w x=some (if(Pu.isWord w&&Pu.within x 1 8)=true then((Pu.free w x).1,((Pu.free w x).2,true))else([],([],false))):=by
 obtain⟨k,rfl⟩: ∃k',k=k'+1:=⟨k-1,by omega⟩
 apply Pu.ok_eq
 rw[aP.eq]
 refine Pu.Ok.cP (cw.is (by omega) hw) ?_
 simp only[cF]
 refine Pu.Ok.tn (fun hb=> ?_) (fun hb=> ?_)
 ·rw[hb];exact Pu.Ok.ret rfl
 ·rw[hb,Bool.true_and]
  refine Pu.Ok.cP (cM.is (by omega)) ?_
  refine Pu.Ok.tn (fun hc=> ?_) (fun hc=> ?_)
  ·rw[hc];exact Pu.Ok.ret rfl
  ·rw[hc,if_pos rfl]
   simp only[Pu.within,Bool.and_eq_true,decide_eq_true_eq]at hc
   obtain⟨h1,h2⟩:=Pu.bQ hb
   rw[aP.kP]
   exact(aP.both (k:=k) h1 hc w.length k 0 [] [] (by omega) (by omega) (by simp) (by simp)).1
theorem kr.is{k n:Nat}{w:LI}{x:Int}(hk:2≤k)(hw:w.length≤1048576)(hn:n<w.length):kr k w n x=some (w.set n x):=by
 obtain⟨k,rfl⟩: ∃k',k=k'+1:=⟨k-1,by omega⟩
 apply Pu.ok_eq
 rw[kr.eq]
 refine Pu.Ok.cP (ck.is (by omega) (by omega)) ?_
 simp only[de,dj,ca,bZ,cb,bL,bT,bO,cS,bV,bR,bg,bh,b8,ba,bS,b9,cg,cF,di,b7,b6,bn,bm,bo,bq,List.nil_append,List.cons_append]
 (try simp only[Int.toNat_natCast]);(try simp (disch:=omega) only[w64])
 (repeat (refine Pu.Ok.g (by first|omega|assumption|(simp only[List.length_append,List.length_cons,List.length_nil,List.length_set,List.length_take,List.length_drop,List.length_replicate]at*;omega)) ?_))
 exact Pu.Ok.ret rfl
theorem fF.is{k:Nat}{w:LI}{x:Int}(hk:4194304+20≤k)(hw:w.length≤1048576):fF k w x=some (Pu.raise w x):=by
 obtain⟨k,rfl⟩: ∃k',k=k'+1:=⟨k-1,by omega⟩
 apply Pu.ok_eq
 rw[fF.eq]
 refine Pu.Ok.cP (aP.is (by omega) hw) ?_
 unfold Pu.raise
 by_cases hb:(Pu.isWord w&&Pu.within x 1 8)=true
 ·rw[if_pos hb,if_pos hb]
  simp only[de,dj,ca,bZ,cb,bL,bT,bO,cS,bV,bR,bg,bh,b8,ba,bS,b9,cg,cF,di,b7,b6,bn,bm,bo,bq,List.nil_append,List.cons_append]
  refine Pu.Ok.t (fun c=> ?_) (fun c=> ?_)
  ·have:(Pu.free w x).2= []:=List.eq_nil_of_length_eq_zero (by omega)
   rw[if_pos this]
   exact Pu.Ok.ret rfl
  ·have hn:(Pu.free w x).2≠ []:=fun e=>c (by rw[e];rfl)
   rw[if_neg hn]
   obtain⟨n,e1,e2,e3⟩:=Pu.rM hn
   have e0:(0:Int).toNat=0:=rfl
   simp only[e0,e1,Int.toNat_natCast]
   (repeat (refine Pu.Ok.g (by first|omega|assumption|(simp only[List.length_append,List.length_cons,List.length_nil,List.length_set,List.length_take,List.length_drop,List.length_replicate]at*;omega)) ?_))
   exact Pu.Ok.cP (kr.is (by omega) hw e2) (Pu.Ok.ret rfl)
 ·rw[if_neg hb,if_neg hb]
  exact Pu.Ok.ret rfl
theorem bp.loop{k:Nat}(hk:4194304+30≤k): ∀(m j:Nat) (x:Int) (w:LI),Pu.isWord w=true→1≤x→x≤9→Pu.gp w*9+(9-x)<m→m<j→Pu.Ok (bp.L0 k j x w) (· =(Pu.nB m x w,true))
 |m,0,x,w,_,_,_,_,hj=>by omega
 |0,j+1,x,w,hw,h1,h2,hm,_=>by have:=(Pu.q7 hw).1;omega
 |m+1,j+1,x,w,hw,h1,h2,hm,hj=>by
  rw[bp.bw]
  have hl:=(Pu.bQ hw).1
  unfold Pu.nB
  simp only[de]
  refine Pu.Ok.t (fun c=> ?_) (fun c=> ?_)
  ·rw[if_pos c]
   refine Pu.Ok.cP (fF.is (by omega) (by omega)) ?_
   refine Pu.Ok.tb (fun hb=> ?_) (fun hb=> ?_)
   ·rw[if_pos hb]
    obtain⟨r1,r2,r3⟩:=Pu.uQ (w:=w) (k:=x) (v:=(Pu.raise w x).1) (by rw[←hb])
    rw[bp.gw]
    simp only[de,dj,ca,bZ,cb,bL,bT,bO,cS,bV,bR,bg,bh,b8,ba,bS,b9,cg,cF,di,b7,b6,bn,bm,bo,bq,List.nil_append,List.cons_append]
    rw[w64 (by omega) (by omega)]
    exact bp.loop hk m j (0+1) _ r2 (by omega) (by omega) (by rw[r3];omega) (by omega)
   ·rw[if_neg (by rw[hb];decide)]
    rw[bp.gw]
    simp only[de,dj,ca,bZ,cb,bL,bT,bO,cS,bV,bR,bg,bh,b8,ba,bS,b9,cg,cF,di,b7,b6,bn,bm,bo,bq,List.nil_append,List.cons_append]
    rw[w64 (by omega) (by omega)]
    exact bp.loop hk m j (x+1) w hw (by omega) (by omega) (by omega) (by omega)
  ·rw[if_neg c];exact Pu.Ok.ret rfl
theorem bp.is{k:Nat}{w:LI}(hk:4194304+40≤k)(hw:w.length≤1048576):bp k w=some (Pu.kE w):=by
 obtain⟨k,rfl⟩: ∃k',k=k'+1:=⟨k-1,by omega⟩
 apply Pu.ok_eq
 rw[bp.eq]
 refine Pu.Ok.cP (cw.is (by omega) hw) ?_
 unfold Pu.kE
 simp only[cF]
 refine Pu.Ok.tn (fun hb=> ?_) (fun hb=> ?_)
 ·rw[hb];exact Pu.Ok.ret rfl
 ·rw[hb,if_pos rfl]
  refine Pu.Ok.cP (ck.is (by omega) (by omega)) ?_
  have:=Pu.q7 hb
  exact bp.loop (k:=k) (by omega) 2000 k 1 w hb (by omega) (by omega) (by omega) (by omega)
theorem bW.loop{k:Nat}{w:LI}{n:Bool}(hw:w.length≤9)(hl: ∀x∈w,1≤x∧x≤9): ∀(m j:Nat) (c:LI),m≤w.length→m<j→c.length=10→(∀x∈c,0≤x∧x+m≤100)→Pu.Ok (bW.L0 k j ((m:Int)-1) n w c) (· =Pu.sP w m c)
 |m,0,c,_,hj,_,_=>by omega
 |0,j+1,c,hm,_,hc,_=>by
  rw[bW.bw]
  simp only[de,dj,ca,bZ,cb,bL,bT,bO,cS,bV,bR,bg,bh,b8,ba,bS,b9,cg,cF,di,b7,b6,bn,bm,bo,bq,List.nil_append,List.cons_append]
  exact Pu.Ok.no (by omega) (Pu.Ok.ret rfl)
 |m+1,j+1,c,hm,hj,hc,hx=>by
  rw[bW.bw]
  have em:((m+1:Nat):Int)-1=m:=by omega
  rw[em]
  have hm':m<w.length:=by omega
  have hmem:w.getD m 0∈w:=by rw[Pu.aw hm' _];exact List.getElem_mem _
  have hx9:=hl _ hmem
  have hcn:(w.getD m 0).toNat<c.length:=by omega
  have hcm:c.getD (w.getD m 0).toNat 0∈c:=by rw[Pu.aw hcn _];exact List.getElem_mem _
  have hcv:=hx _ hcm
  simp only[de,dj,ca,bZ,cb,bL,bT,bO,cS,bV,bR,bg,bh,b8,ba,bS,b9,cg,cF,di,b7,b6,bn,bm,bo,bq,List.nil_append,List.cons_append]
  have e1:=w64 (n:=c.getD (w.getD m 0).toNat 0+1) (by omega) (by omega)
  have e2:=w64 (n:=w.getD m 0-1) (by omega) (by omega)
  have e3:(w.getD m 0-1).toNat=(w.getD m 0).toNat-1:=by omega
  have e4:=w64 (n:=(m:Int)-1) (by omega) (by omega)
  simp only[Int.toNat_natCast,e1,e2,e3,e4,List.length_set]
  have hset: ∀x∈c.set (w.getD m 0).toNat (c.getD (w.getD m 0).toNat 0+1),0≤x∧x+m≤100:=by
   intro x h
   rcases List.mem_or_eq_of_mem_set h with h|rfl
   ·have:=hx x h;omega
   ·omega
  have ih:=bW.loop (k:=k) (n:=n) hw hl m j (c.set (w.getD m 0).toNat (c.getD (w.getD m 0).toNat 0+1)) (by omega) (by omega) (by rw[List.length_set];exact hc) hset
  unfold Pu.sP
  (repeat (refine Pu.Ok.g (by first|omega|assumption|(simp only[List.length_append,List.length_cons,List.length_nil,List.length_set,List.length_take,List.length_drop,List.length_replicate]at*;omega)) ?_))
  refine Pu.Ok.t (fun h1=> ?_) (fun h1=> ?_)
  ·(repeat (refine Pu.Ok.g (by first|omega|assumption|(simp only[List.length_append,List.length_cons,List.length_nil,List.length_set,List.length_take,List.length_drop,List.length_replicate]at*;omega)) ?_))
   refine Pu.Ok.t (fun h2=> ?_) (fun h2=> ?_)
   ·rw[if_pos ⟨h1,h2⟩];exact Pu.Ok.ret rfl
   ·rw[if_neg (fun h=>h2 h.2)];exact ih
  ·rw[if_neg (fun h=>h1 h.1)];exact ih
theorem bW.is{k:Nat}{w:LI}(hk:4194304+10≤k)(hw:w.length≤1048576):bW k w=some (Pu.lat w):=by
 obtain⟨k,rfl⟩: ∃k',k=k'+1:=⟨k-1,by omega⟩
 apply Pu.ok_eq
 rw[bW.eq]
 refine Pu.Ok.cP (cw.is (by omega) hw) ?_
 unfold Pu.lat
 simp only[cF]
 refine Pu.Ok.tn (fun hb=> ?_) (fun hb=> ?_)
 ·rw[hb];exact Pu.Ok.ret rfl
 ·rw[hb,Bool.true_and]
  obtain⟨h1,h2⟩:=Pu.bQ hb
  simp only[de,dj,ca,bZ,cb,bL,bT,bO,cS,bV,bR,bg,bh,b8,ba,bS,b9,cg,cF,di,b7,b6,bn,bm,bo,bq,List.nil_append,List.cons_append]
  refine Pu.Ok.g (by decide) (Pu.Ok.g (by decide) (Pu.Ok.g (by decide) ?_))
  rw[w64 (n:=(w.length:Int)-1) (by omega) (by omega)]
  exact bW.loop (k:=k) h1 h2 w.length k (List.replicate 10 0) (Nat.le_refl _) (by omega) (by simp) (fun x hx=>by rw[List.eq_of_mem_replicate hx];omega)
theorem aH.loop{k:Nat}{p:LI}(hk:4194304≤k)(hp:p.length≤1048576): ∀(m j i:Nat) (s v:Int),i+m=p.length→m<j→(i=0→v=9)→(0<i→v=p.getD (i-1) 0)→v≤9→0≤s→s≤9→
  aH.L0 k j s p.length i p=some (Pu.gO (p.drop i) v s)
 |m,0,i,s,v,_,hj,_,_,_,_,_=>by omega
 |0,j+1,i,s,v,hi,_,_,_,_,_,_=>by
  rw[aH.bw]
  have e:i=p.length:=by omega
  subst e
  simp[Pu.gO]
 |m+1,j+1,i,s,v,hi,hj,h0,h1,hv,hs,hs9=>by
  rw[aH.bw]
  have hlt:i<p.length:=by omega
  have hj1: ∀x:Int,x=p.getD i 0→1≤x→x≤v→aH.J1 k j s x p.length i p=some (decide (s+x≤9)&&Pu.gO (p.drop (i+1)) x (s+x)):=by
   intro x hx hx1 hx2
   rw[aH.gw]
   simp (disch:=omega) only[↓aM,sss,if_true,if_false]
   by_cases c:9<s+x
   ·have: ¬s+x≤9:=by omega
    simp[c,this]
   ·have c':s+x≤9:=by omega
    have ih:=aH.loop hk hp m j (i+1) (s+x) x (by omega) (by omega) (by omega) (by simp[hx]) (by omega) (by omega) c'
    rw[Int.natCast_succ]at ih
    simp[c,c',ih]
  rw[Pu.drop_cons hlt 0]
  simp (disch:=omega) only[↓aM,sss,if_true,if_false,hlt,cM.is,Pu.gO]
  generalize hx:p.getD i 0=x at*
  unfold Pu.within
  by_cases c1:1≤x
  ·by_cases c2:x≤v
   ·have c3:x≤9:=by omega
    have hj:=hj1 x rfl c1 c2
    by_cases hi0:i=0
    ·have hpos: ¬(0:Int)<i:=by omega
     simp (disch:=omega) only[↓aM,sss,if_true,if_false,c1,c2,c3,hpos,hj]
    ·have hv':=h1 (by omega)
     have e:((i:Int)-1)=((i-1:Nat):Int):=by omega
     have hlt':i-1<p.length:=by omega
     have hge: ¬p.getD (i-1) 0<x:=by rw[←hv'];omega
     have hpos:(0:Int)<i:=by omega
     simp (disch:=omega) only[e,↓aM,sss,if_true,if_false,hlt',c1,c2,c3,hj,hpos,hge]
   ·simp only[c1,c2,↓aM,sss,if_true,if_false]
    by_cases c3:x≤9
    ·have hi0:0<i:=by
      rcases Nat.eq_zero_or_pos i with h|h
      ·have:=h0 h;omega
      ·exact h
     have hv':=h1 hi0
     have e:((i:Int)-1)=((i-1:Nat):Int):=by omega
     have hlt':i-1<p.length:=by omega
     have hge:p.getD (i-1) 0<x:=by rw[←hv'];omega
     have hpos:(0:Int)<i:=by omega
     simp (disch:=omega) only[e,↓aM,sss,if_true,if_false,hlt',c3,hpos,hge]
    ·simp only[c3,↓aM,sss,if_true,if_false]
  ·simp only[c1,↓aM,sss,if_true,if_false]
theorem aH.is{k:Nat}{p:LI}(hk:4194304+1≤k)(hp:p.length≤1048576):aH k p=some (Pu.cz p):=by
 obtain⟨k,rfl⟩: ∃k',k=k'+1:=⟨k-1,by omega⟩
 rw[aH.eq]
 exact aH.loop (k:=k) (by omega) hp p.length k 0 0 9 (by omega) (by omega) (fun _=>rfl) (by omega) (by omega) (by omega) (by omega)
theorem fS.is{k:Nat}{p:LI}{i:Int}(hk:2≤k)(hp:p.length≤1048576):fS k p i=some (Pu.atI p i):=by
 obtain⟨k,rfl⟩: ∃k',k=k'+1:=⟨k-1,by omega⟩
 rw[fS.eq,cM.is (by omega)]
 unfold Pu.within
 by_cases h1:0≤i
 ·have h0: ¬i<0:=by omega
  by_cases h2:i≤(p.length:Int)-1
  ·have h4:i.toNat<p.length:=by omega
   simp (disch:=omega) only[↓aM,sss,if_true,if_false,h0,h1,h2,h4,Pu.atI]
  ·simp (disch:=omega) only[↓aM,sss,if_true,if_false,h1,h2,Pu.AE (p:=p) (i:=i) (by omega)]
 ·simp (disch:=omega) only[↓aM,sss,if_true,if_false,h1,Pu.tH (p:=p) (i:=i) (by omega)]
theorem bF.loop{k:Nat}{q p:LI}(hq:q.length≤1048576)(hp:p.length≤1048576)(hk:4194304+2≤k):bF.L1 k k q.length 0 p q=some ((List.range' 0 q.length).all fun i=>decide (q.getD i 0≤p.getD i 0)):=by
 have h:=Pu.lT (fun j i=>bF.L1 k j q.length (i:Int) p q) q.length (fun i=>decide (q.getD i 0≤p.getD i 0)) (some false) (some true)
  (fun j i hi=>by
   rw[bF.fx,fS.is (by omega) hp,Pu.fK]
   simp (disch:=omega) only[↓aM,sss,if_true,if_false,hi,Int.natCast_add,Int.natCast_one]
   by_cases c:q.getD i 0≤p.getD i 0
   ·have c': ¬p.getD i 0<q.getD i 0:=by omega
    simp only[c,c',↓aM,sss,if_true,if_false]
   ·have c':p.getD i 0<q.getD i 0:=by omega
    simp only[c,c',↓aM,sss,if_true,if_false])
  (fun j=>by
   rw[bF.fx]
   simp only[↓aM,sss,if_true,if_false,Nat.lt_irrefl]) q.length k 0 (by omega) (by omega)
 simp only[Int.natCast_zero]at h
 rw[h]
 cases(List.range' 0 q.length).all fun i=>decide (q.getD i 0≤p.getD i 0)<;>simp
theorem bF.is{k:Nat}{q p:LI}(hk:4194304+3≤k)(hq:q.length≤1048576)(hp:p.length≤1048576):bF k q p=some (Pu.ep q p):=by
 obtain⟨k,rfl⟩: ∃k',k=k'+1:=⟨k-1,by omega⟩
 rw[bF.eq,aH.is (by omega) hq,eL,bF.kP,Pu.zp]
 cases c1:Pu.cz q with
 |false=>simp only[↓aM,sss,if_true,if_false]
 |true=>
  simp only[↓aM,sss,if_true,if_false]
  rw[aH.is (by omega) hp,eL]
  cases c2:Pu.cz p with
  |false=>simp only[↓aM,sss,if_true,if_false]
  |true=>
   simp only[↓aM,sss,if_true,if_false]
   exact bF.loop hq hp (by omega)
theorem gN.is{k:Nat}{s:LI×LI}(hk:4194304+4≤k)(hq:s.1.length≤1048576)(hp:s.2.length≤1048576):gN k s=some (Pu.ep s.2 s.1):=by
 obtain⟨k,rfl⟩: ∃k',k=k'+1:=⟨k-1,by omega⟩
 rw[gN.eq,bF.is (by omega) hp hq]
 rfl
theorem bJ.loop{k:Nat}{t:Pu.Tab}{x3 x4:LI}(hk:4194304+4≤k)(hi:Pu.cz t.1=true)(h2:t.2.length≤1048576)(hr: ∀x∈t.2,x.length≤1048576): ∀(m j i:Nat) (acc:LI),i+m=t.2.length→m<j→acc.length=i→
  bJ.L1 k j t.2.length i t.2 t.1 x3 x4 acc t.1=some (if Pu.ep t.1 (acc++Pu.fV t.1 i (t.2.drop i))=true then((acc++Pu.fV t.1 i (t.2.drop i),t.1),true)else(([],[]),false))
 |m,0,i,acc,_,hj,_=>by omega
 |0,j+1,i,acc,hm,_,hacc=>by
  rw[bJ.fx]
  have e:i=t.2.length:=by omega
  have h9:=(Pu.cL hi).2.2.1
  have hlt: ¬i<t.2.length:=by omega
  rw[gN.is (by omega) (by simp only;omega) (by simp only;omega),e]
  simp only[↓aM,sss,if_true,if_false,Nat.lt_irrefl,List.drop_length,Pu.fV,List.append_nil]
  cases Pu.ep t.1 acc<;>simp
 |m+1,j+1,i,acc,hm,hj,hacc=>by
  rw[bJ.fx]
  have hlt:i<t.2.length:=by omega
  have hb:=Pu.fp hi i
  have h9:=(Pu.cL hi).2.2.1
  have hrow:=hr t.2[i] (List.getElem_mem hlt)
  rw[←Pu.aw hlt []]at hrow
  rw[fS.is (by omega) (by omega)]
  have ih:=bJ.loop (x3:=x3) (x4:=x4) hk hi h2 hr m j (i+1) (acc++ [Pu.atI t.1 i+(t.2.getD i []).length]) (by omega) (by omega) (by simp[hacc])
  rw[Int.natCast_succ]at ih
  rw[Pu.drop_cons hlt []]
  have hl:(acc++ [Pu.atI t.1 i+((t.2.getD i []).length:Int)]).length≤1099511627776:=by simp;omega
  simp (disch:=omega) only[↓aM,sss,if_true,if_false,hlt,hl,ih,Pu.fV]
  simp only[List.append_assoc,List.singleton_append,Pu.fK]
  rfl
theorem bJ.is{k:Nat}{t:Pu.Tab}(hk:4194304+5≤k)(h1:t.1.length≤1048576)(h2:t.2.length≤1048576)(hr: ∀x∈t.2,x.length≤1048576):bJ k t=some (Pu.shapeOf t):=by
 obtain⟨k,rfl⟩: ∃k',k=k'+1:=⟨k-1,by omega⟩
 rw[bJ.eq,aH.is (by omega) h1,bJ.kP,ck.is (by omega) (by omega)]
 simp only[↓aM,sss,if_true,if_false]
 unfold Pu.shapeOf
 cases c1:Pu.cz t.1 with
 |false=>
  have:Pu.dC t=false:=by unfold Pu.dC;rw[c1];rfl
  simp only[this,↓aM,sss,if_true,if_false]
 |true=>
  by_cases c2:t.2.length<t.1.length
  ·have:Pu.dC t=false:=by
    have: ¬t.1.length≤t.2.length:=by omega
    unfold Pu.dC;simp[this]
   simp only[this,c2,↓aM,sss,if_true,if_false]
  ·have c2':t.1.length≤t.2.length:=by omega
   have hloop:=bJ.loop (k:=k) (t:=t) (x3:= []) (x4:= []) (by omega) c1 h2 hr t.2.length k 0 [] (by omega) (by omega) rfl
   rw[Int.natCast_zero]at hloop
   simp only[c2,↓aM,sss,if_true,if_false]
   rw[hloop]
   have:Pu.dC t=Pu.ep t.1 (Pu.outer t):=by unfold Pu.dC;simp[c1,c2']
   rw[this]
   rfl
theorem dx.is{k:Nat}{t:Pu.Tab}{r c:Int}(hk:3≤k)(hi:Pu.cz t.1=true)(ht:t.2.length≤1048576)(hr: ∀x∈t.2,x.length≤1048576)(h1: -1000000000≤c)(h2:c≤1000000000):dx k t r c=some (Pu.entry t r c):=by
 obtain⟨k,rfl⟩: ∃k',k=k'+1:=⟨k-1,by omega⟩
 have hb:=Pu.fp hi r
 have h9:=(Pu.cL hi).2.2.1
 rw[dx.eq,cM.is (by omega)]
 unfold Pu.entry Pu.within
 by_cases c1:r<0
 ·have c1': ¬0≤r:=by omega
  simp (disch:=omega) only[↓aM,sss,if_true,if_false,c1,c1']
 ·have c3:0≤r:=by omega
  by_cases c2:(t.2.length:Int)≤r
  ·have c2': ¬r≤(t.2.length:Int)-1:=by omega
   simp (disch:=omega) only[↓aM,sss,if_true,if_false,c1,c3,c2,c2']
  ·have c2':r≤(t.2.length:Int)-1:=by omega
   have c4:r.toNat<t.2.length:=by omega
   have hx:=hr _ (List.getElem_mem c4)
   rw[←Pu.aw c4 []]at hx
   simp (disch:=omega) only[↓aM,sss,if_true,if_false,c1,c2,c2',c3,c4,fS.is]
theorem aD.inner{k k1:Nat}{t:Pu.Tab}{r:Nat}(hk:4194304≤k)(hi:Pu.cz t.1=true)(ht:t.2.length≤1048576)(hr: ∀x∈t.2,x.length≤1048576)(hlt:r<t.2.length)(n:Int):
  aD.L1 k k1 k r r n r r (t.2.getD r []).length 0 t.2 t.1=if((List.range' 0 (t.2.getD r []).length).all fun q=>Pu.gE t r q)=true then aD.L0 k k1 n ((r:Int)+1) t.2 t.1 else some false:=by
 have hx:=hr _ (List.getElem_mem hlt)
 rw[←Pu.aw hlt []]at hx
 have hb:=Pu.fp hi r
 have h9:=(Pu.cL hi).2.2.1
 have h:=Pu.lT (fun j q=>aD.L1 k k1 j r r n r r (t.2.getD r []).length (q:Int) t.2 t.1) (t.2.getD r []).length (fun q=>Pu.gE t r q) (some false) (aD.L0 k k1 n ((r:Int)+1) t.2 t.1)
  (fun j q hq=>by
   have e3:=dx.is (k:=k) (t:=t) (r:=(r:Int)-1) (c:=t.1.getD r 0+q) (by omega) hi ht hr (by rw[Pu.fK]at hb;omega) (by rw[Pu.fK]at hb;omega)
   have ea:=fS.is (k:=k) (p:=t.1) (i:=r) (by omega) (by omega)
   rw[Pu.fK]at ea
   rw[Pu.fK]at hb
   rw[aD.fx]
   simp (maxSteps:=10000000) (disch:=omega) only[↓aM,sss,if_true,if_false,hlt,hq,cM.is,ea,e3,aD.lf,Int.natCast_add,Int.natCast_one]
   unfold Pu.gE
   generalize hx0:(t.2.getD r []).getD q 0=x at*
   cases Pu.within x 1 9 with
   |false=>simp
   |true=>
    have up:(if(0:Int)<r then(if x≤Pu.entry t ((r:Int)-1) (t.1.getD r 0+q)then some false else aD.L1 k k1 j r r n r r (t.2.getD r []).length ((q:Int)+1) t.2 t.1)else aD.L1 k k1 j r r n r r (t.2.getD r []).length ((q:Int)+1) t.2 t.1)=
      if(decide (r=0)||decide (Pu.entry t ((r:Int)-1) (t.1.getD r 0+q)<x))=true then aD.L1 k k1 j r r n r r (t.2.getD r []).length ((q:Int)+1) t.2 t.1 else some false:=by
     by_cases e:r=0
     ·subst e;simp
     ·have e':(0:Int)<r:=by omega
      by_cases c:x≤Pu.entry t ((r:Int)-1) (t.1.getD r 0+q)
      ·have c': ¬Pu.entry t ((r:Int)-1) (t.1.getD r 0+q)<x:=by omega
       simp only[e',c,c',e,if_true,if_false,decide_false,Bool.or_false,Bool.false_eq_true]
      ·have c':Pu.entry t ((r:Int)-1) (t.1.getD r 0+q)<x:=by omega
       simp only[e',c,c',e,if_true,if_false,decide_true,decide_false,Bool.false_or]
    by_cases e:q=0
    ·have e': ¬(0:Int)<q:=by omega
     simp only[e',e,↓aM,sss,if_true,if_false,Bool.true_or]
     rw[e]at up
     exact up
    ·have e':(0:Int)<q:=by omega
     have eq:(q:Int)-1=((q-1:Nat):Int):=by omega
     have hq':q-1<(t.2.getD r []).length:=by omega
     simp (disch:=omega) only[e',e,↓aM,sss,if_true,if_false,eq,hq',Bool.false_or]
     by_cases c:x<(t.2.getD r []).getD (q-1) 0
     ·have c': ¬(t.2.getD r []).getD (q-1) 0≤x:=by omega
      simp only[c,c',↓aM,sss,if_true,if_false]
     ·have c':(t.2.getD r []).getD (q-1) 0≤x:=by omega
      simp only[c,c',↓aM,sss,if_true,if_false]
      exact up)
  (fun j=>by
   rw[aD.fx]
   simp (maxSteps:=10000000) (disch:=omega) only[↓aM,sss,if_true,if_false,Nat.lt_irrefl]) (t.2.getD r []).length k 0 (by omega) (by omega)
 simp only[Int.natCast_zero]at h
 exact h
theorem aD.is{k:Nat}{t:Pu.Tab}(hk:4194304+6≤k)(h1:t.1.length≤1048576)(ht:t.2.length≤1048576)(hr: ∀x∈t.2,x.length≤1048576):aD k t=some (Pu.ig t):=by
 obtain⟨k,rfl⟩: ∃k',k=k'+1:=⟨k-1,by omega⟩
 rw[aD.eq,bJ.is (by omega) h1 ht hr,eL]
 unfold Pu.ig Pu.shapeOf
 cases hs:Pu.dC t with
 |false=>simp[hs]
 |true=>
  have hi:Pu.cz t.1=true:=by
   simp only[Pu.dC,Bool.and_eq_true]at hs;exact hs.1
  have h:=Pu.lT (fun j r=>aD.L0 k j t.2.length r t.2 t.1) t.2.length (fun r=>(List.range' 0 (t.2.getD r []).length).all fun q=>Pu.gE t r q) (some false) (some true)
   (fun j r hlt=>by
    rw[aD.bw]
    simp (disch:=omega) only[↓aM,sss,if_true,if_false,hlt,aD.inner (k1:=j) (show 4194304≤k by omega) hi ht hr hlt,Int.natCast_add,Int.natCast_one])
   (fun j=>by
    rw[aD.bw]
    simp (disch:=omega) only[↓aM,sss,if_true,if_false,Nat.lt_irrefl]) t.2.length k 0 (by omega) (by omega)
  simp only[Int.natCast_zero]at h
  simp only[if_true,↓aM,sss,if_true,if_false]
  rw[h]
  cases(List.range' 0 t.2.length).all fun r=>(List.range' 0 (t.2.getD r []).length).all fun q=>Pu.gE t r q<;>simp
theorem strings_Repeat.is{k:Nat}{n:Int}(hk:1≤k)(h0:0≤n)(h1:n≤1000):strings_Repeat k (Pu.tx [46]) n=some (Pu.tx (List.replicate n.toNat 46)):=by
 obtain⟨k,rfl⟩: ∃k',k=k'+1:=⟨k-1,by omega⟩
 rw[strings_Repeat.eq]
 exact Pu.DL h0 h1
theorem br.loop{k:Nat}{t:Pu.Tab}(hk:3000≤k)(ht:Pu.ig t=true): ∀(m j i:Nat) (acc:List ByteArray),i+m=t.2.length→m<j→acc=((List.range i).map (Pu.nR t)).map Pu.tx→Pu.Ok (br.L0 k j (t.2.length:Int) i acc t.2 t.1) (· =Pu.tx (Lib.join ((List.range t.2.length).map (Pu.nR t)) [47]))
 |m,0,i,acc,_,hj,_=>by omega
 |0,j+1,i,acc,hi,_,ha=>by
  rw[br.bw]
  simp only[de,dj,ca,bZ,cb,bL,bT,bO,cS,bV,bR,bg,bh,b8,ba,bS,b9,cg,cF,di,b7,b6,bn,bm,bo,bq,List.nil_append,List.cons_append]
  refine Pu.Ok.no (by omega) ?_
  have e:i=t.2.length:=by omega
  subst e
  have h9:=(Pu.hU ht).1
  rw[ha]
  refine Pu.Ok.cP (gG.is (sep:= [47]) (by omega) (by rw[List.length_map,List.length_range];omega) (fun w hw=> ?_) (by decide)) (Pu.Ok.ret rfl)
  obtain⟨x,hx,rfl⟩:=List.mem_map.1 hw
  have:=Pu.oX ht x
  omega
 |m+1,j+1,i,acc,hi,hj,ha=>by
  rw[br.bw]
  have hlen:acc.length=i:=by rw[ha,List.length_map,List.length_map,List.length_range]
  have h9:=(Pu.hU ht).1
  obtain⟨p1,p2,p3,p4⟩:=Pu.jD ht
  simp only[de,dj,ca,bZ,cb,bL,bT,bO,cS,bV,bR,bg,bh,b8,ba,bS,b9,cg,cF,di,b7,b6,bn,bm,bo,bq,List.nil_append,List.cons_append]
  (try simp only[Int.toNat_natCast]);(try simp (disch:=omega) only[w64])
  (repeat (refine Pu.Ok.g (by first|omega|assumption|(simp only[List.length_append,List.length_cons,List.length_nil,List.length_set,List.length_take,List.length_drop,List.length_replicate]at*;omega)) ?_))
  have hb:=Pu.fp p1 i
  refine Pu.Ok.cP (fS.is (by omega) (by omega)) ?_
  have e46:(⟨#[46]⟩:ByteArray)=Pu.tx [46]:=rfl
  have e0:(⟨#[]⟩:ByteArray)=Pu.tx []:=rfl
  rw[e46,e0]
  refine Pu.Ok.cP (strings_Repeat.is (by omega) hb.1 (by omega)) ?_
  (repeat (refine Pu.Ok.g (by first|omega|assumption|(simp only[List.length_append,List.length_cons,List.length_nil,List.length_set,List.length_take,List.length_drop,List.length_replicate]at*;omega)) ?_))
  have hr:=(Pu.hU ht).at i
  refine Pu.Ok.cP (cq.is (by omega) (by decide) (by omega) (fun x hx=>by have:=Pu.sw ht hx;omega)) ?_
  rw[Pu.s9,Pu.lF,Pu.eY,Pu.eY]
  have hrl:=Pu.oX ht i
  have hrl':(List.replicate (Pu.atI t.1 i).toNat (46:UInt8)).length+(Pu.gX (t.2.getD i [])).length≤100:=by
   rw[←List.length_append];exact hrl
  refine Pu.Ok.g (by omega) ?_
  (repeat (refine Pu.Ok.g (by first|omega|assumption|(simp only[List.length_append,List.length_cons,List.length_nil,List.length_set,List.length_take,List.length_drop,List.length_replicate]at*;omega)) ?_))
  (try simp only[Int.toNat_natCast]);(try simp (disch:=omega) only[w64])
  refine br.loop hk ht m j (i+1) _ (by omega) (by omega) ?_
  rw[ha,List.range_succ,List.map_append,List.map_append]
  rfl
theorem br.is{k:Nat}{t:Pu.Tab}(hk:4194304+20≤k)(h1:t.1.length≤1048576)(h2:t.2.length≤1048576)(hr: ∀x∈t.2,x.length≤1048576):br k t=some (Pu.tx (Pu.jE t)):=by
 obtain⟨k,rfl⟩: ∃k',k=k'+1:=⟨k-1,by omega⟩
 apply Pu.ok_eq
 rw[br.eq]
 refine Pu.Ok.cP (aD.is (by omega) h1 h2 hr) ?_
 unfold Pu.jE
 simp only[de,dj,ca,bZ,cb,bL,bT,bO,cS,bV,bR,bg,bh,b8,ba,bS,b9,cg,cF,di,b7,b6,bn,bm,bo,bq,List.nil_append,List.cons_append]
 refine Pu.Ok.tn (fun hb=> ?_) (fun hb=> ?_)
 ·rw[hb];exact Pu.Ok.ret rfl
 ·rw[hb]
  refine Pu.Ok.t (fun h=> ?_) (fun h=> ?_)
  ·have:t.2= []:=List.eq_nil_of_length_eq_zero (by simpa using h)
   rw[this]
   exact Pu.Ok.ret rfl
  ·have h0:t.2≠ []:=fun e=>h (by rw[e];rfl)
   rw[if_pos rfl,if_neg h0]
   exact br.loop (k:=k) (by omega) hb t.2.length k 0 [] (Nat.zero_add _) (by show t.2.length<k;omega) rfl
theorem eF.is{k:Nat}{w:LI}(hk:4194304+50≤k)(hw:w.length≤1048576):eF k w=some (Pu.eU w):=by
 obtain⟨k,rfl⟩: ∃k',k=k'+1:=⟨k-1,by omega⟩
 have h1:=dN.is (k:=k) (w:=w) (by omega) hw
 have ho:=Pu.kF (w:=w)
 have hl:=Pu.jk (w:=w)
 rw[eF.eq]
 refine bE h1 ?_
 unfold Pu.eU at hl⊢
 cases c:Pu.isWord w with
 |false=>
  have e:(Pu.a7 w).2=false:=by unfold Pu.a7;rw[c];rfl
  rw[e]
  exact tM rfl
 |true=>
  have e:(Pu.a7 w).2=true:=by unfold Pu.a7;rw[c];rfl
  rw[e,if_pos rfl]
  rw[c,if_pos rfl]at hl
  have hp:=Pu.iG c
  have hp':=hp
  simp only[Pu.cy,Bool.and_eq_true]at hp'
  have hs:=bJ.is (k:=k) (t:=(Pu.a7 w).1) (by omega) ho.1 ho.2.1 ho.2.2
  have hso:Pu.shapeOf (Pu.a7 w).1=((Pu.outer (Pu.a7 w).1,(Pu.a7 w).1.1),true):=by unfold Pu.shapeOf;rw[if_pos (Pu.pb hp'.1)]
  rw[hso]at hs
  exact tN (bE hs rfl)
theorem dS.is{k:Nat}{w:LI}(hk:4194304+10≤k)(hw:w.length≤1048576):dS k w=some (Pu.tx (Pu.jt w)):=by
 obtain⟨k,rfl⟩: ∃k',k=k'+1:=⟨k-1,by omega⟩
 apply Pu.ok_eq
 rw[dS.eq]
 refine Pu.Ok.cP (aH.is (by omega) hw) ?_
 unfold Pu.jt
 simp only[de,dj,ca,bZ,cb,bL,bT,bO,cS,bV,bR,bg,bh,b8,ba,bS,b9,cg,cF,di,b7,b6,bn,bm,bo,bq,List.nil_append,List.cons_append]
 refine Pu.Ok.tn (fun hb=> ?_) (fun hb=> ?_)
 ·rw[hb];exact Pu.Ok.ret rfl
 ·rw[hb]
  refine Pu.Ok.t (fun h=> ?_) (fun h=> ?_)
  ·have:w= []:=List.eq_nil_of_length_eq_zero (by omega)
   subst this
   exact Pu.Ok.ret rfl
  ·have h0:w≠ []:=fun e=>h (by rw[e];rfl)
   rw[if_pos rfl,if_neg h0]
   obtain⟨hp,_,hl,_⟩:=Pu.cL hb
   refine Pu.Ok.cP (cq.is (sep:= [44]) (by omega) (by decide) (by omega) (fun x hx=>by have:=hp x hx;omega)) (Pu.Ok.ret rfl)
theorem al.wM{k k1:Nat}{w:LI}{i:Nat}{n v:Int}(hk:10≤k)(hw:w.length≤9)(hi:i<w.length): ∀(m j q:Nat) (a:Int),q+m=i→m<j→0≤a→a+m≤1000→Pu.Ok (al.L0 k k1 (a+Pu.l8 w i m q) n ((i:Int)+1) w) (· =v)→Pu.Ok (al.L1 k k1 j a i n i i q w) (· =v)
 |m,0,q,a,_,hj,_,_,_=>by omega
 |0,j+1,q,a,hq,hj,h0,h1,key=>by
  rw[al.fx]
  simp only[de,dj,ca,bZ,cb,bL,bT,bO,cS,bV,bR,bg,bh,b8,ba,bS,b9,cg,cF,di,b7,b6,bn,bm,bo,bq,List.nil_append,List.cons_append]
  (try simp only[Int.toNat_natCast]);(try simp (disch:=omega) only[w64])
  refine Pu.Ok.no (by omega) ?_
  unfold Pu.l8 at key
  rw[Int.add_zero]at key
  exact key
 |m+1,j+1,q,a,hq,hj,h0,h1,key=>by
  rw[al.fx]
  simp only[de,dj,ca,bZ,cb,bL,bT,bO,cS,bV,bR,bg,bh,b8,ba,bS,b9,cg,cF,di,b7,b6,bn,bm,bo,bq,List.nil_append,List.cons_append]
  (try simp only[Int.toNat_natCast]);(try simp (disch:=omega) only[w64])
  (repeat (refine Pu.Ok.g (by first|omega|assumption|(simp only[List.length_append,List.length_cons,List.length_nil,List.length_set,List.length_take,List.length_drop,List.length_replicate]at*;omega)) ?_))
  unfold Pu.l8 at key
  rw[←Int.add_assoc]at key
  refine Pu.Ok.t (fun c=> ?_) (fun c=> ?_)
  ·rw[if_pos c]at key
   rw[al.lf]
   simp only[de,dj,ca,bZ,cb,bL,bT,bO,cS,bV,bR,bg,bh,b8,ba,bS,b9,cg,cF,di,b7,b6,bn,bm,bo,bq,List.nil_append,List.cons_append]
   (try simp only[Int.toNat_natCast]);(try simp (disch:=omega) only[w64])
   exact al.wM hk hw hi m j (q+1) (a+1) (by omega) (by omega) (by omega) (by omega) key
  ·rw[if_neg c,Int.add_zero]at key
   rw[al.lf]
   simp only[de,dj,ca,bZ,cb,bL,bT,bO,cS,bV,bR,bg,bh,b8,ba,bS,b9,cg,cF,di,b7,b6,bn,bm,bo,bq,List.nil_append,List.cons_append]
   (try simp only[Int.toNat_natCast]);(try simp (disch:=omega) only[w64])
   exact al.wM hk hw hi m j (q+1) a (by omega) (by omega) (by omega) (by omega) key
theorem al.loop{k:Nat}{w:LI}(hk:100≤k)(hw:w.length≤9): ∀(m j i:Nat) (a:Int),i+m=w.length→m<j→0≤a→a+m*9≤900→Pu.Ok (al.L0 k j a (w.length:Int) i w) (· =a+Pu.me w m i)
 |m,0,i,a,_,hj,_,_=>by omega
 |0,j+1,i,a,hi,_,_,_=>by
  rw[al.bw]
  simp only[de,dj,ca,bZ,cb,bL,bT,bO,cS,bV,bR,bg,bh,b8,ba,bS,b9,cg,cF,di,b7,b6,bn,bm,bo,bq,List.nil_append,List.cons_append]
  refine Pu.Ok.no (by omega) ?_
  unfold Pu.me
  rw[Int.add_zero]
  exact Pu.Ok.ret rfl
 |m+1,j+1,i,a,hi,hj,h0,h1=>by
  rw[al.bw]
  simp only[de,dj,ca,bZ,cb,bL,bT,bO,cS,bV,bR,bg,bh,b8,ba,bS,b9,cg,cF,di,b7,b6,bn,bm,bo,bq,List.nil_append,List.cons_append]
  refine Pu.Ok.g (by omega) ?_
  have hb:=Pu.qt w i i 0
  refine al.wM (by omega) hw (by omega) i k 0 a (by omega) (by omega) h0 (by omega) ?_
  have h:=al.loop hk hw m j (i+1) (a+Pu.l8 w i i 0) (by omega) (by omega) (by omega) (by omega)
  rw[Int.natCast_succ]at h
  unfold Pu.me
  rw[←Int.add_assoc]
  exact h
theorem al.is{k:Nat}{w:LI}(hk:4194304+10≤k)(hw:w.length≤1048576):al k w=some (Pu.inv w):=by
 obtain⟨k,rfl⟩: ∃k',k=k'+1:=⟨k-1,by omega⟩
 apply Pu.ok_eq
 rw[al.eq]
 refine Pu.Ok.cP (cw.is (by omega) hw) ?_
 unfold Pu.inv
 simp only[cF]
 refine Pu.Ok.tn (fun hb=> ?_) (fun hb=> ?_)
 ·rw[hb];exact Pu.Ok.ret rfl
 ·rw[hb,if_pos rfl]
  have hl:=(Pu.bQ hb).1
  have h:=al.loop (k:=k) (by omega) hl w.length k 0 0 (by omega) (by omega) (by omega) (by omega)
  rw[Int.zero_add]at h
  exact h
theorem aS.loop{k:Nat}{w:LI}(hk:100≤k)(hw:w.length≤9): ∀(m j i:Nat) (a:Int),i+m=w.length→1≤i→m<j→0≤a→a+m*9≤900→Pu.Ok (aS.L0 k j a i w) (· =a+Pu.mY w m i)
 |m,0,i,a,_,_,hj,_,_=>by omega
 |0,j+1,i,a,hi,_,_,_,_=>by
  rw[aS.bw]
  simp only[de,dj,ca,bZ,cb,bL,bT,bO,cS,bV,bR,bg,bh,b8,ba,bS,b9,cg,cF,di,b7,b6,bn,bm,bo,bq,List.nil_append,List.cons_append]
  refine Pu.Ok.no (by omega) ?_
  unfold Pu.mY
  rw[Int.add_zero]
  exact Pu.Ok.ret rfl
 |m+1,j+1,i,a,hi,h1,hj,h0,h2=>by
  rw[aS.bw]
  simp only[de,dj,ca,bZ,cb,bL,bT,bO,cS,bV,bR,bg,bh,b8,ba,bS,b9,cg,cF,di,b7,b6,bn,bm,bo,bq,List.nil_append,List.cons_append]
  have e1:=w64 (n:=(i:Int)-1) (by omega) (by omega)
  have e2:((i:Int)-1).toNat=i-1:=by omega
  simp only[e1,e2,Int.toNat_natCast]
  (repeat (refine Pu.Ok.g (by first|omega|assumption|(simp only[List.length_append,List.length_cons,List.length_nil,List.length_set,List.length_take,List.length_drop,List.length_replicate]at*;omega)) ?_))
  unfold Pu.mY
  rw[←Int.add_assoc]
  refine Pu.Ok.t (fun c=> ?_) (fun c=> ?_)
  ·rw[if_pos c,aS.gw]
   simp only[de,dj,ca,bZ,cb,bL,bT,bO,cS,bV,bR,bg,bh,b8,ba,bS,b9,cg,cF,di,b7,b6,bn,bm,bo,bq,List.nil_append,List.cons_append]
   rw[w64 (n:=a+_) (by omega) (by omega),w64 (n:=(i:Int)+1) (by omega) (by omega)]
   exact aS.loop hk hw m j (i+1) (a+(i:Int)) (by omega) (by omega) (by omega) (by omega) (by omega)
  ·rw[if_neg c,Int.add_zero,aS.gw]
   simp only[de,dj,ca,bZ,cb,bL,bT,bO,cS,bV,bR,bg,bh,b8,ba,bS,b9,cg,cF,di,b7,b6,bn,bm,bo,bq,List.nil_append,List.cons_append]
   rw[w64 (n:=(i:Int)+1) (by omega) (by omega)]
   exact aS.loop hk hw m j (i+1) a (by omega) (by omega) (by omega) (by omega) (by omega)
theorem aS.is{k:Nat}{w:LI}(hk:4194304+10≤k)(hw:w.length≤1048576):aS k w=some (Pu.maj w):=by
 obtain⟨k,rfl⟩: ∃k',k=k'+1:=⟨k-1,by omega⟩
 apply Pu.ok_eq
 rw[aS.eq]
 refine Pu.Ok.cP (cw.is (by omega) hw) ?_
 unfold Pu.maj
 simp only[cF]
 refine Pu.Ok.tn (fun hb=> ?_) (fun hb=> ?_)
 ·rw[hb];exact Pu.Ok.ret rfl
 ·rw[hb,if_pos rfl]
  have hl:=(Pu.bQ hb).1
  by_cases c:w.length=0
  ·have e:w= []:=List.eq_nil_of_length_eq_zero c
   subst e
   obtain⟨k,rfl⟩: ∃k',k=k'+1:=⟨k-1,by omega⟩
   rw[aS.bw]
   exact Pu.Ok.no (by decide) (Pu.Ok.ret rfl)
  ·have h:=aS.loop (k:=k) (by omega) hl (w.length-1) k 1 0 (by omega) (by omega) (by omega) (by omega) (by omega)
   rw[Int.zero_add]at h
   exact h
theorem bC.yM{k:Nat}{w:LI}{s:List UInt8}(hk:4194304+60≤k)(hw:Pu.isWord w=true)(hs:s=if Pu.lat w=true then [108,97,116,116,105,99,101]else [111,116,104,101,114]):
  Pu.Ok (bC.J0 k (Pu.tx s) w (Pu.kE w).1 (Pu.a7 w).1.1 (Pu.a7 w).1.2 (Pu.cV w).1.1 (Pu.cV w).1.2) (· =Pu.tx (Lib.join (Pu.iZ w) [32])):=by
 have hl:=(Pu.bQ hw).1
 obtain⟨i1,i2,i3⟩:=Pu.kF (w:=w)
 obtain⟨r1,r2,r3⟩:=Pu.pM (w:=w)
 have hh:=(Pu.bQ (Pu.q8 w)).1
 have hsh:(Pu.eU w).length≤1048576:=by have:=Pu.jk (w:=w);omega
 rw[bC.kP]
 refine Pu.Ok.cP (br.is (t:=(Pu.a7 w).1) (by omega) i1 i2 i3) ?_
 refine Pu.Ok.cP (br.is (t:=(Pu.cV w).1) (by omega) r1 r2 r3) ?_
 refine Pu.Ok.cP (eF.is (by omega) (by omega)) ?_
 refine Pu.Ok.cP (dS.is (by omega) hsh) ?_
 refine Pu.Ok.cP (al.is (by omega) (by omega)) ?_
 refine Pu.Ok.cP (dy.is (by omega) (Pu.rU hw).1 (Pu.rU hw).2) ?_
 refine Pu.Ok.cP (aS.is (by omega) (by omega)) ?_
 refine Pu.Ok.cP (dy.is (by omega) (Pu.sg hw).1 (Pu.sg hw).2) ?_
 refine Pu.Ok.cP (eP.is (by omega) (by omega)) ?_
 have h:=gG.is (k:=k) (ws:=Pu.iZ w) (sep:= [32]) (by omega) (by simp[Pu.iZ]) (Pu.xE hw) (by decide)
 unfold Pu.iZ at h
 rw[←hs]at h
 refine Pu.Ok.cP h ?_
 unfold Pu.iZ
 rw[←hs]
 exact Pu.Ok.ret rfl
theorem bC.is{k:Nat}{w:LI}(hk:4194304+70≤k)(hw:w.length≤1048576):bC k w=some (Pu.tx (Pu.say w)):=by
 obtain⟨k,rfl⟩: ∃k',k=k'+1:=⟨k-1,by omega⟩
 apply Pu.ok_eq
 rw[bC.eq]
 refine Pu.Ok.cP (dN.is (by omega) hw) ?_
 unfold Pu.say
 simp only[cF]
 by_cases hb:Pu.isWord w=true
 ·have e1:(Pu.a7 w).2=true:=by unfold Pu.a7;rw[if_pos hb]
  rw[e1,if_pos hb]
  refine Pu.Ok.tn (fun h=>by cases h) (fun _=> ?_)
  refine Pu.Ok.cP (fk.is (by omega) hw) ?_
  refine Pu.Ok.cP (bp.is (by omega) hw) ?_
  refine Pu.Ok.cP (bW.is (by omega) hw) ?_
  refine Pu.Ok.tb (fun hc=> ?_) (fun hc=> ?_)
  ·exact bC.yM (by omega) hb (by rw[if_pos hc])
  ·exact bC.yM (by omega) hb (by rw[if_neg (by rw[hc];decide)])
 ·have e1:(Pu.a7 w).2=false:=by unfold Pu.a7;rw[if_neg hb]
  rw[e1,if_neg hb]
  exact Pu.Ok.tn (fun _=>Pu.Ok.ret rfl) (fun h=>by cases h)
theorem dw.is{k:Nat}{n:Int}(hk:4194304+80≤k):dw k n=some (Pu.tx (Pu.nC n)):=by
 obtain⟨k,rfl⟩: ∃k',k=k'+1:=⟨k-1,by omega⟩
 apply Pu.ok_eq
 rw[dw.eq]
 have hx:=Pu.vx n
 have hp:=Pu.uY (Pu.tx (Pu.lR n))
 rw[Pu.eY]at hp
 refine Pu.Ok.cP (eI.is (by omega)) ?_
 refine Pu.Ok.cP (aX.is (by omega) (by rw[Pu.eY];omega)) ?_
 unfold Pu.nC
 simp only[cF]
 refine Pu.Ok.tn (fun hb=> ?_) (fun hb=> ?_)
 ·rw[hb];exact Pu.Ok.ret rfl
 ·rw[hb,if_pos rfl]
  exact Pu.Ok.cP (bC.is (by omega) (by omega)) (Pu.Ok.ret rfl)
theorem bz.at{k:Nat}{n:Int}(hk:4194304+80≤k):bz (k+1) n=some true:=by
 apply Pu.ok_eq
 rw[bz.eq]
 refine Pu.Ok.cP (dz.is (by omega)) ?_
 refine Pu.Ok.cP (dw.is (by omega)) ?_
 simp only[wI,beq_self_eq_true]
 exact Pu.Ok.tn (fun h=>by cases h) (fun _=>Pu.Ok.ret rfl)
theorem bz.is{n:Int}: ∃k,bz k n=some true:=⟨_,bz.at (Nat.le_refl _)⟩
end Go.Am.Seat
