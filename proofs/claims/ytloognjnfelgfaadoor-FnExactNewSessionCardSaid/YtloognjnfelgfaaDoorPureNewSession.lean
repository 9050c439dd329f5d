/- What the functions make of data, as plain words; each holds for all data within the bounds that it names. -/
import Derived.Test.YtloognjnfelgfaaDoorEqsNewSession
import Derived.Test.YtloognjnfelgfaaDoorPu
set_option linter.unusedSimpArgs false
set_option linter.unusedVariables false
set_option linter.unnecessarySimpa false
set_option linter.unusedSectionVars false
namespace Go.Am.Seat
open Go Go.Am Go.Am.Pu
attribute [local instance] D.real
set_option linter.unusedSimpArgs false
set_option linter.unusedVariables false
set_option maxRecDepth 4000
theorem cw.is{k:Nat}{n:Int}(hk:1≤k):cw k n=some (Pu.tx (Pu.kB n)):=by
 obtain⟨k,rfl⟩: ∃k',k=k'+1:=⟨k-1,by omega⟩
 rw[cw.eq]
 unfold Pu.kB
 simp only[jx]
 by_cases h1:n=1
 ·rw[if_pos h1];exact tG h1 rfl
 rw[if_neg h1];refine tX h1 ?_
 by_cases h2:n=2
 ·rw[if_pos h2];exact tG h2 rfl
 rw[if_neg h2];refine tX h2 ?_
 by_cases h3:n=3
 ·rw[if_pos h3];exact tG h3 rfl
 rw[if_neg h3];refine tX h3 ?_
 by_cases h4:n=4
 ·rw[if_pos h4];exact tG h4 rfl
 rw[if_neg h4];refine tX h4 ?_
 by_cases h5:n=5
 ·rw[if_pos h5];exact tG h5 rfl
 rw[if_neg h5];refine tX h5 ?_
 by_cases h6:n=6
 ·rw[if_pos h6];exact tG h6 rfl
 rw[if_neg h6];exact tX h6 rfl
theorem iq.is{k:Nat}{x lo hi:Int}(hk:1≤k):iq k x lo hi=some (Pu.within x lo hi):=by
 obtain⟨k,rfl⟩: ∃k',k=k'+1:=⟨k-1,by omega⟩
 rw[iq.eq]
 by_cases h:lo≤x<;>simp[Pu.within,h]
theorem bu.loop{k:Nat}{w:LI}(hk:1≤k)(hw:w.length≤1048576): ∀(m j i:Nat),i+m=w.length→m<j→bu.L0 k j i w=some (decide (w.length≤9)&&(w.drop i).all fun n=>Pu.within n 1 9)
 |m,0,i,_,hj=>by omega
 |0,j+1,i,hi,_=>by
  rw[bu.dJ]
  have hn: ¬(i:Int)<w.length:=by omega
  refine tX hn ?_
  rw[List.drop_of_length_le (by omega)]
  simp
  omega
 |m+1,j+1,i,hi,hj=>by
  have hlt:i<w.length:=by omega
  have hn:(i:Int)<w.length:=by omega
  have ih:=bu.loop hk hw m j (i+1) (by omega) (by omega)
  have hws:IntKind.i64.wrap ((i:Int)+1)=((i+1:Nat):Int):=by rw[w64 (by omega) (by omega)];omega
  rw[bu.dJ,Pu.drop_cons hlt 0]
  simp only[e9,ez,eD,jL,eY,cX,Int.toNat_natCast,hws]
  refine tG hn (tG (Int.natCast_nonneg i) (tG hlt (tG hlt (bE (iq.is (by omega)) ?_))))
  cases c:Pu.within (w.getD i 0) 1 9 with
  |false=>refine tM ?_;simp only[List.all_cons,c,Bool.false_and,Bool.and_false]
  |true=>refine tN ?_;rw[ih,List.all_cons,c,Bool.true_and]
theorem bu.is{k:Nat}{w:LI}(hk:4194304+2≤k)(hw:w.length≤1048576):bu k w=some (Pu.isWord w):=by
 obtain⟨k,rfl⟩: ∃k',k=k'+1:=⟨k-1,by omega⟩
 have h:=bu.loop (k:=k) (by omega) hw w.length k 0 (by omega) (by omega)
 rw[Int.natCast_zero,List.drop_zero]at h
 rw[bu.eq]
 exact h
theorem aL.CH{k:Nat}: ∀(m j:Nat) (n:Int) (s:List UInt8),0≤n→n<10^m→m≤2→m<j→s.length+m≤1000→Pu.Ok (aL.L0 k j n false (Pu.tx s)) (· =Pu.tx ((if n=0 then []else Pu.dcm n)++s))
 |m,0,n,s,_,_,_,hj,_=>by omega
 |m,j+1,n,s,h0,hn,hm,hj,hs=>by
  rw[aL.dJ]
  simp only[jQ,js,fm,gB,gP,ez,eD,e9,jL,fV,gQ,ef,ep,gG,cX,eY,gC,ij,jl,jx,gM,gO,eT,eR,eU,eV,List.nil_append,List.cons_append]
  refine Pu.Ok.tnd (fun hz=> ?_) (fun hz=> ?_)
  ·obtain⟨m,rfl⟩: ∃m',m=m'+1:=by
    cases m with
    |zero=>simp at hn;omega
    |succ m=>exact⟨m,rfl⟩
   have h10:n<100:=by
    have:(10:Int)^(m+1)≤10^2:=by rcases(by omega:m=0∨m=1)with rfl|rfl<;>decide
    omega
   refine Pu.Ok.gn (by decide) ?_
   simp only[CL,CE]
   have e1:n.tmod 10=n % 10:=Int.tmod_eq_emod_of_nonneg h0
   have e2:n.tdiv 10=n/10:=Int.tdiv_eq_ediv_of_nonneg h0
   refine Pu.Ok.no (by rw[e1];omega) ?_
   rw[aL.vV]
   simp only[CL,CE,BK,e1,e2]
   simp only[jQ,js,fm,gB,gP,ez,eD,e9,jL,fV,gQ,ef,ep,gG,cX,eY,gC,ij,jl,jx,gM,gO,eT,eR,eU,eV,List.nil_append,List.cons_append]
   rw[w64 (n:=48+n % 10) (by omega) (by omega),w64 (n:=n/10) (by omega) (by omega)]
   have ed:(⟨(([IntKind.u8.wrap (48+n % 10)]:LI).map fun n=>UInt8.ofNat n.toNat).toArray⟩:ByteArray)=Pu.tx [UInt8.ofNat (48+n.toNat % 10)]:=by
    have h1:IntKind.u8.wrap (48+n % 10)=48+n % 10:=by
     simp[IntKind.wrap,IntKind.bits,IntKind.signed];omega
    have h2:(48+n % 10).toNat=48+n.toNat % 10:=by omega
    simp only[List.map_cons,List.map_nil,h1,h2]
    rfl
   rw[ed,Pu.Bv,Pu.nj,Pu.nj]
   refine Pu.Ok.g (by simp only[List.length_cons,List.length_nil];omega) ?_
   refine Pu.Ok.gn (by decide) ?_
   refine(aL.CH m j (n/10) _ (by omega) (by rw[Int.pow_succ]at hn;omega) (by omega) (by omega) (by simp only[List.length_append,List.length_cons,List.length_nil];omega)).mono ?_
   rintro _ rfl
   rw[if_neg hz]
   congr 1
   by_cases hc:n<10
   ·rw[if_pos (by omega),Pu.mZ hc]
    have:n.toNat % 10=n.toNat:=by omega
    rw[this];rfl
   ·rw[if_neg (by omega),Pu.mZ (n:=n/10) (by omega),Pu.za (by omega) h10]
    have:(n/10).toNat=n.toNat/10:=by omega
    rw[this];rfl
  ·rw[if_pos hz]
   exact Pu.Ok.tb (fun h=>by cases h) (fun _=>Pu.Ok.ret rfl)
theorem aL.isE{k:Nat}{n:Int}(hk:1000≤k)(h0:0≤n)(h1:n<100):aL k n=some (Pu.tx (Pu.dcm n)):=by
 obtain⟨k,rfl⟩: ∃k',k=k'+1:=⟨k-1,by omega⟩
 apply Pu.ok_eq
 rw[aL.eq]
 simp only[jQ,js,fm,gB,gP,ez,eD,e9,jL,fV,gQ,ef,ep,gG,cX,eY,gC,ij,jl,jx,gM,gO,eT,eR,eU,eV,List.nil_append,List.cons_append]
 refine Pu.Ok.t (fun h=> ?_) (fun h=> ?_)
 ·subst h
  rw[Pu.mZ (by decide)]
  exact Pu.Ok.ret rfl
 ·rw[decide_eq_false (by omega: ¬n<0)]
  refine(aL.CH (k:=k) 2 k n [] h0 (by omega) (by omega) (by omega) (by decide)).mono ?_
  rintro _ rfl
  rw[if_neg h,List.append_nil]
theorem aZ.loop{k:Nat}{w:LI}(hk:2000≤k)(hw:w.length≤9)(hl: ∀x∈w,1≤x∧x≤9): ∀(m j i:Nat),i+m=w.length→m<j→Pu.Ok (aZ.L0 k j (Pu.tx (Pu.kG (w.take i))) i w) (· =Pu.tx (Pu.kG w))
 |m,0,i,_,hj=>by omega
 |0,j+1,i,hi,_=>by
  rw[aZ.dJ]
  simp only[jQ,js,fm,gB,gP,ez,eD,e9,jL,fV,gQ,ef,ep,gG,cX,eY,gC,ij,jl,jx,gM,gO,eT,eR,eU,eV,List.nil_append,List.cons_append]
  refine Pu.Ok.no (by omega) ?_
  rw[List.take_of_length_le (by omega)]
  exact Pu.Ok.ret rfl
 |m+1,j+1,i,hi,hj=>by
  rw[aZ.dJ]
  simp only[jQ,js,fm,gB,gP,ez,eD,e9,jL,fV,gQ,ef,ep,gG,cX,eY,gC,ij,jl,jx,gM,gO,eT,eR,eU,eV,List.nil_append,List.cons_append]
  (try simp only[Int.toNat_natCast]);(try simp (disch:=omega) only[w64])
  (repeat (refine Pu.Ok.g (by first|omega|assumption|(simp only[List.length_append,List.length_cons,List.length_nil,List.length_set,List.length_take,List.length_drop,List.length_replicate]at*;omega)) ?_))
  have hm:w.getD i 0∈w:=by rw[Pu.aw (show i<w.length by omega) _];exact List.getElem_mem _
  have hx:=hl _ hm
  refine Pu.Ok.ig (aL.isE (by omega) (by omega) (by omega)) ?_
  have h1:=Pu.yb (w:=w.take i) (fun x hx=>by have:=(hl x (List.mem_of_mem_take hx)).2;omega)
  have h2:=Pu.uX (n:=w.getD i 0) (by omega)
  rw[List.length_take]at h1
  rw[Pu.Bv,Pu.nj,Pu.nj]
  refine Pu.Ok.g (by omega) ?_
  (try simp only[Int.toNat_natCast]);(try simp (disch:=omega) only[w64])
  have e:Pu.kG (w.take i)++Pu.dcm (w.getD i 0)=Pu.kG (w.take (i+1)):=by
   unfold Pu.kG
   rw[List.take_add_one,List.flatMap_append,List.getElem?_eq_getElem (show i<w.length by omega),Pu.aw (show i<w.length by omega) _]
   simp
  rw[e]
  exact aZ.loop hk hw hl m j (i+1) (by omega) (by omega)
theorem aZ.is{k:Nat}{w:LI}(hk:4194304+10≤k)(hw:w.length≤1048576):aZ k w=some (Pu.tx (Pu.il w)):=by
 obtain⟨k,rfl⟩: ∃k',k=k'+1:=⟨k-1,by omega⟩
 apply Pu.ok_eq
 rw[aZ.eq]
 refine Pu.Ok.ig (bu.is (by omega) hw) ?_
 unfold Pu.il
 simp only[jQ,js,fm,gB,gP,ez,eD,e9,jL,fV,gQ,ef,ep,gG,cX,eY,gC,ij,jl,jx,gM,gO,eT,eR,eU,eV,List.nil_append,List.cons_append]
 refine Pu.Ok.tn (fun hb=> ?_) (fun hb=> ?_)
 ·rw[hb];exact Pu.Ok.ret rfl
 ·rw[hb]
  obtain⟨h1,h2⟩:=Pu.mo hb
  refine Pu.Ok.t (fun h=> ?_) (fun h=> ?_)
  ·have:w= []:=List.eq_nil_of_length_eq_zero (by omega)
   subst this
   exact Pu.Ok.ret rfl
  ·have h0:w≠ []:=fun e=>h (by rw[e];rfl)
   rw[if_pos rfl,if_neg h0]
   exact aZ.loop (k:=k) (by omega) h1 h2 w.length k 0 (by omega) (by omega)
theorem ar.CN{k:Nat}{s:ByteArray}{w:LI}(hk:4194304+10≤k)(hw:w.length≤1000)(e:(if(s.toList==(Pu.tx [45]).toList)=true then []else Pu.bY s.data.toList)=w):Pu.Ok (ar.J2 k s w) (· =Pu.gu s):=by
 rw[ar.Dp]
 refine Pu.Ok.ig (aZ.is (by omega) (by omega)) ?_
 unfold Pu.gu
 rw[e]
 simp only[xr,jl]
 refine Pu.Ok.tn (fun hb=> ?_) (fun hb=> ?_)
 ·rw[hb];exact Pu.Ok.ret rfl
 ·rw[hb];exact Pu.Ok.ret rfl
theorem ar.loop{k:Nat}{s:ByteArray}(hk:4194304+10≤k)(hs:s.size≤1000)(hd:(s.toList==(Pu.tx [45]).toList)=false): ∀(m j i:Nat) (acc:LI),i+m=s.size→m<j→acc=Pu.bY (s.data.toList.take i)→Pu.Ok (ar.L0 k j s i acc) (· =Pu.gu s)
 |m,0,i,acc,_,hj,_=>by omega
 |0,j+1,i,acc,hi,_,ha=>by
  rw[ar.dJ]
  simp only[jQ,js,fm,gB,gP,ez,eD,e9,jL,fV,gQ,ef,ep,gG,cX,eY,gC,ij,jl,jx,gM,gO,eT,eR,eU,eV,List.nil_append,List.cons_append]
  refine Pu.Ok.no (by omega) ?_
  have hsz:s.data.toList.length=s.size:=rfl
  have e:acc=Pu.bY s.data.toList:=by rw[ha,List.take_of_length_le (by omega)]
  refine ar.CN hk (by rw[e];unfold Pu.bY;rw[List.length_map];omega) ?_
  rw[hd,e];rfl
 |m+1,j+1,i,acc,hi,hj,ha=>by
  rw[ar.dJ]
  have hsz:s.data.toList.length=s.size:=rfl
  have hlen:acc.length=i:=by rw[ha];unfold Pu.bY;rw[List.length_map,List.length_take];omega
  simp only[jQ,js,fm,gB,gP,ez,eD,e9,jL,fV,gQ,ef,ep,gG,cX,eY,gC,ij,jl,jx,gM,gO,eT,eR,eU,eV,List.nil_append,List.cons_append]
  refine Pu.Ok.g (by omega) ?_
  simp only[xr]
  have e45:(⟨#[45]⟩:ByteArray)=Pu.tx [45]:=rfl
  rw[e45,hd]
  refine Pu.Ok.tn (fun _=> ?_) (fun h=>by cases h)
  rw[ar.vV]
  simp only[A4]
  simp only[jQ,js,fm,gB,gP,ez,eD,e9,jL,fV,gQ,ef,ep,gG,cX,eY,gC,ij,jl,jx,gM,gO,eT,eR,eU,eV,List.nil_append,List.cons_append]
  (try simp only[Int.toNat_natCast]);(try simp (disch:=omega) only[w64])
  have hb:=(s.data.getD i 0).toNat_lt
  have e1:=w64 (n:=((s.data.getD i 0).toNat:Int)) (by omega) (by omega)
  have e2:=w64 (n:=((s.data.getD i 0).toNat:Int)-48) (by omega) (by omega)
  simp only[e1,e2]
  (repeat (refine Pu.Ok.g (by first|omega|assumption|(simp only[List.length_append,List.length_cons,List.length_nil,List.length_set,List.length_take,List.length_drop,List.length_replicate]at*;omega)) ?_))
  refine ar.loop hk hs hd m j (i+1) _ (by omega) (by omega) ?_
  rw[ha]
  unfold Pu.bY
  rw[List.take_add_one,List.map_append,List.getElem?_eq_getElem (show i<s.data.toList.length by omega)]
  have:s.data.getD i 0=s.data.toList[i]'(show i<s.data.toList.length by omega):=by
   have h':i<s.data.size:=by
    have:s.data.size=s.size:=rfl
    omega
   rw[Array.getD,dif_pos h'];rfl
  rw[this];rfl
theorem ar.is{k:Nat}{s:ByteArray}(hk:4194304+20≤k)(hs:s.size≤1000):ar k s=some (Pu.gu s):=by
 obtain⟨k,rfl⟩: ∃k',k=k'+1:=⟨k-1,by omega⟩
 apply Pu.ok_eq
 rw[ar.eq]
 cases hd:(s.toList==(Pu.tx [45]).toList)with
 |false=>exact ar.loop (k:=k) (by omega) hs hd s.size k 0 [] (by omega) (by omega) rfl
 |true=>
  obtain⟨j,hj⟩: ∃j,k=j+1:=⟨k-1,by omega⟩
  have key:Pu.Ok (ar.J2 k s []) (· =Pu.gu s):=ar.CN (by omega) (by simp) (by rw[hd];rfl)
  suffices h: ∀k',Pu.Ok (ar.L0 k (k'+1) s 0 []) (· =Pu.gu s) by
   have:=h j
   rw[←hj]at this
   exact this
  intro k'
  rw[ar.dJ]
  simp only[jQ,js,fm,gB,gP,ez,eD,e9,jL,fV,gQ,ef,ep,gG,cX,eY,gC,ij,jl,jx,gM,gO,eT,eR,eU,eV,List.nil_append,List.cons_append]
  refine Pu.Ok.t (fun _=> ?_) (fun _=>key)
  simp only[xr]
  have e45:(⟨#[45]⟩:ByteArray)=Pu.tx [45]:=rfl
  rw[e45,hd]
  exact Pu.Ok.tn (fun h=>by cases h) (fun _=>key)
theorem cS.is{k:Nat}(hk:4194304+30≤k):cS k=some (Pu.cG,Pu.cG):=by
 obtain⟨k,rfl⟩: ∃k',k=k'+1:=⟨k-1,by omega⟩
 apply Pu.ok_eq
 rw[cS.eq]
 refine Pu.Ok.ig (cw.is (by omega)) ?_
 refine Pu.Ok.ig (ar.is (by omega) (by rw[Pu.nj];have:=Pu.n5 1;omega)) ?_
 have h:(Pu.gu (Pu.tx (Pu.kB 1))).1=Pu.cG:=rfl
 have:=Pu.lH
 rw[h]
 simp only[jQ,js,fm,gB,gP,ez,eD,e9,jL,fV,gQ,ef,ep,gG,cX,eY,gC,ij,jl,jx,gM,gO,eT,eR,eU,eV,List.nil_append,List.cons_append]
 (repeat (refine Pu.Ok.g (by first|omega|assumption|(simp only[List.length_append,List.length_cons,List.length_nil,List.length_set,List.length_take,List.length_drop,List.length_replicate]at*;omega)) ?_))
 exact Pu.Ok.ret rfl
theorem dE.is{k:Nat}{x lo hi:Int}(hk:1≤k):dE k x lo hi=some (Pu.within x lo hi):=by
 obtain⟨k,rfl⟩: ∃k',k=k'+1:=⟨k-1,by omega⟩
 rw[dE.eq]
 by_cases h:lo≤x<;>simp[Pu.within,h]
theorem cy.is{k:Nat}{n:Int}(hk:2≤k):cy k n=some (Pu.tx (Pu.kB n)):=by
 obtain⟨k,rfl⟩: ∃k',k=k'+1:=⟨k-1,by omega⟩
 apply Pu.ok_eq
 rw[cy.eq]
 refine Pu.Ok.ig (dE.is (by omega)) ?_
 unfold Pu.within
 by_cases c:1≤n∧n≤6
 ·have e:n=1∨n=2∨n=3∨n=4∨n=5∨n=6:=by omega
  rcases e with rfl|rfl|rfl|rfl|rfl|rfl<;>exact Pu.Ok.ret rfl
 ·have e:(decide (1≤n)&&decide (n≤6))=false:=by
   rw[Bool.and_eq_false_iff]
   by_cases h:1≤n
   ·right;exact decide_eq_false (by omega)
   ·left;exact decide_eq_false h
  rw[e]
  have e2:Pu.kB n= []:=by
   unfold Pu.kB
   rw[if_neg (by omega),if_neg (by omega),if_neg (by omega),if_neg (by omega),if_neg (by omega),if_neg (by omega)]
  rw[e2]
  exact Pu.Ok.ret rfl
theorem cU.is{k:Nat}{x:Int}(hk:2≤k):cU k x=some (!Pu.within x 1 9,()):=by
 obtain⟨k,rfl⟩: ∃k',k=k'+1:=⟨k-1,by omega⟩
 rw[cU.eq,dE.is (by omega)]
 rfl
theorem al.is{k:Nat}{r:LI}(hk:4194304+1≤k)(hr:r.length≤1048577):al k r=some (Pu.Aq (fun y=> !Pu.within y 1 9) r,()):=by
 obtain⟨k,rfl⟩: ∃k',k=k'+1:=⟨k-1,by omega⟩
 rw[al.eq]
 have h:=Pu.wZ r 0 (fun y=> !Pu.within y 1 9) (fun j i=>al.L0 k j r.length i r) (fun i=>some ((i:Int),())) (some (-1,()))
  (fun j i hi=>by
   rw[al.dJ,cU.is (by omega)]
   cases c:Pu.within (r.getD i 0) 1 9<;>simp (disch:=omega) only[↓mr,sss,if_true,if_false,hi,c,Int.natCast_add,Int.natCast_one])
  (fun j=>by
   rw[al.dJ]
   simp only[↓mr,sss,if_true,if_false,Nat.lt_irrefl]) r.length k 0 (by omega) (by omega) (by omega)
 simp only[Int.natCast_zero]at h
 simp only[eD,ez]
 rw[h]
 unfold Pu.Aq
 split<;>rfl
theorem aF.is{k:Nat}{r:LI}(hk:4194304+2≤k)(hr:r.length≤1048577):aF k r=some (r.any fun y=> !Pu.within y 1 9,()):=by
 obtain⟨k,rfl⟩: ∃k',k=k'+1:=⟨k-1,by omega⟩
 rw[aF.eq,al.is (by omega) hr,iy,js,Pu.A7]
theorem fh.is{k:Nat}{w:LI}(hk:4194304+3≤k)(hw:w.length≤1048576):fh k w=some (Pu.isWord w):=by
 obtain⟨k,rfl⟩: ∃k',k=k'+1:=⟨k-1,by omega⟩
 rw[fh.eq,aF.is (by omega) (by omega),iy]
 unfold Pu.isWord
 have e:(!w.any fun y=> !Pu.within y 1 9)=w.all fun n=>Pu.within n 1 9:=by rw[List.all_eq_not_any_not]
 by_cases c:w.length≤9
 ·have c':(w.length:Int)≤9:=by omega
  simp only[↓mr,sss,if_true,if_false,c,c',e]
 ·have c': ¬(w.length:Int)≤9:=by omega
  simp only[↓mr,sss,if_true,if_false,c,c']
theorem strconv_Itoa.is{k:Nat}{n:Int}(hk:1≤k)(h0:0≤n)(h1:n<100):strconv_Itoa k n=some (Pu.tx (Pu.dcm n)):=by
 obtain⟨k,rfl⟩: ∃k',k=k'+1:=⟨k-1,by omega⟩
 rw[strconv_Itoa.eq]
 exact Pu.zS h0 h1
theorem dk.is{k:Nat}{n:Int}(hk:2≤k)(h0:0≤n)(h1:n<100):dk k n=some (Pu.tx (Pu.dcm n)):=by
 obtain⟨k,rfl⟩: ∃k',k=k'+1:=⟨k-1,by omega⟩
 rw[dk.eq,strconv_Itoa.is (by omega) h0 h1,iy]
theorem strings_Join.is{k:Nat}{ws:List (List UInt8)}{sep:List UInt8}(hk:1≤k)(h1:ws.length≤1000)(h2: ∀w∈ws,w.length≤10000)(hs:sep.length≤10):strings_Join k (ws.map Pu.tx) (Pu.tx sep)=some (Pu.tx (Lib.join ws sep)):=by
 obtain⟨k,rfl⟩: ∃k',k=k'+1:=⟨k-1,by omega⟩
 rw[strings_Join.eq]
 exact Pu.zX h1 h2 hs
theorem iz.is{k:Nat}{ws:List (List UInt8)}{sep:List UInt8}(hk:2≤k)(h1:ws.length≤1000)(h2: ∀w∈ws,w.length≤10000)(hs:sep.length≤10):iz k (ws.map Pu.tx) (Pu.tx sep)=some (Pu.tx (Lib.join ws sep)):=by
 obtain⟨k,rfl⟩: ∃k',k=k'+1:=⟨k-1,by omega⟩
 rw[iz.eq,strings_Join.is (by omega) h1 h2 hs,iy]
theorem bt.loop{k:Nat}{sep:List UInt8}{l:LI}(hk:10≤k)(hs:sep.length≤10)(hn:l.length≤1000)(hl: ∀x∈l,0≤x∧x<100): ∀(m j i:Nat) (acc:List ByteArray),i+m=l.length→m<j→acc=(l.take i).map (fun n=>Pu.tx (Pu.dcm n))→Pu.Ok (bt.L0 k j (Pu.tx sep) (l.length:Int) i acc l) (· =Pu.tx (Lib.join (l.map Pu.dcm) sep))
 |m,0,i,acc,_,hj,_=>by omega
 |0,j+1,i,acc,hi,_,ha=>by
  rw[bt.dJ]
  simp only[jQ,js,fm,gB,gP,ez,eD,e9,jL,fV,gQ,ef,ep,gG,cX,eY,gC,ij,jl,jx,gM,gO,eT,eR,eU,eV,List.nil_append,List.cons_append]
  refine Pu.Ok.no (by omega) ?_
  have e:acc=(l.map Pu.dcm).map Pu.tx:=by
   rw[ha,List.take_of_length_le (by omega),List.map_map];rfl
  rw[e]
  refine Pu.Ok.ig (iz.is (by omega) (by rw[List.length_map];omega) (fun w hw=> ?_) hs) (Pu.Ok.ret rfl)
  obtain⟨x,hx,rfl⟩:=List.mem_map.1 hw
  have:=Pu.uX (hl x hx).2
  omega
 |m+1,j+1,i,acc,hi,hj,ha=>by
  rw[bt.dJ]
  have hlen:acc.length=i:=by rw[ha,List.length_map,List.length_take];omega
  simp only[jQ,js,fm,gB,gP,ez,eD,e9,jL,fV,gQ,ef,ep,gG,cX,eY,gC,ij,jl,jx,gM,gO,eT,eR,eU,eV,List.nil_append,List.cons_append]
  (try simp only[Int.toNat_natCast]);(try simp (disch:=omega) only[w64])
  (repeat (refine Pu.Ok.g (by first|omega|assumption|(simp only[List.length_append,List.length_cons,List.length_nil,List.length_set,List.length_take,List.length_drop,List.length_replicate]at*;omega)) ?_))
  have hm:l.getD i 0∈l:=by rw[Pu.aw (show i<l.length by omega) _];exact List.getElem_mem _
  refine Pu.Ok.ig (dk.is (by omega) (hl _ hm).1 (hl _ hm).2) ?_
  (repeat (refine Pu.Ok.g (by first|omega|assumption|(simp only[List.length_append,List.length_cons,List.length_nil,List.length_set,List.length_take,List.length_drop,List.length_replicate]at*;omega)) ?_))
  (try simp only[Int.toNat_natCast]);(try simp (disch:=omega) only[w64])
  refine bt.loop hk hs hn hl m j (i+1) _ (by omega) (by omega) ?_
  rw[ha,List.take_add_one,List.map_append,List.getElem?_eq_getElem (show i<l.length by omega),Pu.aw (show i<l.length by omega) _]
  rfl
theorem bt.is{k:Nat}{sep:List UInt8}{l:LI}(hk:2000≤k)(hs:sep.length≤10)(hn:l.length≤1000)(hl: ∀x∈l,0≤x∧x<100):bt k l (Pu.tx sep)=some (Pu.tx (Lib.join (l.map Pu.dcm) sep)):=by
 obtain⟨k,rfl⟩: ∃k',k=k'+1:=⟨k-1,by omega⟩
 apply Pu.ok_eq
 rw[bt.eq]
 exact bt.loop (k:=k) (by omega) hs hn hl l.length k 0 [] (by omega) (by omega) rfl
theorem dN.is{k:Nat}{w:LI}(hk:4194304+10≤k)(hw:w.length≤1048576):dN k w=some (Pu.tx (Pu.il w)):=by
 obtain⟨k,rfl⟩: ∃k',k=k'+1:=⟨k-1,by omega⟩
 apply Pu.ok_eq
 rw[dN.eq]
 refine Pu.Ok.ig (fh.is (by omega) hw) ?_
 unfold Pu.il
 simp only[jQ,js,fm,gB,gP,ez,eD,e9,jL,fV,gQ,ef,ep,gG,cX,eY,gC,ij,jl,jx,gM,gO,eT,eR,eU,eV,List.nil_append,List.cons_append]
 refine Pu.Ok.tn (fun hb=> ?_) (fun hb=> ?_)
 ·rw[hb];exact Pu.Ok.ret rfl
 ·rw[hb]
  obtain⟨h1,h2⟩:=Pu.mo hb
  refine Pu.Ok.t (fun h=> ?_) (fun h=> ?_)
  ·have:w= []:=List.eq_nil_of_length_eq_zero (by omega)
   subst this
   exact Pu.Ok.ret rfl
  ·have h0:w≠ []:=fun e=>h (by rw[e];rfl)
   rw[if_pos rfl,if_neg h0]
   refine Pu.Ok.ig (bt.is (sep:= []) (by omega) (by decide) (by omega) (fun x hx=>⟨by have:=(h2 x hx).1;omega,by have:=(h2 x hx).2;omega⟩)) ?_
   rw[Pu.wP]
   exact Pu.Ok.ret rfl
theorem aD.CM{k:Nat}{s:ByteArray}{w:LI}(hk:4194304+11≤k)(hw:w.length≤1000)(e:(if(s.toList==(Pu.tx [45]).toList)=true then []else Pu.bY s.data.toList)=w):Pu.Ok (aD.J1 k s w) (· =Pu.gu s):=by
 rw[aD.vV]
 refine Pu.Ok.ig (dN.is (by omega) (by omega)) ?_
 unfold Pu.gu
 rw[e]
 simp only[xr,jl]
 refine Pu.Ok.tn (fun hb=> ?_) (fun hb=> ?_)
 ·rw[hb];exact Pu.Ok.ret rfl
 ·rw[hb];exact Pu.Ok.ret rfl
theorem aD.loop{k:Nat}{s:ByteArray}(hk:4194304+11≤k)(hs:s.size≤1000)(hd:(s.toList==(Pu.tx [45]).toList)=false): ∀(m j i:Nat) (acc:LI),i+m=s.size→m<j→acc=Pu.bY (s.data.toList.take i)→Pu.Ok (aD.L0 k j s (s.size:Int) i acc) (· =Pu.gu s)
 |m,0,i,acc,_,hj,_=>by omega
 |0,j+1,i,acc,hi,_,ha=>by
  rw[aD.dJ]
  simp only[jQ,js,fm,gB,gP,ez,eD,e9,jL,fV,gQ,ef,ep,gG,cX,eY,gC,ij,jl,jx,gM,gO,eT,eR,eU,eV,List.nil_append,List.cons_append]
  refine Pu.Ok.no (by omega) ?_
  have hsz:s.data.toList.length=s.size:=rfl
  have e:acc=Pu.bY s.data.toList:=by rw[ha,List.take_of_length_le (by omega)]
  refine aD.CM hk (by rw[e];unfold Pu.bY;rw[List.length_map];omega) ?_
  rw[hd,e];rfl
 |m+1,j+1,i,acc,hi,hj,ha=>by
  rw[aD.dJ]
  have hsz:s.data.toList.length=s.size:=rfl
  have hlen:acc.length=i:=by rw[ha];unfold Pu.bY;rw[List.length_map,List.length_take];omega
  simp only[A4]
  simp only[jQ,js,fm,gB,gP,ez,eD,e9,jL,fV,gQ,ef,ep,gG,cX,eY,gC,ij,jl,jx,gM,gO,eT,eR,eU,eV,List.nil_append,List.cons_append]
  (try simp only[Int.toNat_natCast]);(try simp (disch:=omega) only[w64])
  have hb:=(s.data.getD i 0).toNat_lt
  have e1:=w64 (n:=((s.data.getD i 0).toNat:Int)) (by omega) (by omega)
  have e2:=w64 (n:=((s.data.getD i 0).toNat:Int)-48) (by omega) (by omega)
  simp only[e1,e2]
  (repeat (refine Pu.Ok.g (by first|omega|assumption|(simp only[List.length_append,List.length_cons,List.length_nil,List.length_set,List.length_take,List.length_drop,List.length_replicate]at*;omega)) ?_))
  refine aD.loop hk hs hd m j (i+1) _ (by omega) (by omega) ?_
  rw[ha]
  unfold Pu.bY
  rw[List.take_add_one,List.map_append,List.getElem?_eq_getElem (show i<s.data.toList.length by omega)]
  have:s.data.getD i 0=s.data.toList[i]'(show i<s.data.toList.length by omega):=by
   have h':i<s.data.size:=by
    have:s.data.size=s.size:=rfl
    omega
   rw[Array.getD,dif_pos h'];rfl
  rw[this];rfl
theorem aD.is{k:Nat}{s:ByteArray}(hk:4194304+20≤k)(hs:s.size≤1000):aD k s=some (Pu.gu s):=by
 obtain⟨k,rfl⟩: ∃k',k=k'+1:=⟨k-1,by omega⟩
 apply Pu.ok_eq
 rw[aD.eq]
 simp only[xr]
 have e45:(⟨#[45]⟩:ByteArray)=Pu.tx [45]:=rfl
 rw[e45]
 cases hd:(s.toList==(Pu.tx [45]).toList)with
 |false=>exact Pu.Ok.tn (fun _=>aD.loop (k:=k) (by omega) hs hd s.size k 0 [] (by omega) (by omega) rfl) (fun h=>by cases h)
 |true=>exact Pu.Ok.tn (fun h=>by cases h) (fun _=>aD.CM (by omega) (by simp) (by rw[hd];rfl))
theorem bK.is{k:Nat}{a:LI}(hk:1≤k)(ha:a.length≤1099511627776):bK k a=some a:=by
 obtain⟨k,rfl⟩: ∃k',k=k'+1:=⟨k-1,by omega⟩
 rw[bK.eq]
 by_cases h:a.length=0
 ·have:a= []:=List.eq_nil_of_length_eq_zero h
  subst this
  simp[Da,zV]
 ·simp[h,ha]
theorem b7.is{k:Nat}(hk:4194304+30≤k):b7 k=some (Pu.cG,Pu.cG):=by
 obtain⟨k,rfl⟩: ∃k',k=k'+1:=⟨k-1,by omega⟩
 apply Pu.ok_eq
 rw[b7.eq]
 refine Pu.Ok.ig (cy.is (by omega)) ?_
 refine Pu.Ok.ig (aD.is (by omega) (by rw[Pu.nj];have:=Pu.n5 1;omega)) ?_
 have h:(Pu.gu (Pu.tx (Pu.kB 1))).1=Pu.cG:=rfl
 have:=Pu.lH
 rw[h]
 refine Pu.Ok.ig (bK.is (by omega) (by omega)) ?_
 exact Pu.Ok.ret rfl
theorem bg.loop{k:Nat}{a b:LI}(hl:a.length=b.length)(ha:a.length≤1048576): ∀(m j i:Nat),i+m=a.length→m<j→bg.L0 k j i a b=some (decide (a.drop i=b.drop i))
 |m,0,i,_,hj=>by omega
 |0,j+1,i,hi,_=>by
  rw[bg.dJ]
  have e:i=a.length:=by omega
  subst e
  simp[hl]
 |m+1,j+1,i,hi,hj=>by
  rw[bg.dJ]
  have h1:i<a.length:=by omega
  have h2:i<b.length:=by omega
  have ih:=bg.loop (k:=k) hl ha m j (i+1) (by omega) (by omega)
  rw[Int.natCast_succ]at ih
  rw[Pu.drop_cons h1 0,Pu.drop_cons h2 0]
  by_cases e:a.getD i 0=b.getD i 0<;>simp (disch:=omega) only[mr,jQ,js,fm,ez,eD,e9,jL,cX,eY,jl,jx,w64,Int.toNat_natCast,decide_eq_true_eq,Int.ofNat_lt,h1,h2,if_true,Int.natCast_nonneg,decide_true,ih,e,List.cons.injEq,true_and,false_and,decide_false,Bool.not_true,Bool.not_false,if_false,Bool.false_eq_true]
theorem bg.is{k:Nat}{a b:LI}(hk:4194304+1≤k)(ha:a.length≤1048576):bg k a b=some (decide (a=b)):=by
 obtain⟨k,rfl⟩: ∃k',k=k'+1:=⟨k-1,by omega⟩
 rw[bg.eq]
 by_cases hl:a.length=b.length
 ·have h:=bg.loop (k:=k) hl ha a.length k 0 (by omega) (by omega)
  rw[Int.natCast_zero]at h
  simp only[List.drop_zero]at h
  have hl':(a.length:Int)=b.length:=by omega
  simp only[mr,jl,jx,eD,ez,hl',decide_true,Bool.not_true,Bool.false_eq_true,if_false,h]
 ·have hne:a≠b:=fun e=>hl (by rw[e])
  have hl': ¬(a.length:Int)=b.length:=by omega
  simp[hl',hne]
theorem ch.same{k:Nat}{a b:LI}(hk:4194304+3≤k)(h1:a.length≤1048576)(h2:b.length≤1048576):ch k (a,b) (a,b)=some true:=by
 obtain⟨k,rfl⟩: ∃k',k=k'+1:=⟨k-1,by omega⟩
 apply Pu.ok_eq
 rw[ch.eq]
 have e1:=bg.is (k:=k) (a:=a) (b:=a) (by omega) h1
 have e2:=bg.is (k:=k) (a:=b) (b:=b) (by omega) h2
 simp only[beq_self_eq_true,decide_true]at e1 e2
 exact Pu.Ok.ig e1 (Pu.Ok.ig e2 (Pu.Ok.ret rfl))
theorem aJ.loop{k:Nat}: ∀(m j i:Nat) (q:Int) (a:LI),i+m=a.length→m<j→a.length≤1048576→0≤q→q+m≤4000000000000→aJ.L0 k j q i a=some (q+m,a.take i++Pu.mark (a.drop i) q)
 |m,0,i,q,a,_,hj,_,_,_=>by omega
 |0,j+1,i,q,a,hi,_,_,_,_=>by
  rw[aJ.dJ]
  have e:i=a.length:=by omega
  subst e
  simp[Pu.mark]
 |m+1,j+1,i,q,a,hi,hj,ha,hq,hq2=>by
  rw[aJ.dJ]
  have h1:i<a.length:=by omega
  have ih:=aJ.loop (k:=k) m j (i+1) (q+1) (a.set i q) (by simp;omega) (by omega) (by simpa using ha) (by omega) (by omega)
  rw[Int.natCast_succ]at ih
  have e1:(a.set i q).take (i+1)=a.take i++ [q]:=by
   rw[Pu.take_succ (by simpa using h1) 0,List.take_set_of_le (Nat.le_refl _)]
   simp[h1]
  have e2:(a.set i q).drop (i+1)=a.drop (i+1):=by rw[List.drop_set_of_lt (by omega)]
  rw[e1,e2]at ih
  rw[Pu.drop_cons h1 0]
  simp (disch:=omega) only[mr,jQ,js,fm,ez,eD,e9,fV,cX,eY,w64,Int.toNat_natCast,decide_eq_true_eq,Int.ofNat_lt,h1,if_true,Int.natCast_nonneg,decide_true,ih,Pu.mark]
  simp
  omega
theorem aJ.is{k:Nat}{a:LI}{q:Int}(hk:4194304+1≤k)(ha:a.length≤1048576)(hq:0≤q)(hq2:q+a.length≤4000000000000):aJ k q a=some (q+a.length,Pu.mark a q):=by
 obtain⟨k,rfl⟩: ∃k',k=k'+1:=⟨k-1,by omega⟩
 rw[aJ.eq]
 have h:=aJ.loop (k:=k) a.length k 0 q a (by omega) (by omega) ha hq hq2
 rw[Int.natCast_zero]at h
 simpa using h
theorem bO.is{k:Nat}{a b:LI}(hk:4194304+3≤k)(h1:a.length≤1048576)(h2:b.length≤1048576):bO k 1 a b=some (1+(a.length:Int)+b.length,(Pu.mark a 1,Pu.mark b (1+a.length))):=by
 obtain⟨k,rfl⟩: ∃k',k=k'+1:=⟨k-1,by omega⟩
 apply Pu.ok_eq
 rw[bO.eq]
 exact Pu.Ok.ig (aJ.is (by omega) h1 (by omega) (by omega)) (Pu.Ok.ig (aJ.is (by omega) h2 (by omega) (by omega)) (Pu.Ok.ret rfl))
theorem aT.loop{k:Nat}{a:LI}(ha:a.length≤1048576): ∀(m j i:Nat) (q:Int),i+m=a.length→m<j→0≤q→q+m≤4000000000000→aT.L0 k j q i a=some (Pu.held (a.drop i) q)
 |m,0,i,q,_,hj,_,_=>by omega
 |0,j+1,i,q,hi,_,_,_=>by
  rw[aT.dJ]
  have e:i=a.length:=by omega
  subst e
  simp[Pu.held]
 |m+1,j+1,i,q,hi,hj,hq,hq2=>by
  rw[aT.dJ]
  have h1:i<a.length:=by omega
  have ih:=aT.loop (k:=k) ha m j (i+1) (q+1) (by omega) (by omega) (by omega) (by omega)
  rw[Int.natCast_succ]at ih
  rw[Pu.drop_cons h1 0]
  simp (disch:=omega) only[mr,jQ,js,fm,ez,eD,e9,jL,cX,eY,jl,jx,w64,Int.toNat_natCast,decide_eq_true_eq,Int.ofNat_lt,h1,if_true,Int.natCast_nonneg,decide_true,Pu.held,ih]
  by_cases e:a.getD i 0=q<;>simp only[e,decide_true,decide_false,Bool.not_false,Bool.not_true,if_true,if_false,Bool.false_eq_true]
theorem aT.is{k:Nat}{a:LI}{q:Int}(hk:4194304+1≤k)(ha:a.length≤1048576)(hq:0≤q)(hq2:q+a.length≤4000000000000):aT k a q=some (Pu.held a q):=by
 obtain⟨k,rfl⟩: ∃k',k=k'+1:=⟨k-1,by omega⟩
 rw[aT.eq]
 have h:=aT.loop (k:=k) ha a.length k 0 q (by omega) (by omega) hq hq2
 rw[Int.natCast_zero]at h
 exact h
theorem bT.is{k:Nat}{a b:LI}(hk:4194304+3≤k)(h1:a.length≤1048576)(h2:b.length≤1048576):bT k (Pu.mark a 1,Pu.mark b (1+a.length)) 1=some (1+(a.length:Int)+b.length):=by
 obtain⟨k,rfl⟩: ∃k',k=k'+1:=⟨k-1,by omega⟩
 apply Pu.ok_eq
 rw[bT.eq]
 refine Pu.Ok.ig (aT.is (by omega) (by rw[Pu.mK];exact h1) (by omega) (by rw[Pu.mK];omega)) ?_
 rw[Pu.p0]
 simp only[jQ,js,fm,gB,gP,ez,eD,e9,jL,fV,gQ,ef,ep,gG,cX,eY,gC,ij,jl,jx,gM,gO,eT,eR,eU,eV,List.nil_append,List.cons_append]
 refine Pu.Ok.no (by omega) ?_
 refine Pu.Ok.ig (aT.is (by omega) (by rw[Pu.mK];exact h2) (by omega) (by rw[Pu.mK];omega)) ?_
 rw[Pu.p0]
 exact Pu.Ok.no (by omega) (Pu.Ok.ret rfl)
theorem aX.at{k:Nat}(hk:4194304+40≤k):aX (k+1)=some true:=by
 apply Pu.ok_eq
 rw[aX.eq]
 have hl:=Pu.lH
 refine Pu.Ok.ig (cS.is (by omega)) ?_
 refine Pu.Ok.ig (b7.is (by omega)) ?_
 refine Pu.Ok.ig (ch.same (a:=Pu.cG) (b:=Pu.cG) (by omega) (by omega) (by omega)) ?_
 refine Pu.Ok.tn (fun h=>by cases h) (fun _=> ?_)
 refine Pu.Ok.ig (bO.is (a:=Pu.cG) (b:=Pu.cG) (by omega) (by omega) (by omega)) ?_
 refine Pu.Ok.ig (bT.is (a:=Pu.cG) (b:=Pu.cG) (by omega) (by omega) (by omega)) ?_
 simp only[jQ,js,fm,gB,gP,ez,eD,e9,jL,fV,gQ,ef,ep,gG,cX,eY,gC,ij,jl,jx,gM,gO,eT,eR,eU,eV,List.nil_append,List.cons_append]
 refine Pu.Ok.no (by omega) ?_
 refine Pu.Ok.tn (fun h=>by simp at h) (fun _=> ?_)
 refine Pu.Ok.ig (b7.is (by omega)) ?_
 refine Pu.Ok.ig (ch.same (a:=Pu.cG) (b:=Pu.cG) (by omega) (by omega) (by omega)) ?_
 refine Pu.Ok.tn (fun h=>by cases h) (fun _=> ?_)
 refine Pu.Ok.ig (bT.is (a:=Pu.cG) (b:=Pu.cG) (by omega) (by omega) (by omega)) ?_
 refine Pu.Ok.no (by omega) ?_
 exact Pu.Ok.tn (fun h=>by simp at h) (fun _=>Pu.Ok.ret rfl)
theorem aX.is: ∃k,aX k=some true:=⟨_,aX.at (Nat.le_refl _)⟩
end Go.Am.Seat
