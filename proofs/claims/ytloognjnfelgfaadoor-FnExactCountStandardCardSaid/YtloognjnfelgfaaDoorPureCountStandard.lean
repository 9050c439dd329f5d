/- What the functions make of data, as plain words; each holds for all data within the bounds that it names. -/
import Derived.Test.YtloognjnfelgfaaDoorEqsCountStandard
import Derived.Test.YtloognjnfelgfaaDoorPu
set_option linter.unusedSimpArgs false
set_option linter.unusedVariables false
set_option linter.unnecessarySimpa false
set_option linter.unusedSectionVars false
namespace Go.Am.Seat
open Go Go.Am Go.Am.Pu
attribute [local instance] D.real
set_option linter.unusedSimpArgs false
set_option linter.unusedVariables false
set_option maxRecDepth 4000
theorem eD.is{k:Nat}{a:LI}{b:Int}(hk:4194304+1≤k)(ha:a.length≤maxLen)(h1:0≤b)(h2:b≤1048576):eD k a b=some (if b-a.length<0 then-1 else b-a.length):=by
 obtain⟨k,rfl⟩: ∃k',k=k'+1:=⟨k-1,by omega⟩
 have ha:a.length≤9223372036854775807:=ha
 rw[eD.eq]
 simp (disch:=omega) only[aX,iM,ch,fj,dP,dO,decide_eq_true_eq,w64]
 split<;>rfl
theorem fY.is{k:Nat}{a:LI×LI}{b:Int}(hk:4194304+3≤k)(ha:a.1.length≤maxLen)(ha2:a.2.length≤maxLen)(h1:0≤b)(h2:b≤1048576):
  ∃r,fY k a b=some r∧(0≤r→r≤b∧(a.1.length:Int)≤b∧(a.2.length:Int)≤b):=by
 obtain⟨k,rfl⟩: ∃k',k=k'+1:=⟨k-1,by omega⟩
 rw[fY.eq,eD.is (by omega) ha h1 h2]
 by_cases hc:b-a.1.length<0
 ·exact⟨-1,by simp[hc],fun h=>by omega⟩
 ·by_cases hd:b-a.1.length-a.2.length<0
  ·refine⟨-1,?_,fun h=>by omega⟩
   simp only[bS,hc,if_false]
   rw[eD.is (by omega) ha2 (by omega) (by omega)]
   simp[hc,hd]
  ·refine⟨b-a.1.length-a.2.length,?_,fun h=>by omega⟩
   simp only[bS,hc,if_false]
   rw[eD.is (by omega) ha2 (by omega) (by omega)]
   simp[hc,hd]
theorem bD.loop{k:Nat}{a:LI}(ha:a.length≤1048576): ∀(m j i:Nat),i+m=a.length→m<j→bD.L0 k j i a (a.take i++List.replicate (a.length-i) 0)=some a
 |m,0,i,_,hj=>by omega
 |0,j+1,i,hi,_=>by
  rw[bD.dJ]
  have e:i=a.length:=by omega
  subst e
  simp
 |m+1,j+1,i,hi,hj=>by
  rw[bD.dJ]
  have hlt:i<a.length:=by omega
  have ih:=bD.loop (k:=k) ha m j (i+1) (by omega) (by omega)
  rw[Int.natCast_succ]at ih
  have hl:i<(a.take i++List.replicate (a.length-i) (0:Int)).length:=by simp;omega
  have hf:=Pu.CN hlt (0:Int) 0
  simp (disch:=omega) only[aX,iM,iX,eT,dO,dP,eM,iZ,eX,ch,eB,w64,Int.toNat_natCast,decide_eq_true_eq,Int.ofNat_lt,hlt,hl,if_true,Int.natCast_nonneg,decide_true,hf,ih]
theorem bD.is{k:Nat}{a:LI}(hk:4194304+1≤k)(ha:a.length≤1048576):bD k a=some a:=by
 obtain⟨k,rfl⟩: ∃k',k=k'+1:=⟨k-1,by omega⟩
 rw[bD.eq]
 have h:=bD.loop (k:=k) ha a.length k 0 (by omega) (by omega)
 rw[Int.natCast_zero]at h
 simp only[List.take_zero,List.nil_append,Nat.sub_zero]at h
 have hl:a.length≤1099511627776:=by omega
 simp[h,hl]
theorem cP.is{k:Nat}{a:LI×LI}(hk:4194304+2≤k)(h1:a.1.length≤1048576)(h2:a.2.length≤1048576):cP k a=some a:=by
 obtain⟨k,rfl⟩: ∃k',k=k'+1:=⟨k-1,by omega⟩
 rw[cP.eq,bD.is (by omega) h1,bS,bD.is (by omega) h2]
 rfl
theorem jI.is{k:Nat}{x lo hi:Int}(hk:1≤k):jI k x lo hi=some (Pu.within x lo hi):=by
 obtain⟨k,rfl⟩: ∃k',k=k'+1:=⟨k-1,by omega⟩
 rw[jI.eq]
 by_cases h:lo≤x<;>simp[Pu.within,h]
theorem ay.loop{k:Nat}{p:LI}(hk:4194304≤k)(hp:p.length≤1048576): ∀(m j i:Nat) (s v:Int),i+m=p.length→m<j→(i=0→v=9)→(0<i→v=p.getD (i-1) 0)→v≤9→0≤s→s≤9→
  ay.L0 k j s i p=some (Pu.gn (p.drop i) v s)
 |m,0,i,s,v,_,hj,_,_,_,_,_=>by omega
 |0,j+1,i,s,v,hi,_,_,_,_,_,_=>by
  rw[ay.dJ]
  have e:i=p.length:=by omega
  subst e
  simp[Pu.gn]
 |m+1,j+1,i,s,v,hi,hj,h0,h1,hv,hs,hs9=>by
  rw[ay.dJ]
  have hlt:i<p.length:=by omega
  have hj1: ∀x:Int,x=p.getD i 0→1≤x→x≤v→ay.J1 k j s i p=some (decide (s+x≤9)&&Pu.gn (p.drop (i+1)) x (s+x)):=by
   intro x hx hx1 hx2
   rw[ay.oe]
   simp (disch:=omega) only[↓aX,sss,if_true,if_false,hlt,←hx]
   by_cases c:9<s+x
   ·have: ¬s+x≤9:=by omega
    simp[c,this]
   ·have c':s+x≤9:=by omega
    have ih:=ay.loop hk hp m j (i+1) (s+x) x (by omega) (by omega) (by omega) (by simp[hx]) (by omega) (by omega) c'
    rw[Int.natCast_succ]at ih
    simp[c,c',ih]
  rw[Pu.drop_cons hlt 0]
  simp (disch:=omega) only[↓aX,sss,if_true,if_false,hlt,jI.is,Pu.gn]
  generalize hx:p.getD i 0=x at*
  unfold Pu.within
  by_cases c1:1≤x
  ·by_cases c2:x≤v
   ·have c3:x≤9:=by omega
    have hj:=hj1 x rfl c1 c2
    by_cases hi0:i=0
    ·have hpos: ¬(0:Int)<i:=by omega
     simp (disch:=omega) only[↓aX,sss,if_true,if_false,c1,c2,c3,hpos,hj]
    ·have hv':=h1 (by omega)
     have e:((i:Int)-1)=((i-1:Nat):Int):=by omega
     have hlt':i-1<p.length:=by omega
     have hge: ¬p.getD (i-1) 0<x:=by rw[←hv'];omega
     have hpos:(0:Int)<i:=by omega
     simp (disch:=omega) only[e,↓aX,sss,if_true,if_false,hlt',c1,c2,c3,hj,hpos,hge]
   ·simp only[c1,c2,↓aX,sss,if_true,if_false]
    by_cases c3:x≤9
    ·have hi0:0<i:=by
      rcases Nat.eq_zero_or_pos i with h|h
      ·have:=h0 h;omega
      ·exact h
     have hv':=h1 hi0
     have e:((i:Int)-1)=((i-1:Nat):Int):=by omega
     have hlt':i-1<p.length:=by omega
     have hge:p.getD (i-1) 0<x:=by rw[←hv'];omega
     have hpos:(0:Int)<i:=by omega
     simp (disch:=omega) only[e,↓aX,sss,if_true,if_false,hlt',c3,hpos,hge]
    ·simp only[c3,↓aX,sss,if_true,if_false]
  ·simp only[c1,↓aX,sss,if_true,if_false]
theorem ay.is{k:Nat}{p:LI}(hk:4194304+1≤k)(hp:p.length≤1048576):ay k p=some (Pu.aQ p):=by
 obtain⟨k,rfl⟩: ∃k',k=k'+1:=⟨k-1,by omega⟩
 rw[ay.eq]
 exact ay.loop (k:=k) (by omega) hp p.length k 0 0 9 (by omega) (by omega) (fun _=>rfl) (by omega) (by omega) (by omega) (by omega)
theorem aT.loop{k:Nat}{q p:LI}(hq:q.length≤1048576)(hl:q.length≤p.length)(hk:q.length<k):aT.L1 k k 0 q p=some ((List.range' 0 q.length).all fun i=>decide (q.getD i 0≤p.getD i 0)):=by
 have h:=Pu.nZ (fun j i=>aT.L1 k j (i:Int) q p) q.length (fun i=>decide (q.getD i 0≤p.getD i 0)) (some false) (some true)
  (fun j i hi=>by
   have hi2:i<p.length:=by omega
   rw[aT.nQ]
   simp (disch:=omega) only[↓aX,sss,if_true,if_false,hi,hi2,Int.natCast_add,Int.natCast_one]
   by_cases c:q.getD i 0≤p.getD i 0
   ·have c': ¬p.getD i 0<q.getD i 0:=by omega
    simp only[c,c',↓aX,sss,if_true,if_false]
   ·have c':p.getD i 0<q.getD i 0:=by omega
    simp only[c,c',↓aX,sss,if_true,if_false])
  (fun j=>by
   rw[aT.nQ]
   simp only[↓aX,sss,if_true,if_false,Nat.lt_irrefl]) q.length k 0 (by omega) hk
 simp only[Int.natCast_zero]at h
 rw[h]
 cases(List.range' 0 q.length).all fun i=>decide (q.getD i 0≤p.getD i 0)<;>simp
theorem aT.is{k:Nat}{q p:LI}(hk:4194304+2≤k)(hq:q.length≤1048576)(hp:p.length≤1048576):aT k q p=some (Pu.aM q p):=by
 obtain⟨k,rfl⟩: ∃k',k=k'+1:=⟨k-1,by omega⟩
 rw[aT.eq,ay.is (by omega) hq,bS,aT.qI]
 unfold Pu.aM
 cases c1:Pu.aQ q with
 |false=>simp only[↓aX,sss,if_true,if_false]
 |true=>
  simp only[↓aX,sss,if_true,if_false]
  rw[ay.is (by omega) hp,bS]
  cases c2:Pu.aQ p with
  |false=>simp only[↓aX,sss,if_true,if_false]
  |true=>
   simp only[↓aX,sss,if_true,if_false]
   by_cases c3:p.length<q.length
   ·have c3': ¬q.length≤p.length:=by omega
    simp only[c3,c3',↓aX,sss,if_true,if_false]
   ·have c3':q.length≤p.length:=by omega
    simp only[c3,c3',↓aX,sss,if_true,if_false]
    exact aT.loop hq c3' (by omega)
theorem fX.is{k:Nat}{s:LI×LI}(hk:4194304+3≤k)(hq:s.1.length≤1048576)(hp:s.2.length≤1048576):fX k s=some (Pu.aM s.2 s.1):=by
 obtain⟨k,rfl⟩: ∃k',k=k'+1:=⟨k-1,by omega⟩
 rw[fX.eq,aT.is (by omega) hp hq]
 rfl
theorem br.loop{k:Nat}{w:LI}(hw:w.length≤1048576)(hb: ∀x∈w,-1000000≤x∧x≤1000000): ∀(m j i:Nat) (s:Int),i+m=w.length→m<j→ -1000000*i≤s→s≤1000000*i→br.L0 k j s i w=some (s+Pu.aP (w.drop i))
 |m,0,i,s,_,hj,_,_=>by omega
 |0,j+1,i,s,hm,_,_,_=>by
  rw[br.dJ]
  have e:i=w.length:=by omega
  subst e
  simp[Pu.aP]
 |m+1,j+1,i,s,hm,hj,hs1,hs2=>by
  rw[br.dJ]
  have hlt:i<w.length:=by omega
  have hx:=hb _ (List.getElem_mem hlt)
  rw[←Pu.an hlt 0]at hx
  have ih:=br.loop (k:=k) hw hb m j (i+1) (s+w.getD i 0) (by omega) (by omega) (by omega) (by omega)
  rw[Int.natCast_succ]at ih
  rw[Pu.drop_cons hlt 0]
  simp (disch:=omega) only[↓aX,sss,if_true,if_false,hlt,ih,Pu.aP,Int.add_assoc]
theorem br.is{k:Nat}{w:LI}(hk:4194304+1≤k)(hw:w.length≤1048576)(hb: ∀x∈w,-1000000≤x∧x≤1000000):br k w=some (Pu.aP w):=by
 obtain⟨k,rfl⟩: ∃k',k=k'+1:=⟨k-1,by omega⟩
 rw[br.eq]
 have h:=br.loop (k:=k) hw hb w.length k 0 0 (by omega) (by omega) (by omega) (by omega)
 rw[Int.natCast_zero]at h
 rw[h,Int.zero_add,List.drop_zero]
theorem bq.tail{k:Nat}{o p:LI}{r:Int}(hk:4194304+1≤k)(hp:p.length≤1048576)(hb: ∀x∈p,x≤1000000000∧ -1000000000≤x)(h0:0≤r)(h1:r<p.length):
  bq.J1 k r p=some (if Pu.aQ (p.set r.toNat (p.getD r.toNat 0+1))=true then(p.set r.toNat (p.getD r.toNat 0+1),true)else([],false)):=by
 rw[bq.oe]
 have hn:r.toNat<p.length:=by omega
 have hx:=hb _ (List.getElem_mem hn)
 rw[←Pu.an hn 0]at hx
 have ew:IntKind.i64.wrap (p.getD r.toNat 0+1)=p.getD r.toNat 0+1:=w64 (by omega) (by omega)
 have hi:=ay.is (k:=k) (p:=p.set r.toNat (p.getD r.toNat 0+1)) hk (by rw[List.length_set];exact hp)
 by_cases hq:Pu.aQ (p.set r.toNat (p.getD r.toNat 0+1))=true
 ·simp only[↓aX,sss,if_true,if_false,h0,hn,ew,hi,hq]
 ·simp only[Bool.not_eq_true]at hq
  simp only[↓aX,sss,if_true,if_false,h0,hn,ew,hi,hq]
theorem bq.is{k:Nat}{p:LI}{r:Int}(hk:4194304+3≤k)(hp:p.length≤1000000):bq k p r=some (Pu.b8 p r):=by
 obtain⟨k,rfl⟩: ∃k',k=k'+1:=⟨k-1,by omega⟩
 rw[bq.eq,ay.is (by omega) (by omega),bS]
 unfold Pu.b8
 by_cases h1:Pu.aQ p=true
 ·have hb: ∀x∈p,x≤1000000000∧ -1000000000≤x:=fun x hx=>by
   have:=(Pu.aK h1).1 x hx
   omega
  by_cases h2:r<0
  ·have h3: ¬0≤r:=by omega
   simp[h1,h2,h3]
  ·by_cases h3:(p.length:Int)<r
   ·have h4: ¬r≤p.length:=by omega
    simp[h1,h2,h3,h4]
   ·have h2':0≤r:=by omega
    have h3':r≤p.length:=by omega
    have hl:([]++p).length≤1099511627776:=by simp;omega
    rw[bq.qI]
    by_cases e:r=p.length
    ·have hr:r<(p++ [0]).length:=by rw[List.length_append];simp;omega
     have ht:=bq.tail (o:=p) (k:=k) (p:=p++ [0]) (r:=r) (by omega) (by rw[List.length_append];simp;omega) (fun x hx=>by
      rcases List.mem_append.1 hx with h|h
      ·exact hb x h
      ·simp at h;omega) h2' hr
     have hlim:(p++ [(0:Int)]).length≤1099511627776:=by rw[List.length_append];simp;omega
     have hlim':p.length≤1099511627776:=by omega
     have e':(r=(p.length:Int))=True:=eq_true e
     simp only[↓aX,sss,if_true,if_false,h1,h2,h3,e',hlim,hlim',List.nil_append]
     rw[ht];simp only[h2',h3',and_self,if_true]
    ·have ht:=bq.tail (o:=p) (k:=k) (p:=p) (r:=r) (by omega) (by omega) hb h2' (by omega)
     have hlim':p.length≤1099511627776:=by omega
     simp only[↓aX,sss,if_true,if_false,h1,h2,h3,e,hlim',List.nil_append]
     rw[ht];simp only[h2',h3',and_self,if_true]
 ·simp only[Bool.not_eq_true]at h1
  simp[h1]
theorem aU.isE {o : List Int} (ho : Pu.aQ o = true) : ∀ (d k : Nat) (c : List (List Int)), 4194304 + 10 + d ≤ k → Pu.Ch c → Pu.aM (Pu.bP c) o = true → (c.length : Int) ≤ Pu.aP (Pu.bP c) + 1 → Pu.aP o = Pu.aP (Pu.bP c) + d →
    aU k o c = some (Pu.fF o d c) := by
  intro d
  induction d with
  | zero =>
    intro k c hk hc hi hl hs
    obtain ⟨k, rfl⟩ : ∃ k', k = k' + 1 := ⟨k - 1, by omega⟩
    apply Pu.ok_eq
    obtain ⟨c1, c2, c3⟩ := hc
    obtain ⟨hp, _⟩ := Pu.fW hi
    rw [aU.eq]
    have hz : IntKind.i64.wrap ((c.length : Int) - 1) = ((c.length - 1 : Nat) : Int) := by rw [Pu.w64 (by omega) (by omega)]; omega
    simp only [iM, iX, eT, fA, fB, dO, dP, eM, iZ, eX, fu, dh, cY, fx, ch, eB, fj, fJ, ja, iY, fz, fy, dL, dI, dH, dE, List.nil_append, List.cons_append]
    simp only [hz, Int.toNat_natCast]
    (repeat (refine Pu.Ok.g (by first | omega | assumption | (simp only [List.length_append, List.length_cons, List.length_nil, List.length_set, List.length_take, List.length_drop, List.length_replicate] at *; omega)) ?_))
    refine Pu.Ok.fe (br.is (w := Pu.bP c) (by omega) (by have := (Pu.eG hp).1; omega) fun x hx => by have := (Pu.eG hp).2 x hx; omega) ?_
    refine Pu.Ok.fe (br.is (w := o) (by omega) (by have := (Pu.eG ho).1; omega) fun x hx => by have := (Pu.eG ho).2 x hx; omega) ?_
    exact Pu.Ok.t (fun _ => Pu.Ok.ret rfl) (fun hn => absurd (by rw [hs]; simp) hn)
  | succ d ih =>
    intro k c hk hc hi hl hs
    obtain ⟨k, rfl⟩ : ∃ k', k = k' + 1 := ⟨k - 1, by omega⟩
    apply Pu.ok_eq
    have hc' := hc
    obtain ⟨c1, c2, c3⟩ := hc
    obtain ⟨hp, _⟩ := Pu.fW hi
    have hso := (Pu.aK ho).2.1
    have hp0 := Pu.gG (Pu.bP c) fun x hx => by have := (Pu.aK hp).1 x hx; omega
    rw [aU.eq]
    have hz : IntKind.i64.wrap ((c.length : Int) - 1) = ((c.length - 1 : Nat) : Int) := by rw [Pu.w64 (by omega) (by omega)]; omega
    simp only [iM, iX, eT, fA, fB, dO, dP, eM, iZ, eX, fu, dh, cY, fx, ch, eB, fj, fJ, ja, iY, fz, fy, dL, dI, dH, dE, List.nil_append, List.cons_append]
    simp only [hz, Int.toNat_natCast]
    (repeat (refine Pu.Ok.g (by first | omega | assumption | (simp only [List.length_append, List.length_cons, List.length_nil, List.length_set, List.length_take, List.length_drop, List.length_replicate] at *; omega)) ?_))
    have hlp := (Pu.eG hp).1
    refine Pu.Ok.fe (br.is (w := Pu.bP c) (by omega) (by omega) fun x hx => by have := (Pu.eG hp).2 x hx; omega) ?_
    refine Pu.Ok.fe (br.is (w := o) (by omega) (by have := (Pu.eG ho).1; omega) fun x hx => by have := (Pu.eG ho).2 x hx; omega) ?_
    refine Pu.Ok.t (fun e => by omega) (fun _ => ?_)
    rw [Pu.fF]
    obtain ⟨g, hg⟩ : ∃ g : Nat → List (List (List Int)), g = fun r : Nat => if (Pu.b8 (Pu.bP c) (r : Nat)).2 = true ∧ Pu.aM (Pu.b8 (Pu.bP c) (r : Nat)).1 o = true then Pu.fF o d (c ++ [(Pu.b8 (Pu.bP c) (r : Nat)).1]) else [] := ⟨_, rfl⟩
    have hgl : ∀ r, (g r).length ≤ 10 ^ d := fun r => by
      rw [hg]
      show List.length (if _ then _ else _) ≤ _
      split
      · next h =>
        refine Pu.sW o d _ ?_
        rw [Pu.kL]
        exact (Pu.fW h.2).1
      · simp
    have hpow : (10 : Nat) ^ d ≤ 10 ^ 9 := Nat.pow_le_pow_right (by omega) (by omega)
    have hlim : ∀ n, n ≤ 10 → ((List.range n).flatMap g).length ≤ 10000000000 := fun n hn => by
      refine Nat.le_trans (Pu.mj g (10 ^ d) _ fun r _ => hgl r) ?_
      rw [List.length_range]
      exact Nat.le_trans (Nat.mul_le_mul hn hpow) (by decide)
    rw [← hg]
    have loop : ∀ (m j r : Nat), r + m = (Pu.bP c).length + 1 → m < j →
        Pu.Ok (aU.L0 k j (c.length - 1) r o c ((List.range r).flatMap g)) (· = (List.range ((Pu.bP c).length + 1)).flatMap g) := by
      intro m
      induction m with
      | zero =>
        intro j r hr hj
        obtain ⟨j, rfl⟩ : ∃ j', j = j' + 1 := ⟨j - 1, by omega⟩
        rw [aU.dJ]
        simp only [iM, iX, eT, fA, fB, dO, dP, eM, iZ, eX, fu, dh, cY, fx, ch, eB, fj, fJ, ja, iY, fz, fy, dL, dI, dH, dE, List.nil_append, List.cons_append]
        (repeat (refine Pu.Ok.g (by first | omega | assumption | (simp only [List.length_append, List.length_cons, List.length_nil, List.length_set, List.length_take, List.length_drop, List.length_replicate] at *; omega)) ?_))
        refine Pu.Ok.no (show ¬ (r : Int) ≤ ((Pu.bP c).length : Nat) by omega) (Pu.Ok.ret ?_)
        rw [show r = (Pu.bP c).length + 1 by omega]
      | succ m ihm =>
        intro j r hr hj
        obtain ⟨j, rfl⟩ : ∃ j', j = j' + 1 := ⟨j - 1, by omega⟩
        have hw : IntKind.i64.wrap ((r : Int) + 1) = ((r + 1 : Nat) : Int) := Pu.w64 (by omega) (by omega)
        have next : ∀ out', out' = (List.range r).flatMap g ++ g r → Pu.Ok (aU.J1 k j (c.length - 1) r o c out') (· = (List.range ((Pu.bP c).length + 1)).flatMap g) := by
          intro out' h1
          rw [aU.oe]
          simp only [iM, iX, eT, fA, fB, dO, dP, eM, iZ, eX, fu, dh, cY, fx, ch, eB, fj, fJ, ja, iY, fz, fy, dL, dI, dH, dE, List.nil_append, List.cons_append]
          rw [hw]
          have e : out' = (List.range (r + 1)).flatMap g := by rw [h1, List.range_succ, List.flatMap_append]; simp
          rw [e]
          exact ihm j (r + 1) (by omega) (by omega)
        have hgr : g r = if (Pu.b8 (Pu.bP c) (r : Nat)).2 = true ∧ Pu.aM (Pu.b8 (Pu.bP c) (r : Nat)).1 o = true then Pu.fF o d (c ++ [(Pu.b8 (Pu.bP c) (r : Nat)).1]) else [] := by rw [hg]
        rw [aU.dJ]
        simp only [iM, iX, eT, fA, fB, dO, dP, eM, iZ, eX, fu, dh, cY, fx, ch, eB, fj, fJ, ja, iY, fz, fy, dL, dI, dH, dE, List.nil_append, List.cons_append]
        (repeat (refine Pu.Ok.g (by first | omega | assumption | (simp only [List.length_append, List.length_cons, List.length_nil, List.length_set, List.length_take, List.length_drop, List.length_replicate] at *; omega)) ?_))
        refine Pu.Ok.t (fun _ => ?_) (fun hn => absurd (show (r : Int) ≤ ((Pu.bP c).length : Nat) by omega) hn)
        (repeat (refine Pu.Ok.g (by first | omega | assumption | (simp only [List.length_append, List.length_cons, List.length_nil, List.length_set, List.length_take, List.length_drop, List.length_replicate] at *; omega)) ?_))
        refine Pu.Ok.fe (bq.is (p := Pu.bP c) (r := r) (by omega) (by omega)) ?_
        cases hab : Pu.b8 (Pu.bP c) r with
        | mk q b =>
        rw [hab] at hgr
        cases b with
        | false =>
          refine Pu.Ok.tb (fun h => by cases h) (fun _ => next _ ?_)
          rw [hgr, if_neg (fun h => by cases h.1), List.append_nil]
        | true =>
          refine Pu.Ok.tb (fun _ => ?_) (fun h => by cases h)
          obtain ⟨b1, b2, b3, b4, b5⟩ := Pu.jP hab
          have hq := Pu.eG b5
          refine Pu.Ok.fe (aT.is (q := q) (p := o) (by omega) (by have := hq.1; omega) (by have := (Pu.eG ho).1; omega)) ?_
          cases hin : Pu.aM q o with
          | false =>
            refine Pu.Ok.tb (fun h => by cases h) (fun _ => next _ ?_)
            rw [hgr, if_neg (fun h => by rw [hin] at h; cases h.2), List.append_nil]
          | true =>
            refine Pu.Ok.tb (fun _ => ?_) (fun h => by cases h)
            have hsq := Pu.sum_add hp hab
            have hql := (Pu.aK b5).2.1
            simp only [List.nil_append]
            (repeat (refine Pu.Ok.g (by first | omega | assumption | (simp only [List.length_append, List.length_cons, List.length_nil, List.length_set, List.length_take, List.length_drop, List.length_replicate] at *; omega)) ?_))
            have hlast := Pu.kL c q
            refine Pu.Ok.fe (ih k (c ++ [q]) (by omega) ⟨by rw [List.length_append]; omega, by rw [List.length_append, List.length_singleton]; omega, fun x hx => ?_⟩ (by rw [hlast]; exact hin)
              (by rw [hlast, List.length_append, List.length_singleton]; omega) (by rw [hlast]; omega)) ?_
            · rcases List.mem_append.1 hx with h | h
              · exact c3 x h
              · simp only [List.mem_singleton] at h; subst h; exact hq
            rw [if_pos ⟨rfl, hin⟩] at hgr
            dsimp only at hgr
            have l1 := hlim r (by omega)
            have l2 := hgl r
            rw [hgr] at l2
            refine Pu.Ok.g (by rw [List.length_append]; have : (10 : Nat) ^ 9 = 1000000000 := by decide
                               omega) (next _ (by rw [hgr]))
    exact loop ((Pu.bP c).length + 1) k 0 (by omega) (by omega)
theorem cG.is{k:Nat}{s:LI×LI}(hk:4194304+30≤k)(h1:s.1.length≤1048576)(h2:s.2.length≤1048576):cG k s=some (if Pu.aM s.2 s.1=true then((Pu.fF s.1 (Pu.aP s.1-Pu.aP s.2).toNat [s.2]).length:Int)else 0):=by
 obtain⟨k,rfl⟩: ∃k',k=k'+1:=⟨k-1,by omega⟩
 apply Pu.ok_eq
 rw[cG.eq]
 refine Pu.Ok.fe (fX.is (s:=s) (by omega) h1 h2) ?_
 simp only[iM,iX,eT,fA,fB,dO,dP,eM,iZ,eX,fu,dh,cY,fx,ch,eB,fj,fJ,ja,iY,fz,fy,dL,dI,dH,dE,List.nil_append,List.cons_append]
 refine Pu.Ok.tn (fun hb=>by rw[hb];exact Pu.Ok.ret rfl) (fun hb=> ?_)
 rw[hb,if_pos rfl]
 obtain⟨i1,i2⟩:=Pu.fW hb
 have hd:=Pu.j9 hb
 have b1:=Pu.aK i1
 have n2:=Pu.gG s.2 fun x hx=>by have:=b1.1 x hx;omega
 refine Pu.Ok.g (by omega) ?_
 refine Pu.Ok.fe (aU.isE i2 (Pu.aP s.1-Pu.aP s.2).toNat k [s.2] (by omega) ⟨by simp,by simp,fun x hx=>by simp only[List.mem_singleton]at hx;subst hx;exact Pu.eG i1⟩ hb (by show(1:Int)≤Pu.aP s.2+1;omega) (by show Pu.aP s.1=Pu.aP s.2+_;omega)) ?_
 exact Pu.Ok.ret rfl
theorem cJ.is{k:Nat}{x lo hi:Int}(hk:1≤k):cJ k x lo hi=some (Pu.within x lo hi):=by
 obtain⟨k,rfl⟩: ∃k',k=k'+1:=⟨k-1,by omega⟩
 rw[cJ.eq]
 by_cases h:lo≤x<;>simp[Pu.within,h]
theorem az.loop{k:Nat}{p:LI}(hk:4194304≤k)(hp:p.length≤1048576): ∀(m j i:Nat) (s v:Int),i+m=p.length→m<j→(i=0→v=9)→(0<i→v=p.getD (i-1) 0)→v≤9→0≤s→s≤9→
  az.L0 k j s p.length i p=some (Pu.gn (p.drop i) v s)
 |m,0,i,s,v,_,hj,_,_,_,_,_=>by omega
 |0,j+1,i,s,v,hi,_,_,_,_,_,_=>by
  rw[az.dJ]
  have e:i=p.length:=by omega
  subst e
  simp[Pu.gn]
 |m+1,j+1,i,s,v,hi,hj,h0,h1,hv,hs,hs9=>by
  rw[az.dJ]
  have hlt:i<p.length:=by omega
  have hj1: ∀x:Int,x=p.getD i 0→1≤x→x≤v→az.J1 k j s x p.length i p=some (decide (s+x≤9)&&Pu.gn (p.drop (i+1)) x (s+x)):=by
   intro x hx hx1 hx2
   rw[az.oe]
   simp (disch:=omega) only[↓aX,sss,if_true,if_false]
   by_cases c:9<s+x
   ·have: ¬s+x≤9:=by omega
    simp[c,this]
   ·have c':s+x≤9:=by omega
    have ih:=az.loop hk hp m j (i+1) (s+x) x (by omega) (by omega) (by omega) (by simp[hx]) (by omega) (by omega) c'
    rw[Int.natCast_succ]at ih
    simp[c,c',ih]
  rw[Pu.drop_cons hlt 0]
  simp (disch:=omega) only[↓aX,sss,if_true,if_false,hlt,cJ.is,Pu.gn]
  generalize hx:p.getD i 0=x at*
  unfold Pu.within
  by_cases c1:1≤x
  ·by_cases c2:x≤v
   ·have c3:x≤9:=by omega
    have hj:=hj1 x rfl c1 c2
    by_cases hi0:i=0
    ·have hpos: ¬(0:Int)<i:=by omega
     simp (disch:=omega) only[↓aX,sss,if_true,if_false,c1,c2,c3,hpos,hj]
    ·have hv':=h1 (by omega)
     have e:((i:Int)-1)=((i-1:Nat):Int):=by omega
     have hlt':i-1<p.length:=by omega
     have hge: ¬p.getD (i-1) 0<x:=by rw[←hv'];omega
     have hpos:(0:Int)<i:=by omega
     simp (disch:=omega) only[e,↓aX,sss,if_true,if_false,hlt',c1,c2,c3,hj,hpos,hge]
   ·simp only[c1,c2,↓aX,sss,if_true,if_false]
    by_cases c3:x≤9
    ·have hi0:0<i:=by
      rcases Nat.eq_zero_or_pos i with h|h
      ·have:=h0 h;omega
      ·exact h
     have hv':=h1 hi0
     have e:((i:Int)-1)=((i-1:Nat):Int):=by omega
     have hlt':i-1<p.length:=by omega
     have hge:p.getD (i-1) 0<x:=by rw[←hv'];omega
     have hpos:(0:Int)<i:=by omega
     simp (disch:=omega) only[e,↓aX,sss,if_true,if_false,hlt',c3,hpos,hge]
    ·simp only[c3,↓aX,sss,if_true,if_false]
  ·simp only[c1,↓aX,sss,if_true,if_false]
theorem az.is{k:Nat}{p:LI}(hk:4194304+1≤k)(hp:p.length≤1048576):az k p=some (Pu.aQ p):=by
 obtain⟨k,rfl⟩: ∃k',k=k'+1:=⟨k-1,by omega⟩
 rw[az.eq]
 exact az.loop (k:=k) (by omega) hp p.length k 0 0 9 (by omega) (by omega) (fun _=>rfl) (by omega) (by omega) (by omega) (by omega)
theorem dC.is{k:Nat}{p:LI}{i:Int}(hk:2≤k)(hp:p.length≤1048576):dC k p i=some (Pu.atI p i):=by
 obtain⟨k,rfl⟩: ∃k',k=k'+1:=⟨k-1,by omega⟩
 rw[dC.eq,cJ.is (by omega)]
 unfold Pu.within
 by_cases h1:0≤i
 ·have h0: ¬i<0:=by omega
  by_cases h2:i≤(p.length:Int)-1
  ·have h4:i.toNat<p.length:=by omega
   simp (disch:=omega) only[↓aX,sss,if_true,if_false,h0,h1,h2,h4,Pu.atI]
  ·simp (disch:=omega) only[↓aX,sss,if_true,if_false,h1,h2,Pu.Bs (p:=p) (i:=i) (by omega)]
 ·simp (disch:=omega) only[↓aX,sss,if_true,if_false,h1,Pu.qe (p:=p) (i:=i) (by omega)]
theorem a7.loop{k:Nat}{q p:LI}(hq:q.length≤1048576)(hp:p.length≤1048576)(hk:4194304+2≤k):a7.L1 k k q.length 0 p q=some ((List.range' 0 q.length).all fun i=>decide (q.getD i 0≤p.getD i 0)):=by
 have h:=Pu.nZ (fun j i=>a7.L1 k j q.length (i:Int) p q) q.length (fun i=>decide (q.getD i 0≤p.getD i 0)) (some false) (some true)
  (fun j i hi=>by
   rw[a7.nQ,dC.is (by omega) hp,Pu.cU]
   simp (disch:=omega) only[↓aX,sss,if_true,if_false,hi,Int.natCast_add,Int.natCast_one]
   by_cases c:q.getD i 0≤p.getD i 0
   ·have c': ¬p.getD i 0<q.getD i 0:=by omega
    simp only[c,c',↓aX,sss,if_true,if_false]
   ·have c':p.getD i 0<q.getD i 0:=by omega
    simp only[c,c',↓aX,sss,if_true,if_false])
  (fun j=>by
   rw[a7.nQ]
   simp only[↓aX,sss,if_true,if_false,Nat.lt_irrefl]) q.length k 0 (by omega) (by omega)
 simp only[Int.natCast_zero]at h
 rw[h]
 cases(List.range' 0 q.length).all fun i=>decide (q.getD i 0≤p.getD i 0)<;>simp
theorem a7.is{k:Nat}{q p:LI}(hk:4194304+3≤k)(hq:q.length≤1048576)(hp:p.length≤1048576):a7 k q p=some (Pu.aM q p):=by
 obtain⟨k,rfl⟩: ∃k',k=k'+1:=⟨k-1,by omega⟩
 rw[a7.eq,az.is (by omega) hq,bS,a7.qI,Pu.lH]
 cases c1:Pu.aQ q with
 |false=>simp only[↓aX,sss,if_true,if_false]
 |true=>
  simp only[↓aX,sss,if_true,if_false]
  rw[az.is (by omega) hp,bS]
  cases c2:Pu.aQ p with
  |false=>simp only[↓aX,sss,if_true,if_false]
  |true=>
   simp only[↓aX,sss,if_true,if_false]
   exact a7.loop hq hp (by omega)
theorem cQ.is{k:Nat}{s:LI×LI}(hk:4194304+4≤k)(hq:s.1.length≤1048576)(hp:s.2.length≤1048576):cQ k s=some (Pu.aM s.2 s.1):=by
 obtain⟨k,rfl⟩: ∃k',k=k'+1:=⟨k-1,by omega⟩
 rw[cQ.eq,a7.is (by omega) hp hq]
 rfl
theorem cq.loop{k:Nat}{w:LI}(hw:w.length≤1048576)(hb: ∀x∈w,-1000000≤x∧x≤1000000): ∀(m j i:Nat) (s:Int),i+m=w.length→m<j→ -1000000*i≤s→s≤1000000*i→cq.L0 k j s w.length i w=some (s+Pu.aP (w.drop i))
 |m,0,i,s,_,hj,_,_=>by omega
 |0,j+1,i,s,hm,_,_,_=>by
  rw[cq.dJ]
  have e:i=w.length:=by omega
  subst e
  simp[Pu.aP]
 |m+1,j+1,i,s,hm,hj,hs1,hs2=>by
  rw[cq.dJ]
  have hlt:i<w.length:=by omega
  have hx:=hb _ (List.getElem_mem hlt)
  rw[←Pu.an hlt 0]at hx
  have ih:=cq.loop (k:=k) hw hb m j (i+1) (s+w.getD i 0) (by omega) (by omega) (by omega) (by omega)
  rw[Int.natCast_succ]at ih
  rw[Pu.drop_cons hlt 0]
  simp (disch:=omega) only[↓aX,sss,if_true,if_false,hlt,ih,Pu.aP,Int.add_assoc]
theorem cq.is{k:Nat}{w:LI}(hk:4194304+1≤k)(hw:w.length≤1048576)(hb: ∀x∈w,-1000000≤x∧x≤1000000):cq k w=some (Pu.aP w):=by
 obtain⟨k,rfl⟩: ∃k',k=k'+1:=⟨k-1,by omega⟩
 rw[cq.eq]
 have h:=cq.loop (k:=k) hw hb w.length k 0 0 (by omega) (by omega) (by omega) (by omega)
 rw[Int.natCast_zero]at h
 simp only[dP,dO]
 rw[h,Int.zero_add,List.drop_zero]
theorem cS.is{k:Nat}{s:LI×LI}(hk:4194304+5≤k)(h1:s.1.length≤1048576)(h2:s.2.length≤1048576):cS k s=some (if Pu.aM s.2 s.1=true then Pu.aP s.1-Pu.aP s.2 else-1):=by
 obtain⟨k,rfl⟩: ∃k',k=k'+1:=⟨k-1,by omega⟩
 apply Pu.ok_eq
 rw[cS.eq]
 refine Pu.Ok.fe (cQ.is (s:=s) (by omega) h1 h2) ?_
 simp only[iM,iX,eT,fA,fB,dO,dP,eM,iZ,eX,fu,dh,cY,fx,ch,eB,fj,fJ,ja,iY,fz,fy,dL,dI,dH,dE,List.nil_append,List.cons_append]
 refine Pu.Ok.tn (fun hb=>by rw[hb];exact Pu.Ok.ret rfl) (fun hb=> ?_)
 rw[hb]
 obtain⟨i1,i2,i3,i4⟩:=Pu.eu hb
 have b1:=Pu.aK i1
 have b2:=Pu.aK i2
 have n1:=Pu.gG s.1 fun x hx=>by have:=b2.1 x hx;omega
 have n2:=Pu.gG s.2 fun x hx=>by have:=b1.1 x hx;omega
 refine Pu.Ok.fe (cq.is (by omega) h1 fun x hx=>by have:=b2.1 x hx;omega) ?_
 refine Pu.Ok.fe (cq.is (by omega) h2 fun x hx=>by have:=b1.1 x hx;omega) ?_
 have hw:IntKind.i64.wrap (Pu.aP s.1-Pu.aP s.2)=Pu.aP s.1-Pu.aP s.2:=w64 (by omega) (by omega)
 rw[hw]
 exact Pu.Ok.ret rfl
theorem dS.is{k n:Nat}(hk:1≤k)(hn:n≤1048576):dS k 1 n=some (0,(n:Int)):=by
 obtain⟨k,rfl⟩: ∃k',k=k'+1:=⟨k-1,by omega⟩
 rw[dS.eq]
 have e1:D.shrI .u64 1 32=0:=Pu.EN (n:=1) (by omega)
 have e2:D.andI .u64 1 4294967295=1:=Pu.E4 (n:=1) (by omega)
 have e3:=Pu.EN (n:=n) (by omega)
 have e4:=Pu.E4 (n:=n) (by omega)
 have e5:D.shrI .u64 0 32=0:=Pu.EN (n:=0) (by omega)
 have e6:D.andI .u64 0 4294967295=0:=Pu.E4 (n:=0) (by omega)
 have w0:IntKind.u64.wrap 0=0:=Pu.Fj (by omega) (by omega)
 have wn:IntKind.u64.wrap (n:Int)=n:=Pu.Fj (by omega) (by omega)
 simp only[e1,e2,e3,e4,fJ,ch,eB,Int.zero_mul,Int.one_mul,Int.mul_zero,Int.add_zero,w0,wn,e5,e6]
 rfl
theorem ez.is{k n:Nat}(hk:2≤k)(hn:n≤1048576):ez k 1 n=some (0,(n:Int)):=by
 obtain⟨k,rfl⟩: ∃k',k=k'+1:=⟨k-1,by omega⟩
 rw[ez.eq,dS.is (by omega) hn,bS]
theorem ao.loop{k n:Nat}{v:Int}(hn:n≤1048576): ∀(j d m:Nat),m+d=n→1≤m→d<j→ao.L2 k j m (List.replicate m v++List.replicate d (0:Int))=some (List.replicate n v)
 |0,d,m,_,_,h=>by omega
 |j+1,d,m,hm,h1,hj=>by
  rw[ao.GD]
  have hlen:(List.replicate m v++List.replicate d (0:Int)).length=n:=by simp;omega
  by_cases hd:d=0
  ·subst hd
   have e:m=n:=by omega
   subst e
   refine Eq.trans (Pu.tH _ _ _ _) ?_
   rw[if_neg (by show¬(m:Int)<((List.replicate m v++List.replicate 0 (0:Int)).length:Nat);rw[hlen];omega)]
   simp
  ·have e2:D.take (D.subN (D.len (List.replicate m v++List.replicate d (0:Int))) (D.nat m)) (D.take (D.subN (D.nat m) 0) (D.drop 0 (List.replicate m v++List.replicate d (0:Int))))=List.replicate (min (n-m) m) v:=by
    show((List.replicate m v++List.replicate d (0:Int)).take m).take ((List.replicate m v++List.replicate d (0:Int)).length-m)=_
    rw[hlen,List.take_append_of_le_length (by simp),List.take_replicate,List.take_replicate]
    congr 1;omega
   rw[e2]
   have hnew:D.app (D.take (D.addN (D.nat m) 0) (List.replicate m v++List.replicate d (0:Int))) (D.app (List.replicate (min (n-m) m) v) (D.drop (D.addN (D.nat m) (D.len (List.replicate (min (n-m) m) v))) (List.replicate m v++List.replicate d (0:Int))))=
     List.replicate (m+min (n-m) m) v++List.replicate (d-min (n-m) m) (0:Int):=by
    show(List.replicate m v++List.replicate d (0:Int)).take m++(List.replicate (min (n-m) m) v++(List.replicate m v++List.replicate d (0:Int)).drop (m+(List.replicate (min (n-m) m) v).length))=_
    rw[List.take_append_of_le_length (by simp),List.take_replicate,Nat.min_self,List.length_replicate,List.drop_append,List.drop_replicate,List.drop_replicate,List.length_replicate,←List.append_assoc,List.replicate_append_replicate]
    rw[show m-(m+min (n-m) m)=0 by omega,show m+min (n-m) m-m=min (n-m) m by omega]
    rfl
   have hz:IntKind.i64.wrap ((m:Int)+(min (n-m) m:Nat))=((m+min (n-m) m:Nat):Int):=by
    rw[w64 (by omega) (by omega)];omega
   have ih:=ao.loop (k:=k) (v:=v) hn j (d-min (n-m) m) (m+min (n-m) m) (by omega) (by omega) (by omega)
   rw[hnew]
   simp only[eB,ch,dP,dO,eM,hlen,List.length_replicate,Int.toNat_natCast]
   rw[hz,ih]
   refine tG ((by omega)) (tG ((by omega)) (tG ((by omega)) (tG ((by omega)) (tG ((by omega)) rfl))))
theorem ao.is{k n:Nat}{v:Int}(hk:4194304+4≤k)(hn:n≤1048576):ao k [v] n=some (List.replicate n v):=by
 obtain⟨k,rfl⟩: ∃k',k=k'+1:=⟨k-1,by omega⟩
 rw[ao.eq]
 refine Eq.trans (Pu.tH _ _ _ _) ?_
 rw[if_neg (by omega),ao.qI]
 have w1:IntKind.u64.wrap 1=1:=Pu.Fj (by omega) (by omega)
 have wn:IntKind.u64.wrap (n:Int)=n:=Pu.Fj (by omega) (by omega)
 have wi:IntKind.i64.wrap (n:Int)=n:=w64 (by omega) (by omega)
 show D.bnd (ez k (IntKind.u64.wrap 1) (IntKind.u64.wrap n)) _=_
 rw[w1,wn,ez.is (by omega) hn,bS]
 refine Eq.trans (Pu.tH _ _ _ _) ?_
 rw[if_neg (by simp)]
 refine Eq.trans (Pu.tH _ _ _ _) ?_
 rw[if_neg (by show¬(9223372036854775807:Int)<n;omega),ao.oe]
 simp only[ch,wi]
 refine tG ((by omega)) (tG ((by omega)) (tG ((show(n:Int).toNat≤1099511627776 by omega)) ?_))
 show ao.L2 k k (((([v]:LI).take (List.replicate (n:Int).toNat (0:Int)).length).length:Nat):Int) ((List.replicate (n:Int).toNat (0:Int)).take 0++(([v]:LI).take (List.replicate (n:Int).toNat (0:Int)).length++(List.replicate (n:Int).toNat (0:Int)).drop (([v]:LI).take (List.replicate (n:Int).toNat (0:Int)).length).length))=_
 rw[List.length_replicate,Int.toNat_natCast]
 obtain⟨k,rfl⟩: ∃k',k=k'+1:=⟨k-1,by omega⟩
 by_cases h0:n=0
 ·subst h0
  rw[ao.GD]
  rfl
 ·obtain⟨n,rfl⟩: ∃n',n=n'+1:=⟨n-1,by omega⟩
  have h:=ao.loop (k:=k+1) (v:=v) hn (k+1) n 1 (by omega) (by omega) (by omega)
  simpa[List.replicate_succ]using h
theorem jD.is{k n:Nat}(hk:4194304+5≤k)(hn:n≤1048576):jD k n=some (List.replicate n 1):=by
 obtain⟨k,rfl⟩: ∃k',k=k'+1:=⟨k-1,by omega⟩
 rw[jD.eq,ao.is (by omega) hn]
 rfl
theorem aY.is{k:Nat}{a:LI}(hk:1≤k)(ha:a.length≤1099511627776):aY k a=some a:=by
 obtain⟨k,rfl⟩: ∃k',k=k'+1:=⟨k-1,by omega⟩
 rw[aY.eq]
 by_cases h:a.length=0
 ·have:a= []:=List.eq_nil_of_length_eq_zero h
  subst this
  simp[GK,Dh]
 ·simp[h,ha]
theorem aW.loop{k:Nat}{t:Pu.Tab}{x3 x4:LI}{x5:LJ}(hk:1≤k)(ht:t.2.length≤1048576)(hr: ∀x∈t.2,x.length≤1048576): ∀(m j i:Nat),i+m=t.2.length→m<j→
  aW.L0 k j t.2.length i t.2 x3 x5 x4 (t.2.take i)=some (x4,t.2)
 |m,0,i,_,hj=>by omega
 |0,j+1,i,hm,_=>by
  rw[aW.dJ]
  have e:i=t.2.length:=by omega
  subst e
  simp
 |m+1,j+1,i,hm,hj=>by
  rw[aW.dJ]
  have hlt:i<t.2.length:=by omega
  have hx:=hr _ (List.getElem_mem hlt)
  rw[←Pu.an hlt []]at hx
  have ih:=aW.loop (k:=k) (x3:=x3) (x4:=x4) (x5:=x5) hk ht hr m j (i+1) (by omega) (by omega)
  rw[Int.natCast_succ,Pu.take_succ hlt []]at ih
  have hl:(t.2.take i++ [t.2.getD i []]).length≤1099511627776:=by simp;omega
  simp (disch:=omega) only[↓aX,sss,if_true,if_false,hlt,hl,aY.is,ih]
theorem aW.is{k:Nat}{t:Pu.Tab}(hk:4194304+1≤k)(h1:t.1.length≤1048576)(ht:t.2.length≤1048576)(hr: ∀x∈t.2,x.length≤1048576):aW k t=some t:=by
 obtain⟨k,rfl⟩: ∃k',k=k'+1:=⟨k-1,by omega⟩
 rw[aW.eq,aY.is (by omega) (by omega)]
 have h:=aW.loop (k:=k) (t:=t) (x3:= []) (x4:=t.1) (x5:= []) (by omega) ht hr t.2.length k 0 (by omega) (by omega)
 rw[Int.natCast_zero,List.take_zero]at h
 exact h
theorem bM.is{k:Nat}{t:Pu.Tab}{r c:Int}(hk:3≤k)(hi:Pu.aQ t.1=true)(ht:t.2.length≤1048576)(hr: ∀x∈t.2,x.length≤1048576)(h1: -1000000000≤c)(h2:c≤1000000000):bM k t r c=some (Pu.entry t r c):=by
 obtain⟨k,rfl⟩: ∃k',k=k'+1:=⟨k-1,by omega⟩
 have hb:=Pu.dm hi r
 have h9:=(Pu.aK hi).2.2.1
 rw[bM.eq,cJ.is (by omega)]
 unfold Pu.entry Pu.within
 by_cases c1:r<0
 ·have c1': ¬0≤r:=by omega
  simp (disch:=omega) only[↓aX,sss,if_true,if_false,c1,c1']
 ·have c3:0≤r:=by omega
  by_cases c2:(t.2.length:Int)≤r
  ·have c2': ¬r≤(t.2.length:Int)-1:=by omega
   simp (disch:=omega) only[↓aX,sss,if_true,if_false,c1,c3,c2,c2']
  ·have c2':r≤(t.2.length:Int)-1:=by omega
   have c4:r.toNat<t.2.length:=by omega
   have hx:=hr _ (List.getElem_mem c4)
   rw[←Pu.an c4 []]at hx
   simp (disch:=omega) only[↓aX,sss,if_true,if_false,c1,c2,c2',c3,c4,dC.is]
theorem ag.loop{m o ws:LI}{w:Int}{k l B:Nat}{kk:Int}{rest:LJ→List Pu.Tab}(hm:Pu.aQ m=true)(ho:Pu.aQ o=true)(hk:100≤k)(k1:1≤kk)(k2:kk≤99)(hl:l≤9)(hB: ∀R,(rest R).length≤B)
  (ih: ∀(row:Nat) (R:LJ) (out:List Pu.Tab),Pu.mY m o R→row≤o.length→out.length+(o.length-row)^l*B≤1099511627776→
   ag k row l kk m R out o m (w::ws)=some ((),(m,(R,((),((),((),((),(kk,((),((),((),out++Pu.mJ m o kk rest l (o.length-row) row R)))))))))))):
  ∀(q j i:Nat) (R:LJ) (out:List Pu.Tab),Pu.mY m o R→i+q=o.length→q<j→out.length+q^(l+1)*B≤1099511627776→
   Pu.Ok (ag.L0 k j ((l+1:Nat):Int) i kk m R o m (w::ws) out) (· =((),(m,(R,((),((),((),((),(kk,((),((),((),out++Pu.mJ m o kk rest (l+1) q i R))))))))))))
 |q,0,i,R,out,_,_,hj,_=>by omega
 |0,j+1,i,R,out,hR,hi,_,_=>by
  rw[ag.dJ,Pu.oW,List.append_nil]
  simp only[iM,iX,eT,fA,fB,dO,dP,eM,iZ,eX,fu,dh,cY,fx,ch,eB,fj,fJ,ja,iY,fz,fy,dL,dI,dH,dE,List.nil_append,List.cons_append]
  exact Pu.Ok.no (by omega) (Pu.Ok.ret rfl)
 |q+1,j+1,i,R,out,hR,hi,hj,hlen=>by
  have hmo:=hR.2 i (by omega)
  have hRl:=hR.1
  have ho9:=(Pu.aK ho).2.2.1
  have hmi:=Pu.dm hm i
  have hoi:=Pu.dm ho i
  rw[Pu.cU]at hmi hoi
  have hs:(q+1)^(l+1)*B=(q+1)^l*B+(q+1)^l*B*q:=by rw[Nat.pow_succ,Nat.mul_assoc,Nat.mul_comm (q+1) B,←Nat.mul_assoc,Nat.mul_succ,Nat.add_comm]
  have hs2:q^(l+1)*B≤(q+1)^l*B*q:=by
   have:q^l≤(q+1)^l:=Nat.pow_le_pow_left (by omega) l
   calc q^(l+1)*B=q^l*(B*q):=by rw[Nat.pow_succ,Nat.mul_assoc,Nat.mul_comm q B]
    _≤(q+1)^l*(B*q):=Nat.mul_le_mul_right _ this
    _=(q+1)^l*B*q:=by rw[Nat.mul_assoc]
  obtain⟨col,hcol⟩: ∃col,col=Pu.eI m R i:=⟨_,rfl⟩
  have hcol':m.getD i 0+((R.getD i []).length:Int)=col:=by rw[hcol];rfl
  have hw1:IntKind.i64.wrap ((i:Int)+1)=((i+1:Nat):Int):=w64 (by omega) (by omega)
  have hwm:IntKind.i64.wrap ((i:Int)-1)=(i:Int)-1:=w64 (by omega) (by omega)
  have hwc:IntKind.i64.wrap (m.getD i 0+((R.getD i []).length:Int))=col:=by rw[hcol'];exact w64 (by omega) (by omega)
  have hwl:IntKind.i64.wrap ((((l+1:Nat):Nat):Int)-1)=(l:Int):=by rw[w64 (by omega) (by omega)];omega
  have next: ∀out':List Pu.Tab,out'.length+q^(l+1)*B≤1099511627776→Pu.Ok (ag.J2 k j ((l+1:Nat):Int) i kk m R o m (w::ws) out') (· =((),(m,(R,((),((),((),((),(kk,((),((),((),out'++Pu.mJ m o kk rest (l+1) q (i+1) R)))))))))))):=fun out' ho'=>by
   rw[ag.DR]
   simp only[iM,iX,eT,fA,fB,dO,dP,eM,iZ,eX,fu,dh,cY,fx,ch,eB,fj,fJ,ja,iY,fz,fy,dL,dI,dH,dE,List.nil_append,List.cons_append]
   rw[hw1]
   exact ag.loop hm ho hk k1 k2 hl hB ih q j (i+1) R out' hR (by omega) (by omega) ho'
  have hJ: ∀b:Bool,(decide (col=o.getD i 0)||b)=Pu.shut m o kk R i→Pu.Ok (ag.J1 k j ((l+1:Nat):Int) i col b kk m R o m (w::ws) out) (· =((),(m,(R,((),((),((),((),(kk,((),((),((),out++Pu.mJ m o kk rest (l+1) (q+1) i R)))))))))))):=fun b hb=>by
   rw[ag.oe,Pu.oB]
   simp only[iM,iX,eT,fA,fB,dO,dP,eM,iZ,eX,fu,dh,cY,fx,ch,eB,fj,fJ,ja,iY,fz,fy,dL,dI,dH,dE,List.nil_append,List.cons_append]
   rw[Int.toNat_natCast]
   refine Pu.Ok.g (by omega) (Pu.Ok.g (by omega) (Pu.Ok.g (by omega) (Pu.Ok.t (fun h=> ?_) (fun h=> ?_))))
   ·rw[←hb,decide_eq_true h,Bool.true_or,if_pos rfl,List.nil_append]
    exact next out (by omega)
   ·refine Pu.Ok.tb (fun h'=> ?_) (fun h'=> ?_)
    ·subst h'
     rw[←hb,Bool.or_true,if_pos rfl,List.nil_append]
     exact next out (by omega)
    ·subst h'
     have hsh:Pu.shut m o kk R i=false:=by rw[←hb,decide_eq_false h];rfl
     rw[hsh,if_neg (by decide)]
     have hpush:=Pu.Cc hR (by omega) hsh
     have hrow:((R.getD i []).length:Int)≤9:=by omega
     have hrow':((Pu.cw kk R i).getD i []).length=(R.getD i []).length+1:=by rw[Pu.jt,if_pos ⟨rfl,by omega⟩,List.length_append,List.length_singleton]
     have hpl:=Pu.je kk R i
     rw[ag.Hl]
     simp only[iM,iX,eT,fA,fB,dO,dP,eM,iZ,eX,fu,dh,cY,fx,ch,eB,fj,fJ,ja,iY,fz,fy,dL,dI,dH,dE,List.nil_append,List.cons_append]
     rw[Int.toNat_natCast]
     have hin:(R.getD i []++ [kk]).length≤1099511627776:=by rw[List.length_append,List.length_singleton];omega
     refine Pu.Ok.g (by omega) (Pu.Ok.g (by omega) (Pu.Ok.g (by omega) (Pu.Ok.g (by omega) (Pu.Ok.g hin (Pu.Ok.g (by omega) (Pu.Ok.g (by omega) (Pu.Ok.g (by omega) (Pu.Ok.g trivial ?_))))))))
     rw[hwl]
     have hcall:=ih i (Pu.cw kk R i) out hpush (by omega) (by rw[show o.length-i=q+1 by omega];omega)
     have hlp:=Pu.rp (m:=m) (o:=o) (k:=kk) hB l (q+1) i (Pu.cw kk R i)
     refine Pu.Ok.fe hcall ?_
     have hwt:IntKind.i64.wrap ((((Pu.cw kk R i).getD i []).length:Int)-1)=((R.getD i []).length:Int):=by rw[hrow',w64 (by omega) (by omega)];omega
     simp only[hwt,Int.toNat_natCast,Nat.sub_zero,List.drop_zero,Pu.DE kk (show i<R.length by omega)]
     refine Pu.Ok.g (by omega) (Pu.Ok.g (by omega) (Pu.Ok.g (by omega) (Pu.Ok.g (by omega) (Pu.Ok.g (by omega) (Pu.Ok.g (by omega) (Pu.Ok.g (by omega) (Pu.Ok.g (by omega) (Pu.Ok.g (by omega) (Pu.Ok.g (by omega) (Pu.Ok.g (by omega) (Pu.Ok.g (by omega) (Pu.Ok.g (by omega) (Pu.Ok.g (by omega) (Pu.Ok.g trivial ?_))))))))))))))
     rw[show o.length-i=q+1 by omega,←List.append_assoc]
     exact next _ (by rw[List.length_append];omega)
  have hrl: ∀x∈R,x.length≤1048576:=fun x hx=>by
   obtain⟨a,ha,rfl⟩:=List.getElem_of_mem hx
   have h1:=hR.2 a (by omega)
   have h2:=Pu.dm hm a
   have h3:=Pu.dm ho a
   rw[Pu.cU]at h2 h3
   unfold Pu.eI at h1
   rw[Pu.an ha []]at h1
   omega
  have hm9:=(Pu.aK hm).2.2.1
  rw[ag.dJ]
  simp only[iM,iX,eT,fA,fB,dO,dP,eM,iZ,eX,fu,dh,cY,fx,ch,eB,fj,fJ,ja,iY,fz,fy,dL,dI,dH,dE,List.nil_append,List.cons_append]
  rw[Int.toNat_natCast]
  refine Pu.Ok.t (fun _=> ?_) (fun hn=>absurd (show(i:Int)<(o.length:Nat) by omega) hn)
  refine Pu.Ok.fe (dC.is (by omega) (by omega)) ?_
  rw[Pu.cU]
  refine Pu.Ok.g (by omega) (Pu.Ok.g (by omega) (Pu.Ok.g (by omega) (Pu.Ok.g (by omega) ?_)))
  simp only[hwc,hwm]
  refine Pu.Ok.fe (bM.is (t:=(m,R)) (by omega) hm (by show R.length≤_;omega) hrl (by omega) (by omega)) ?_
  refine Pu.Ok.t (fun h0=> ?_) (fun h0=> ?_)
  ·refine Pu.Ok.fe (dC.is (by omega) (by omega)) ?_
   have e1:Pu.atI m ((i:Int)-1)=m.getD (i-1) 0:=by rw[show(i:Int)-1=((i-1:Nat):Int) by omega,Pu.cU]
   rw[e1]
   refine Pu.Ok.t (fun h1=> ?_) (fun h1=> ?_)
   ·refine Pu.Ok.t (fun h2=> ?_) (fun h2=> ?_)
    ·refine hJ true ?_
     unfold Pu.shut
     rw[←hcol,decide_eq_true (show 0<i by omega),decide_eq_true h1,decide_eq_true h2]
     simp
    ·refine hJ _ ?_
     unfold Pu.shut
     rw[←hcol,decide_eq_true (show 0<i by omega),decide_eq_true h1,decide_eq_false h2]
     simp
   ·refine hJ false ?_
    unfold Pu.shut
    rw[←hcol,decide_eq_false h1]
    simp
  ·refine hJ false ?_
   unfold Pu.shut
   rw[←hcol,decide_eq_false (show¬0<i by omega)]
   simp
theorem ag.put{m o ws:LI}{w:Int}{F B:Nat}{kk:Int}(hm:Pu.aQ m=true)(ho:Pu.aQ o=true)(k1:1≤kk)(k2:kk≤99)(hB: ∀R,(Pu.ky m o ws (kk+1) R).length≤B)(hF:100≤F)(hFo:o.length<F)
  (ihG: ∀(k:Nat) (R:LJ) (out:List Pu.Tab),F≤k→Pu.mY m o R→out.length+B≤1099511627776→aH k (kk+1) m R out o m ws=some ((),(m,(R,out++Pu.ky m o ws (kk+1) R)))):
  ∀(l k row:Nat) (R:LJ) (out:List Pu.Tab),F+1+l≤k→l≤9→Pu.mY m o R→row≤o.length→out.length+(o.length-row)^l*B≤1099511627776→
   ag k row l kk m R out o m (w::ws)=some ((),(m,(R,((),((),((),((),(kk,((),((),((),out++Pu.mJ m o kk (Pu.ky m o ws (kk+1)) l (o.length-row) row R))))))))))):=by
 intro l
 induction l with
 |zero=>
  intro k row R out hk _ hR hrow hlen
  obtain⟨k,rfl⟩: ∃k',k=k'+1:=⟨k-1,by omega⟩
  apply Pu.ok_eq
  rw[ag.eq,Pu.oD]
  simp only[iM,iX,eT,fA,fB,dO,dP,eM,iZ,eX,fu,dh,cY,fx,ch,eB,fj,fJ,ja,iY,fz,fy,dL,dI,dH,dE,List.nil_append,List.cons_append]
  have hw:IntKind.i64.wrap (kk+1)=kk+1:=w64 (by omega) (by omega)
  have e:List.take ((w::ws).length-Int.toNat 1) (List.drop (Int.toNat 1) (w::ws))=ws:=by
   show List.take (ws.length+1-1) ws=ws
   exact List.take_of_length_le (by omega)
  refine Pu.Ok.g (by simp) (Pu.Ok.g (by omega) (Pu.Ok.g (by show 1≤ws.length+1;omega) ?_))
  rw[hw,e]
  refine Pu.Ok.fe (ihG k R out (by omega) hR (by simpa using hlen)) (Pu.Ok.ret rfl)
 |succ l ih=>
  intro k row R out hk hl hR hrow hlen
  obtain⟨k,rfl⟩: ∃k',k=k'+1:=⟨k-1,by omega⟩
  apply Pu.ok_eq
  rw[ag.eq]
  simp only[iM,iX,eT,fA,fB,dO,dP,eM,iZ,eX,fu,dh,cY,fx,ch,eB,fj,fJ,ja,iY,fz,fy,dL,dI,dH,dE,List.nil_append,List.cons_append]
  refine Pu.Ok.no (by omega) ?_
  refine ag.loop hm ho (by omega) k1 k2 (by omega) hB (fun row R out h1 h2 h3=>ih k row R out (by omega) (by omega) h1 h2 h3) (o.length-row) k row R out hR (by omega) (by omega) hlen
theorem ag.grow{m o:LI}(hm:Pu.aQ m=true)(ho:Pu.aQ o=true): ∀(ws:LI) (k:Nat) (kk:Int) (R:LJ) (out:List Pu.Tab),4194304+30+14*ws.length≤k→1≤kk→kk+ws.length≤99→(∀w∈ws,0≤w∧w≤9)→Pu.mY m o R→
  out.length+o.length^Pu.eY ws≤1099511627776→aH k kk m R out o m ws=some ((),(m,(R,out++Pu.ky m o ws kk R))):=by
 have ho9:=(Pu.aK ho).2.2.1
 have hm9:=(Pu.aK hm).2.2.1
 have hrl: ∀R,Pu.mY m o R→ ∀x∈R,x.length≤1048576:=fun R hR x hx=>by
  obtain⟨a,ha,rfl⟩:=List.getElem_of_mem hx
  have h1:=hR.2 a (by have:=hR.1;omega)
  have h2:=Pu.dm hm a
  have h3:=Pu.dm ho a
  rw[Pu.cU]at h2 h3
  unfold Pu.eI at h1
  rw[Pu.an ha []]at h1
  omega
 intro ws
 induction ws with
 |nil=>
  intro k kk R out hk _ _ _ hR hlen
  obtain⟨k,rfl⟩: ∃k',k=k'+2:=⟨k-2,by omega⟩
  apply Pu.ok_eq
  rw[aH.eq]
  simp only[iM,iX,eT,fA,fB,dO,dP,eM,iZ,eX,fu,dh,cY,fx,ch,eB,fj,fJ,ja,iY,fz,fy,dL,dI,dH,dE,List.nil_append,List.cons_append]
  refine Pu.Ok.g rfl ?_
  refine Pu.Ok.fe (aW.is (t:=(m,R)) (by omega) (by show m.length≤_;omega) (by show R.length≤_;have:=hR.1;omega) (hrl R hR)) ?_
  refine Pu.Ok.g ?_ (Pu.Ok.ret rfl)
  rw[List.length_append]
  simpa[Pu.eY]using hlen
 |cons w ws ihw=>
  intro k kk R out hk hk1 hk2 hw hR hlen
  obtain⟨k,rfl⟩: ∃k',k=k'+2:=⟨k-2,by omega⟩
  obtain⟨w0,w9⟩:=hw w (by simp)
  have e:Pu.eY (w::ws)=w.toNat+Pu.eY ws:=by simp[Pu.eY]
  rw[e,Nat.pow_add]at hlen
  rw[List.length_cons]at hk hk2
  apply Pu.ok_eq
  rw[aH.eq]
  simp only[iM,iX,eT,fA,fB,dO,dP,eM,iZ,eX,fu,dh,cY,fx,ch,eB,fj,fJ,ja,iY,fz,fy,dL,dI,dH,dE,List.nil_append,List.cons_append]
  refine Pu.Ok.no (by rw[List.length_cons];omega) ?_
  refine Pu.Ok.g (by omega) (Pu.Ok.g (by simp) (Pu.Ok.g (by simp) ?_))
  have hB: ∀R,(Pu.ky m o ws (kk+1) R).length≤o.length^Pu.eY ws:=fun R=>Pu.oz m o ws (kk+1) R
  have h:=ag.put (w:=w) (ws:=ws) (F:=4194304+30+14*ws.length) hm ho hk1 (by omega) hB (by omega) (by omega)
   (fun k R out h1 h2 h3=>ihw k (kk+1) R out h1 (by omega) (by omega) (fun x hx=>hw x (by simp[hx])) h2 h3) w.toNat (k+1) 0 R out (by omega) (by omega) hR (by omega) (by simpa using hlen)
  have e2:(w::ws).getD (Int.toNat 0) 0=((w.toNat:Nat):Int):=by show w=_;omega
  rw[e2]
  rw[Int.natCast_zero]at h
  refine Pu.Ok.fe h (Pu.Ok.ret ?_)
  rfl
theorem bn.loop{k:Nat}{t:Pu.Tab}{x3 x4:LI}(hk:4194304+4≤k)(hi:Pu.aQ t.1=true)(h2:t.2.length≤1048576)(hr: ∀x∈t.2,x.length≤1048576): ∀(m j i:Nat) (acc:LI),i+m=t.2.length→m<j→acc.length=i→
  bn.L1 k j t.2.length i t.2 t.1 x3 x4 acc t.1=some (if Pu.aM t.1 (acc++Pu.e9 t.1 i (t.2.drop i))=true then((acc++Pu.e9 t.1 i (t.2.drop i),t.1),true)else(([],[]),false))
 |m,0,i,acc,_,hj,_=>by omega
 |0,j+1,i,acc,hm,_,hacc=>by
  rw[bn.nQ]
  have e:i=t.2.length:=by omega
  have h9:=(Pu.aK hi).2.2.1
  have hlt: ¬i<t.2.length:=by omega
  rw[cQ.is (by omega) (by simp only;omega) (by simp only;omega),e]
  simp only[↓aX,sss,if_true,if_false,Nat.lt_irrefl,List.drop_length,Pu.e9,List.append_nil]
  cases Pu.aM t.1 acc<;>simp
 |m+1,j+1,i,acc,hm,hj,hacc=>by
  rw[bn.nQ]
  have hlt:i<t.2.length:=by omega
  have hb:=Pu.dm hi i
  have h9:=(Pu.aK hi).2.2.1
  have hrow:=hr t.2[i] (List.getElem_mem hlt)
  rw[←Pu.an hlt []]at hrow
  rw[dC.is (by omega) (by omega)]
  have ih:=bn.loop (x3:=x3) (x4:=x4) hk hi h2 hr m j (i+1) (acc++ [Pu.atI t.1 i+(t.2.getD i []).length]) (by omega) (by omega) (by simp[hacc])
  rw[Int.natCast_succ]at ih
  rw[Pu.drop_cons hlt []]
  have hl:(acc++ [Pu.atI t.1 i+((t.2.getD i []).length:Int)]).length≤1099511627776:=by simp;omega
  simp (disch:=omega) only[↓aX,sss,if_true,if_false,hlt,hl,ih,Pu.e9]
  simp only[List.append_assoc,List.singleton_append,Pu.cU]
  rfl
theorem bn.is{k:Nat}{t:Pu.Tab}(hk:4194304+5≤k)(h1:t.1.length≤1048576)(h2:t.2.length≤1048576)(hr: ∀x∈t.2,x.length≤1048576):bn k t=some (Pu.shapeOf t):=by
 obtain⟨k,rfl⟩: ∃k',k=k'+1:=⟨k-1,by omega⟩
 rw[bn.eq,az.is (by omega) h1,bn.qI,aY.is (by omega) (by omega)]
 simp only[↓aX,sss,if_true,if_false]
 unfold Pu.shapeOf
 cases c1:Pu.aQ t.1 with
 |false=>
  have:Pu.eP t=false:=by unfold Pu.eP;rw[c1];rfl
  simp only[this,↓aX,sss,if_true,if_false]
 |true=>
  by_cases c2:t.2.length<t.1.length
  ·have:Pu.eP t=false:=by
    have: ¬t.1.length≤t.2.length:=by omega
    unfold Pu.eP;simp[this]
   simp only[this,c2,↓aX,sss,if_true,if_false]
  ·have c2':t.1.length≤t.2.length:=by omega
   have hloop:=bn.loop (k:=k) (t:=t) (x3:= []) (x4:= []) (by omega) c1 h2 hr t.2.length k 0 [] (by omega) (by omega) rfl
   rw[Int.natCast_zero]at hloop
   simp only[c2,↓aX,sss,if_true,if_false]
   rw[hloop]
   have:Pu.eP t=Pu.aM t.1 (Pu.outer t):=by unfold Pu.eP;simp[c1,c2']
   rw[this]
   rfl
theorem au.inner{k k1:Nat}{t:Pu.Tab}{r:Nat}(hk:4194304≤k)(hi:Pu.aQ t.1=true)(ht:t.2.length≤1048576)(hr: ∀x∈t.2,x.length≤1048576)(hlt:r<t.2.length)(n:Int):
  au.L1 k k1 k r r n r r (t.2.getD r []).length 0 t.2 t.1=if((List.range' 0 (t.2.getD r []).length).all fun q=>Pu.gA t r q)=true then au.L0 k k1 n ((r:Int)+1) t.2 t.1 else some false:=by
 have hx:=hr _ (List.getElem_mem hlt)
 rw[←Pu.an hlt []]at hx
 have hb:=Pu.dm hi r
 have h9:=(Pu.aK hi).2.2.1
 have h:=Pu.nZ (fun j q=>au.L1 k k1 j r r n r r (t.2.getD r []).length (q:Int) t.2 t.1) (t.2.getD r []).length (fun q=>Pu.gA t r q) (some false) (au.L0 k k1 n ((r:Int)+1) t.2 t.1)
  (fun j q hq=>by
   have e3:=bM.is (k:=k) (t:=t) (r:=(r:Int)-1) (c:=t.1.getD r 0+q) (by omega) hi ht hr (by rw[Pu.cU]at hb;omega) (by rw[Pu.cU]at hb;omega)
   have ea:=dC.is (k:=k) (p:=t.1) (i:=r) (by omega) (by omega)
   rw[Pu.cU]at ea
   rw[Pu.cU]at hb
   rw[au.nQ]
   simp (maxSteps:=10000000) (disch:=omega) only[↓aX,sss,if_true,if_false,hlt,hq,cJ.is,ea,e3,au.DR,Int.natCast_add,Int.natCast_one]
   unfold Pu.gA
   generalize hx0:(t.2.getD r []).getD q 0=x at*
   cases Pu.within x 1 9 with
   |false=>simp
   |true=>
    have up:(if(0:Int)<r then(if x≤Pu.entry t ((r:Int)-1) (t.1.getD r 0+q)then some false else au.L1 k k1 j r r n r r (t.2.getD r []).length ((q:Int)+1) t.2 t.1)else au.L1 k k1 j r r n r r (t.2.getD r []).length ((q:Int)+1) t.2 t.1)=
      if(decide (r=0)||decide (Pu.entry t ((r:Int)-1) (t.1.getD r 0+q)<x))=true then au.L1 k k1 j r r n r r (t.2.getD r []).length ((q:Int)+1) t.2 t.1 else some false:=by
     by_cases e:r=0
     ·subst e;simp
     ·have e':(0:Int)<r:=by omega
      by_cases c:x≤Pu.entry t ((r:Int)-1) (t.1.getD r 0+q)
      ·have c': ¬Pu.entry t ((r:Int)-1) (t.1.getD r 0+q)<x:=by omega
       simp only[e',c,c',e,if_true,if_false,decide_false,Bool.or_false,Bool.false_eq_true]
      ·have c':Pu.entry t ((r:Int)-1) (t.1.getD r 0+q)<x:=by omega
       simp only[e',c,c',e,if_true,if_false,decide_true,decide_false,Bool.false_or]
    by_cases e:q=0
    ·have e': ¬(0:Int)<q:=by omega
     simp only[e',e,↓aX,sss,if_true,if_false,Bool.true_or]
     rw[e]at up
     exact up
    ·have e':(0:Int)<q:=by omega
     have eq:(q:Int)-1=((q-1:Nat):Int):=by omega
     have hq':q-1<(t.2.getD r []).length:=by omega
     simp (disch:=omega) only[e',e,↓aX,sss,if_true,if_false,eq,hq',Bool.false_or]
     by_cases c:x<(t.2.getD r []).getD (q-1) 0
     ·have c': ¬(t.2.getD r []).getD (q-1) 0≤x:=by omega
      simp only[c,c',↓aX,sss,if_true,if_false]
     ·have c':(t.2.getD r []).getD (q-1) 0≤x:=by omega
      simp only[c,c',↓aX,sss,if_true,if_false]
      exact up)
  (fun j=>by
   rw[au.nQ]
   simp (maxSteps:=10000000) (disch:=omega) only[↓aX,sss,if_true,if_false,Nat.lt_irrefl]) (t.2.getD r []).length k 0 (by omega) (by omega)
 simp only[Int.natCast_zero]at h
 exact h
theorem au.is{k:Nat}{t:Pu.Tab}(hk:4194304+6≤k)(h1:t.1.length≤1048576)(ht:t.2.length≤1048576)(hr: ∀x∈t.2,x.length≤1048576):au k t=some (Pu.eU t):=by
 obtain⟨k,rfl⟩: ∃k',k=k'+1:=⟨k-1,by omega⟩
 rw[au.eq,bn.is (by omega) h1 ht hr,bS]
 unfold Pu.eU Pu.shapeOf
 cases hs:Pu.eP t with
 |false=>simp[hs]
 |true=>
  have hi:Pu.aQ t.1=true:=by
   simp only[Pu.eP,Bool.and_eq_true]at hs;exact hs.1
  have h:=Pu.nZ (fun j r=>au.L0 k j t.2.length r t.2 t.1) t.2.length (fun r=>(List.range' 0 (t.2.getD r []).length).all fun q=>Pu.gA t r q) (some false) (some true)
   (fun j r hlt=>by
    rw[au.dJ]
    simp (disch:=omega) only[↓aX,sss,if_true,if_false,hlt,au.inner (k1:=j) (show 4194304≤k by omega) hi ht hr hlt,Int.natCast_add,Int.natCast_one])
   (fun j=>by
    rw[au.dJ]
    simp (disch:=omega) only[↓aX,sss,if_true,if_false,Nat.lt_irrefl]) t.2.length k 0 (by omega) (by omega)
  simp only[Int.natCast_zero]at h
  simp only[if_true,↓aX,sss,if_true,if_false]
  rw[h]
  cases(List.range' 0 t.2.length).all fun r=>(List.range' 0 (t.2.getD r []).length).all fun q=>Pu.gA t r q<;>simp
theorem strings_Repeat.is{k:Nat}{n:Int}(hk:1≤k)(h0:0≤n)(h1:n≤1000):strings_Repeat k (Pu.tx [46]) n=some (Pu.tx (List.replicate n.toNat 46)):=by
 obtain⟨k,rfl⟩: ∃k',k=k'+1:=⟨k-1,by omega⟩
 rw[strings_Repeat.eq]
 exact Pu.D3 h0 h1
theorem strconv_Itoa.is{k:Nat}{n:Int}(hk:1≤k)(h0:0≤n)(h1:n<100):strconv_Itoa k n=some (Pu.tx (Pu.dcm n)):=by
 obtain⟨k,rfl⟩: ∃k',k=k'+1:=⟨k-1,by omega⟩
 rw[strconv_Itoa.eq]
 exact Pu.C8 h0 h1
theorem eL.is{k:Nat}{n:Int}(hk:2≤k)(h0:0≤n)(h1:n<100):eL k n=some (Pu.tx (Pu.dcm n)):=by
 obtain⟨k,rfl⟩: ∃k',k=k'+1:=⟨k-1,by omega⟩
 rw[eL.eq,strconv_Itoa.is (by omega) h0 h1,bS]
theorem strings_Join.is{k:Nat}{ws:List (List UInt8)}{sep:List UInt8}(hk:1≤k)(h1:ws.length≤1000)(h2: ∀w∈ws,w.length≤10000)(hs:sep.length≤10):strings_Join k (ws.map Pu.tx) (Pu.tx sep)=some (Pu.tx (Lib.join ws sep)):=by
 obtain⟨k,rfl⟩: ∃k',k=k'+1:=⟨k-1,by omega⟩
 rw[strings_Join.eq]
 exact Pu.Db h1 h2 hs
theorem gY.is{k:Nat}{ws:List (List UInt8)}{sep:List UInt8}(hk:2≤k)(h1:ws.length≤1000)(h2: ∀w∈ws,w.length≤10000)(hs:sep.length≤10):gY k (ws.map Pu.tx) (Pu.tx sep)=some (Pu.tx (Lib.join ws sep)):=by
 obtain⟨k,rfl⟩: ∃k',k=k'+1:=⟨k-1,by omega⟩
 rw[gY.eq,strings_Join.is (by omega) h1 h2 hs,bS]
theorem bQ.loop{k:Nat}{sep:List UInt8}{l:LI}(hk:10≤k)(hs:sep.length≤10)(hn:l.length≤1000)(hl: ∀x∈l,0≤x∧x<100): ∀(m j i:Nat) (acc:List ByteArray),i+m=l.length→m<j→acc=(l.take i).map (fun n=>Pu.tx (Pu.dcm n))→Pu.Ok (bQ.L0 k j (Pu.tx sep) (l.length:Int) i acc l) (· =Pu.tx (Lib.join (l.map Pu.dcm) sep))
 |m,0,i,acc,_,hj,_=>by omega
 |0,j+1,i,acc,hi,_,ha=>by
  rw[bQ.dJ]
  simp only[iM,iX,eT,fA,fB,dO,dP,eM,iZ,eX,fu,dh,cY,fx,ch,eB,fj,fJ,ja,iY,fz,fy,dL,dI,dH,dE,List.nil_append,List.cons_append]
  refine Pu.Ok.no (by omega) ?_
  have e:acc=(l.map Pu.dcm).map Pu.tx:=by
   rw[ha,List.take_of_length_le (by omega),List.map_map];rfl
  rw[e]
  refine Pu.Ok.fe (gY.is (by omega) (by rw[List.length_map];omega) (fun w hw=> ?_) hs) (Pu.Ok.ret rfl)
  obtain⟨x,hx,rfl⟩:=List.mem_map.1 hw
  have:=Pu.Co (hl x hx).2
  omega
 |m+1,j+1,i,acc,hi,hj,ha=>by
  rw[bQ.dJ]
  have hlen:acc.length=i:=by rw[ha,List.length_map,List.length_take];omega
  simp only[iM,iX,eT,fA,fB,dO,dP,eM,iZ,eX,fu,dh,cY,fx,ch,eB,fj,fJ,ja,iY,fz,fy,dL,dI,dH,dE,List.nil_append,List.cons_append]
  (try simp only[Int.toNat_natCast]);(try simp (disch:=omega) only[w64])
  (repeat (refine Pu.Ok.g (by first|omega|assumption|(simp only[List.length_append,List.length_cons,List.length_nil,List.length_set,List.length_take,List.length_drop,List.length_replicate]at*;omega)) ?_))
  have hm:l.getD i 0∈l:=by rw[Pu.an (show i<l.length by omega) _];exact List.getElem_mem _
  refine Pu.Ok.fe (eL.is (by omega) (hl _ hm).1 (hl _ hm).2) ?_
  (repeat (refine Pu.Ok.g (by first|omega|assumption|(simp only[List.length_append,List.length_cons,List.length_nil,List.length_set,List.length_take,List.length_drop,List.length_replicate]at*;omega)) ?_))
  (try simp only[Int.toNat_natCast]);(try simp (disch:=omega) only[w64])
  refine bQ.loop hk hs hn hl m j (i+1) _ (by omega) (by omega) ?_
  rw[ha,List.take_add_one,List.map_append,List.getElem?_eq_getElem (show i<l.length by omega),Pu.an (show i<l.length by omega) _]
  rfl
theorem bQ.is{k:Nat}{sep:List UInt8}{l:LI}(hk:2000≤k)(hs:sep.length≤10)(hn:l.length≤1000)(hl: ∀x∈l,0≤x∧x<100):bQ k l (Pu.tx sep)=some (Pu.tx (Lib.join (l.map Pu.dcm) sep)):=by
 obtain⟨k,rfl⟩: ∃k',k=k'+1:=⟨k-1,by omega⟩
 apply Pu.ok_eq
 rw[bQ.eq]
 exact bQ.loop (k:=k) (by omega) hs hn hl l.length k 0 [] (by omega) (by omega) rfl
theorem aN.loop{k:Nat}{t:Pu.Tab}(hk:3000≤k)(ht:Pu.eU t=true): ∀(m j i:Nat) (acc:List ByteArray),i+m=t.2.length→m<j→acc=((List.range i).map (Pu.pF t)).map Pu.tx→Pu.Ok (aN.L0 k j (t.2.length:Int) i acc t.2 t.1) (· =Pu.tx (Lib.join ((List.range t.2.length).map (Pu.pF t)) [47]))
 |m,0,i,acc,_,hj,_=>by omega
 |0,j+1,i,acc,hi,_,ha=>by
  rw[aN.dJ]
  simp only[iM,iX,eT,fA,fB,dO,dP,eM,iZ,eX,fu,dh,cY,fx,ch,eB,fj,fJ,ja,iY,fz,fy,dL,dI,dH,dE,List.nil_append,List.cons_append]
  refine Pu.Ok.no (by omega) ?_
  have e:i=t.2.length:=by omega
  subst e
  have h9:=(Pu.qA ht).1
  rw[ha]
  refine Pu.Ok.fe (gY.is (sep:= [47]) (by omega) (by rw[List.length_map,List.length_range];omega) (fun w hw=> ?_) (by decide)) (Pu.Ok.ret rfl)
  obtain⟨x,hx,rfl⟩:=List.mem_map.1 hw
  have:=Pu.xp ht x
  omega
 |m+1,j+1,i,acc,hi,hj,ha=>by
  rw[aN.dJ]
  have hlen:acc.length=i:=by rw[ha,List.length_map,List.length_map,List.length_range]
  have h9:=(Pu.qA ht).1
  obtain⟨p1,p2,p3,p4⟩:=Pu.jM ht
  simp only[iM,iX,eT,fA,fB,dO,dP,eM,iZ,eX,fu,dh,cY,fx,ch,eB,fj,fJ,ja,iY,fz,fy,dL,dI,dH,dE,List.nil_append,List.cons_append]
  (try simp only[Int.toNat_natCast]);(try simp (disch:=omega) only[w64])
  (repeat (refine Pu.Ok.g (by first|omega|assumption|(simp only[List.length_append,List.length_cons,List.length_nil,List.length_set,List.length_take,List.length_drop,List.length_replicate]at*;omega)) ?_))
  have hb:=Pu.dm p1 i
  refine Pu.Ok.fe (dC.is (by omega) (by omega)) ?_
  have e46:(⟨#[46]⟩:ByteArray)=Pu.tx [46]:=rfl
  have e0:(⟨#[]⟩:ByteArray)=Pu.tx []:=rfl
  rw[e46,e0]
  refine Pu.Ok.fe (strings_Repeat.is (by omega) hb.1 (by omega)) ?_
  (repeat (refine Pu.Ok.g (by first|omega|assumption|(simp only[List.length_append,List.length_cons,List.length_nil,List.length_set,List.length_take,List.length_drop,List.length_replicate]at*;omega)) ?_))
  have hr:=(Pu.qA ht).at i
  refine Pu.Ok.fe (bQ.is (by omega) (by decide) (by omega) (fun x hx=>by have:=Pu.mf ht hx;omega)) ?_
  rw[Pu.yQ,Pu.GI,Pu.Ck,Pu.Ck]
  have hrl:=Pu.xp ht i
  have hrl':(List.replicate (Pu.atI t.1 i).toNat (46:UInt8)).length+(Pu.gQ (t.2.getD i [])).length≤100:=by
   rw[←List.length_append];exact hrl
  refine Pu.Ok.g (by omega) ?_
  (repeat (refine Pu.Ok.g (by first|omega|assumption|(simp only[List.length_append,List.length_cons,List.length_nil,List.length_set,List.length_take,List.length_drop,List.length_replicate]at*;omega)) ?_))
  (try simp only[Int.toNat_natCast]);(try simp (disch:=omega) only[w64])
  refine aN.loop hk ht m j (i+1) _ (by omega) (by omega) ?_
  rw[ha,List.range_succ,List.map_append,List.map_append]
  rfl
theorem aN.is{k:Nat}{t:Pu.Tab}(hk:4194304+20≤k)(h1:t.1.length≤1048576)(h2:t.2.length≤1048576)(hr: ∀x∈t.2,x.length≤1048576):aN k t=some (Pu.tx (Pu.bg t)):=by
 obtain⟨k,rfl⟩: ∃k',k=k'+1:=⟨k-1,by omega⟩
 apply Pu.ok_eq
 rw[aN.eq]
 refine Pu.Ok.fe (au.is (by omega) h1 h2 hr) ?_
 unfold Pu.bg
 simp only[iM,iX,eT,fA,fB,dO,dP,eM,iZ,eX,fu,dh,cY,fx,ch,eB,fj,fJ,ja,iY,fz,fy,dL,dI,dH,dE,List.nil_append,List.cons_append]
 refine Pu.Ok.tn (fun hb=> ?_) (fun hb=> ?_)
 ·rw[hb];exact Pu.Ok.ret rfl
 ·rw[hb]
  refine Pu.Ok.t (fun h=> ?_) (fun h=> ?_)
  ·have:t.2= []:=List.eq_nil_of_length_eq_zero (by simpa using h)
   rw[this]
   exact Pu.Ok.ret rfl
  ·have h0:t.2≠ []:=fun e=>h (by rw[e];rfl)
   rw[if_pos rfl,if_neg h0]
   exact aN.loop (k:=k) (by omega) hb t.2.length k 0 [] (Nat.zero_add _) (by show t.2.length<k;omega) rfl
theorem strings_Compare.is{k:Nat}{a b:ByteArray}(hk:1≤k):strings_Compare k a b=some (Lib.compareBytes a.data.toList b.data.toList):=by
 obtain⟨k,rfl⟩: ∃k',k=k'+1:=⟨k-1,by omega⟩
 rw[strings_Compare.eq]
 rfl
theorem dV.is{k:Nat}{a b:Pu.Tab}(hk:4194304+21≤k)(ha:Pu.xh a)(hb:Pu.xh b):dV k a b=some (Lib.compareBytes (Pu.bg a) (Pu.bg b)):=by
 obtain⟨k,rfl⟩: ∃k',k=k'+1:=⟨k-1,by omega⟩
 rw[dV.eq]
 show D.bnd (aN k a) _=_
 rw[aN.is (by omega) ha.1 ha.2.1 ha.2.2,bS]
 show D.bnd (aN k b) _=_
 rw[aN.is (by omega) hb.1 hb.2.1 hb.2.2,bS,strings_Compare.is (by omega),bS]
 rfl
theorem dD.grow{m o:LI}(hi:Pu.aM m o=true){ws:LI}{k:Nat}(hk:4194304+200≤k)(h9:ws.length≤9)(hw: ∀w∈ws,0≤w∧w≤9)(hs:Pu.aP ws=Pu.aP o-Pu.aP m):
  aH k 1 m (List.replicate o.length []) [] o m ws=some ((),(m,(List.replicate o.length [],Pu.nA m o ws))):=by
 obtain⟨i1,i2,i3,i4⟩:=Pu.eu hi
 have ho9:=(Pu.aK i2).2.2.1
 have hR:=(Pu.E3 hi 1).ok
 have hlen:=Pu.xg hi hw hs
 cases ws with
 |nil=>
  obtain⟨k,rfl⟩: ∃k',k=k'+2:=⟨k-2,by omega⟩
  apply Pu.ok_eq
  rw[aH.eq]
  simp only[iM,iX,eT,fA,fB,dO,dP,eM,iZ,eX,fu,dh,cY,fx,ch,eB,fj,fJ,ja,iY,fz,fy,dL,dI,dH,dE,List.nil_append,List.cons_append]
  refine Pu.Ok.g rfl ?_
  refine Pu.Ok.fe (aW.is (t:=(m,List.replicate o.length [])) (by omega) (by show m.length≤_;omega) (by show(List.replicate o.length []).length≤_;rw[List.length_replicate];omega) (fun x hx=>by rw[(List.mem_replicate.1 hx).2];simp)) ?_
  exact Pu.Ok.g (by simp) (Pu.Ok.ret rfl)
 |cons w ws=>
  obtain⟨k,rfl⟩: ∃k',k=k'+2:=⟨k-2,by omega⟩
  obtain⟨w0,w9⟩:=hw w (by simp)
  rw[List.length_cons]at h9
  apply Pu.ok_eq
  rw[aH.eq]
  simp only[iM,iX,eT,fA,fB,dO,dP,eM,iZ,eX,fu,dh,cY,fx,ch,eB,fj,fJ,ja,iY,fz,fy,dL,dI,dH,dE,List.nil_append,List.cons_append]
  refine Pu.Ok.no (by rw[List.length_cons];omega) ?_
  refine Pu.Ok.g (by omega) (Pu.Ok.g (by simp) (Pu.Ok.g (by simp) ?_))
  have e:Pu.eY (w::ws)=w.toNat+Pu.eY ws:=by simp[Pu.eY]
  have hlim:=Pu.xn hi hw hs
  rw[e,Nat.pow_add]at hlim
  have h:=ag.put (w:=w) (ws:=ws) (F:=4194304+30+14*ws.length) (kk:=1) i1 i2 (by omega) (by omega) (fun R=>Pu.oz m o ws (1+1) R) (by omega) (by omega)
   (fun k R out h1 h2 h3=>ag.grow i1 i2 ws k (1+1) R out h1 (by omega) (by omega) (fun x hx=>hw x (by simp[hx])) h2 h3) w.toNat (k+1) 0 (List.replicate o.length []) [] (by omega) (by omega) hR (by omega) (by simpa using hlim)
  have e2:(w::ws).getD (Int.toNat 0) 0=((w.toNat:Nat):Int):=by show w=_;omega
  rw[e2]
  rw[Int.natCast_zero]at h
  exact Pu.Ok.fe h (Pu.Ok.ret rfl)
theorem dD.is{m o:LI}(hi:Pu.aM m o=true){ws:LI}{k:Nat}(hk:4194304+202≤k)(h9:ws.length≤9)(hw: ∀w∈ws,0≤w∧w≤9):dD k (o,m) ws=some (if Pu.aP ws=Pu.aP o-Pu.aP m then Pu.pD (Pu.nA m o ws)else []):=by
 obtain⟨k,rfl⟩: ∃k',k=k'+2:=⟨k-2,by omega⟩
 obtain⟨i1,i2,i3,i4⟩:=Pu.eu hi
 have ho9:=(Pu.aK i2).2.2.1
 apply Pu.ok_eq
 rw[dD.eq]
 refine Pu.Ok.fe (cq.is (by omega) (by omega) fun x hx=>by have:=hw x hx;omega) ?_
 refine Pu.Ok.fe (cS.is (s:=(o,m)) (by omega) (by show o.length≤_;omega) (by show m.length≤_;omega)) ?_
 rw[if_pos (show Pu.aM (o,m).2 (o,m).1=true from hi)]
 simp only[iM,iX,eT,fA,fB,dO,dP,eM,iZ,eX,fu,dh,cY,fx,ch,eB,fj,fJ,ja,iY,fz,fy,dL,dI,dH,dE,List.nil_append,List.cons_append]
 refine Pu.Ok.tnd (fun hne=>by rw[if_neg hne];exact Pu.Ok.ret rfl) (fun hs=> ?_)
 rw[if_pos hs]
 refine Pu.Ok.fe (aY.is (by omega) (by show m.length≤_;omega)) ?_
 refine Pu.Ok.g (by omega) (Pu.Ok.g (by omega) ?_)
 rw[Int.toNat_natCast]
 refine Pu.Ok.g (by show o.length≤_;omega) ?_
 refine Pu.Ok.fe (dD.grow hi (by omega) h9 hw hs) ?_
 have hn:(Pu.eY ws:Int)=Pu.aP o-Pu.aP m:=by rw[Pu.so (fun x hx=>(hw x hx).1)];exact hs
 refine Pu.Ok.fe (Pu.GP (fun a ha b hb=> ?_) (Pu.Dz hi h9 hn) (by have:=Pu.xg hi hw hs;show(Pu.nA m o ws).length<_;omega)) (Pu.Ok.ret rfl)
 exact dV.is (a:=a) (b:=b) (by omega) (Pu.zq hi h9 hn ha) (Pu.zq hi h9 hn hb)
theorem b7.is{k:Nat}{s:LI×LI}(hk:4194304+203≤k)(h1:s.1.length≤1048576)(h2:s.2.length≤1048576):b7 k s=some (if Pu.aM s.2 s.1=true then Pu.pD (Pu.nA s.2 s.1 (List.replicate (Pu.aP s.1-Pu.aP s.2).toNat 1))else []):=by
 obtain⟨k,rfl⟩: ∃k',k=k'+1:=⟨k-1,by omega⟩
 apply Pu.ok_eq
 rw[b7.eq]
 refine Pu.Ok.fe (cQ.is (s:=s) (by omega) h1 h2) ?_
 simp only[iM,iX,eT,fA,fB,dO,dP,eM,iZ,eX,fu,dh,cY,fx,ch,eB,fj,fJ,ja,iY,fz,fy,dL,dI,dH,dE,List.nil_append,List.cons_append]
 refine Pu.Ok.tn (fun hb=>by rw[hb];exact Pu.Ok.ret rfl) (fun hb=> ?_)
 rw[hb]
 have hd:=Pu.j9 hb
 refine Pu.Ok.fe (cS.is (s:=s) (by omega) h1 h2) ?_
 rw[if_pos hb,if_pos rfl]
 have e:Pu.aP s.1-Pu.aP s.2=(((Pu.aP s.1-Pu.aP s.2).toNat:Nat):Int):=by omega
 generalize hn:(Pu.aP s.1-Pu.aP s.2).toNat=n at*
 rw[e]
 refine Pu.Ok.fe (jD.is (by omega) (by omega)) ?_
 refine Pu.Ok.fe (dD.is hb (by omega) (by rw[List.length_replicate];omega) (fun x hx=>by rw[(List.mem_replicate.1 hx).2];omega)) ?_
 rw[if_pos (by rw[Pu.wK,e])]
 exact Pu.Ok.ret rfl
theorem cH.is{k:Nat}{s:LI×LI}(hk:4194304+204≤k)(h1:s.1.length≤1048576)(h2:s.2.length≤1048576):cH k s=some (if Pu.aM s.2 s.1=true then((Pu.nA s.2 s.1 (List.replicate (Pu.aP s.1-Pu.aP s.2).toNat 1)).length:Int)else 0):=by
 obtain⟨k,rfl⟩: ∃k',k=k'+1:=⟨k-1,by omega⟩
 rw[cH.eq,b7.is (s:=s) (by omega) h1 h2,bS]
 split
 ·show some (((Pu.pD _).length:Nat):Int)=_
  rw[Pu.CZ]
 ·rfl
theorem bE.loop{k:Nat}{a b:LI}(hl:a.length=b.length)(ha:a.length≤1048576): ∀(m j i:Nat),i+m=a.length→m<j→bE.L0 k j i a b=some (decide (a.drop i=b.drop i))
 |m,0,i,_,hj=>by omega
 |0,j+1,i,hi,_=>by
  rw[bE.dJ]
  have e:i=a.length:=by omega
  subst e
  simp[hl]
 |m+1,j+1,i,hi,hj=>by
  rw[bE.dJ]
  have h1:i<a.length:=by omega
  have h2:i<b.length:=by omega
  have ih:=bE.loop (k:=k) hl ha m j (i+1) (by omega) (by omega)
  rw[Int.natCast_succ]at ih
  rw[Pu.drop_cons h1 0,Pu.drop_cons h2 0]
  by_cases e:a.getD i 0=b.getD i 0<;>simp (disch:=omega) only[aX,iM,iX,eT,dO,dP,eM,iZ,ch,eB,ja,iY,w64,Int.toNat_natCast,decide_eq_true_eq,Int.ofNat_lt,h1,h2,if_true,Int.natCast_nonneg,decide_true,ih,e,List.cons.injEq,true_and,false_and,decide_false,Bool.not_true,Bool.not_false,if_false,Bool.false_eq_true]
theorem bE.is{k:Nat}{a b:LI}(hk:4194304+1≤k)(ha:a.length≤1048576):bE k a b=some (decide (a=b)):=by
 obtain⟨k,rfl⟩: ∃k',k=k'+1:=⟨k-1,by omega⟩
 rw[bE.eq]
 by_cases hl:a.length=b.length
 ·have h:=bE.loop (k:=k) hl ha a.length k 0 (by omega) (by omega)
  rw[Int.natCast_zero]at h
  simp only[List.drop_zero]at h
  have hl':(a.length:Int)=b.length:=by omega
  simp only[aX,ja,iY,dP,dO,hl',decide_true,Bool.not_true,Bool.false_eq_true,if_false,h]
 ·have hne:a≠b:=fun e=>hl (by rw[e])
  have hl': ¬(a.length:Int)=b.length:=by omega
  simp[hl',hne]
theorem gh.refl{k:Nat}{a:LI×LI}(hk:4194304+2≤k)(h1:a.1.length≤1048576)(h2:a.2.length≤1048576):gh k a a=some true:=by
 obtain⟨k,rfl⟩: ∃k',k=k'+1:=⟨k-1,by omega⟩
 rw[gh.eq,bE.is (by omega) h1,bS,bE.is (by omega) h2]
 simp
theorem bH.is{s:LI×LI}(h1:s.1.length≤maxLen)(h2:s.2.length≤maxLen): ∃k,bH k s=some true:=by
 obtain⟨K,hK⟩: ∃K,K=4194304+300:=⟨_,rfl⟩
 refine⟨K+1,?_⟩
 apply Pu.ok_eq
 rw[bH.eq]
 obtain⟨r,hr0,hr1⟩:=fY.is (k:=K) (a:=s) (b:=1048576) (by omega) h1 h2 (by omega) (by omega)
 refine Pu.Ok.fe hr0 ?_
 simp only[iM,iX,eT,fA,fB,dO,dP,eM,iZ,eX,fu,dh,cY,fx,ch,eB,fj,fJ,ja,iY,fz,fy,dL,dI,dH,dE,List.nil_append,List.cons_append]
 refine Pu.Ok.t (fun _=>Pu.Ok.ret rfl) (fun h=> ?_)
 obtain⟨s0,s1,s2⟩:=hr1 (by omega)
 have q1:s.1.length≤1048576:=by omega
 have q2:s.2.length≤1048576:=by omega
 refine Pu.Ok.fe (cP.is (a:=s) (by omega) q1 q2) ?_
 refine Pu.Ok.fe (cG.is (s:=s) (by omega) q1 q2) ?_
 refine Pu.Ok.fe (cP.is (a:=s) (by omega) q1 q2) ?_
 refine Pu.Ok.fe (cH.is (s:=s) (by omega) q1 q2) ?_
 refine Pu.Ok.tnd (fun hn=>absurd ?_ hn) (fun _=> ?_)
 ·split
  ·next hb=>
   rw[Pu.xZ hb (by have:=Pu.j9 hb;omega),List.length_map]
  ·rfl
 refine Pu.Ok.fe (cP.is (a:=s) (by omega) q1 q2) ?_
 refine Pu.Ok.fe (gh.refl (a:=s) (by omega) q1 q2) ?_
 exact Pu.Ok.ret rfl
end Go.Am.Seat
