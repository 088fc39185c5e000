/- Part 11 of a proof, put together by a program. Conditions: none beyond those that a theorem states. -/
import Derived.Test.YtkljbfejbakooaaGreatDoorN10
set_option linter.unusedSimpArgs false
set_option linter.unusedVariables false
set_option linter.unnecessarySimpa false
set_option maxHeartbeats 40000000
namespace Go.Proofs.YtkljbfejbakooaaGreatDoor
namespace Wi
open Go.Gar
set_option maxRecDepth 4000
abbrev Ea : List Nat:=[0,1,4,5,6,10,26,29,40]
abbrev HH : List Nat:=[0,1,4,5,6,7,8,9,10,23]
theorem IY (x : Item) : Go.Gar.Fn Tryz.prog 26 [x.d] (.b (AU x)):=by
 obtain ⟨k,v,n,g⟩:=x;refine zF A6 Tryz.func26 ?_;refine wk [0,1,2] [] A0 A0 ?_;with_reducible repeat' first|constructor|intro hc;try simp only[AD] at hc
 all_goals (refine ⟨_,_,rfl,rfl,?_⟩;simp_all [BN,AU,B2,isVal] <;> omega)
theorem Iq (x : Item) : Go.Gar.Fn Tryz.prog 50 [x.d] (.b (AU x)):=by
 obtain ⟨k,v,n,g⟩:=x;have h1:=Kb k;have h2:=Fw v;have h3:=Fw n;refine zF A6 Tryz.func50 ?_;refine wk [0,1,2] [] A0 (Dl @h1 @h2 @h3) ?_;with_reducible repeat' first|constructor|intro hc;try simp only[AD] at hc
 all_goals (refine ⟨_,_,rfl,rfl,?_⟩;simp_all [BN,AU])
def EJ (s : Int) (l : List Int) : Bool:=l.all fun p => B7 p && decide (p ≠ s)
def ED (l : List Int) (s : Int) : Bool:=EJ s l && decide l.Nodup && decide (l.length ≤ 3)
variable {l : List Int} {k : Nat}
theorem UA {s : Int} (hk : k < l.length) : EJ s (l.take (k + 1)) = (EJ s (l.take k) && (B7 (l.getD k 0) && decide (l.getD k 0 ≠ s))):=by
 unfold EJ;rw [List.take_succ_eq_append_getElem hk,List.getD_eq_getElem?_getD,List.getElem?_eq_getElem hk,List.all_append];simp only [List.all_cons,List.all_nil,Bool.and_true,Option.getD_some]
theorem af {s : Int} (h : EJ s (l.take k) = false) : EJ s l = false:=by
 have e : EJ s l = (EJ s (l.take k) && EJ s (l.drop k)):=by
  unfold EJ;rw [← List.all_append,List.take_append_drop]
 rw [e,h];rfl
theorem Sb {j : Nat} (hj : j < k) (hk : k < l.length) (h : l.getD j 0 = l.getD k 0) : ¬ l.Nodup:=by
 intro hn;rw [List.getD_eq_getElem?_getD,List.getD_eq_getElem?_getD,List.getElem?_eq_getElem hk,List.getElem?_eq_getElem (by omega : j < l.length)] at h;simp only [Option.getD_some] at h;exact (List.pairwise_iff_getElem.1 hn) j k (by omega) hk hj h
theorem Nk (hk : k < l.length) (h : (l.take k).Nodup) (hall : ∀ j,j < k → l.getD j 0 ≠ l.getD k 0) : (l.take (k + 1)).Nodup:=by
 rw [List.take_succ_eq_append_getElem hk,List.nodup_append];refine ⟨h,by simp,?_⟩;intro a ha b hb;simp at hb;subst hb;obtain ⟨j,hj,e⟩:=List.mem_iff_getElem.1 ha;rw [List.length_take] at hj;have:=hall j (by omega);rw [List.getD_eq_getElem?_getD,List.getD_eq_getElem?_getD,List.getElem?_eq_getElem hk,List.getElem?_eq_getElem (by omega : j < l.length)] at this;simp at this;rw [← e,List.getElem_take];exact this
theorem bP (l : List Int) (s : Int) (hl : l.length ≤ 9223372036854775807) : Go.Gar.Fn Tryz.prog 147 [.is l,.i .i64 s] (.b (ED l s)):=by
 refine zF A6 Tryz.func147 ?_;refine wd Ea [] [] A0 A0 ?_;refine Ac (fun k => k ≤ l.length ∧ EJ s (l.take k) = true ∧ (l.take k).Nodup) (fun k : Nat => ⟨[(0,.d (.is l)),(1,.d (.i .i64 s)),(5,.d (.i .i64 k))],[],44⟩) (fun k => l.length - k) 0 ⟨Nat.zero_le _,by simp [EJ],by simp⟩ ?_ (Nat.le_refl _) ?_
 ·exact A3.ck rfl
 rintro k ⟨hk,hok,hnd⟩
 by_cases hkl : k < l.length
 ·have hst:=UA (s:=s) hkl;rw [hok,Bool.true_and] at hst;have hp:=Cb (l.getD k 0)
  by_cases hb : B7 (l.getD k 0) = true ∧ l.getD k 0 ≠ s
  ·rw [hb.1] at hp;have f1:=eq_false' hb.2;refine wd Ea [] [] (AF f1) (AF @hp) ?_;with_reducible repeat' first|constructor|intro hc;try simp only[AD] at hc
   refine Ac (fun j => j ≤ k ∧ ∀ i,i < j → l.getD i 0 ≠ l.getD k 0) (fun j : Nat => ⟨[(0,.d (.is l)),(1,.d (.i .i64 s)),(5,.d (.i .i64 k)),(6,.d (.i .i64 j))],[],44⟩) (fun j => k - j) 0 ⟨Nat.zero_le _,fun i h => by omega⟩ ?_ (Nat.le_refl _) ?_
   ·exact A3.ck rfl
   rintro j ⟨hj,hall⟩
   by_cases hjk : j < k
   ·refine wd Ea [] [] A0 A0 ?_;with_reducible repeat' first|constructor|intro hc;try simp only[AD] at hc
    ·have e : ED l s = false:=by simp [ED,Sb hjk hkl hc]
     refine ⟨_,_,rfl,rfl,?_⟩;simp [AR,AB,A7,A4,e]
    ·refine ⟨j + 1,⟨hjk,fun i hi => ?_⟩,by omega,Nat.le_refl _,?_⟩
     ·rcases Nat.lt_or_eq_of_le (Nat.le_of_lt_succ hi) with h | h
      ·exact hall i h
      ·rw [h];exact hc
     exact A3.ck rfl
   ·have e : j = k:=by omega
    refine wd Ea [] [] A0 A0 ?_;with_reducible repeat' first|constructor|intro hc;try simp only[AD] at hc
    refine ⟨k + 1,⟨hkl,by rw [hst,hb.1,decide_eq_true hb.2];rfl,Nk hkl hnd fun i hi => hall i (by omega)⟩,by omega,Nat.le_refl _,?_⟩;exact A3.ck rfl
  ·have e : ED l s = false:=by
    have h2 : EJ s (l.take (k + 1)) = false:=by
     rw [hst]
     cases h : B7 (l.getD k 0) with
     | false => rfl
     | true => simp only [Bool.true_and,decide_eq_false_iff_not];exact fun h3 => hb ⟨h,h3⟩
    simp [ED,af h2]
   cases h : B7 (l.getD k 0) with
   | false =>
    rw [h] at hp;refine wd Ea [] [] A0 (AF @hp) ?_;with_reducible repeat' first|constructor|intro hc;try simp only[AD] at hc
    refine ⟨_,_,rfl,rfl,?_⟩;simp [AR,AB,A7,A4,e]
   | true =>
    rw [h] at hp;have f1 : (l.getD k 0 == s) = true:=by rw [beq_iff_eq];exact Classical.not_not.1 fun h3 => hb ⟨h,h3⟩
    refine wd Ea [] [] (AF f1) (AF @hp) ?_;with_reducible repeat' first|constructor|intro hc;try simp only[AD] at hc
    refine ⟨_,_,rfl,rfl,?_⟩;simp [AR,AB,A7,A4,e]
 ·have e : k = l.length:=by omega
  subst e;rw [List.take_length] at hok hnd
  have e2 : ED l s = decide ((l.length : Int) ≤ 3):=by
   simp only [ED,hok,decide_eq_true hnd,Bool.and_self,Bool.true_and]
   congr 1;simp;omega
  refine wd Ea [] [] A0 A0 ?_;with_reducible repeat' first|constructor|intro hc;try simp only[AD] at hc
  refine ⟨_,_,rfl,rfl,?_⟩;simp [AR,AB,A7,A4,e2]
def apartB (s : Int) (l : List Int) : Bool:=l.all (fun p => decide (p ≠ s)) && decide l.Nodup
theorem Yj (s : Int) (l : List Int) (hl : l.length < 9223372036854775807) : Go.Gar.Fn Tryz.prog 279 [.i .i64 s,.is l] (.b (apartB s l)):=by
 have cut : ∀ k,k < l.length → (l.take (k + 1)).all (fun p => decide (p ≠ s)) = ((l.take k).all (fun p => decide (p ≠ s)) && decide (l.getD k 0 ≠ s)):=by
  intro k hk;rw [List.take_succ_eq_append_getElem hk,List.getD_eq_getElem?_getD,List.getElem?_eq_getElem hk,List.all_append];simp only [List.all_cons,List.all_nil,Bool.and_true,Option.getD_some]
 refine zF A6 Tryz.func279 ?_;refine wk HH [] A0 A0 ?_;refine Ac (fun k => k ≤ l.length ∧ (l.take k).all (fun p => decide (p ≠ s)) = true ∧ (l.take k).Nodup) (fun k : Nat => ⟨[(0,.d (.i .i64 s)),(1,.d (.is l)),(7,.d (.is l)),(8,.d (.i .i64 l.length)),(9,.d (.i .i64 k))],[],25⟩) (fun k => l.length - k) 0 ⟨Nat.zero_le _,by simp,by simp⟩ ?_ (Nat.le_refl _) ?_
 ·exact A3.ck rfl
 rintro k ⟨hk,hok,hnd⟩
 by_cases hkl : k < l.length
 ·have hst:=cut k hkl;have hco:=RX (l.take k) (l.getD k 0) (by rw [List.length_take];omega);rw [hok,Bool.true_and] at hst
  by_cases hb : l.getD k 0 = s
  ·have f1:=AS hb
   have e : apartB s l = false:=by
    unfold apartB
    have : l.getD k 0 ∈ l:=by
     rw [List.getD_eq_getElem?_getD,List.getElem?_eq_getElem hkl];exact List.getElem_mem hkl
    have h2 : l.all (fun p => decide (p ≠ s)) = false:=by
     rw [List.all_eq_false];exact ⟨_,this,by rw [hb];simp⟩
    rw [h2];rfl
   refine wk HH [] (AF f1) A0 ?_;with_reducible repeat' first|constructor|intro hc;try simp only[AD] at hc
   refine ⟨_,_,rfl,rfl,?_⟩;simp [AR,AB,A7,A4,e]
  ·have f1:=eq_false' hb
   by_cases hm : l.getD k 0 ∈ l.take k
   ·rw [decide_eq_true hm] at hco
    have e : apartB s l = false:=by
     unfold apartB;obtain ⟨j,hj,e⟩:=List.mem_iff_getElem.1 hm;rw [List.length_take] at hj;have : ¬ l.Nodup:=Sb (j:=j) (k:=k) (by omega) hkl (by rw [← e,List.getElem_take,List.getD_eq_getElem?_getD,List.getElem?_eq_getElem (by omega : j < l.length)];rfl);simp [this]
    refine wk HH [] (AF f1) (AF @hco) ?_;with_reducible repeat' first|constructor|intro hc;try simp only[AD] at hc
    refine ⟨_,_,rfl,rfl,?_⟩;simp [AR,AB,A7,A4,e]
   ·rw [decide_eq_false hm] at hco;refine wk HH [] (AF f1) (AF @hco) ?_;with_reducible repeat' first|constructor|intro hc;try simp only[AD] at hc
    refine ⟨k + 1,⟨hkl,by rw [hst,decide_eq_true hb],Nk hkl hnd fun i hi h => hm ?_⟩,by omega,Nat.le_refl _,?_⟩
    ·rw [← h,List.getD_eq_getElem?_getD,List.getElem?_eq_getElem (by omega : i < l.length)];exact List.mem_iff_getElem.2 ⟨i,by rw [List.length_take];omega,by rw [List.getElem_take];rfl⟩
    exact A3.ck rfl
 ·have e : k = l.length:=by omega
  subst e;rw [List.take_length] at hok hnd;have e2 : apartB s l = true:=by unfold apartB;rw [hok,decide_eq_true hnd];rfl
  refine wk HH [] A0 A0 ?_;with_reducible repeat' first|constructor|intro hc;try simp only[AD] at hc
  refine ⟨_,_,rfl,rfl,?_⟩;simp [AR,AB,A7,A4,e2]
def A8.bare (m : A8) : A8 :=
 if m.kind = 4 then { m with key:=0,slow:=false } else
 if m.kind = 5 then { m with item:=AE } else
 if m.kind = 6 then { m with item:=AE } else
 if m.kind = 7 then { m with pred:=0,list:=[] } else
 if m.kind = 10 then { m with place:=0,done:=false } else
 if m.kind = 11 then { m with code:=0 } else
 if m.kind = 12 then { m with code:=0,item:=AE } else m
def A8.has (m : A8) : Bool :=
 if m.kind = 4 then B7 m.key else
 if m.kind = 5 then AU m.item else
 if m.kind = 6 then AU m.item && decide (m.item = ⟨m.item.key,0,0,false⟩) else
 if m.kind = 7 then (decide (m.pred = -1) || B7 m.pred) && ED m.list m.src else
 if m.kind = 10 then B7 m.place else
 if m.kind = 11 then decide (m.code = 0) || decide (m.code = 200) else
 if m.kind = 12 then (decide (m.code = 0) && AU m.item) || (decide (m.code = 201) && decide (m.item = AE)) else true
theorem ci (m : A8) : Go.Gar.Fn Tryz.prog 66 [m.d] m.bare.d:=by
 obtain ⟨k,c,s,d,ky,sl,dn,pl,pr,l,⟨ik,iv,ir,ig⟩,co⟩:=m;refine zF A6 Tryz.func66 ?_;refine wk [0,1,2,4,5,9,14,18,22,25] [] A0 A0 ?_;with_reducible repeat' first|constructor|intro hc;try simp only[AD] at hc
 all_goals (refine ⟨_,_,rfl,rfl,?_⟩;simp [*,A8.bare,A8.d,A8.cells,AE,LC,Bu,CU,Bi,LD,A7,AB,A4])
theorem gz (m : A8) (hl : m.list.length ≤ 9223372036854775807) : Go.Gar.Fn Tryz.prog 67 [m.d] (.b m.has):=by
 obtain ⟨k,c,s,d,ky,sl,dn,pl,pr,l,⟨ik,iv,ir,ig⟩,co⟩:=m;have hp:=Cb;have hP:=IY ⟨ik,iv,ir,ig⟩;have hL:=bP l s hl;have i1:=Gw ⟨ik,iv,ir,ig⟩ ⟨ik,0,0,false⟩;have i2:=Gw ⟨ik,iv,ir,ig⟩ ⟨[],0,0,false⟩;refine zF A6 Tryz.func67 ?_;refine wk [0,1,2,4,5,10,15,29,46,51,61] [] (Aj i1 i2) (Dl @hp @hP @hL) ?_;with_reducible repeat' first|constructor|intro hc;try simp only[AD] at hc
 all_goals (clear hp hP hL i1 i2;refine ⟨_,_,rfl,rfl,?_⟩;simp_all [BN,A8.has,AE,DK])
theorem Dj {n : Int} (h : B7 n = true) : 0 ≤ n ∧ n < 65536:=by simpa [B7] using h
theorem eF {n : Int} : B7 n = true ↔ 0 ≤ n ∧ n < 65536:=by simp [B7]
def A8.empty (m : A8) : A8:=⟨m.kind,m.call,m.src,m.dst,0,false,false,0,0,[],AE,0⟩
def A8.IL (m : A8) : Bool:=decide (1 ≤ m.kind) && decide (m.kind < 13) && B7 m.src && B7 m.dst && decide (m.src ≠ m.dst) && decide (m.asker * 1048576 + 1 ≤ m.call) && decide (m.call < m.asker * 1048576 + 1 + 1048576)
def A8.right (m : A8) : Bool:=m.IL && (decide (m.bare = m.empty) && m.has)
theorem Yo (m : A8) (hl : m.list.length ≤ 9223372036854775807) : m.bare.list.length ≤ 9223372036854775807:=by
 unfold A8.bare
 repeat' split
 all_goals first | exact hl | (show ([] : List Int).length ≤ 9223372036854775807;decide)
theorem XQ (m : A8) (hl : m.list.length ≤ 9223372036854775807) : Go.Gar.Fn Tryz.prog 19 [m.d] (.b m.right):=by
 have hb:=ci m;have hh:=gz m hl;have hA:=XM m;have hS:=bE m.bare m.empty (Yo m hl);have hp1:=Cb m.src;have hp2:=Cb m.dst;have hR : m.right = (m.IL && (decide (m.bare = m.empty) && m.has)):=rfl;have hH : m.IL = (decide (1 ≤ m.kind) && decide (m.kind < 13) && B7 m.src && B7 m.dst && decide (m.src ≠ m.dst) && decide (m.asker * 1048576 + 1 ≤ m.call) && decide (m.call < m.asker * 1048576 + 1 + 1048576)):=rfl
 have hAb : B7 m.src = true → B7 m.dst = true → 0 ≤ m.asker ∧ m.asker < 65536:=by
  intro h1 h2;unfold A8.asker;split
  ·exact Dj h1
  ·exact Dj h2
 unfold A8.d A8.cells at hb hh hA hS ⊢;simp only [A8.empty,AE] at hS;generalize m.bare = B at *;generalize m.has = hs at *;generalize m.asker = A at *;generalize m.right = R at *;generalize m.IL = H at *;obtain ⟨k,c,s,d,ky,sl,dn,pl,pr,l,⟨ik,iv,ir,ig⟩,co⟩:=m;refine zF A6 Tryz.func19 ?_;simp only at *
 cases h1 : B7 s with
 | false =>
  rw [h1] at hp1 hH;refine wd [0,1,2,3,4,31,46] [] [] A0 (AF @hp1) ?_;with_reducible repeat' first|constructor|intro hc;try simp only[AD] at hc
  all_goals (refine ⟨_,_,rfl,rfl,?_⟩;simp_all [BN])
 | true =>
 rw [h1] at hp1 hH
 cases h2 : B7 d with
 | false =>
  rw [h2] at hp2 hH;refine wd [0,1,2,3,4,31,46] [] [] A0 (Aj @hp1 @hp2) ?_;with_reducible repeat' first|constructor|intro hc;try simp only[AD] at hc
  all_goals (refine ⟨_,_,rfl,rfl,?_⟩;simp_all [BN])
 | true =>
 rw [h2] at hp2 hH;have hA2:=hAb h1 h2;have z1:=@hS;refine wd [0,1,2,3,4,31,46] [] [] A0 (R2 @hp1 @hp2 @hA @hb @hh) ?_;clear z1;with_reducible repeat' first|constructor|intro hc;try simp only[AD] at hc
 all_goals (clear hb hh hA hS hp1 hp2 hAb;refine ⟨_,_,rfl,rfl,?_⟩;simp_all [BN,A8.empty,AE] <;> omega)
theorem J9 (m : A8) (hl : m.list.length < 9223372036854775807) : Go.Gar.Fn Tryz.prog 19 [m.d] (.b m.right):=XQ m (Nat.le_of_lt hl)
end Wi
end Go.Proofs.YtkljbfejbakooaaGreatDoor
