/- Part 9 of the texts of this proof, put together by a program and made short.
Conditions: none; what each theorem asks stands in its own hypotheses. -/
import Derived.Test.YtnahkfkljohjaaaGreatDoorH08
import Derived.KernelRfl
import Derived.RangeFuncIn
import Derived.OpenShut
import Derived.ProofKit
import Derived.CallsIn
import Derived.RangeFuncLeaves
import Derived.OrdersIn
import Derived.TacticsIn
import Derived.ChangeKeysEq
import Derived.Laws.AppendOwn
import Derived.Laws.OwnMore
import Derived.Laws.MakeOwn
import Derived.Laws.Rows
import Derived.Laws.Cells
import Derived.Laws.Tables
import Derived.Laws.CopyRow
import Derived.Laws.Strings
import Derived.Laws.IdiomStrings
import Derived.Laws.BytesArg
import Derived.Sort.Grow
import Derived.Laws.Cover3
import Derived.RecoverIn
import Derived.Test.YtnahkfkljohjaaaGreatDoorProg
set_option linter.unusedSimpArgs false
set_option linter.unusedVariables false
set_option linter.unnecessarySimpa false
set_option maxHeartbeats 40000000
namespace Go.Proofs.YtnahkfkljohjaaaGreatDoor
namespace Wi
open Go.Gar
set_option maxRecDepth 4000
abbrev Dv : List Nat:=[0,1,4,5,6,10,26,29,40]
abbrev FU : List Nat:=[0,1,4,5,6,7,8,9,10,23]
theorem Lc (x : Item) : Go.Gar.Fn Tryz.prog 67 [x.d] (.b (Ak x)):=by
 obtain ⟨k,v,n,g⟩:=x
 refine A0 AB Tryz.func67 rfl rfl (Nat.le_of_ble_eq_true rfl) ?_
 refine wk [0,1,2] [] A1 A1 ?_;with_reducible repeat' first|constructor|intro hc;try simp only[A3] at hc
 all_goals (refine ⟨_,_,rfl,rfl,?_⟩;simp_all [C4,Ak,B8,isVal] <;> omega)
theorem Hz (x : Item) : Go.Gar.Fn Tryz.prog 134 [x.d] (.b (Ak x)):=by
 obtain ⟨k,v,n,g⟩:=x
 have h1:=Hr k
 have h2:=EZ v
 have h3:=EZ n
 refine A0 AB Tryz.func134 rfl rfl (Nat.le_of_ble_eq_true rfl) ?_
 refine wk [0,1,2] [] A1 (Bo @h1 @h2 @h3) ?_;with_reducible repeat' first|constructor|intro hc;try simp only[A3] at hc
 all_goals (refine ⟨_,_,rfl,rfl,?_⟩;simp_all [C4,Ak])
def Ed (s : Int) (l : List Int) : Bool:=l.all fun p => B0 p && decide (p ≠ s)
def FD (l : List Int) (s : Int) : Bool:=Ed s l && decide l.Nodup && decide (l.length ≤ 3)
theorem QQ {s : Int} {l : List Int} {k : Nat} (hk : k < l.length) : Ed s (l.take (k + 1)) = (Ed s (l.take k) && (B0 (l.getD k 0) && decide (l.getD k 0 ≠ s))):=by
 unfold Ed
 rw [List.take_succ_eq_append_getElem hk,List.getD_eq_getElem?_getD,List.getElem?_eq_getElem hk,List.all_append]
 simp only [List.all_cons,List.all_nil,Bool.and_true,Option.getD_some]
theorem Vs {s : Int} {l : List Int} {k : Nat} (h : Ed s (l.take k) = false) : Ed s l = false:=by
 have e : Ed s l = (Ed s (l.take k) && Ed s (l.drop k)):=by
  unfold Ed
  rw [← List.all_append,List.take_append_drop]
 rw [e,h];rfl
theorem OS {l : List Int} {j k : Nat} (hj : j < k) (hk : k < l.length) (h : l.getD j 0 = l.getD k 0) : ¬ l.Nodup:=by
 intro hn
 rw [List.getD_eq_getElem?_getD,List.getD_eq_getElem?_getD,List.getElem?_eq_getElem hk,List.getElem?_eq_getElem (by omega : j < l.length)] at h
 simp only [Option.getD_some] at h
 exact (List.pairwise_iff_getElem.1 hn) j k (by omega) hk hj h
theorem Ki {l : List Int} {k : Nat} (hk : k < l.length) (h : (l.take k).Nodup) (hall : ∀ j,j < k → l.getD j 0 ≠ l.getD k 0) : (l.take (k + 1)).Nodup:=by
 rw [List.take_succ_eq_append_getElem hk,List.nodup_append]
 refine ⟨h,by simp,?_⟩
 intro a ha b hb
 simp at hb
 subst hb
 obtain ⟨j,hj,e⟩:=List.mem_iff_getElem.1 ha
 rw [List.length_take] at hj
 have:=hall j (by omega)
 rw [List.getD_eq_getElem?_getD,List.getD_eq_getElem?_getD,List.getElem?_eq_getElem hk,List.getElem?_eq_getElem (by omega : j < l.length)] at this
 simp at this
 rw [← e,List.getElem_take]
 exact this
theorem Uy (l : List Int) (s : Int) (hl : l.length < 9223372036854775807) : Go.Gar.Fn Tryz.prog 178 [.is l,.i .i64 s] (.b (FD l s)):=by
 refine A0 AB Tryz.func178 rfl rfl (Nat.le_of_ble_eq_true rfl) ?_
 refine wd Dv [] [] A1 A1 ?_;with_reducible repeat' first|constructor|intro hc;try simp only[A3] at hc
 refine BF (fun k => k ≤ l.length ∧ Ed s (l.take k) = true ∧ (l.take k).Nodup) (fun k : Nat => ⟨[(0,.d (.is l)),(1,.d (.i .i64 s)),(5,.d (.i .i64 k))],[],44⟩) (fun k => l.length - k) 0 ⟨Nat.zero_le _,by simp [Ed],by simp⟩ ?_ (Nat.le_refl _) ?_
 ·exact A2.ck rfl
 rintro k ⟨hk,hok,hnd⟩
 by_cases hkl : k < l.length
 ·have hst:=QQ (s:=s) hkl
  rw [hok,Bool.true_and] at hst
  have hp:=By (l.getD k 0)
  by_cases hb : B0 (l.getD k 0) = true ∧ l.getD k 0 ≠ s
  ·rw [hb.1] at hp
   have f1:=eq_false' hb.2
   refine wd Dv [] [] (AD f1) (AD @hp) ?_;with_reducible repeat' first|constructor|intro hc;try simp only[A3] at hc
   refine BF (fun j => j ≤ k ∧ ∀ i,i < j → l.getD i 0 ≠ l.getD k 0) (fun j : Nat => ⟨[(0,.d (.is l)),(1,.d (.i .i64 s)),(5,.d (.i .i64 k)),(6,.d (.i .i64 j))],[],44⟩) (fun j => k - j) 0 ⟨Nat.zero_le _,fun i h => by omega⟩ ?_ (Nat.le_refl _) ?_
   ·exact A2.ck rfl
   rintro j ⟨hj,hall⟩
   by_cases hjk : j < k
   ·refine wd Dv [] [] A1 A1 ?_;with_reducible repeat' first|constructor|intro hc;try simp only[A3] at hc
    ·have e : FD l s = false:=by simp [FD,OS hjk hkl hc]
     refine ⟨_,_,rfl,rfl,?_⟩;simp [AE,A6,A5,A4,e]
    ·refine ⟨j + 1,⟨hjk,fun i hi => ?_⟩,by omega,Nat.le_refl _,?_⟩
     ·rcases Nat.lt_or_eq_of_le (Nat.le_of_lt_succ hi) with h | h
      ·exact hall i h
      ·rw [h];exact hc
     exact A2.ck rfl
   ·have e : j = k:=by omega
    refine wd Dv [] [] A1 A1 ?_;with_reducible repeat' first|constructor|intro hc;try simp only[A3] at hc
    refine ⟨k + 1,⟨hkl,by rw [hst,hb.1,decide_eq_true hb.2];rfl,Ki hkl hnd fun i hi => hall i (by omega)⟩,by omega,Nat.le_refl _,?_⟩
    exact A2.ck rfl
  ·have e : FD l s = false:=by
    have h2 : Ed s (l.take (k + 1)) = false:=by
     rw [hst]
     cases h : B0 (l.getD k 0) with
     | false => rfl
     | true => simp only [Bool.true_and,decide_eq_false_iff_not];exact fun h3 => hb ⟨h,h3⟩
    simp [FD,Vs h2]
   cases h : B0 (l.getD k 0) with
   | false =>
    rw [h] at hp
    refine wd Dv [] [] A1 (AD @hp) ?_;with_reducible repeat' first|constructor|intro hc;try simp only[A3] at hc
    refine ⟨_,_,rfl,rfl,?_⟩;simp [AE,A6,A5,A4,e]
   | true =>
    rw [h] at hp
    have f1 : (l.getD k 0 == s) = true:=by rw [beq_iff_eq];exact Classical.not_not.1 fun h3 => hb ⟨h,h3⟩
    refine wd Dv [] [] (AD f1) (AD @hp) ?_;with_reducible repeat' first|constructor|intro hc;try simp only[A3] at hc
    refine ⟨_,_,rfl,rfl,?_⟩;simp [AE,A6,A5,A4,e]
 ·have e : k = l.length:=by omega
  subst e
  rw [List.take_length] at hok hnd
  have e2 : FD l s = decide ((l.length : Int) ≤ 3):=by
   simp only [FD,hok,decide_eq_true hnd,Bool.and_self,Bool.true_and]
   congr 1;simp;omega
  refine wd Dv [] [] A1 A1 ?_;with_reducible repeat' first|constructor|intro hc;try simp only[A3] at hc
  refine ⟨_,_,rfl,rfl,?_⟩;simp [AE,A6,A5,A4,e2]
def apartB (s : Int) (l : List Int) : Bool:=l.all (fun p => decide (p ≠ s)) && decide l.Nodup
theorem Vd (s : Int) (l : List Int) (hl : l.length < 9223372036854775807) : Go.Gar.Fn Tryz.prog 201 [.i .i64 s,.is l] (.b (apartB s l)):=by
 have cut : ∀ k,k < l.length → (l.take (k + 1)).all (fun p => decide (p ≠ s)) = ((l.take k).all (fun p => decide (p ≠ s)) && decide (l.getD k 0 ≠ s)):=by
  intro k hk
  rw [List.take_succ_eq_append_getElem hk,List.getD_eq_getElem?_getD,List.getElem?_eq_getElem hk,List.all_append]
  simp only [List.all_cons,List.all_nil,Bool.and_true,Option.getD_some]
 refine A0 AB Tryz.func201 rfl rfl (Nat.le_of_ble_eq_true rfl) ?_
 refine wk FU [] A1 A1 ?_;with_reducible repeat' first|constructor|intro hc;try simp only[A3] at hc
 refine BF (fun k => k ≤ l.length ∧ (l.take k).all (fun p => decide (p ≠ s)) = true ∧ (l.take k).Nodup) (fun k : Nat => ⟨[(0,.d (.i .i64 s)),(1,.d (.is l)),(7,.d (.is l)),(8,.d (.i .i64 l.length)),(9,.d (.i .i64 k))],[],25⟩) (fun k => l.length - k) 0 ⟨Nat.zero_le _,by simp,by simp⟩ ?_ (Nat.le_refl _) ?_
 ·exact A2.ck rfl
 rintro k ⟨hk,hok,hnd⟩
 by_cases hkl : k < l.length
 ·have hst:=cut k hkl
  have hco:=OW (l.take k) (l.getD k 0) (by rw [List.length_take];omega)
  rw [hok,Bool.true_and] at hst
  by_cases hb : l.getD k 0 = s
  ·have f1:=AA hb
   have e : apartB s l = false:=by
    unfold apartB
    have : l.getD k 0 ∈ l:=by
     rw [List.getD_eq_getElem?_getD,List.getElem?_eq_getElem hkl];exact List.getElem_mem hkl
    have h2 : l.all (fun p => decide (p ≠ s)) = false:=by
     rw [List.all_eq_false];exact ⟨_,this,by rw [hb];simp⟩
    rw [h2];rfl
   refine wk FU [] (AD f1) A1 ?_;with_reducible repeat' first|constructor|intro hc;try simp only[A3] at hc
   refine ⟨_,_,rfl,rfl,?_⟩;simp [AE,A6,A5,A4,e]
  ·have f1:=eq_false' hb
   by_cases hm : l.getD k 0 ∈ l.take k
   ·rw [decide_eq_true hm] at hco
    have e : apartB s l = false:=by
     unfold apartB
     obtain ⟨j,hj,e⟩:=List.mem_iff_getElem.1 hm
     rw [List.length_take] at hj
     have : ¬ l.Nodup:=OS (j:=j) (k:=k) (by omega) hkl (by rw [← e,List.getElem_take,List.getD_eq_getElem?_getD,List.getElem?_eq_getElem (by omega : j < l.length)];rfl)
     simp [this]
    refine wk FU [] (AD f1) (AD @hco) ?_;with_reducible repeat' first|constructor|intro hc;try simp only[A3] at hc
    refine ⟨_,_,rfl,rfl,?_⟩;simp [AE,A6,A5,A4,e]
   ·rw [decide_eq_false hm] at hco
    refine wk FU [] (AD f1) (AD @hco) ?_;with_reducible repeat' first|constructor|intro hc;try simp only[A3] at hc
    refine ⟨k + 1,⟨hkl,by rw [hst,decide_eq_true hb],Ki hkl hnd fun i hi h => hm ?_⟩,by omega,Nat.le_refl _,?_⟩
    ·rw [← h,List.getD_eq_getElem?_getD,List.getElem?_eq_getElem (by omega : i < l.length)]
     exact List.mem_iff_getElem.2 ⟨i,by rw [List.length_take];omega,by rw [List.getElem_take];rfl⟩
    exact A2.ck rfl
 ·have e : k = l.length:=by omega
  subst e
  rw [List.take_length] at hok hnd
  have e2 : apartB s l = true:=by unfold apartB;rw [hok,decide_eq_true hnd];rfl
  refine wk FU [] A1 A1 ?_;with_reducible repeat' first|constructor|intro hc;try simp only[A3] at hc
  refine ⟨_,_,rfl,rfl,?_⟩;simp [AE,A6,A5,A4,e2]
def A8.bare (m : A8) : A8 :=
 if m.kind = 4 then { m with key:=0,slow:=false } else
 if m.kind = 5 then { m with item:=AP } else
 if m.kind = 6 then { m with item:=AP } else
 if m.kind = 7 then { m with pred:=0,list:=[] } else
 if m.kind = 10 then { m with place:=0,done:=false } else
 if m.kind = 11 then { m with code:=0 } else
 if m.kind = 12 then { m with code:=0,item:=AP } else m
def A8.has (m : A8) : Bool :=
 if m.kind = 4 then B0 m.key else
 if m.kind = 5 then Ak m.item else
 if m.kind = 6 then Ak m.item && decide (m.item = ⟨m.item.key,0,0,false⟩) else
 if m.kind = 7 then (decide (m.pred = -1) || B0 m.pred) && FD m.list m.src else
 if m.kind = 10 then B0 m.place else
 if m.kind = 11 then decide (m.code = 0) || decide (m.code = 200) else
 if m.kind = 12 then (decide (m.code = 0) && Ak m.item) || (decide (m.code = 201) && decide (m.item = AP)) else true
theorem XL (m : A8) : Go.Gar.Fn Tryz.prog 120 [m.d] m.bare.d:=by
 obtain ⟨k,c,s,d,ky,sl,dn,pl,pr,l,⟨ik,iv,ir,ig⟩,co⟩:=m
 refine A0 AB Tryz.func120 rfl rfl (Nat.le_of_ble_eq_true rfl) ?_
 refine wk [0,1,2,4,5,9,14,18,22,25] [] A1 A1 ?_;with_reducible repeat' first|constructor|intro hc;try simp only[A3] at hc
 all_goals (refine ⟨_,_,rfl,rfl,?_⟩;simp [*,A8.bare,A8.d,A8.cells,AP,LJ,Dq,Ea,C0,Nf,A5,A6,A4])
theorem ZU (m : A8) (hl : m.list.length < 9223372036854775807) : Go.Gar.Fn Tryz.prog 121 [m.d] (.b m.has):=by
 obtain ⟨k,c,s,d,ky,sl,dn,pl,pr,l,⟨ik,iv,ir,ig⟩,co⟩:=m
 have hp:=By
 have hP:=Lc ⟨ik,iv,ir,ig⟩
 have hL:=Uy l s hl
 have i1:=GO ⟨ik,iv,ir,ig⟩ ⟨ik,0,0,false⟩
 have i2:=GO ⟨ik,iv,ir,ig⟩ ⟨[],0,0,false⟩
 refine A0 AB Tryz.func121 rfl rfl (Nat.le_of_ble_eq_true rfl) ?_
 refine wk [0,1,2,4,5,10,15,29,46,51,61] [] (Ao i1 i2) (Bo @hp @hP @hL) ?_;with_reducible repeat' first|constructor|intro hc;try simp only[A3] at hc
 all_goals (clear hp hP hL i1 i2;refine ⟨_,_,rfl,rfl,?_⟩;simp_all [C4,A8.has,AP,DW])
theorem LM {n : Int} (h : B0 n = true) : 0 ≤ n ∧ n < 65536:=by simpa [B0] using h
theorem XG {n : Int} : B0 n = true ↔ 0 ≤ n ∧ n < 65536:=by simp [B0]
def A8.empty (m : A8) : A8:=⟨m.kind,m.call,m.src,m.dst,0,false,false,0,0,[],AP,0⟩
def A8.JL (m : A8) : Bool:=decide (1 ≤ m.kind) && decide (m.kind < 13) && B0 m.src && B0 m.dst && decide (m.src ≠ m.dst) && decide (m.asker * 1048576 + 1 ≤ m.call) && decide (m.call < m.asker * 1048576 + 1 + 1048576)
def A8.right (m : A8) : Bool:=m.JL && (decide (m.bare = m.empty) && m.has)
theorem WW (m : A8) (hl : m.list.length < 9223372036854775807) : m.bare.list.length < 9223372036854775807:=by
 unfold A8.bare
 repeat' split
 all_goals first | exact hl | (show ([] : List Int).length < 9223372036854775807;decide)
theorem Gt (m : A8) (hl : m.list.length < 9223372036854775807) : Go.Gar.Fn Tryz.prog 62 [m.d] (.b m.right):=by
 have hb:=XL m
 have hh:=ZU m hl
 have hA:=TA m
 have hS:=Kf m.bare m.empty (WW m hl)
 have hp1:=By m.src
 have hp2:=By m.dst
 have hR : m.right = (m.JL && (decide (m.bare = m.empty) && m.has)):=rfl
 have hH : m.JL = (decide (1 ≤ m.kind) && decide (m.kind < 13) && B0 m.src && B0 m.dst && decide (m.src ≠ m.dst) && decide (m.asker * 1048576 + 1 ≤ m.call) && decide (m.call < m.asker * 1048576 + 1 + 1048576)):=rfl
 have hAb : B0 m.src = true → B0 m.dst = true → 0 ≤ m.asker ∧ m.asker < 65536:=by
  intro h1 h2
  unfold A8.asker
  split
  ·exact LM h1
  ·exact LM h2
 unfold A8.d A8.cells at hb hh hA hS ⊢
 simp only [A8.empty,AP] at hS
 generalize m.bare = B at *
 generalize m.has = hs at *
 generalize m.asker = A at *
 generalize m.right = R at *
 generalize m.JL = H at *
 obtain ⟨k,c,s,d,ky,sl,dn,pl,pr,l,⟨ik,iv,ir,ig⟩,co⟩:=m
 refine A0 AB Tryz.func62 rfl rfl (Nat.le_of_ble_eq_true rfl) ?_
 simp only at *
 cases h1 : B0 s with
 | false =>
  rw [h1] at hp1 hH
  refine wd [0,1,2,3,4,31,46] [] [] A1 (AD @hp1) ?_;with_reducible repeat' first|constructor|intro hc;try simp only[A3] at hc
  all_goals (refine ⟨_,_,rfl,rfl,?_⟩;simp_all [C4])
 | true =>
 rw [h1] at hp1 hH
 cases h2 : B0 d with
 | false =>
  rw [h2] at hp2 hH
  refine wd [0,1,2,3,4,31,46] [] [] A1 (Ao @hp1 @hp2) ?_;with_reducible repeat' first|constructor|intro hc;try simp only[A3] at hc
  all_goals (refine ⟨_,_,rfl,rfl,?_⟩;simp_all [C4])
 | true =>
 rw [h2] at hp2 hH
 have hA2:=hAb h1 h2
 have z1:=@hS;refine wd [0,1,2,3,4,31,46] [] [] A1 (IF @hp1 @hp2 @hA @hb @hh) ?_;clear z1;with_reducible repeat' first|constructor|intro hc;try simp only[A3] at hc
 all_goals (clear hb hh hA hS hp1 hp2 hAb;refine ⟨_,_,rfl,rfl,?_⟩;simp_all [C4,A8.empty,AP] <;> omega)
end Wi
end Go.Proofs.YtnahkfkljohjaaaGreatDoor
