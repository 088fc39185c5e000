/- Part 12 of the texts of this proof, put together by a program and made short.
Conditions: none; what each theorem asks stands in its own hypotheses. -/
import Derived.Test.YtnahkfkljohjaaaGreatDoorH09
import Derived.Test.YtnahkfkljohjaaaGreatDoorH10
import Derived.KernelRfl
import Derived.RangeFuncIn
import Derived.OpenShut
import Derived.ProofKit
import Derived.CallsIn
import Derived.RangeFuncLeaves
import Derived.OrdersIn
import Derived.TacticsIn
import Derived.ChangeKeysEq
import Derived.Laws.AppendOwn
import Derived.Laws.OwnMore
import Derived.Laws.MakeOwn
import Derived.Laws.Rows
import Derived.Laws.Cells
import Derived.Laws.Tables
import Derived.Laws.CopyRow
import Derived.Laws.Strings
import Derived.Laws.IdiomStrings
import Derived.Laws.BytesArg
import Derived.Sort.Grow
import Derived.Laws.Cover3
import Derived.RecoverIn
import Derived.Test.YtnahkfkljohjaaaGreatDoorProg
set_option linter.unusedSimpArgs false
set_option linter.unusedVariables false
set_option linter.unnecessarySimpa false
set_option maxHeartbeats 40000000
namespace Go.Proofs.YtnahkfkljohjaaaGreatDoor
namespace Wi
open Go.Gar
set_option maxRecDepth 4000
theorem XS (a b : A8) (ha : a.list.length < 9223372036854775807) : Go.Gar.Fn Tryz.prog 164 [a.d,b.d] (.b (decide (a = b))):=by
 have hE:=SN a.list b.list ha
 obtain ⟨k,c,s,d,ky,sl,dn,pl,pr,l,⟨ik,iv,ir,ig⟩,co⟩:=a
 obtain ⟨k',c',s',d',ky',sl',dn',pl',pr',l',⟨ik',iv',ir',ig'⟩,co'⟩:=b
 have hI:=GO ⟨ik,iv,ir,ig⟩ ⟨ik',iv',ir',ig'⟩
 refine A0 AB Tryz.func164 rfl rfl (Nat.le_of_ble_eq_true rfl) ?_
 refine wk [0,1,2,3,4] [] (AD hI) (AD @hE) ?_;with_reducible repeat' first|constructor|intro hc;try simp only[A3] at hc
 all_goals (clear ha hE;refine ⟨_,_,rfl,rfl,?_⟩;simp_all [C4,DW])
def A8.beside (m : A8) : A8 :=
 if m.kind = 4 then { m with kind:=0,call:=0,src:=0,dst:=0,key:=0,slow:=false } else
 if m.kind = 5 then { m with kind:=0,call:=0,src:=0,dst:=0,item:=AP } else
 if m.kind = 6 then { m with kind:=0,call:=0,src:=0,dst:=0,item:=⟨[],m.item.value,m.item.version,m.item.gone⟩ } else
 if m.kind = 7 then { m with kind:=0,call:=0,src:=0,dst:=0,pred:=0,list:=[] } else
 if m.kind = 10 then { m with kind:=0,call:=0,src:=0,dst:=0,place:=0,done:=false } else
 if m.kind = 11 then { m with kind:=0,call:=0,src:=0,dst:=0,code:=0 } else
 if m.kind = 12 then { m with kind:=0,call:=0,src:=0,dst:=0,code:=0,item:=AP } else
 { m with kind:=0,call:=0,src:=0,dst:=0 }
def A8.holds (m : A8) : Bool :=
 if m.kind = 5 then Ak m.item else
 if m.kind = 6 then B8 m.item.key else
 if m.kind = 7 then decide ((m.list.length : Int) ≤ 3) && apartB m.src m.list else
 if m.kind = 11 then decide (m.code = 0) || decide (m.code = 200) else
 if m.kind = 12 then (decide (m.code = 0) && Ak m.item) || (decide (m.code = 201) && decide (m.item = AP)) else true
theorem T6 (m : A8) : Go.Gar.Fn Tryz.prog 165 [m.d] m.beside.d:=by
 obtain ⟨k,c,s,d,ky,sl,dn,pl,pr,l,⟨ik,iv,ir,ig⟩,co⟩:=m
 refine A0 AB Tryz.func165 rfl rfl (Nat.le_of_ble_eq_true rfl) ?_
 refine wk [0,1,2,4,5,9,13,17,21,25,28] [] A1 A1 ?_;with_reducible repeat' first|constructor|intro hc;try simp only[A3] at hc
 all_goals (refine ⟨_,_,rfl,rfl,?_⟩;simp [*,A8.beside,A8.d,A8.cells,AP,LJ,Dq,Ea,C0,Nf,A5,A6,A4])
theorem Uw (m : A8) (hl : m.list.length < 9223372036854775807) : Go.Gar.Fn Tryz.prog 159 [m.d] (.b m.holds):=by
 obtain ⟨k,c,s,d,ky,sl,dn,pl,pr,l,⟨ik,iv,ir,ig⟩,co⟩:=m
 have hk:=Hr ik
 have hP:=Hz ⟨ik,iv,ir,ig⟩
 have hL:=Vd s l hl
 have i2:=GO ⟨ik,iv,ir,ig⟩ ⟨[],0,0,false⟩
 refine A0 AB Tryz.func159 rfl rfl (Nat.le_of_ble_eq_true rfl) ?_
 refine wk [0,1,2,4,5,10,16,29,39] [] (AD i2) (Bo @hk @hP @hL) ?_;with_reducible repeat' first|constructor|intro hc;try simp only[A3] at hc
 all_goals (clear hk hP hL i2;refine ⟨_,_,rfl,rfl,?_⟩;simp_all [C4,A8.holds,AP,DW] <;> (intro;exfalso;omega))
theorem JD (a c : Int) (h : 0 ≤ a ∧ a < 65536) : Go.Gar.Fn Tryz.prog 162 [.i .i64 a,.i .i64 c] (.b (decide (c > a * 1048576) && decide (c ≤ (a + 1) * 1048576))):=by
 refine A0 AB Tryz.func162 rfl rfl (Nat.le_of_ble_eq_true rfl) ?_
 refine wk [0,1,4] [] A1 A1 ?_;with_reducible repeat' first|constructor|intro hc;try simp only[A3] at hc
 all_goals (refine ⟨_,_,rfl,rfl,?_⟩;simp_all [C4] <;> omega)
def mC (m : A8) : List AV:=[.d (.i .u8 m.kind),.d (.i .i64 m.call),.d (.i .i64 m.src),.d (.i .i64 m.dst),.d (.i .i64 m.key),.d (.b m.slow),.d (.b m.done),.d (.i .i64 m.place),.d (.i .i64 m.pred),.d (.is m.list),.d (.s m.item.key),.d (.i .i64 m.item.value),.d (.i .i64 m.item.version),.d (.b m.item.gone),.d (.i .i64 m.code)]
theorem T2 (m : A8) : B4 Tryz.prog 160 [.d m.d] [] (.fn (.func 202) [] [.ptr 0 0 15]) [.c (mC m)]:=by
 refine A7 AB Tryz.func160 rfl rfl (Nat.le_of_ble_eq_true rfl) ?_
 refine wk [0,1,2] [] A1 A1 ?_;with_reducible repeat' first|constructor|intro hc;try simp only[A3] at hc
 exact ⟨_,(A2.ck rfl),Nat.zero_le _,_,_,rfl,rfl,rfl,rfl⟩
def A8.DY (m : A8) : Bool :=
 B0 m.src && B0 m.dst && (if m.kind = 4 then B0 m.key else if m.kind = 10 then B0 m.place else if m.kind = 7 then (decide (m.pred = -1) || B0 m.pred) && m.list.all B0 else true)
abbrev Cl : List Nat:=[0,1,2,3,16,18,19,22,35]
abbrev HJ : List Nat:=[0,1,4,16,18,19,25,31,42,44,45,46,47,53]
def WX (m : A8) (r : Lp) : List AC:=[.c (mC m),.c (mC m),.lp r]
theorem Ue {l : List Int} {k : Nat} (hk : k < l.length) (h : (l.take k).all B0 = true) (h2 : B0 (l.getD k 0) = true) : (l.take (k + 1)).all B0 = true:=by
 rw [List.take_succ_eq_append_getElem hk,List.all_append,h]
 rw [List.getD_eq_getElem?_getD,List.getElem?_eq_getElem hk] at h2
 simpa using h2
theorem ZZ {l : List Int} {k : Nat} (hk : k < l.length) (h2 : B0 (l.getD k 0) = false) : l.all B0 = false:=by
 rw [List.getD_eq_getElem?_getD,List.getElem?_eq_getElem hk] at h2
 rw [List.all_eq_false]
 exact ⟨_,List.getElem_mem hk,by simpa using h2⟩
theorem Tm (m : A8) (hl : m.list.length < 9223372036854775807) : Go.Gar.Fn Tryz.prog 105 [m.d] (.b (decide (1 ≤ m.kind) && decide (m.kind < 13) && m.holds && m.DY && (decide (m.src ≠ m.dst) && (decide (m.call > m.asker * 1048576) && decide (m.call ≤ (m.asker + 1) * 1048576)) && decide (m.beside = AX)))):=by
 have hh:=Uw m hl
 have hb:=T6 m
 have hA:=Tf m
 have hS:=XS m.beside AX (by unfold A8.beside;repeat' split
                             all_goals first | exact hl | (show ([] : List Int).length < 9223372036854775807;decide))
 have hpl:=T2 m
 have hok : m.DY = (B0 m.src && B0 m.dst && (if m.kind = 4 then B0 m.key else if m.kind = 10 then B0 m.place else if m.kind = 7 then (decide (m.pred = -1) || B0 m.pred) && m.list.all B0 else true)):=rfl
 have hAb : m.DY = true → 0 ≤ m.asker ∧ m.asker < 65536:=by
  intro h
  unfold A8.DY at h
  simp only [Bool.and_eq_true] at h
  unfold A8.asker
  split
  ·exact LM h.1.1
  ·exact LM h.1.2
 unfold A8.d A8.cells at hh hA hS hb hpl ⊢
 simp only [AX,AP] at hS ⊢
 generalize m.beside = B at *
 generalize m.holds = hs at *
 generalize m.asker = A at *
 generalize m.DY = O at *
 obtain ⟨k,c,s,d,ky,sl,dn,pl,pr,l,⟨ik,iv,ir,ig⟩,co⟩:=m
 simp only [mC] at *
 refine A0 AB Tryz.func105 rfl rfl (Nat.le_of_ble_eq_true rfl) ?_
 by_cases h1 : decide (1 ≤ k) && decide (k < 13) && hs
 ·simp only [Bool.and_eq_true,decide_eq_true_eq] at h1
  obtain ⟨⟨h11,h12⟩,h13⟩:=h1
  rw [h13] at hh
  have d1:=Ds.mk [] (hpl);have sc : No 3:=trivial;refine wd Cl [] [] A1 (AD @hh) ?_;clear sc d1;with_reducible repeat' first|constructor|intro hc;try simp only[A3] at hc
  refine Aq (K:=fun r _ H' => (O = true ∧ H' = WX (A8.mk k c s d ky sl dn pl pr l ⟨ik,iv,ir,ig⟩ co) r) ∨
   (O = false ∧ H' = WX (A8.mk k c s d ky sl dn pl pr l ⟨ik,iv,ir,ig⟩ co) (r.left (.goto 0)))) rfl (by first | (simp only [AL,AJ,Nat.reduceAdd,Int.reduceAdd,Int.reduceSub,Int.reduceMul,Int.reduceToNat];done) | (simp only [AL,AJ,Nat.reduceAdd,Int.reduceAdd,Int.reduceSub,Int.reduceMul,Int.reduceToNat];rfl) | rfl) (by first | (simp only [AL,AJ,Nat.reduceAdd,Int.reduceAdd,Int.reduceSub,Int.reduceMul,Int.reduceToNat];done) | (simp only [AL,AJ,Nat.reduceAdd,Int.reduceAdd,Int.reduceSub,Int.reduceMul,Int.reduceToNat];rfl) | rfl) (fun r => rfl) ?_ ?_
  ·intro r hr
   have hT : ∀ n,B0 n = true → YT Tryz.prog 2 [.d (.i .i64 n)] (WX (A8.mk k c s d ky sl dn pl pr l ⟨ik,iv,ir,ig⟩ co) r) fun x K => x = .d (.b true) ∧ K = WX (A8.mk k c s d ky sl dn pl pr l ⟨ik,iv,ir,ig⟩ co) r:=by
    intro n hn
    have d1:=JI n
    rw [hn] at d1
    unfold WX mC
    refine Aj hr rfl rfl rfl ?_
    have sc : No 3:=trivial;refine wd Cl [] [] A1 A1 ?_;clear sc;with_reducible repeat' first|constructor|intro hc;try simp only[A3] at hc
    refine ⟨rfl,Bl (by first | (simp only [AL,AJ,Nat.reduceAdd,Int.reduceAdd,Int.reduceSub,Int.reduceMul,Int.reduceToNat];done) | (simp only [AL,AJ,Nat.reduceAdd,Int.reduceAdd,Int.reduceSub,Int.reduceMul,Int.reduceToNat];rfl) | rfl) ?_⟩
    have sc : No 3:=trivial;refine wd Cl [] [] A1 (AD @d1) ?_;clear sc;with_reducible repeat' first|constructor|intro hc;try simp only[A3] at hc
    exact ⟨_,A2.refl _,Nat.le_refl _,rfl,rfl,rfl⟩
   have hF : ∀ n,B0 n = false → YT Tryz.prog 2 [.d (.i .i64 n)] (WX (A8.mk k c s d ky sl dn pl pr l ⟨ik,iv,ir,ig⟩ co) r) fun x K => x = .d (.b false) ∧ K = WX (A8.mk k c s d ky sl dn pl pr l ⟨ik,iv,ir,ig⟩ co) (r.left (.goto 0)):=by
    intro n hn
    have d1:=JI n
    rw [hn] at d1
    unfold WX mC
    refine Aj hr rfl rfl rfl ?_
    have sc : No 3:=trivial;refine wd Cl [] [] A1 A1 ?_;clear sc;with_reducible repeat' first|constructor|intro hc;try simp only[A3] at hc
    refine ⟨rfl,Bl (by first | (simp only [AL,AJ,Nat.reduceAdd,Int.reduceAdd,Int.reduceSub,Int.reduceMul,Int.reduceToNat];done) | (simp only [AL,AJ,Nat.reduceAdd,Int.reduceAdd,Int.reduceSub,Int.reduceMul,Int.reduceToNat];rfl) | rfl) ?_⟩
    have sc : No 3:=trivial;refine wd Cl [] [] A1 (AD @d1) ?_;clear sc;with_reducible repeat' first|constructor|intro hc;try simp only[A3] at hc
    exact ⟨_,A2.refl _,Nat.le_refl _,rfl,rfl,rfl⟩
   refine Ap AB Tryz.func202 rfl rfl (Nat.le_of_ble_eq_true rfl) ?_
   have hk:=hr.ok (k:=2) rfl
   unfold WX mC at *
   simp only at *
   have g1T:=@hT;have g1F:=@hF;refine wk HJ [] A1 A1 ?_;clear g1F g1T;with_reducible repeat' first|constructor|intro hc;try simp only[A3] at hc
   all_goals clear hh hA hS hb hpl
   all_goals try exact ⟨_,A2.refl _,Nat.le_refl _,_,_,rfl,rfl,.inl ⟨by rw [hok];simp [*],rfl⟩⟩
   all_goals try exact ⟨_,A2.refl _,Nat.le_refl _,_,_,rfl,rfl,.inr ⟨by rw [hok];simp [*],rfl⟩⟩
   all_goals (
    have hO : O = l.all B0:=by rw [hok];simp [*]
    clear hok
    refine BF (fun j => j ≤ l.length ∧ (l.take j).all B0 = true) (fun j : Nat => ⟨[(0,.yl 2),(44,.d (.is l)),(45,.d (.i .i64 l.length)),(46,.d (.i .i64 j))],[.c [.d (.i .u8 k),.d (.i .i64 c),.d (.i .i64 s),.d (.i .i64 d),.d (.i .i64 ky),.d (.b sl),.d (.b dn),.d (.i .i64 pl),.d (.i .i64 pr),.d (.is l),.d (.s ik),.d (.i .i64 iv),.d (.i .i64 ir),.d (.b ig),.d (.i .i64 co)],.c [.d (.i .u8 k),.d (.i .i64 c),.d (.i .i64 s),.d (.i .i64 d),.d (.i .i64 ky),.d (.b sl),.d (.b dn),.d (.i .i64 pl),.d (.i .i64 pr),.d (.is l),.d (.s ik),.d (.i .i64 iv),.d (.i .i64 ir),.d (.b ig),.d (.i .i64 co)],.lp r],55⟩) (fun j => l.length - j) 0 ⟨Nat.zero_le _,by simp⟩ ?_ (Nat.le_refl _) ?_
    ·exact A2.ck rfl
    rintro j ⟨hj,hall⟩
    by_cases hjl : j < l.length
    ·cases hp : B0 (l.getD j 0) with
     | true =>
      have h3:=Ue hjl hall hp
      have h4:=hT _ hp
      have q1:=@h4;refine wk HJ [] A1 A1 ?_;clear q1;with_reducible repeat' first|constructor|intro hc;try simp only[A3] at hc
      refine ⟨j + 1,⟨hjl,h3⟩,by omega,Nat.le_refl _,?_⟩
      exact A2.ck rfl
     | false =>
      have h4:=hF _ hp
      have q1:=@h4;refine wk HJ [] A1 A1 ?_;clear q1;with_reducible repeat' first|constructor|intro hc;try simp only[A3] at hc
      exact ⟨_,A2.refl _,Nat.le_refl _,_,_,rfl,rfl,.inr ⟨by rw [hO];exact ZZ hjl hp,rfl⟩⟩
    ·have e : j = l.length:=by omega
     subst e
     rw [List.take_length] at hall
     refine wk HJ [] A1 A1 ?_;with_reducible repeat' first|constructor|intro hc;try simp only[A3] at hc
     exact ⟨_,A2.refl _,Nat.le_refl _,_,_,rfl,rfl,.inl ⟨by rw [hO];exact hall,rfl⟩⟩)
  ·rintro r hr y H' (⟨h,rfl⟩ | ⟨h,rfl⟩)
   ·refine .inl ⟨rfl,?_⟩
    have hC:=JD A c (hAb h)
    unfold WX mC
    have z1:=@hS;have sc : No 3:=trivial;refine wd Cl [] [] A1 (Bo @hA @hC @hb) ?_;clear sc z1;with_reducible repeat' first|constructor|intro hc;try simp only[A3] at hc
    all_goals clear hh hA hS hb hpl hC
    all_goals (refine ⟨_,_,rfl,rfl,?_⟩;simp_all [C4] <;> omega)
   ·refine .inr ⟨.goto 0,rfl,?_⟩
    unfold WX mC
    have sc : No 3:=trivial;refine wd Cl [] [] A1 A1 ?_;clear sc;with_reducible repeat' first|constructor|intro hc;try simp only[A3] at hc
    refine ⟨_,_,rfl,rfl,?_⟩;simp [AE,A6,A5,A4,h]
 ·cases hs with
  | false =>
   have sc : No 3:=trivial;refine wd Cl [] [] A1 (AD @hh) ?_;clear sc;with_reducible repeat' first|constructor|intro hc;try simp only[A3] at hc
   all_goals clear hh hA hS hb hpl
   all_goals (refine ⟨_,_,rfl,rfl,?_⟩;simp_all [C4])
  | true =>
   have h2 : ¬ (1 ≤ k ∧ k < 13):=fun h => h1 (by simp [h])
   have sc : No 3:=trivial;refine wd Cl [] [] A1 (AD @hh) ?_;clear sc;with_reducible repeat' first|constructor|intro hc;try simp only[A3] at hc
   all_goals clear hh hA hS hb hpl
   all_goals (refine ⟨_,_,rfl,rfl,?_⟩;simp_all [C4] <;> omega)
theorem Ts (s : Int) (l : List Int) : FD l s = ((decide ((l.length : Int) ≤ 3) && apartB s l) && l.all B0):=by
 have h1 : Ed s l = (l.all B0 && l.all (fun p => decide (p ≠ s))):=by
  unfold Ed
  induction l with
  | nil => rfl
  | cons x r ih => simp only [List.all_cons,ih];cases B0 x <;> cases decide (x ≠ s) <;> simp
 have h2 : decide ((l.length : Int) ≤ 3) = decide (l.length ≤ 3):=by congr 1;simp;omega
 unfold FD apartB
 rw [h1,h2]
 cases l.all B0 <;> cases l.all (fun p => decide (p ≠ s)) <;> cases decide l.Nodup <;> cases decide (l.length ≤ 3) <;> rfl
theorem ZW (m : A8) : (decide (1 ≤ m.kind) && decide (m.kind < 13) && m.holds && m.DY && (decide (m.src ≠ m.dst) && (decide (m.call > m.asker * 1048576) && decide (m.call ≤ (m.asker + 1) * 1048576)) && decide (m.beside = AX))) = m.right:=by
 have hc : (decide (m.call > m.asker * 1048576) && decide (m.call ≤ (m.asker + 1) * 1048576)) = (decide (m.asker * 1048576 + 1 ≤ m.call) && decide (m.call < m.asker * 1048576 + 1 + 1048576)):=by
  have e1 : (m.call > m.asker * 1048576) = (m.asker * 1048576 + 1 ≤ m.call):=propext (by omega)
  have e2 : (m.call ≤ (m.asker + 1) * 1048576) = (m.call < m.asker * 1048576 + 1 + 1048576):=propext (by omega)
  simp only [e1,e2]
 have key : (m.holds && m.DY && decide (m.beside = AX)) = (B0 m.src && B0 m.dst && (decide (m.bare = m.empty) && m.has)):=by
  obtain ⟨k,c,s,d,ky,sl,dn,pl,pr,l,⟨ik,iv,ir,ig⟩,co⟩:=m
  clear hc
  simp only [A8.holds,A8.DY,A8.has,A8.bare,A8.beside,A8.empty,AX,AP]
  cases B0 s with
  | false => simp
  | true =>
  cases B0 d with
  | false => simp
  | true =>
  simp only [Bool.true_and]
  by_cases h4 : k = 4
  ·subst h4;simp;grind
  by_cases h5 : k = 5
  ·subst h5;simp;grind
  by_cases h6 : k = 6
  ·subst h6;simp;grind [Ak,isVal]
  by_cases h7 : k = 7
  ·subst h7;simp [Ts];grind
  by_cases h10 : k = 10
  ·subst h10;simp;grind
  by_cases h11 : k = 11
  ·subst h11;simp;grind
  by_cases h12 : k = 12
  ·subst h12;simp;grind
  simp [*]
 rw [hc]
 unfold A8.right A8.JL
 revert key
 cases m.holds <;> cases m.DY <;> cases decide (m.beside = AX) <;> cases B0 m.src <;> cases B0 m.dst <;> cases (decide (m.bare = m.empty) && m.has) <;> simp [Bool.and_assoc]
theorem Cc (m : A8) (hl : m.list.length < 9223372036854775807) : Go.Gar.Fn Tryz.prog 105 [m.d] (.b m.right):=by
 rw [← ZW];exact Tm m hl
end Wi
end Go.Proofs.YtnahkfkljohjaaaGreatDoor
