/- Part 20 of the texts of this proof, put together by a program and made short.
Conditions: none; what each theorem asks stands in its own hypotheses. -/
import Derived.Test.YtagnjflbhjmefaaGreatRb17
import Derived.Sort.Walk0
import Derived.KernelRfl
import Derived.RangeFuncIn
import Derived.Sort.Grow
import Derived.Laws.Cover3
import Derived.RecoverIn
import Derived.ProofKit
import Derived.OpenShut
import Derived.CallsIn
import Derived.RangeFuncLeaves
import Derived.OrdersIn
import Derived.TacticsIn
import Derived.ChangeKeysEq
import Derived.Laws.AppendOwn
import Derived.Laws.OwnMore
import Derived.Laws.MakeOwn
import Derived.Laws.Rows
import Derived.Laws.Cells
import Derived.Laws.Tables
import Derived.Laws.CopyRow
import Derived.Laws.Strings
import Derived.Laws.IdiomStrings
import Derived.Laws.BytesArg
import Derived.Test.YtagnjflbhjmefaaGreatProg
set_option linter.unusedSimpArgs false
set_option linter.unusedVariables false
set_option linter.unnecessarySimpa false
set_option maxHeartbeats 40000000
namespace Go.Proofs.YtagnjflbhjmefaaGreat
namespace Wi
open Go.Gar
set_option maxRecDepth 4000
def TO (m : AE) (r : Lp) : List A7:=[.c (mC m),.c (mC m),.lp r]
theorem Uu {l : List Int} {k : Nat} (hk : k < l.length) (h : (l.take k).all Az = true) (h2 : Az (l.getD k 0) = true) : (l.take (k + 1)).all Az = true:=by
 rw [List.take_succ_eq_append_getElem hk,List.all_append,h]
 rw [List.getD_eq_getElem?_getD,List.getElem?_eq_getElem hk] at h2
 simpa using h2
theorem L8 {l : List Int} {k : Nat} (hk : k < l.length) (h2 : Az (l.getD k 0) = false) : l.all Az = false:=by
 rw [List.getD_eq_getElem?_getD,List.getElem?_eq_getElem hk] at h2
 rw [List.all_eq_false]
 exact ⟨_,List.getElem_mem hk,by simpa using h2⟩
theorem R0 (m : AE) (hl : m.list.length < 9223372036854775807) : Go.Gar.Fn Tryz.prog 136 [m.d] (.b (decide (1 ≤ m.kind) && decide (m.kind < 13) && m.holds && m.Cz && (decide (m.src ≠ m.dst) && (decide (m.call > m.asker * 1048576) && decide (m.call ≤ (m.asker + 1) * 1048576)) && decide (m.beside = Ab)))):=by
 have hh:=T8 m hl
 have hb:=SF m
 have hA:=SL m
 have hS:=VW m.beside Ab (by unfold AE.beside;repeat' split
                             all_goals first | exact hl | (show ([] : List Int).length < 9223372036854775807;decide))
 have hpl:=Sb m
 have hok : m.Cz = (Az m.src && Az m.dst && (if m.kind = 4 then Az m.key else if m.kind = 10 then Az m.place else if m.kind = 7 then (decide (m.pred = -1) || Az m.pred) && m.list.all Az else true)):=rfl
 have hAb : m.Cz = true → 0 ≤ m.asker ∧ m.asker < 65536:=by
  intro h
  unfold AE.Cz at h
  simp only [Bool.and_eq_true] at h
  unfold AE.asker
  split
  ·exact Cw h.1.1
  ·exact Cw h.1.2
 unfold AE.d AE.cells at hh hA hS hb hpl ⊢
 simp only [Ab,AP] at hS ⊢
 generalize m.beside = B at *
 generalize m.holds = hs at *
 generalize m.asker = A at *
 generalize m.Cz = O at *
 obtain ⟨k,c,s,d,ky,sl,dn,pl,pr,l,⟨ik,iv,ir,ig⟩,co⟩:=m
 simp only [mC] at *
 refine A3 A8 Tryz.func136 rfl rfl (Nat.le_of_ble_eq_true rfl) ?_
 by_cases h1 : decide (1 ≤ k) && decide (k < 13) && hs
 ·simp only [Bool.and_eq_true,decide_eq_true_eq] at h1
  obtain ⟨⟨h11,h12⟩,h13⟩:=h1
  rw [h13] at hh
  have nS:=True.intro;obtain ⟨lv,st,ns,nc⟩:=wq [0,1,2,3,16,18,19,22,35] [];have c1:=@hh;have d1:=Ds.mk [] (hpl);have pr : AC []:=trivial;have sc : No 3:=trivial;refine wd ?_;clear nc ns st lv sc pr d1 c1;repeat' (first|with_reducible constructor|(with_reducible intro hc;try simp only[A1] at hc))
  refine Bn (K:=fun r _ H' => (O = true ∧ H' = TO (AE.mk k c s d ky sl dn pl pr l ⟨ik,iv,ir,ig⟩ co) r) ∨
   (O = false ∧ H' = TO (AE.mk k c s d ky sl dn pl pr l ⟨ik,iv,ir,ig⟩ co) (r.left (.goto 0)))) rfl (by first | (simp only [Ai,Ae,Nat.reduceAdd,Int.reduceAdd,Int.reduceSub,Int.reduceMul,Int.reduceToNat];done) | (simp only [Ai,Ae,Nat.reduceAdd,Int.reduceAdd,Int.reduceSub,Int.reduceMul,Int.reduceToNat];rfl) | rfl) (by first | (simp only [Ai,Ae,Nat.reduceAdd,Int.reduceAdd,Int.reduceSub,Int.reduceMul,Int.reduceToNat];done) | (simp only [Ai,Ae,Nat.reduceAdd,Int.reduceAdd,Int.reduceSub,Int.reduceMul,Int.reduceToNat];rfl) | rfl) (fun r => rfl) ?_ ?_
  ·intro r hr
   have hT : ∀ n,Az n = true → YT Tryz.prog 2 [.d (.i .i64 n)] (TO (AE.mk k c s d ky sl dn pl pr l ⟨ik,iv,ir,ig⟩ co) r) fun x K => x = .d (.b true) ∧ K = TO (AE.mk k c s d ky sl dn pl pr l ⟨ik,iv,ir,ig⟩ co) r:=by
    intro n hn
    have d1:=Ic n
    rw [hn] at d1
    unfold TO mC
    refine B0 hr rfl rfl rfl ?_
    have nS:=True.intro;obtain ⟨lv,st,ns,nc⟩:=wq [0,1,2,3,16,18,19,22,35] [];have pr : AC []:=trivial;have sc : No 3:=trivial;refine wd ?_;clear nc ns st lv sc pr;repeat' (first|with_reducible constructor|(with_reducible intro hc;try simp only[A1] at hc))
    refine ⟨rfl,CB (by first | (simp only [Ai,Ae,Nat.reduceAdd,Int.reduceAdd,Int.reduceSub,Int.reduceMul,Int.reduceToNat];done) | (simp only [Ai,Ae,Nat.reduceAdd,Int.reduceAdd,Int.reduceSub,Int.reduceMul,Int.reduceToNat];rfl) | rfl) ?_⟩
    have nS:=True.intro;obtain ⟨lv,st,ns,nc⟩:=wq [0,1,2,3,16,18,19,22,35] [];have c1:=@d1;have pr : AC []:=trivial;have sc : No 3:=trivial;refine wd ?_;clear nc ns st lv sc pr c1;repeat' (first|with_reducible constructor|(with_reducible intro hc;try simp only[A1] at hc))
    exact ⟨_,A0.refl _,Nat.le_refl _,rfl,rfl,rfl⟩
   have hF : ∀ n,Az n = false → YT Tryz.prog 2 [.d (.i .i64 n)] (TO (AE.mk k c s d ky sl dn pl pr l ⟨ik,iv,ir,ig⟩ co) r) fun x K => x = .d (.b false) ∧ K = TO (AE.mk k c s d ky sl dn pl pr l ⟨ik,iv,ir,ig⟩ co) (r.left (.goto 0)):=by
    intro n hn
    have d1:=Ic n
    rw [hn] at d1
    unfold TO mC
    refine B0 hr rfl rfl rfl ?_
    have nS:=True.intro;obtain ⟨lv,st,ns,nc⟩:=wq [0,1,2,3,16,18,19,22,35] [];have pr : AC []:=trivial;have sc : No 3:=trivial;refine wd ?_;clear nc ns st lv sc pr;repeat' (first|with_reducible constructor|(with_reducible intro hc;try simp only[A1] at hc))
    refine ⟨rfl,CB (by first | (simp only [Ai,Ae,Nat.reduceAdd,Int.reduceAdd,Int.reduceSub,Int.reduceMul,Int.reduceToNat];done) | (simp only [Ai,Ae,Nat.reduceAdd,Int.reduceAdd,Int.reduceSub,Int.reduceMul,Int.reduceToNat];rfl) | rfl) ?_⟩
    have nS:=True.intro;obtain ⟨lv,st,ns,nc⟩:=wq [0,1,2,3,16,18,19,22,35] [];have c1:=@d1;have pr : AC []:=trivial;have sc : No 3:=trivial;refine wd ?_;clear nc ns st lv sc pr c1;repeat' (first|with_reducible constructor|(with_reducible intro hc;try simp only[A1] at hc))
    exact ⟨_,A0.refl _,Nat.le_refl _,rfl,rfl,rfl⟩
   refine BP A8 Tryz.func250 rfl rfl (Nat.le_of_ble_eq_true rfl) ?_
   have hk:=hr.ok (k:=2) rfl
   unfold TO mC at *
   simp only at *
   have nS:=True.intro;obtain ⟨lv,st,ns,nc⟩:=wq [0,1,4,16,18,19,25,31,42,44,45,46,47,53] [];have g1T:=@hT;have g1F:=@hF;refine wk ?_;clear nc ns st lv g1F g1T;repeat' (first|with_reducible constructor|(with_reducible intro hc;try simp only[A1] at hc))
   all_goals clear hh hA hS hb hpl
   all_goals try exact ⟨_,A0.refl _,Nat.le_refl _,_,_,rfl,rfl,.inl ⟨by rw [hok];simp [*],rfl⟩⟩
   all_goals try exact ⟨_,A0.refl _,Nat.le_refl _,_,_,rfl,rfl,.inr ⟨by rw [hok];simp [*],rfl⟩⟩
   all_goals (
    have hO : O = l.all Az:=by rw [hok];simp [*]
    clear hok
    refine Aq (fun j => j ≤ l.length ∧ (l.take j).all Az = true) (fun j : Nat => ⟨[(0,.yl 2),(44,.d (.is l)),(45,.d (.i .i64 l.length)),(46,.d (.i .i64 j))],[.c [.d (.i .u8 k),.d (.i .i64 c),.d (.i .i64 s),.d (.i .i64 d),.d (.i .i64 ky),.d (.b sl),.d (.b dn),.d (.i .i64 pl),.d (.i .i64 pr),.d (.is l),.d (.s ik),.d (.i .i64 iv),.d (.i .i64 ir),.d (.b ig),.d (.i .i64 co)],.c [.d (.i .u8 k),.d (.i .i64 c),.d (.i .i64 s),.d (.i .i64 d),.d (.i .i64 ky),.d (.b sl),.d (.b dn),.d (.i .i64 pl),.d (.i .i64 pr),.d (.is l),.d (.s ik),.d (.i .i64 iv),.d (.i .i64 ir),.d (.b ig),.d (.i .i64 co)],.lp r],55⟩) (fun j => l.length - j) 0 ⟨Nat.zero_le _,by simp⟩ ?_ (Nat.le_refl _) ?_
    ·exact A0.ck rfl
    rintro j ⟨hj,hall⟩
    by_cases hjl : j < l.length
    ·cases hp : Az (l.getD j 0) with
     | true =>
      have h3:=Uu hjl hall hp
      have h4:=hT _ hp
      have nS:=True.intro;obtain ⟨lv,st,ns,nc⟩:=wq [0,1,4,16,18,19,25,31,42,44,45,46,47,53] [];have q1:=@h4;refine wk ?_;clear nc ns st lv q1;repeat' (first|with_reducible constructor|(with_reducible intro hc;try simp only[A1] at hc))
      refine ⟨j + 1,⟨hjl,h3⟩,by omega,Nat.le_refl _,?_⟩
      exact A0.ck rfl
     | false =>
      have h4:=hF _ hp
      have nS:=True.intro;obtain ⟨lv,st,ns,nc⟩:=wq [0,1,4,16,18,19,25,31,42,44,45,46,47,53] [];have q1:=@h4;refine wk ?_;clear nc ns st lv q1;repeat' (first|with_reducible constructor|(with_reducible intro hc;try simp only[A1] at hc))
      exact ⟨_,A0.refl _,Nat.le_refl _,_,_,rfl,rfl,.inr ⟨by rw [hO];exact L8 hjl hp,rfl⟩⟩
    ·have e : j = l.length:=by omega
     subst e
     rw [List.take_length] at hall
     have nS:=True.intro;obtain ⟨lv,st,ns,nc⟩:=wq [0,1,4,16,18,19,25,31,42,44,45,46,47,53] [];refine wk ?_;clear nc ns st lv;repeat' (first|with_reducible constructor|(with_reducible intro hc;try simp only[A1] at hc))
     exact ⟨_,A0.refl _,Nat.le_refl _,_,_,rfl,rfl,.inl ⟨by rw [hO];exact hall,rfl⟩⟩)
  ·rintro r hr y H' (⟨h,rfl⟩ | ⟨h,rfl⟩)
   ·refine .inl ⟨rfl,?_⟩
    have hC:=IA A c (hAb h)
    unfold TO mC
    have nS:=True.intro;obtain ⟨lv,st,ns,nc⟩:=wq [0,1,2,3,16,18,19,22,35] [];have c1:=@hA;have c2:=@hC;have c3:=@hb;have z1:=@hS;have pr : AC []:=trivial;have sc : No 3:=trivial;refine wd ?_;clear nc ns st lv sc pr z1 c3 c2 c1;repeat' (first|with_reducible constructor|(with_reducible intro hc;try simp only[A1] at hc))
    all_goals clear hh hA hS hb hpl hC
    all_goals (refine ⟨_,_,rfl,rfl,?_⟩;simp_all [BQ] <;> omega)
   ·refine .inr ⟨.goto 0,rfl,?_⟩
    unfold TO mC
    have nS:=True.intro;obtain ⟨lv,st,ns,nc⟩:=wq [0,1,2,3,16,18,19,22,35] [];have pr : AC []:=trivial;have sc : No 3:=trivial;refine wd ?_;clear nc ns st lv sc pr;repeat' (first|with_reducible constructor|(with_reducible intro hc;try simp only[A1] at hc))
    refine ⟨_,_,rfl,rfl,?_⟩;simp [AH,A6,A5,A4,h]
 ·cases hs with
  | false =>
   have nS:=True.intro;obtain ⟨lv,st,ns,nc⟩:=wq [0,1,2,3,16,18,19,22,35] [];have c1:=@hh;have pr : AC []:=trivial;have sc : No 3:=trivial;refine wd ?_;clear nc ns st lv sc pr c1;repeat' (first|with_reducible constructor|(with_reducible intro hc;try simp only[A1] at hc))
   all_goals clear hh hA hS hb hpl
   all_goals (refine ⟨_,_,rfl,rfl,?_⟩;simp_all [BQ])
  | true =>
   have h2 : ¬ (1 ≤ k ∧ k < 13):=fun h => h1 (by simp [h])
   have nS:=True.intro;obtain ⟨lv,st,ns,nc⟩:=wq [0,1,2,3,16,18,19,22,35] [];have c1:=@hh;have pr : AC []:=trivial;have sc : No 3:=trivial;refine wd ?_;clear nc ns st lv sc pr c1;repeat' (first|with_reducible constructor|(with_reducible intro hc;try simp only[A1] at hc))
   all_goals clear hh hA hS hb hpl
   all_goals (refine ⟨_,_,rfl,rfl,?_⟩;simp_all [BQ] <;> omega)
theorem Rz (s : Int) (l : List Int) : Cm l s = ((decide ((l.length : Int) ≤ 3) && apartB s l) && l.all Az):=by
 have h1 : D3 s l = (l.all Az && l.all (fun p => decide (p ≠ s))):=by
  unfold D3
  induction l with
  | nil => rfl
  | cons x r ih => simp only [List.all_cons,ih];cases Az x <;> cases decide (x ≠ s) <;> simp
 have h2 : decide ((l.length : Int) ≤ 3) = decide (l.length ≤ 3):=by congr 1;simp;omega
 unfold Cm apartB
 rw [h1,h2]
 cases l.all Az <;> cases l.all (fun p => decide (p ≠ s)) <;> cases decide l.Nodup <;> cases decide (l.length ≤ 3) <;> rfl
theorem Wb (m : AE) : (decide (1 ≤ m.kind) && decide (m.kind < 13) && m.holds && m.Cz && (decide (m.src ≠ m.dst) && (decide (m.call > m.asker * 1048576) && decide (m.call ≤ (m.asker + 1) * 1048576)) && decide (m.beside = Ab))) = m.right:=by
 have hc : (decide (m.call > m.asker * 1048576) && decide (m.call ≤ (m.asker + 1) * 1048576)) = (decide (m.asker * 1048576 + 1 ≤ m.call) && decide (m.call < m.asker * 1048576 + 1 + 1048576)):=by
  have e1 : (m.call > m.asker * 1048576) = (m.asker * 1048576 + 1 ≤ m.call):=propext (by omega)
  have e2 : (m.call ≤ (m.asker + 1) * 1048576) = (m.call < m.asker * 1048576 + 1 + 1048576):=propext (by omega)
  simp only [e1,e2]
 have key : (m.holds && m.Cz && decide (m.beside = Ab)) = (Az m.src && Az m.dst && (decide (m.bare = m.empty) && m.has)):=by
  obtain ⟨k,c,s,d,ky,sl,dn,pl,pr,l,⟨ik,iv,ir,ig⟩,co⟩:=m
  clear hc
  simp only [AE.holds,AE.Cz,AE.has,AE.bare,AE.beside,AE.empty,Ab,AP]
  cases Az s with
  | false => simp
  | true =>
  cases Az d with
  | false => simp
  | true =>
  simp only [Bool.true_and]
  by_cases h4 : k = 4
  ·subst h4;simp;grind
  by_cases h5 : k = 5
  ·subst h5;simp;grind
  by_cases h6 : k = 6
  ·subst h6;simp;grind [B7,isVal]
  by_cases h7 : k = 7
  ·subst h7;simp [Rz];grind
  by_cases h10 : k = 10
  ·subst h10;simp;grind
  by_cases h11 : k = 11
  ·subst h11;simp;grind
  by_cases h12 : k = 12
  ·subst h12;simp;grind
  simp [*]
 rw [hc]
 unfold AE.right AE.Fu
 revert key
 cases m.holds <;> cases m.Cz <;> cases decide (m.beside = Ab) <;> cases Az m.src <;> cases Az m.dst <;> cases (decide (m.bare = m.empty) && m.has) <;> simp [Bool.and_assoc]
theorem HO (m : AE) (hl : m.list.length < 9223372036854775807) : Go.Gar.Fn Tryz.prog 136 [m.d] (.b m.right):=by
 rw [← Wb];exact R0 m hl
end Wi
end Go.Proofs.YtagnjflbhjmefaaGreat
namespace Go.Proofs.YtagnjflbhjmefaaGreat
namespace Nd
open Go.Gar
open Wi (AE Az)
set_option maxRecDepth 4000
abbrev Gp : Call:=⟨0,Wi.Ab,0,0,0,0⟩
def FQ (id many : Int) (x : Call) : Bool:=x.msg.right && (x.msg.asks && (decide (x.msg.src = id) && (decide (x.id = x.msg.call) && (decide (x.id ≤ id * 1048576 + many) && (decide (1 ≤ x.tries) && (decide (x.tries ≤ 3) && I6 x.sent))))))
def Gr (c : Calls) (k : Nat) : Bool:=FQ c.id c.many (c.op.getD k Gp) && decide (k = 0 ∨ (c.op.getD (k - 1) Gp).id < (c.op.getD k Gp).id)
def Kv (c : Calls) : Bool:=Az c.id && (decide (0 ≤ c.many) && (decide (c.many ≤ 1048576) && decide (c.op.length ≤ 16)))
def CZ (c : Calls) : Bool:=Kv c && Ba c.op.length (Gr c)
def Cj (m : AE) : Prop:=m.list.length ≤ 1048576
theorem lm {m : AE} (h : Cj m) : m.list.length < 9223372036854775807:=by unfold Cj at h;omega
theorem Jw {m : AE} (h : m.right = true) (ha : m.asks = true) : m.src * 1048576 + 1 ≤ m.call ∧ m.call < m.src * 1048576 + 1 + 1048576 ∧ Az m.src = true:=by
 unfold AE.right AE.Fu at h
 simp only [Bool.and_eq_true,decide_eq_true_eq] at h
 obtain ⟨⟨⟨⟨⟨⟨⟨_,_⟩,h1⟩,_⟩,_⟩,h2⟩,h3⟩,_⟩:=h
 unfold AE.asker at h2 h3
 rw [if_pos ha] at h2 h3
 exact ⟨h2,h3,h1⟩
theorem getD_at {α : Type} {l : List α} {k : Nat} {x d : α} (hx : l[k]? = some x) : l.getD k d = x:=by rw [List.getD_eq_getElem?_getD,hx];rfl
theorem IA (id many : Int) (op : List Call) (x : Call) (hi : Az id = true) (hm : 0 ≤ many ∧ many ≤ 1048576) (hl : Cj x.msg) : Go.Gar.Fn Tryz.prog 162 [Calls.d ⟨id,many,op⟩,x.d] (.b (FQ id many x)):=by
 have hb:=Wi.Cw hi
 have c1:=VU id 1
 rw [show Oj id 1 = (id * 1048576 + 1,0) from if_pos ⟨hi,by omega,by omega⟩] at c1
 have c2:=Wi.KA x.msg
 have c3:=Wi.HO x.msg (lm hl)
 have c4:=R9 x.sent
 have hR:=@Jw x.msg
 have hT : FQ id many x = (x.msg.right && (x.msg.asks && (decide (x.msg.src = id) && (decide (x.id = x.msg.call) && (decide (x.id ≤ id * 1048576 + many) && (decide (1 ≤ x.tries) && (decide (x.tries ≤ 3) && I6 x.sent))))))):=rfl
 generalize FQ id many x = R at *
 unfold Call.d Call.cells Calls.d Calls.cells
 unfold AE.d AE.cells at c2 c3
 generalize x.msg.right = rr at *
 generalize x.msg.asks = aa at *
 generalize I6 x.sent = tt at *
 obtain ⟨xid,⟨k,c,s,d,ky,sl,dn,pl,pr,l,⟨ik,iv,ir,ig⟩,co⟩,wh,rf,se,tr⟩:=x
 simp only at *
 refine A3 A8 Tryz.func162 rfl rfl (Nat.le_of_ble_eq_true rfl) ?_
 have nS:=True.intro;obtain ⟨lv,st,ns,nc⟩:=wq [0,1,2,3,4,5,6,29] [];have c1:=@c1;have c2:=@c2;have c3:=@c3;have c4:=@c4;refine wk ?_;clear nc ns st lv c4 c3 c2 c1;repeat' (first|with_reducible constructor|(with_reducible intro hc;try simp only[A1] at hc))
 all_goals (clear c1 c2 c3 c4;refine ⟨_,_,rfl,rfl,?_⟩;simp only [Ao];refine congrArg D.b ?_;rw [hT];clear hT;grind)
theorem Uk (c : Calls) (hl : ∀ x ∈ c.op,Cj x.msg) : Go.Gar.Fn Tryz.prog 112 [c.d] (.b (CZ c)):=by
 obtain ⟨id,many,op⟩:=c
 replace hl : ∀ x ∈ op,Cj x.msg:=hl
 refine A3 A8 Tryz.func112 rfl rfl (Nat.le_of_ble_eq_true rfl) ?_
 unfold Calls.d Calls.cells
 cases hh : Kv ⟨id,many,op⟩ with
 | false =>
  have hT : CZ ⟨id,many,op⟩ = false:=by unfold CZ;rw [hh];rfl
  have nS:=True.intro;obtain ⟨lv,st,ns,nc⟩:=wq [0,1,2,3,5,29,31,32,33,34,46] [];have sc : No 3:=trivial;refine wk ?_;clear nc ns st lv sc;repeat' (first|with_reducible constructor|(with_reducible intro hc;try simp only[A1] at hc))
  all_goals first
   | (refine ⟨_,_,rfl,rfl,?_⟩;simp only [Ao];rw [hT];done)
   | (exfalso;simp [Kv,Az] at hh;omega)
 | true =>
 have hT : CZ ⟨id,many,op⟩ = Ba op.length (Gr ⟨id,many,op⟩):=by unfold CZ;rw [hh];rfl
 simp only [Kv,Az,Bool.and_eq_true,decide_eq_true_eq] at hh
 obtain ⟨⟨h1,h2⟩,h3,h4,h5⟩:=hh
 have hp : Az id = true:=Wi.QT.2 ⟨h1,h2⟩
 have f1 : decide (id < 0) = false:=decide_eq_false (by omega)
 have f2 : decide (id ≥ 65536) = false:=decide_eq_false (by omega)
 have f3 : decide (many < 0) = false:=decide_eq_false (by omega)
 have f4 : decide (many > 1048576) = false:=decide_eq_false (by omega)
 have f5 : decide ((op.length : Int) > 16) = false:=decide_eq_false (by omega)
 have nS:=And.intro f1 (And.intro f2 (And.intro f3 (And.intro f4 f5)));obtain ⟨lv,st,ns,nc⟩:=wq [0,1,2,3,5,29,31,32,33,34,46] [];have sc : No 3:=trivial;refine wk ?_;clear nc ns st lv sc;repeat' (first|with_reducible constructor|(with_reducible intro hc;try simp only[A1] at hc))
 refine AS (fun k => k ≤ op.length ∧ Ba k (Gr ⟨id,many,op⟩) = true) (fun k : Nat => [(33,.d (.i .i64 k)),(3,.d (.i .i64 (if k = 0 then 0 else (op.getD (k - 1) Gp).id)))]) (fun k => op.length - k) 0 ⟨Nat.zero_le _,rfl⟩ (fun _ => rfl) ?_ ?_
 ·exact A0.ck rfl
 rintro k ⟨hk,hpre⟩
 by_cases hkl : k < op.length
 ·obtain ⟨x,hx⟩:=AG hkl
  have gx : op.getD k Gp = x:=getD_at hx
  have c1:=IA id many op x hp ⟨h3,h4⟩ (hl x (List.mem_of_getElem? hx))
  have hK : Gr ⟨id,many,op⟩ k = (FQ id many x && decide (k = 0 ∨ (op.getD (k - 1) Gp).id < x.id)):=by unfold Gr;rw [gx]
  have hpos : FQ id many x = true → 1 ≤ x.id:=by
   intro h
   simp only [FQ,Bool.and_eq_true,decide_eq_true_eq] at h
   have:=Jw h.1 h.2.1
   have:=Wi.Cw this.2.2
   omega
  generalize hlast : (op.getD (k - 1) Gp).id = la at *
  generalize FQ id many x = ok at *
  unfold Calls.d Calls.cells Call.d Call.cells at c1
  have hix:=Bs (f:=Call.cells) hx
  unfold Call.cells at hix
  have nS:=True.intro;obtain ⟨lv,st,ns,nc⟩:=wq [0,1,2,3,5,29,31,32,33,34,46] [];have ix1:=hx;have c1:=@c1;have sc : No 3:=trivial;refine wk ?_;clear nc ns st lv sc c1 ix1;repeat' (first|with_reducible constructor|(with_reducible intro hc;try simp only[A1] at hc))
  all_goals first
   | (refine ⟨k + 1,⟨hkl,B6 hpre (by rw [hK];grind)⟩,by omega,Nat.le_refl _,?_⟩
      exact A0.cut rfl (by repeat' (first | exact True.intro | refine And.intro (by (first | rfl | ((with_reducible_and_instances refine congrArg (fun z => some (AV.d (D.i _ z))) ?_);omega) | (refine congrArg (fun z => some (AV.d (D.i _ z))) (?_ : (_ : Int) = _);omega) | (refine congrArg some ?_;simp only [gx,Nat.add_sub_cancel,Nat.succ_ne_zero,if_false];done) | (refine congrArg some ?_;simp [gx,Nat.add_sub_cancel,Nat.succ_ne_zero,if_false];done))) ?_)) (by repeat' (first | exact True.intro | refine And.intro (Or.inr rfl) ?_ | refine And.intro (Or.inl ⟨rfl,rfl⟩) ?_ | refine And.intro (Or.inr (by simp only [gx,Nat.add_sub_cancel,Nat.succ_ne_zero,if_false])) ?_ | refine And.intro (Or.inr (by simp [gx,Nat.add_sub_cancel,Nat.succ_ne_zero,if_false])) ?_)) (by first | rfl | (simp (decide:=true) [AT,A7.ok,AV.oks,AV.ok,hk];done)) rfl)
   | (refine ⟨_,_,rfl,rfl,?_⟩;simp only [Ao];rw [hT,C4 hkl (by rw [hK];grind)])
 ·have e : k = op.length:=by omega
  subst e
  rw [hpre] at hT
  have nS:=True.intro;obtain ⟨lv,st,ns,nc⟩:=wq [0,1,2,3,5,29,31,32,33,34,46] [];have sc : No 3:=trivial;refine wk ?_;clear nc ns st lv sc;repeat' (first|with_reducible constructor|(with_reducible intro hc;try simp only[A1] at hc))
  refine ⟨_,_,rfl,rfl,?_⟩;simp [AH,A6,A5,A4,hT]
theorem LZ (c : Calls) (hl : ∀ x ∈ c.op,Cj x.msg) (hn : c.op.length ≤ 9223372036854775807) : Go.Gar.Fn Tryz.prog 98 [c.d] (.b (CZ c)):=by
 obtain ⟨id,many,op⟩:=c
 replace hl : ∀ x ∈ op,Cj x.msg:=hl
 replace hn : op.length ≤ 9223372036854775807:=hn
 refine A3 A8 Tryz.func98 rfl rfl (Nat.le_of_ble_eq_true rfl) ?_
 unfold Calls.d Calls.cells
 cases hh : Kv ⟨id,many,op⟩ with
 | false =>
  have hT : CZ ⟨id,many,op⟩ = false:=by unfold CZ;rw [hh];rfl
  have nS:=True.intro;obtain ⟨lv,st,ns,nc⟩:=wq [0,1,2,3,4,28,33,109] [];have pr : AC []:=trivial;refine wd ?_;clear nc ns st lv pr;repeat' (first|with_reducible constructor|(with_reducible intro hc;try simp only[A1] at hc))
  all_goals first
   | (refine ⟨_,_,rfl,rfl,?_⟩;simp only [Ao];rw [hT];done)
   | (exfalso;simp [Kv,Az] at hh;omega)
 | true =>
 have hT : CZ ⟨id,many,op⟩ = Ba op.length (Gr ⟨id,many,op⟩):=by unfold CZ;rw [hh];rfl
 simp only [Kv,Az,Bool.and_eq_true,decide_eq_true_eq] at hh
 obtain ⟨⟨h1,h2⟩,h3,h4,h5⟩:=hh
 have f1 : decide (id < 0) = false:=decide_eq_false (by omega)
 have f2 : decide (id ≥ 65536) = false:=decide_eq_false (by omega)
 have f3 : decide (many < 0) = false:=decide_eq_false (by omega)
 have f4 : decide (many > 1048576) = false:=decide_eq_false (by omega)
 have f5 : decide ((op.length : Int) > 16) = false:=decide_eq_false (by omega)
 have nS:=And.intro f1 (And.intro f2 (And.intro f3 (And.intro f4 f5)));obtain ⟨lv,st,ns,nc⟩:=wq [0,1,2,3,4,28,33,109] [];have pr : AC []:=trivial;refine wd ?_;clear nc ns st lv pr;repeat' (first|with_reducible constructor|(with_reducible intro hc;try simp only[A1] at hc))
 refine AS (fun k => k ≤ op.length ∧ Ba k (Gr ⟨id,many,op⟩) = true) (fun k : Nat => [(3,.d (.i .i64 k))]) (fun k => op.length - k) 0 ⟨Nat.zero_le _,rfl⟩ (fun _ => rfl) ?_ ?_
 ·exact A0.ck rfl
 rintro k ⟨hk,hpre⟩
 by_cases hkl : k < op.length
 ·obtain ⟨x,hx⟩:=AG hkl
  have gx : op.getD k Gp = x:=getD_at hx
  have c1:=Wi.Jr x.msg
  have c2:=Wi.GX x.msg (lm (hl x (List.mem_of_getElem? hx)))
  have c3:=TR x.sent
  have hK : Gr ⟨id,many,op⟩ k = ((x.msg.right && (x.msg.asks && (decide (x.msg.src = id) && (decide (x.id = x.msg.call) && (decide (x.id ≤ id * 1048576 + many) && (decide (1 ≤ x.tries) && (decide (x.tries ≤ 3) && I6 x.sent))))))) && decide (k = 0 ∨ (op.getD (k - 1) Gp).id < x.id)):=by unfold Gr FQ;rw [gx]
  unfold AE.d AE.cells at c1 c2
  generalize x.msg.right = rr at *
  generalize x.msg.asks = aa at *
  generalize I6 x.sent = tt at *
  generalize Gr ⟨id,many,op⟩ = K at *
  by_cases h0 : k = 0
  ·have f6 : decide ((k : Int) > 0) = false:=decide_eq_false (by omega)
   have nS:=f6;obtain ⟨lv,st,ns,nc⟩:=wq [0,1,2,3,4,28,33,109] [];have ix1:=hx;have c1:=@c1;have c2:=@c2;have c3:=@c3;have pr : AC []:=trivial;refine wd ?_;clear nc ns st lv pr c3 c2 c1 ix1;repeat' (first|with_reducible constructor|(with_reducible intro hc;try simp only[A1] at hc))
   all_goals clear c1 c2 c3
   all_goals first
    | (refine ⟨k + 1,⟨hkl,B6 hpre (by rw [hK];grind)⟩,by omega,Nat.le_refl _,?_⟩
       exact A0.ck rfl)
    | (refine ⟨_,_,rfl,rfl,?_⟩;simp only [Ao];rw [hT,C4 hkl (by rw [hK];grind)])
  ·have f6 : decide ((k : Int) > 0) = true:=decide_eq_true (by omega)
   have e1 : (k : Int) - 1 = ((k - 1 : Nat) : Int):=by omega
   obtain ⟨y,hy⟩:=AG (xs:=op) (k:=k - 1) (by omega)
   have gy : op.getD (k - 1) Gp = y:=getD_at hy
   rw [gy] at hK
   have nS:=And.intro f6 e1;obtain ⟨lv,st,ns,nc⟩:=wq [0,1,2,3,4,28,33,109] [];have ix1:=hx;have ix2:=hy;have c1:=@c1;have c2:=@c2;have c3:=@c3;have pr : AC []:=trivial;refine wd ?_;clear nc ns st lv pr c3 c2 c1 ix2 ix1;repeat' (first|with_reducible constructor|(with_reducible intro hc;try simp only[A1] at hc))
   all_goals clear c1 c2 c3
   all_goals first
    | (refine ⟨k + 1,⟨hkl,B6 hpre (by rw [hK];grind)⟩,by omega,Nat.le_refl _,?_⟩
       exact A0.ck rfl)
    | (refine ⟨_,_,rfl,rfl,?_⟩;simp only [Ao];rw [hT,C4 hkl (by rw [hK];grind)])
 ·have e : k = op.length:=by omega
  subst e
  rw [hpre] at hT
  have nS:=True.intro;obtain ⟨lv,st,ns,nc⟩:=wq [0,1,2,3,4,28,33,109] [];have pr : AC []:=trivial;refine wd ?_;clear nc ns st lv pr;repeat' (first|with_reducible constructor|(with_reducible intro hc;try simp only[A1] at hc))
  refine ⟨_,_,rfl,rfl,?_⟩;simp [AH,A6,A5,A4,hT]
end Nd
end Go.Proofs.YtagnjflbhjmefaaGreat
namespace Go.Proofs.YtagnjflbhjmefaaGreat
namespace Nd
open Go.Gar Go.Sort
open Wi (AE Az B7)
set_option maxRecDepth 4000
def Dx (l : List Item) (k : Nat) : Bool:=B7 (l.getD k AP) && decide (k = 0 ∨ (l.getD (k - 1) AP).key < (l.getD k AP).key)
def FZ (l : List Item) : Bool:=decide (l.length ≤ 24) && Ba l.length (Dx l)
theorem Wr (a b : List UInt8) : (!(Op.bytesLess a b)) = (Op.bytesLess b a || b == a):=by
 rw [bytesLess_eq,bytesLess_eq,DW,Bool.eq_iff_iff]
 simp only [Bool.not_eq_true',decide_eq_false_iff_not,Bool.or_eq_true,decide_eq_true_eq]
 constructor
 ·intro h
  by_cases e : b = a
  ·exact .inr e
  ·left
   by_cases h2 : b < a
   ·exact h2
   ·exact absurd (List.le_antisymm (List.not_lt.1 h) (List.not_lt.1 h2)) e
 ·rintro (h | rfl)
  ·exact List.lt_asymm h
  ·exact List.lt_irrefl _
theorem T6 (l : List Item) (hn : l.length ≤ 9223372036854775807) : Go.Gar.Fn Tryz.prog 101 [BB l] (.b (FZ l)):=by
 refine A3 A8 Tryz.func101 rfl rfl (Nat.le_of_ble_eq_true rfl) ?_
 have hT : FZ l = (decide (l.length ≤ 24) && Ba l.length (Dx l)):=rfl
 have nS:=True.intro;obtain ⟨lv,st,ns,nc⟩:=wq [0,2,3,7,33] [];have pr : AC []:=trivial;refine wd ?_;clear nc ns st lv pr;repeat' (first|with_reducible constructor|(with_reducible intro hc;try simp only[A1] at hc))
 refine AS (fun k => k ≤ l.length ∧ Ba k (Dx l) = true) (fun k : Nat => [(3,.d (.i .i64 k))]) (fun k => l.length - k) 0 ⟨Nat.zero_le _,rfl⟩ (fun _ => rfl) ?_ ?_
 ·exact A0.ck rfl
 rintro k ⟨hk,hpre⟩
 by_cases hkl : k < l.length
 ·obtain ⟨x,hx⟩:=AG hkl
  have gx : l.getD k AP = x:=getD_at hx
  have c1:=Wi.O7 x
  have hK : Dx l k = (B7 x && decide (k = 0 ∨ (l.getD (k - 1) AP).key < x.key)):=by unfold Dx;rw [gx]
  unfold Item.d Item.cells at c1
  generalize B7 x = ok at *
  by_cases h0 : k = 0
  ·have f6 : decide ((k : Int) > 0) = false:=decide_eq_false (by omega)
   have nS:=f6;obtain ⟨lv,st,ns,nc⟩:=wq [0,2,3,7,33] [];have ix1:=hx;have c1:=@c1;have pr : AC []:=trivial;refine wd ?_;clear nc ns st lv pr c1 ix1;repeat' (first|with_reducible constructor|(with_reducible intro hc;try simp only[A1] at hc))
   all_goals clear c1
   all_goals first
    | (refine ⟨k + 1,⟨hkl,B6 hpre (by rw [hK];grind)⟩,by omega,Nat.le_refl _,?_⟩
       exact A0.ck rfl)
    | (refine ⟨_,_,rfl,rfl,?_⟩;simp only [Ao];rw [hT,C4 hkl (by rw [hK];grind),Bool.and_false])
  ·have f6 : decide ((k : Int) > 0) = true:=decide_eq_true (by omega)
   have e1 : (k : Int) - 1 = ((k - 1 : Nat) : Int):=by omega
   obtain ⟨y,hy⟩:=AG (xs:=l) (k:=k - 1) (by omega)
   have gy : l.getD (k - 1) AP = y:=getD_at hy
   rw [gy] at hK
   have hs : decide (k = 0 ∨ y.key < x.key) = !(Op.bytesLess x.key y.key || x.key == y.key):=by
    rw [← Wr,bytesLess_eq,Bool.not_not];simp [h0]
   rw [hs] at hK
   obtain ⟨q,hq⟩ : ∃ q,(Op.bytesLess x.key y.key || x.key == y.key) = q:=⟨_,rfl⟩
   rw [hq] at hK
   have nS:=And.intro f6 (And.intro e1 hq);obtain ⟨lv,st,ns,nc⟩:=wq [0,2,3,7,33] [];have ix1:=hx;have ix2:=hy;have c1:=@c1;have pr : AC []:=trivial;refine wd ?_;clear nc ns st lv pr c1 ix2 ix1;repeat' (first|with_reducible constructor|(with_reducible intro hc;try simp only[A1] at hc))
   all_goals clear c1
   all_goals first
    | (refine ⟨k + 1,⟨hkl,B6 hpre (by rw [hK];grind)⟩,by omega,Nat.le_refl _,?_⟩
       exact A0.ck rfl)
    | (refine ⟨_,_,rfl,rfl,?_⟩;simp only [Ao];rw [hT,C4 hkl (by rw [hK];grind),Bool.and_false])
 ·have e : k = l.length:=by omega
  subst e
  rw [hpre] at hT
  have nS:=True.intro;obtain ⟨lv,st,ns,nc⟩:=wq [0,2,3,7,33] [];have pr : AC []:=trivial;refine wd ?_;clear nc ns st lv pr;repeat' (first|with_reducible constructor|(with_reducible intro hc;try simp only[A1] at hc))
  all_goals (refine ⟨_,_,rfl,rfl,?_⟩;simp only [Ao];rw [hT];simp;try omega)
theorem Um (l : List Item) : BK Tryz.prog 163 [.d (BB l)] [] (.fn (.func 227) [] [.ptr 0 0 1]) [.c [.d (BB l)]]:=by
 refine AB A8 Tryz.func163 rfl rfl (Nat.le_of_ble_eq_true rfl) ?_
 have nS:=True.intro;obtain ⟨lv,st,ns,nc⟩:=wq [0,1,2] [];refine wk ?_;clear nc ns st lv;repeat' (first|with_reducible constructor|(with_reducible intro hc;try simp only[A1] at hc))
 exact ⟨_,(A0.ck rfl),Nat.zero_le _,_,_,rfl,rfl,rfl,rfl⟩
theorem VJ (l : List Item) (hn : l.length ≤ 9223372036854775807) : Go.Gar.Fn Tryz.prog 116 [BB l] (.b (FZ l)):=by
 refine A3 A8 Tryz.func116 rfl rfl (Nat.le_of_ble_eq_true rfl) ?_
 by_cases h24 : l.length > 24
 ·have f1 : decide ((l.length : Int) > 24) = true:=decide_eq_true (by omega)
  have hT : FZ l = false:=by unfold FZ;rw [decide_eq_false (by omega)];rfl
  have nS:=f1;obtain ⟨lv,st,ns,nc⟩:=wq [0,1,2,3,4,7,9,10,11,29] [];have pr : AC []:=trivial;refine wd ?_;clear nc ns st lv pr;repeat' (first|with_reducible constructor|(with_reducible intro hc;try simp only[A1] at hc))
  refine ⟨_,_,rfl,rfl,?_⟩;simp [AH,A6,A5,A4,hT]
 have f1 : decide ((l.length : Int) > 24) = false:=decide_eq_false (by omega)
 have hT : FZ l = Ba l.length (Dx l):=by unfold FZ;rw [decide_eq_true (by omega)];rfl
 have nS:=f1;obtain ⟨lv,st,ns,nc⟩:=wq [0,1,2,3,4,7,9,10,11,29] [];have d1:=Ds.mk [] (Um l);have pr : AC []:=trivial;refine wd ?_;clear nc ns st lv pr d1;repeat' (first|with_reducible constructor|(with_reducible intro hc;try simp only[A1] at hc))
 refine Bn (K:=fun r _ H' => (Ba l.length (Dx l) = true ∧ H' = [.c [.d (BB l)],.c [.d (.b false)],.c [.d (BB l)],.lp r]) ∨
  (Ba l.length (Dx l) = false ∧ H' = [.c [.d (BB l)],.c [.d (.b false)],.c [.d (BB l)],.lp (r.left .ret)])) rfl (by first | (simp only [Ai,Ae,Nat.reduceAdd,Int.reduceAdd,Int.reduceSub,Int.reduceMul,Int.reduceToNat];done) | (simp only [Ai,Ae,Nat.reduceAdd,Int.reduceAdd,Int.reduceSub,Int.reduceMul,Int.reduceToNat];rfl) | rfl) (by first | (simp only [Ai,Ae,Nat.reduceAdd,Int.reduceAdd,Int.reduceSub,Int.reduceMul,Int.reduceToNat];done) | (simp only [Ai,Ae,Nat.reduceAdd,Int.reduceAdd,Int.reduceSub,Int.reduceMul,Int.reduceToNat];rfl) | rfl) (fun r => (by first | (simp only [Ai,Ae,Nat.reduceAdd,Int.reduceAdd,Int.reduceSub,Int.reduceMul,Int.reduceToNat];done) | (simp only [Ai,Ae,Nat.reduceAdd,Int.reduceAdd,Int.reduceSub,Int.reduceMul,Int.reduceToNat];rfl) | rfl)) ?_ ?_
 ·intro r hr
  refine BP A8 Tryz.func227 rfl rfl (Nat.le_of_ble_eq_true rfl) ?_
  have nS:=True.intro;obtain ⟨lv,st,ns,nc⟩:=wq [0,1,3,4,5,6,7,8,16] [];refine wk ?_;clear nc ns st lv;repeat' (first|with_reducible constructor|(with_reducible intro hc;try simp only[A1] at hc))
  have hk:=hr.ok (k:=3) rfl
  refine AS (fun k => k ≤ l.length ∧ Ba k (Dx l) = true) (fun k : Nat => [(7,.d (.i .i64 k))]) (fun k => l.length - k) 0 ⟨Nat.zero_le _,rfl⟩ (fun _ => rfl) ?_ ?_
  ·exact A0.ck rfl
  rintro k ⟨hkk,hpre⟩
  by_cases hkl : k < l.length
  ·obtain ⟨x,hx⟩:=AG hkl
   have gx : l.getD k AP = x:=getD_at hx
   have c1:=Wi.Qh x
   have hK : Dx l k = (B7 x && decide (k = 0 ∨ (l.getD (k - 1) AP).key < x.key)):=by unfold Dx;rw [gx]
   unfold Item.d Item.cells at c1
   have hY : YT Tryz.prog 3 [.d (.i .i64 k),.d (.agg [.s x.key,.i .i64 x.value,.i .i64 x.version,.b x.gone])] [.c [.d (BB l)],.c [.d (.b false)],.c [.d (BB l)],.lp r,.c [.d (.s x.key),.d (.i .i64 x.value),.d (.i .i64 x.version),.d (.b x.gone)]] fun v K => v = .d (.b (Dx l k)) ∧ K = if Dx l k then [.c [.d (BB l)],.c [.d (.b false)],.c [.d (BB l)],.lp r,.c [.d (.s x.key),.d (.i .i64 x.value),.d (.i .i64 x.version),.d (.b x.gone)]] else [.c [.d (BB l)],.c [.d (.b false)],.c [.d (BB l)],.lp (r.left .ret),.c [.d (.s x.key),.d (.i .i64 x.value),.d (.i .i64 x.version),.d (.b x.gone)]]:=by
    refine B0 hr rfl rfl rfl ?_
    by_cases h0 : k = 0
    ·have f6 : decide ((k : Int) > 0) = false:=decide_eq_false (by omega)
     have hK' : Dx l k = B7 x:=by rw [hK];simp [h0]
     rw [hK']
     have nS:=True.intro;obtain ⟨lv,st,ns,nc⟩:=wq [0,1,2,3,4,7,9,10,11,29] [];have pr : AC []:=trivial;refine wd ?_;clear nc ns st lv pr;repeat' (first|with_reducible constructor|(with_reducible intro hc;try simp only[A1] at hc))
     refine ⟨rfl,CB (by first | (simp only [Ai,Ae,Nat.reduceAdd,Int.reduceAdd,Int.reduceSub,Int.reduceMul,Int.reduceToNat];done) | (simp only [Ai,Ae,Nat.reduceAdd,Int.reduceAdd,Int.reduceSub,Int.reduceMul,Int.reduceToNat];rfl) | rfl) ?_⟩
     have nS:=f6;obtain ⟨lv,st,ns,nc⟩:=wq [0,1,2,3,4,7,9,10,11,29] [];have c1:=@c1;have pr : AC []:=trivial;refine wd ?_;clear nc ns st lv pr c1;repeat' (first|with_reducible constructor|(with_reducible intro hc;try simp only[A1] at hc))
     ·rename_i hc;simp only [hc];exact ⟨⟨[],[.c [.d (BB l)],.c [.d (.b false)],.c [.d (BB l)],.lp r.busy,.c [.d (.s x.key),.d (.i .i64 x.value),.d (.i .i64 x.version),.d (.b x.gone)]],_⟩,(A0.ck rfl),Nat.le_refl _,rfl,rfl,rfl⟩
     ·rename_i hc;simp only [hc];exact ⟨⟨[],[.c [.d (BB l)],.c [.d (.b false)],.c [.d (BB l)],.lp r.busy,.c [.d (.s x.key),.d (.i .i64 x.value),.d (.i .i64 x.version),.d (.b x.gone)]],_⟩,(A0.ck rfl),Nat.le_refl _,rfl,rfl,rfl⟩
    ·have f6 : decide ((k : Int) > 0) = true:=decide_eq_true (by omega)
     have e1 : (k : Int) - 1 = ((k - 1 : Nat) : Int):=by omega
     obtain ⟨y,hy⟩:=AG (xs:=l) (k:=k - 1) (by omega)
     have gy : l.getD (k - 1) AP = y:=getD_at hy
     rw [gy] at hK
     obtain ⟨q,hq⟩ : ∃ q,Op.bytesLess y.key x.key = q:=⟨_,rfl⟩
     have hK' : Dx l k = (B7 x && q):=by rw [hK,← hq,bytesLess_eq];simp [h0]
     rw [hK']
     have nS:=True.intro;obtain ⟨lv,st,ns,nc⟩:=wq [0,1,2,3,4,7,9,10,11,29] [];have pr : AC []:=trivial;refine wd ?_;clear nc ns st lv pr;repeat' (first|with_reducible constructor|(with_reducible intro hc;try simp only[A1] at hc))
     refine ⟨rfl,CB (by first | (simp only [Ai,Ae,Nat.reduceAdd,Int.reduceAdd,Int.reduceSub,Int.reduceMul,Int.reduceToNat];done) | (simp only [Ai,Ae,Nat.reduceAdd,Int.reduceAdd,Int.reduceSub,Int.reduceMul,Int.reduceToNat];rfl) | rfl) ?_⟩
     have nS:=And.intro f6 (And.intro e1 hq);obtain ⟨lv,st,ns,nc⟩:=wq [0,1,2,3,4,7,9,10,11,29] [];have ix1:=hy;have c1:=@c1;have pr : AC []:=trivial;refine wd ?_;clear nc ns st lv pr c1 ix1;repeat' (first|with_reducible constructor|(with_reducible intro hc;try simp only[A1] at hc))
     all_goals first
      | (rw [show (B7 x && q) = true by grind];exact ⟨⟨[],[.c [.d (BB l)],.c [.d (.b false)],.c [.d (BB l)],.lp r.busy,.c [.d (.s x.key),.d (.i .i64 x.value),.d (.i .i64 x.version),.d (.b x.gone)]],_⟩,(A0.ck rfl),Nat.le_refl _,rfl,rfl,rfl⟩)
      | (rw [show (B7 x && q) = false by grind];exact ⟨⟨[],[.c [.d (BB l)],.c [.d (.b false)],.c [.d (BB l)],.lp r.busy,.c [.d (.s x.key),.d (.i .i64 x.value),.d (.i .i64 x.version),.d (.b x.gone)]],_⟩,(A0.ck rfl),Nat.le_refl _,rfl,rfl,rfl⟩)
   cases hb : Dx l k with
   | true =>
    rw [hb] at hY
    have nS:=True.intro;obtain ⟨lv,st,ns,nc⟩:=wq [0,1,3,4,5,6,7,8,16] [];have ix1:=hx;have q1:=@hY;refine wk ?_;clear nc ns st lv q1 ix1;repeat' (first|with_reducible constructor|(with_reducible intro hc;try simp only[A1] at hc))
    refine ⟨k + 1,⟨hkl,B6 hpre hb⟩,by omega,Nat.le_refl _,?_⟩
    exact A0.ck rfl
   | false =>
    rw [hb] at hY
    have nS:=True.intro;obtain ⟨lv,st,ns,nc⟩:=wq [0,1,3,4,5,6,7,8,16] [];have ix1:=hx;have q1:=@hY;refine wk ?_;clear nc ns st lv q1 ix1;repeat' (first|with_reducible constructor|(with_reducible intro hc;try simp only[A1] at hc))
    exact ⟨⟨[],[.c [.d (BB l)],.c [.d (.b false)],.c [.d (BB l)],.lp (r.left .ret)],_⟩,(A0.ck rfl),Nat.le_refl _,_,_,rfl,rfl,.inr ⟨C4 hkl hb,rfl⟩⟩
  ·have e : k = l.length:=by omega
   subst e
   have nS:=True.intro;obtain ⟨lv,st,ns,nc⟩:=wq [0,1,3,4,5,6,7,8,16] [];refine wk ?_;clear nc ns st lv;repeat' (first|with_reducible constructor|(with_reducible intro hc;try simp only[A1] at hc))
   exact ⟨_,A0.refl _,Nat.le_refl _,_,_,rfl,rfl,.inl ⟨hpre,rfl⟩⟩
 ·rintro r hr y H' (⟨h,rfl⟩ | ⟨h,rfl⟩)
  ·refine .inl ⟨rfl,?_⟩
   rw [h] at hT
   have nS:=True.intro;obtain ⟨lv,st,ns,nc⟩:=wq [0,1,2,3,4,7,9,10,11,29] [];have pr : AC []:=trivial;refine wd ?_;clear nc ns st lv pr;repeat' (first|with_reducible constructor|(with_reducible intro hc;try simp only[A1] at hc))
   refine ⟨_,_,rfl,rfl,?_⟩;simp [AH,A6,A5,A4,hT]
  ·refine .inr ⟨.ret,rfl,?_⟩
   rw [h] at hT
   have nS:=True.intro;obtain ⟨lv,st,ns,nc⟩:=wq [0,1,2,3,4,7,9,10,11,29] [];have pr : AC []:=trivial;refine wd ?_;clear nc ns st lv pr;repeat' (first|with_reducible constructor|(with_reducible intro hc;try simp only[A1] at hc))
   refine ⟨_,_,rfl,rfl,?_⟩;simp [AH,A6,A5,A4,hT]
end Nd
end Go.Proofs.YtagnjflbhjmefaaGreat
