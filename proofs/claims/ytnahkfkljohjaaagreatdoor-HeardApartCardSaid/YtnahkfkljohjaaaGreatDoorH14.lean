/- Part 14 of the texts of this proof, put together by a program and made short.
Conditions: none; what each theorem asks stands in its own hypotheses. -/
import Derived.Test.YtnahkfkljohjaaaGreatDoorH12
import Derived.Test.YtnahkfkljohjaaaGreatDoorH13
import Derived.Sort.Walk0
import Derived.KernelRfl
import Derived.RangeFuncIn
import Derived.OpenShut
import Derived.ProofKit
import Derived.CallsIn
import Derived.RangeFuncLeaves
import Derived.OrdersIn
import Derived.TacticsIn
import Derived.ChangeKeysEq
import Derived.Laws.AppendOwn
import Derived.Laws.OwnMore
import Derived.Laws.MakeOwn
import Derived.Laws.Rows
import Derived.Laws.Cells
import Derived.Laws.Tables
import Derived.Laws.CopyRow
import Derived.Laws.Strings
import Derived.Laws.IdiomStrings
import Derived.Laws.BytesArg
import Derived.Sort.Grow
import Derived.Laws.Cover3
import Derived.RecoverIn
import Derived.Test.YtnahkfkljohjaaaGreatDoorProg
set_option linter.unusedSimpArgs false
set_option linter.unusedVariables false
set_option linter.unnecessarySimpa false
set_option maxHeartbeats 40000000
namespace Go.Proofs.YtnahkfkljohjaaaGreatDoor
namespace Nd
open Go.Gar
open Wi (A8 B0)
set_option maxRecDepth 4000
abbrev H7 : List Nat:=[0,1,2,3,5,29,31,32,33,34,46]
abbrev HX : Call:=⟨0,Wi.AX,0,0,0,0⟩
def G6 (id many : Int) (x : Call) : Bool:=x.msg.right && (x.msg.asks && (decide (x.msg.src = id) && (decide (x.id = x.msg.call) && (decide (x.id ≤ id * 1048576 + many) && (decide (1 ≤ x.tries) && (decide (x.tries ≤ 3) && Ij x.sent))))))
def HV (c : Calls) (k : Nat) : Bool:=G6 c.id c.many (c.op.getD k HX) && decide (k = 0 ∨ (c.op.getD (k - 1) HX).id < (c.op.getD k HX).id)
def KR (c : Calls) : Bool:=B0 c.id && (decide (0 ≤ c.many) && (decide (c.many ≤ 1048576) && decide (c.op.length ≤ 16)))
def Cp (c : Calls) : Bool:=KR c && EE c.op.length (HV c)
def Ab (m : A8) : Prop:=m.list.length ≤ 1048576
theorem lm {m : A8} (h : Ab m) : m.list.length < 9223372036854775807:=by unfold Ab at h;omega
theorem KD {m : A8} (h : m.right = true) (ha : m.asks = true) : m.src * 1048576 + 1 ≤ m.call ∧ m.call < m.src * 1048576 + 1 + 1048576 ∧ B0 m.src = true:=by
 unfold A8.right A8.JL at h
 simp only [Bool.and_eq_true,decide_eq_true_eq] at h
 obtain ⟨⟨⟨⟨⟨⟨⟨_,_⟩,h1⟩,_⟩,_⟩,h2⟩,h3⟩,_⟩:=h
 unfold A8.asker at h2 h3
 rw [if_pos ha] at h2 h3
 exact ⟨h2,h3,h1⟩
theorem getD_at {α : Type} {l : List α} {k : Nat} {x d : α} (hx : l[k]? = some x) : l.getD k d = x:=by rw [List.getD_eq_getElem?_getD,hx];rfl
theorem JD (id many : Int) (op : List Call) (x : Call) (hi : B0 id = true) (hm : 0 ≤ many ∧ many ≤ 1048576) (hl : Ab x.msg) : Go.Gar.Fn Tryz.prog 133 [Calls.d ⟨id,many,op⟩,x.d] (.b (G6 id many x)):=by
 have hb:=Wi.LM hi
 have c1:=Y2 id 1
 rw [show On id 1 = (id * 1048576 + 1,0) from if_pos ⟨hi,by omega,by omega⟩] at c1
 have c2:=Wi.LV x.msg
 have c3:=Wi.Cc x.msg (lm hl)
 have c4:=TF x.sent
 have hR:=@KD x.msg
 have hT : G6 id many x = (x.msg.right && (x.msg.asks && (decide (x.msg.src = id) && (decide (x.id = x.msg.call) && (decide (x.id ≤ id * 1048576 + many) && (decide (1 ≤ x.tries) && (decide (x.tries ≤ 3) && Ij x.sent))))))):=rfl
 generalize G6 id many x = R at *
 unfold Call.d Call.cells Calls.d Calls.cells
 unfold A8.d A8.cells at c2 c3
 generalize x.msg.right = rr at *
 generalize x.msg.asks = aa at *
 generalize Ij x.sent = tt at *
 obtain ⟨xid,⟨k,c,s,d,ky,sl,dn,pl,pr,l,⟨ik,iv,ir,ig⟩,co⟩,wh,rf,se,tr⟩:=x
 simp only at *
 refine A0 AB Tryz.func133 rfl rfl (Nat.le_of_ble_eq_true rfl) ?_
 refine wk [0,1,2,3,4,5,6,29] [] A1 (GD @c1 @c2 @c3 @c4) ?_;with_reducible repeat' first|constructor|intro hc;try simp only[A3] at hc
 all_goals (clear c1 c2 c3 c4;refine ⟨_,_,rfl,rfl,?_⟩;simp only [C0];refine congrArg D.b ?_;rw [hT];clear hT;grind)
theorem UB (c : Calls) (hl : ∀ x ∈ c.op,Ab x.msg) : Go.Gar.Fn Tryz.prog 83 [c.d] (.b (Cp c)):=by
 obtain ⟨id,many,op⟩:=c
 replace hl : ∀ x ∈ op,Ab x.msg:=hl
 refine A0 AB Tryz.func83 rfl rfl (Nat.le_of_ble_eq_true rfl) ?_
 unfold Calls.d Calls.cells
 cases hh : KR ⟨id,many,op⟩ with
 | false =>
  have hT : Cp ⟨id,many,op⟩ = false:=by unfold Cp;rw [hh];rfl
  have sc : No 3:=trivial;refine wk H7 [] A1 A1 ?_;clear sc;with_reducible repeat' first|constructor|intro hc;try simp only[A3] at hc
  all_goals first
   | (refine ⟨_,_,rfl,rfl,?_⟩;simp only [C0];rw [hT];done)
   | (exfalso;simp [KR,B0] at hh;omega)
 | true =>
 have hT : Cp ⟨id,many,op⟩ = EE op.length (HV ⟨id,many,op⟩):=by unfold Cp;rw [hh];rfl
 simp only [KR,B0,Bool.and_eq_true,decide_eq_true_eq] at hh
 obtain ⟨⟨h1,h2⟩,h3,h4,h5⟩:=hh
 have hp : B0 id = true:=Wi.XG.2 ⟨h1,h2⟩
 have f1 : decide (id < 0) = false:=decide_eq_false (by omega)
 have f2 : decide (id ≥ 65536) = false:=decide_eq_false (by omega)
 have f3 : decide (many < 0) = false:=decide_eq_false (by omega)
 have f4 : decide (many > 1048576) = false:=decide_eq_false (by omega)
 have f5 : decide ((op.length : Int) > 16) = false:=decide_eq_false (by omega)
 have sc : No 3:=trivial;refine wk H7 [] (IF f1 f2 f3 f4 f5) A1 ?_;clear sc;with_reducible repeat' first|constructor|intro hc;try simp only[A3] at hc
 refine B1 (fun k => k ≤ op.length ∧ EE k (HV ⟨id,many,op⟩) = true) (fun k : Nat => [(33,.d (.i .i64 k)),(3,.d (.i .i64 (if k = 0 then 0 else (op.getD (k - 1) HX).id)))]) (fun k => op.length - k) 0 ⟨Nat.zero_le _,rfl⟩ (fun _ => rfl) ?_ ?_
 ·exact A2.ck rfl
 rintro k ⟨hk,hpre⟩
 by_cases hkl : k < op.length
 ·obtain ⟨x,hx⟩:=AR hkl
  have gx : op.getD k HX = x:=getD_at hx
  have c1:=JD id many op x hp ⟨h3,h4⟩ (hl x (List.mem_of_getElem? hx))
  have hK : HV ⟨id,many,op⟩ k = (G6 id many x && decide (k = 0 ∨ (op.getD (k - 1) HX).id < x.id)):=by unfold HV;rw [gx]
  have hpos : G6 id many x = true → 1 ≤ x.id:=by
   intro h
   simp only [G6,Bool.and_eq_true,decide_eq_true_eq] at h
   have:=KD h.1 h.2.1
   have:=Wi.LM this.2.2
   omega
  generalize hlast : (op.getD (k - 1) HX).id = la at *
  generalize G6 id many x = ok at *
  unfold Calls.d Calls.cells Call.d Call.cells at c1
  have hix:=Dw (f:=Call.cells) hx
  unfold Call.cells at hix
  have ix1:=hx;have sc : No 3:=trivial;refine wk H7 [] A1 (AD @c1) ?_;clear sc ix1;with_reducible repeat' first|constructor|intro hc;try simp only[A3] at hc
  all_goals first
   | (refine ⟨k + 1,⟨hkl,DD hpre (by rw [hK];grind)⟩,by omega,Nat.le_refl _,?_⟩
      exact A2.cut rfl (by repeat' (first | exact True.intro | refine And.intro (by (first | rfl | ((with_reducible_and_instances refine congrArg (fun z => some (AV.d (D.i _ z))) ?_);omega) | (refine congrArg (fun z => some (AV.d (D.i _ z))) (?_ : (_ : Int) = _);omega) | (refine congrArg some ?_;simp only [gx,Nat.add_sub_cancel,Nat.succ_ne_zero,if_false];done) | (refine congrArg some ?_;simp [gx,Nat.add_sub_cancel,Nat.succ_ne_zero,if_false];done))) ?_)) (by repeat' (first | exact True.intro | refine And.intro (Or.inr rfl) ?_ | refine And.intro (Or.inl ⟨rfl,rfl⟩) ?_ | refine And.intro (Or.inr (by simp only [gx,Nat.add_sub_cancel,Nat.succ_ne_zero,if_false])) ?_ | refine And.intro (Or.inr (by simp [gx,Nat.add_sub_cancel,Nat.succ_ne_zero,if_false])) ?_)) (by first | rfl | (simp (decide:=true) [Ae,AC.ok,AV.oks,AV.ok,hk];done)) rfl)
   | (refine ⟨_,_,rfl,rfl,?_⟩;simp only [C0];rw [hT,Er hkl (by rw [hK];grind)])
 ·have e : k = op.length:=by omega
  subst e
  rw [hpre] at hT
  have sc : No 3:=trivial;refine wk H7 [] A1 A1 ?_;clear sc;with_reducible repeat' first|constructor|intro hc;try simp only[A3] at hc
  refine ⟨_,_,rfl,rfl,?_⟩;simp [AE,A6,A5,A4,hT]
abbrev FK : List Nat:=[0,1,2,3,4,28,33,109]
theorem Tn (c : Calls) (hl : ∀ x ∈ c.op,Ab x.msg) (hn : c.op.length ≤ 9223372036854775807) : Go.Gar.Fn Tryz.prog 25 [c.d] (.b (Cp c)):=by
 obtain ⟨id,many,op⟩:=c
 replace hl : ∀ x ∈ op,Ab x.msg:=hl
 replace hn : op.length ≤ 9223372036854775807:=hn
 refine A0 AB Tryz.func25 rfl rfl (Nat.le_of_ble_eq_true rfl) ?_
 unfold Calls.d Calls.cells
 cases hh : KR ⟨id,many,op⟩ with
 | false =>
  have hT : Cp ⟨id,many,op⟩ = false:=by unfold Cp;rw [hh];rfl
  refine wd FK [] [] A1 A1 ?_;with_reducible repeat' first|constructor|intro hc;try simp only[A3] at hc
  all_goals first
   | (refine ⟨_,_,rfl,rfl,?_⟩;simp only [C0];rw [hT];done)
   | (exfalso;simp [KR,B0] at hh;omega)
 | true =>
 have hT : Cp ⟨id,many,op⟩ = EE op.length (HV ⟨id,many,op⟩):=by unfold Cp;rw [hh];rfl
 simp only [KR,B0,Bool.and_eq_true,decide_eq_true_eq] at hh
 obtain ⟨⟨h1,h2⟩,h3,h4,h5⟩:=hh
 have f1 : decide (id < 0) = false:=decide_eq_false (by omega)
 have f2 : decide (id ≥ 65536) = false:=decide_eq_false (by omega)
 have f3 : decide (many < 0) = false:=decide_eq_false (by omega)
 have f4 : decide (many > 1048576) = false:=decide_eq_false (by omega)
 have f5 : decide ((op.length : Int) > 16) = false:=decide_eq_false (by omega)
 refine wd FK [] [] (IF f1 f2 f3 f4 f5) A1 ?_;with_reducible repeat' first|constructor|intro hc;try simp only[A3] at hc
 refine B1 (fun k => k ≤ op.length ∧ EE k (HV ⟨id,many,op⟩) = true) (fun k : Nat => [(3,.d (.i .i64 k))]) (fun k => op.length - k) 0 ⟨Nat.zero_le _,rfl⟩ (fun _ => rfl) ?_ ?_
 ·exact A2.ck rfl
 rintro k ⟨hk,hpre⟩
 by_cases hkl : k < op.length
 ·obtain ⟨x,hx⟩:=AR hkl
  have gx : op.getD k HX = x:=getD_at hx
  have c1:=Wi.Ke x.msg
  have c2:=Wi.Gt x.msg (lm (hl x (List.mem_of_getElem? hx)))
  have c3:=VY x.sent
  have hK : HV ⟨id,many,op⟩ k = ((x.msg.right && (x.msg.asks && (decide (x.msg.src = id) && (decide (x.id = x.msg.call) && (decide (x.id ≤ id * 1048576 + many) && (decide (1 ≤ x.tries) && (decide (x.tries ≤ 3) && Ij x.sent))))))) && decide (k = 0 ∨ (op.getD (k - 1) HX).id < x.id)):=by unfold HV G6;rw [gx]
  unfold A8.d A8.cells at c1 c2
  generalize x.msg.right = rr at *
  generalize x.msg.asks = aa at *
  generalize Ij x.sent = tt at *
  generalize HV ⟨id,many,op⟩ = K at *
  by_cases h0 : k = 0
  ·have f6 : decide ((k : Int) > 0) = false:=decide_eq_false (by omega)
   have ix1:=hx;refine wd FK [] [] (AD f6) (Bo @c1 @c2 @c3) ?_;clear ix1;with_reducible repeat' first|constructor|intro hc;try simp only[A3] at hc
   all_goals clear c1 c2 c3
   all_goals first
    | (refine ⟨k + 1,⟨hkl,DD hpre (by rw [hK];grind)⟩,by omega,Nat.le_refl _,?_⟩
       exact A2.ck rfl)
    | (refine ⟨_,_,rfl,rfl,?_⟩;simp only [C0];rw [hT,Er hkl (by rw [hK];grind)])
  ·have f6 : decide ((k : Int) > 0) = true:=decide_eq_true (by omega)
   have e1 : (k : Int) - 1 = ((k - 1 : Nat) : Int):=by omega
   obtain ⟨y,hy⟩:=AR (xs:=op) (k:=k - 1) (by omega)
   have gy : op.getD (k - 1) HX = y:=getD_at hy
   rw [gy] at hK
   have ix1:=hx;have ix2:=hy;refine wd FK [] [] (Ao f6 e1) (Bo @c1 @c2 @c3) ?_;clear ix2 ix1;with_reducible repeat' first|constructor|intro hc;try simp only[A3] at hc
   all_goals clear c1 c2 c3
   all_goals first
    | (refine ⟨k + 1,⟨hkl,DD hpre (by rw [hK];grind)⟩,by omega,Nat.le_refl _,?_⟩
       exact A2.ck rfl)
    | (refine ⟨_,_,rfl,rfl,?_⟩;simp only [C0];rw [hT,Er hkl (by rw [hK];grind)])
 ·have e : k = op.length:=by omega
  subst e
  rw [hpre] at hT
  refine wd FK [] [] A1 A1 ?_;with_reducible repeat' first|constructor|intro hc;try simp only[A3] at hc
  refine ⟨_,_,rfl,rfl,?_⟩;simp [AE,A6,A5,A4,hT]
end Nd
end Go.Proofs.YtnahkfkljohjaaaGreatDoor
namespace Go.Proofs.YtnahkfkljohjaaaGreatDoor
namespace Nd
open Go.Gar
open Wi (A8 B0 Ak)
set_option maxRecDepth 4000
abbrev HI : List Nat:=[0,1,2,6,7,8,12,30]
abbrev M0 : Past:=⟨0,0,Wi.AX⟩
def Hn (s c : Int) (p : Past) : Bool:=decide (p.src = s) && decide (p.call = c)
def Nj (p : Past) : Bool:=p.told.right && (!p.told.asks && (decide (p.told.dst = p.src) && decide (p.told.call = p.call)))
def Dm (l : List Past) (k : Nat) : Bool:=Nj (l.getD k M0) && !((l.take k).any (Hn (l.getD k M0).src (l.getD k M0).call))
def FM (l : List Past) : Bool:=decide (l.length ≤ 40) && EE l.length (Dm l)
theorem IZ (m : A8) (h : Ab m) : Go.Gar.Fn Tryz.prog 112 [m.d] m.d:=by
 obtain ⟨k,c,s,d,ky,sl,dn,pl,pr,l,⟨ik,iv,ir,ig⟩,co⟩:=m
 replace h : l.length ≤ 1048576:=h
 refine A0 AB Tryz.func112 rfl rfl (Nat.le_of_ble_eq_true rfl) ?_
 unfold A8.d A8.cells
 refine wk [0,1,2] [] A1 A1 ?_;with_reducible repeat' first|constructor|intro hc;try simp only[A3] at hc
 refine ⟨_,_,rfl,rfl,?_⟩;simp [AE,A6,A5,A4]
theorem ZS (m : A8) (h : Ab m) : Go.Gar.Fn Tryz.prog 65 [m.d] (.tup [(if m.right && !m.asks then Past.d ⟨m.dst,m.call,m⟩ else M0.d),.i .i64 (if m.right && !m.asks then 0 else 2)]):=by
 have c1:=Wi.Gt m (lm h)
 have c2:=Wi.Ke m
 have c3:=IZ m h
 unfold Past.d Past.cells
 unfold A8.d A8.cells at *
 generalize m.right = rr at *
 generalize m.asks = aa at *
 obtain ⟨k,c,s,d,ky,sl,dn,pl,pr,l,⟨ik,iv,ir,ig⟩,co⟩:=m
 refine A0 AB Tryz.func65 rfl rfl (Nat.le_of_ble_eq_true rfl) ?_
 simp only at *
 cases rr <;> cases aa
 all_goals
  refine wd [0,1,2,3,10] [] [] A1 (Bo @c1 @c2 @c3) ?_;with_reducible repeat' first|constructor|intro hc;try simp only[A3] at hc
  refine ⟨_,_,rfl,rfl,?_⟩;simp [AE,A6,A5,A4,Wi.AX,AP]
theorem EY {α : Type} {p : α → Bool} {l : List α} {k : Nat} {x : α} (hx : l[k]? = some x) : (l.take (k + 1)).any p = ((l.take k).any p || p x):=by
 rw [AT hx,List.any_append];simp
theorem IL {α : Type} {p : α → Bool} {l : List α} {k : Nat} {x : α} (hx : l[k]? = some x) (h : p x = true) : l.any p = true:=List.any_eq_true.2 ⟨x,List.mem_of_getElem? hx,h⟩
def MS (l : List Past) (s c : Int) : A8:=match l.find? (Hn s c) with
 | some p => p.told
 | none => Wi.AX
theorem WR {l : List Past} {s c : Int} {k : Nat} {x : Past} (hx : l[k]? = some x) (h : Hn s c x = true) (hn : (l.take k).any (Hn s c) = false) : MS l s c = x.told:=by
 have e : l = l.take k ++ x :: l.drop (k + 1):=by
  have hk:=(List.getElem?_eq_some_iff.1 hx).1
  have hv:=(List.getElem?_eq_some_iff.1 hx).2
  rw [← hv,← List.drop_eq_getElem_cons hk,List.take_append_drop]
 unfold MS
 rw [e,List.find?_append]
 have : (l.take k).find? (Hn s c) = none:=by
  rw [List.find?_eq_none]
  intro y hy
  rw [List.any_eq_false] at hn
  simpa using hn y hy
 rw [this]
 simp [List.find?_cons,h]
theorem T8 (l : List Past) (s c : Int) (hl : ∀ x ∈ l,Ab x.told) (hn : l.length ≤ 9223372036854775807) : Go.Gar.Fn Tryz.prog 66 [AS l,.i .i64 s,.i .i64 c] (.tup [(MS l s c).d,.b (l.any (Hn s c))]):=by
 refine A0 AB Tryz.func66 rfl rfl (Nat.le_of_ble_eq_true rfl) ?_
 refine wk HI [] A1 A1 ?_;with_reducible repeat' first|constructor|intro hc;try simp only[A3] at hc
 refine B1 (fun k => k ≤ l.length ∧ (l.take k).any (Hn s c) = false) (fun k : Nat => [(8,.d (.i .i64 k))]) (fun k => l.length - k) 0 ⟨Nat.zero_le _,rfl⟩ (fun _ => rfl) ?_ ?_
 ·exact A2.ck rfl
 rintro k ⟨hk,hpre⟩
 by_cases hkl : k < l.length
 ·obtain ⟨x,hx⟩:=AR hkl
  have c1:=IZ x.told (hl x (List.mem_of_getElem? hx))
  have hA:=EY (p:=Hn s c) hx
  rw [hpre,Bool.false_or] at hA
  unfold A8.d A8.cells at c1
  cases hi : Hn s c x with
  | true =>
   have h1 : x.src = s ∧ x.call = c:=by simpa [Hn] using hi
   have f1 : (x.src == s) = true:=by simp [h1.1]
   have f2 : (x.call == c) = true:=by simp [h1.2]
   have hF:=WR hx hi hpre
   have hT:=IL hx hi
   have ix1:=hx;refine wk HI [] (Ao f1 f2) (AD @c1) ?_;clear ix1;with_reducible repeat' first|constructor|intro hc;try simp only[A3] at hc
   all_goals (clear c1;refine ⟨_,_,rfl,rfl,?_⟩;rw [hT,hF];simp [Ir,Dq,Ea,C0,LJ,A8.d,A8.cells])
  | false =>
   have h1 : ¬ (x.src = s ∧ x.call = c):=by simpa [Hn] using hi
   have ix1:=hx;refine wk HI [] A1 (AD @c1) ?_;clear ix1;with_reducible repeat' first|constructor|intro hc;try simp only[A3] at hc
   all_goals first
    | (exfalso;exact h1 ⟨by assumption,by assumption⟩)
    | (refine ⟨k + 1,⟨hkl,by rw [hA,hi]⟩,by omega,Nat.le_refl _,?_⟩
       exact A2.ck rfl)
 ·have e : k = l.length:=by omega
  subst e
  rw [List.take_length] at hpre
  have hF : MS l s c = Wi.AX:=by
   unfold MS
   have : l.find? (Hn s c) = none:=by
    rw [List.find?_eq_none]
    intro y hy
    rw [List.any_eq_false] at hpre
    simpa using hpre y hy
   rw [this]
  refine wk HI [] A1 A1 ?_;with_reducible repeat' first|constructor|intro hc;try simp only[A3] at hc
  all_goals (refine ⟨_,_,rfl,rfl,?_⟩;rw [hpre,hF];simp [Ir,Dq,Ea,C0,LJ,Nf,A5,A6,A4,A8.d,A8.cells,Wi.AX,AP])
abbrev ER : List Nat:=[0,2,3,4,5,7,11,44,56]
theorem VQ (l : List Past) (hl : ∀ x ∈ l,Ab x.told) (hn : l.length ≤ 9223372036854775807) : Go.Gar.Fn Tryz.prog 26 [AS l] (.b (FM l)):=by
 refine A0 AB Tryz.func26 rfl rfl (Nat.le_of_ble_eq_true rfl) ?_
 have hT : FM l = (decide (l.length ≤ 40) && EE l.length (Dm l)):=rfl
 refine wd ER [] [] A1 A1 ?_;with_reducible repeat' first|constructor|intro hc;try simp only[A3] at hc
 refine B1 (fun k => k ≤ l.length ∧ EE k (Dm l) = true) (fun k : Nat => [(3,.d (.i .i64 k))]) (fun k => l.length - k) 0 ⟨Nat.zero_le _,rfl⟩ (fun _ => rfl) ?_ ?_
 ·exact A2.ck rfl
 rintro k ⟨hk,hpre⟩
 by_cases hkl : k < l.length
 ·obtain ⟨x,hx⟩:=AR hkl
  have gx : l.getD k M0 = x:=getD_at hx
  have hlx:=hl x (List.mem_of_getElem? hx)
  have hK : Dm l k = (Nj x && !((l.take k).any (Hn x.src x.call))):=by unfold Dm;rw [gx]
  have c1:=ZS x.told hlx
  have hO : Nj x = (x.told.right && (!x.told.asks && (decide (x.told.dst = x.src) && decide (x.told.call = x.call)))):=rfl
  have c2:=T8 (l.take k) x.told.dst x.told.call (fun y hy => hl y (List.mem_of_mem_take hy)) (by rw [List.length_take];omega)
  unfold Past.d Past.cells at c1
  unfold A8.d A8.cells at c1 c2
  have e1 : List.take k (List.map Past.cells l) = List.map Past.cells (List.take k l):=(List.map_take ..).symm
  generalize MS (l.take k) x.told.dst x.told.call = fm at *
  cases hb : x.told.right && !x.told.asks with
  | false =>
   rw [hb] at c1
   simp only [Bool.false_eq_true,if_false] at c1
   have hN : Dm l k = false:=by rw [hK,hO];revert hb;cases x.told.right <;> cases x.told.asks <;> simp
   have ix1:=hx;refine wd ER [] [] A1 (AD @c1) ?_;clear ix1;with_reducible repeat' first|constructor|intro hc;try simp only[A3] at hc
   all_goals (clear c1 c2;refine ⟨_,_,rfl,rfl,?_⟩;simp only [C0];rw [hT,Er hkl hN,Bool.and_false])
  | true =>
   rw [hb] at c1
   simp only [if_true] at c1
   rw [Bool.and_eq_true] at hb
   rw [hb.1,hb.2,Bool.true_and,Bool.true_and] at hO
   by_cases h1 : x.told.dst = x.src
   ·by_cases h2 : x.told.call = x.call
    ·have f1 : (x.told.dst != x.src) = false:=AO h1
     have f2 : (x.told.call != x.call) = false:=AO h2
     have hN : Dm l k = !((l.take k).any (Hn x.told.dst x.told.call)):=by rw [hK,hO,h1,h2];simp
     generalize (l.take k).any (Hn x.told.dst x.told.call) = tw at *
     have ix1:=hx;refine wd ER [] [(3,11),(4,11),(5,11),(6,11)] (Bo f1 f2 e1) (Ao @c1 @c2) ?_;clear ix1;with_reducible repeat' first|constructor|intro hc;try simp only[A3] at hc
     all_goals clear c1 c2
     all_goals first
      | (refine ⟨k + 1,⟨hkl,DD hpre (by rw [hN];grind)⟩,by omega,Nat.le_refl _,?_⟩
         exact A2.ck rfl)
      | (refine ⟨_,_,rfl,rfl,?_⟩;simp only [C0];rw [hT,Er hkl (by rw [hN];grind),Bool.and_false])
    ·have f1 : (x.told.dst != x.src) = false:=AO h1
     have f2 : (x.told.call != x.call) = true:=BJ h2
     have hN : Dm l k = false:=by rw [hK,hO];simp [h2]
     have ix1:=hx;refine wd ER [] [] (Ao f1 f2) (AD @c1) ?_;clear ix1;with_reducible repeat' first|constructor|intro hc;try simp only[A3] at hc
     all_goals (clear c1 c2;refine ⟨_,_,rfl,rfl,?_⟩;simp only [C0];rw [hT,Er hkl hN,Bool.and_false])
   ·have f1 : (x.told.dst != x.src) = true:=BJ h1
    have hN : Dm l k = false:=by rw [hK,hO];simp [h1]
    have ix1:=hx;refine wd ER [] [] (AD f1) (AD @c1) ?_;clear ix1;with_reducible repeat' first|constructor|intro hc;try simp only[A3] at hc
    all_goals (clear c1 c2;refine ⟨_,_,rfl,rfl,?_⟩;simp only [C0];rw [hT,Er hkl hN,Bool.and_false])
 ·have e : k = l.length:=by omega
  subst e
  rw [hpre] at hT
  refine wd ER [] [] A1 A1 ?_;with_reducible repeat' first|constructor|intro hc;try simp only[A3] at hc
  all_goals (refine ⟨_,_,rfl,rfl,?_⟩;simp only [C0];rw [hT];simp;try omega)
end Nd
end Go.Proofs.YtnahkfkljohjaaaGreatDoor
namespace Go.Proofs.YtnahkfkljohjaaaGreatDoor
namespace Nd
open Go.Gar Go.Sort
open Wi (A8 B0 Ak)
set_option maxRecDepth 4000
abbrev DF : List Nat:=[0,1,2,3,4,7,9,10,11,29]
abbrev HL : List Nat:=[0,1,3,4,5,6,7,8,16]
def DR (l : List Item) (k : Nat) : Bool:=Ak (l.getD k AP) && decide (k = 0 ∨ (l.getD (k - 1) AP).key < (l.getD k AP).key)
def Bd (l : List Item) : Bool:=decide (l.length ≤ 24) && EE l.length (DR l)
theorem Zg (a b : List UInt8) : (!(Op.bytesLess a b)) = (Op.bytesLess b a || b == a):=by
 rw [bytesLess_eq,bytesLess_eq,DW,Bool.eq_iff_iff]
 simp only [Bool.not_eq_true',decide_eq_false_iff_not,Bool.or_eq_true,decide_eq_true_eq]
 constructor
 ·intro h
  by_cases e : b = a
  ·exact .inr e
  ·left
   by_cases h2 : b < a
   ·exact h2
   ·exact absurd (List.le_antisymm (List.not_lt.1 h) (List.not_lt.1 h2)) e
 ·rintro (h | rfl)
  ·exact List.lt_asymm h
  ·exact List.lt_irrefl _
theorem OA (l : List Item) (hn : l.length ≤ 9223372036854775807) : Go.Gar.Fn Tryz.prog 28 [AZ l] (.b (Bd l)):=by
 refine A0 AB Tryz.func28 rfl rfl (Nat.le_of_ble_eq_true rfl) ?_
 have hT : Bd l = (decide (l.length ≤ 24) && EE l.length (DR l)):=rfl
 refine wd [0,2,3,7,33] [] [] A1 A1 ?_;with_reducible repeat' first|constructor|intro hc;try simp only[A3] at hc
 refine B1 (fun k => k ≤ l.length ∧ EE k (DR l) = true) (fun k : Nat => [(3,.d (.i .i64 k))]) (fun k => l.length - k) 0 ⟨Nat.zero_le _,rfl⟩ (fun _ => rfl) ?_ ?_
 ·exact A2.ck rfl
 rintro k ⟨hk,hpre⟩
 by_cases hkl : k < l.length
 ·obtain ⟨x,hx⟩:=AR hkl
  have gx : l.getD k AP = x:=getD_at hx
  have c1:=Wi.Lc x
  have hK : DR l k = (Ak x && decide (k = 0 ∨ (l.getD (k - 1) AP).key < x.key)):=by unfold DR;rw [gx]
  unfold Item.d Item.cells at c1
  generalize Ak x = ok at *
  by_cases h0 : k = 0
  ·have f6 : decide ((k : Int) > 0) = false:=decide_eq_false (by omega)
   have ix1:=hx;refine wd [0,2,3,7,33] [] [] (AD f6) (AD @c1) ?_;clear ix1;with_reducible repeat' first|constructor|intro hc;try simp only[A3] at hc
   all_goals clear c1
   all_goals first
    | (refine ⟨k + 1,⟨hkl,DD hpre (by rw [hK];grind)⟩,by omega,Nat.le_refl _,?_⟩
       exact A2.ck rfl)
    | (refine ⟨_,_,rfl,rfl,?_⟩;simp only [C0];rw [hT,Er hkl (by rw [hK];grind),Bool.and_false])
  ·have f6 : decide ((k : Int) > 0) = true:=decide_eq_true (by omega)
   have e1 : (k : Int) - 1 = ((k - 1 : Nat) : Int):=by omega
   obtain ⟨y,hy⟩:=AR (xs:=l) (k:=k - 1) (by omega)
   have gy : l.getD (k - 1) AP = y:=getD_at hy
   rw [gy] at hK
   have hs : decide (k = 0 ∨ y.key < x.key) = !(Op.bytesLess x.key y.key || x.key == y.key):=by
    rw [← Zg,bytesLess_eq,Bool.not_not];simp [h0]
   rw [hs] at hK
   obtain ⟨q,hq⟩ : ∃ q,(Op.bytesLess x.key y.key || x.key == y.key) = q:=⟨_,rfl⟩
   rw [hq] at hK
   have ix1:=hx;have ix2:=hy;refine wd [0,2,3,7,33] [] [] (Bo f6 e1 hq) (AD @c1) ?_;clear ix2 ix1;with_reducible repeat' first|constructor|intro hc;try simp only[A3] at hc
   all_goals clear c1
   all_goals first
    | (refine ⟨k + 1,⟨hkl,DD hpre (by rw [hK];grind)⟩,by omega,Nat.le_refl _,?_⟩
       exact A2.ck rfl)
    | (refine ⟨_,_,rfl,rfl,?_⟩;simp only [C0];rw [hT,Er hkl (by rw [hK];grind),Bool.and_false])
 ·have e : k = l.length:=by omega
  subst e
  rw [hpre] at hT
  refine wd [0,2,3,7,33] [] [] A1 A1 ?_;with_reducible repeat' first|constructor|intro hc;try simp only[A3] at hc
  all_goals (refine ⟨_,_,rfl,rfl,?_⟩;simp only [C0];rw [hT];simp;try omega)
theorem Ot (l : List Item) : B4 Tryz.prog 127 [.d (AZ l)] [] (.fn (.func 181) [] [.ptr 0 0 1]) [.c [.d (AZ l)]]:=by
 refine A7 AB Tryz.func127 rfl rfl (Nat.le_of_ble_eq_true rfl) ?_
 refine wk [0,1,2] [] A1 A1 ?_;with_reducible repeat' first|constructor|intro hc;try simp only[A3] at hc
 exact ⟨_,(A2.ck rfl),Nat.zero_le _,_,_,rfl,rfl,rfl,rfl⟩
theorem Ml (l : List Item) (hn : l.length ≤ 9223372036854775807) : Go.Gar.Fn Tryz.prog 87 [AZ l] (.b (Bd l)):=by
 refine A0 AB Tryz.func87 rfl rfl (Nat.le_of_ble_eq_true rfl) ?_
 by_cases h24 : l.length > 24
 ·have f1 : decide ((l.length : Int) > 24) = true:=decide_eq_true (by omega)
  have hT : Bd l = false:=by unfold Bd;rw [decide_eq_false (by omega)];rfl
  refine wd DF [] [] (AD f1) A1 ?_;with_reducible repeat' first|constructor|intro hc;try simp only[A3] at hc
  refine ⟨_,_,rfl,rfl,?_⟩;simp [AE,A6,A5,A4,hT]
 have f1 : decide ((l.length : Int) > 24) = false:=decide_eq_false (by omega)
 have hT : Bd l = EE l.length (DR l):=by unfold Bd;rw [decide_eq_true (by omega)];rfl
 have d1:=Ds.mk [] (Ot l);refine wd DF [] [] (AD f1) A1 ?_;clear d1;with_reducible repeat' first|constructor|intro hc;try simp only[A3] at hc
 refine Aq (K:=fun r _ H' => (EE l.length (DR l) = true ∧ H' = [.c [.d (AZ l)],.c [.d (.b false)],.c [.d (AZ l)],.lp r]) ∨
  (EE l.length (DR l) = false ∧ H' = [.c [.d (AZ l)],.c [.d (.b false)],.c [.d (AZ l)],.lp (r.left .ret)])) rfl (by first | (simp only [AL,AJ,Nat.reduceAdd,Int.reduceAdd,Int.reduceSub,Int.reduceMul,Int.reduceToNat];done) | (simp only [AL,AJ,Nat.reduceAdd,Int.reduceAdd,Int.reduceSub,Int.reduceMul,Int.reduceToNat];rfl) | rfl) (by first | (simp only [AL,AJ,Nat.reduceAdd,Int.reduceAdd,Int.reduceSub,Int.reduceMul,Int.reduceToNat];done) | (simp only [AL,AJ,Nat.reduceAdd,Int.reduceAdd,Int.reduceSub,Int.reduceMul,Int.reduceToNat];rfl) | rfl) (fun r => (by first | (simp only [AL,AJ,Nat.reduceAdd,Int.reduceAdd,Int.reduceSub,Int.reduceMul,Int.reduceToNat];done) | (simp only [AL,AJ,Nat.reduceAdd,Int.reduceAdd,Int.reduceSub,Int.reduceMul,Int.reduceToNat];rfl) | rfl)) ?_ ?_
 ·intro r hr
  refine Ap AB Tryz.func181 rfl rfl (Nat.le_of_ble_eq_true rfl) ?_
  refine wk HL [] A1 A1 ?_;with_reducible repeat' first|constructor|intro hc;try simp only[A3] at hc
  have hk:=hr.ok (k:=3) rfl
  refine B1 (fun k => k ≤ l.length ∧ EE k (DR l) = true) (fun k : Nat => [(7,.d (.i .i64 k))]) (fun k => l.length - k) 0 ⟨Nat.zero_le _,rfl⟩ (fun _ => rfl) ?_ ?_
  ·exact A2.ck rfl
  rintro k ⟨hkk,hpre⟩
  by_cases hkl : k < l.length
  ·obtain ⟨x,hx⟩:=AR hkl
   have gx : l.getD k AP = x:=getD_at hx
   have c1:=Wi.Hz x
   have hK : DR l k = (Ak x && decide (k = 0 ∨ (l.getD (k - 1) AP).key < x.key)):=by unfold DR;rw [gx]
   unfold Item.d Item.cells at c1
   have hY : YT Tryz.prog 3 [.d (.i .i64 k),.d (.agg [.s x.key,.i .i64 x.value,.i .i64 x.version,.b x.gone])] [.c [.d (AZ l)],.c [.d (.b false)],.c [.d (AZ l)],.lp r,.c [.d (.s x.key),.d (.i .i64 x.value),.d (.i .i64 x.version),.d (.b x.gone)]] fun v K => v = .d (.b (DR l k)) ∧ K = if DR l k then [.c [.d (AZ l)],.c [.d (.b false)],.c [.d (AZ l)],.lp r,.c [.d (.s x.key),.d (.i .i64 x.value),.d (.i .i64 x.version),.d (.b x.gone)]] else [.c [.d (AZ l)],.c [.d (.b false)],.c [.d (AZ l)],.lp (r.left .ret),.c [.d (.s x.key),.d (.i .i64 x.value),.d (.i .i64 x.version),.d (.b x.gone)]]:=by
    refine Aj hr rfl rfl rfl ?_
    by_cases h0 : k = 0
    ·have f6 : decide ((k : Int) > 0) = false:=decide_eq_false (by omega)
     have hK' : DR l k = Ak x:=by rw [hK];simp [h0]
     rw [hK']
     refine wd DF [] [] A1 A1 ?_;with_reducible repeat' first|constructor|intro hc;try simp only[A3] at hc
     refine ⟨rfl,Bl (by first | (simp only [AL,AJ,Nat.reduceAdd,Int.reduceAdd,Int.reduceSub,Int.reduceMul,Int.reduceToNat];done) | (simp only [AL,AJ,Nat.reduceAdd,Int.reduceAdd,Int.reduceSub,Int.reduceMul,Int.reduceToNat];rfl) | rfl) ?_⟩
     refine wd DF [] [] (AD f6) (AD @c1) ?_;with_reducible repeat' first|constructor|intro hc;try simp only[A3] at hc
     ·simp only [hc];exact ⟨⟨[],[.c [.d (AZ l)],.c [.d (.b false)],.c [.d (AZ l)],.lp r.busy,.c [.d (.s x.key),.d (.i .i64 x.value),.d (.i .i64 x.version),.d (.b x.gone)]],_⟩,(A2.ck rfl),Nat.le_refl _,rfl,rfl,rfl⟩
     ·simp only [hc];exact ⟨⟨[],[.c [.d (AZ l)],.c [.d (.b false)],.c [.d (AZ l)],.lp r.busy,.c [.d (.s x.key),.d (.i .i64 x.value),.d (.i .i64 x.version),.d (.b x.gone)]],_⟩,(A2.ck rfl),Nat.le_refl _,rfl,rfl,rfl⟩
    ·have f6 : decide ((k : Int) > 0) = true:=decide_eq_true (by omega)
     have e1 : (k : Int) - 1 = ((k - 1 : Nat) : Int):=by omega
     obtain ⟨y,hy⟩:=AR (xs:=l) (k:=k - 1) (by omega)
     have gy : l.getD (k - 1) AP = y:=getD_at hy
     rw [gy] at hK
     obtain ⟨q,hq⟩ : ∃ q,Op.bytesLess y.key x.key = q:=⟨_,rfl⟩
     have hK' : DR l k = (Ak x && q):=by rw [hK,← hq,bytesLess_eq];simp [h0]
     rw [hK']
     refine wd DF [] [] A1 A1 ?_;with_reducible repeat' first|constructor|intro hc;try simp only[A3] at hc
     refine ⟨rfl,Bl (by first | (simp only [AL,AJ,Nat.reduceAdd,Int.reduceAdd,Int.reduceSub,Int.reduceMul,Int.reduceToNat];done) | (simp only [AL,AJ,Nat.reduceAdd,Int.reduceAdd,Int.reduceSub,Int.reduceMul,Int.reduceToNat];rfl) | rfl) ?_⟩
     have ix1:=hy;refine wd DF [] [] (Bo f6 e1 hq) (AD @c1) ?_;clear ix1;with_reducible repeat' first|constructor|intro hc;try simp only[A3] at hc
     all_goals first
      | (rw [show (Ak x && q) = true by grind];exact ⟨⟨[],[.c [.d (AZ l)],.c [.d (.b false)],.c [.d (AZ l)],.lp r.busy,.c [.d (.s x.key),.d (.i .i64 x.value),.d (.i .i64 x.version),.d (.b x.gone)]],_⟩,(A2.ck rfl),Nat.le_refl _,rfl,rfl,rfl⟩)
      | (rw [show (Ak x && q) = false by grind];exact ⟨⟨[],[.c [.d (AZ l)],.c [.d (.b false)],.c [.d (AZ l)],.lp r.busy,.c [.d (.s x.key),.d (.i .i64 x.value),.d (.i .i64 x.version),.d (.b x.gone)]],_⟩,(A2.ck rfl),Nat.le_refl _,rfl,rfl,rfl⟩)
   cases hb : DR l k with
   | true =>
    rw [hb] at hY
    have ix1:=hx;have q1:=@hY;refine wk HL [] A1 A1 ?_;clear q1 ix1;with_reducible repeat' first|constructor|intro hc;try simp only[A3] at hc
    refine ⟨k + 1,⟨hkl,DD hpre hb⟩,by omega,Nat.le_refl _,?_⟩
    exact A2.ck rfl
   | false =>
    rw [hb] at hY
    have ix1:=hx;have q1:=@hY;refine wk HL [] A1 A1 ?_;clear q1 ix1;with_reducible repeat' first|constructor|intro hc;try simp only[A3] at hc
    exact ⟨⟨[],[.c [.d (AZ l)],.c [.d (.b false)],.c [.d (AZ l)],.lp (r.left .ret)],_⟩,(A2.ck rfl),Nat.le_refl _,_,_,rfl,rfl,.inr ⟨Er hkl hb,rfl⟩⟩
  ·have e : k = l.length:=by omega
   subst e
   refine wk HL [] A1 A1 ?_;with_reducible repeat' first|constructor|intro hc;try simp only[A3] at hc
   exact ⟨_,A2.refl _,Nat.le_refl _,_,_,rfl,rfl,.inl ⟨hpre,rfl⟩⟩
 ·rintro r hr y H' (⟨h,rfl⟩ | ⟨h,rfl⟩)
  ·refine .inl ⟨rfl,?_⟩
   rw [h] at hT
   refine wd DF [] [] A1 A1 ?_;with_reducible repeat' first|constructor|intro hc;try simp only[A3] at hc
   refine ⟨_,_,rfl,rfl,?_⟩;simp [AE,A6,A5,A4,hT]
  ·refine .inr ⟨.ret,rfl,?_⟩
   rw [h] at hT
   refine wd DF [] [] A1 A1 ?_;with_reducible repeat' first|constructor|intro hc;try simp only[A3] at hc
   refine ⟨_,_,rfl,rfl,?_⟩;simp [AE,A6,A5,A4,hT]
end Nd
end Go.Proofs.YtnahkfkljohjaaaGreatDoor
