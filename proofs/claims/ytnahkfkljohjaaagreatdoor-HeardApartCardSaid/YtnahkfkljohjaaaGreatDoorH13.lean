/- Part 13 of the texts of this proof, put together by a program and made short.
Conditions: none; what each theorem asks stands in its own hypotheses. -/
import Derived.Test.YtnahkfkljohjaaaGreatDoorH11
import Derived.Sort.Walk0
import Derived.KernelRfl
import Derived.RangeFuncIn
import Derived.OpenShut
import Derived.ProofKit
import Derived.CallsIn
import Derived.RangeFuncLeaves
import Derived.OrdersIn
import Derived.TacticsIn
import Derived.ChangeKeysEq
import Derived.Laws.AppendOwn
import Derived.Laws.OwnMore
import Derived.Laws.MakeOwn
import Derived.Laws.Rows
import Derived.Laws.Cells
import Derived.Laws.Tables
import Derived.Laws.CopyRow
import Derived.Laws.Strings
import Derived.Laws.IdiomStrings
import Derived.Laws.BytesArg
import Derived.Sort.Grow
import Derived.Laws.Cover3
import Derived.RecoverIn
import Derived.Test.YtnahkfkljohjaaaGreatDoorProg
set_option linter.unusedSimpArgs false
set_option linter.unusedVariables false
set_option linter.unnecessarySimpa false
set_option maxHeartbeats 40000000
namespace Go.Proofs.YtnahkfkljohjaaaGreatDoor
open Go.Gar
set_option maxRecDepth 4000
abbrev DK : List Nat:=[0,2,3,4,12,13,14,15,16,35]
structure View where
 id : Int
 base : List Int
 list : List Int
 pred : Int
 f : Nat → Int
def CL (f : Nat → Int) : List Int:=[f 0,f 1,f 2,f 3,f 4,f 5,f 6,f 7,f 8,f 9,f 10,f 11,f 12,f 13,f 14,f 15]
def View.cells (v : View) : List D:=[.i .i64 v.id,.is v.base,.is v.list,.i .i64 v.pred,.i .i64 (v.f 0),.i .i64 (v.f 1),.i .i64 (v.f 2),.i .i64 (v.f 3),.i .i64 (v.f 4),.i .i64 (v.f 5),.i .i64 (v.f 6),.i .i64 (v.f 7),.i .i64 (v.f 8),.i .i64 (v.f 9),.i .i64 (v.f 10),.i .i64 (v.f 11),.i .i64 (v.f 12),.i .i64 (v.f 13),.i .i64 (v.f 14),.i .i64 (v.f 15)]
def View.d (v : View) : D:=.agg v.cells
def bT : Int → List Int → Bool
 | _,[] => true
 | f,p :: r => (Ag p && decide (p > f)) && bT p r
def lastB : Int → List Int → Int
 | f,[] => f
 | _,p :: r => lastB p r
theorem MV (p : Int) : ∀ (l : List Int) (f : Int),bT f (l ++ [p]) = (bT f l && (Ag p && decide (p > lastB f l)))
 | [],f => by simp [bT,lastB]
 | a :: r,f => by
  show ((Ag a && decide (a > f)) && bT a (r ++ [p])) = (((Ag a && decide (a > f)) && bT a r) && (Ag p && decide (p > lastB a r)))
  rw [MV p r]
  exact (Bool.and_assoc _ _ _).symm
theorem L0 (p : Int) : ∀ (l : List Int) (f : Int),lastB f (l ++ [p]) = p
 | [],f => rfl
 | a :: r,f => by simp only [List.cons_append,lastB];exact L0 p r _
theorem VF : ∀ (l m : List Int) (f : Int),bT f l = false → bT f (l ++ m) = false
 | [],m,f,h => by cases h
 | a :: r,m,f,h => by
  simp only [List.cons_append,bT,Bool.and_eq_false_iff] at h ⊢
  rcases h with h | h
  ·exact .inl h
  ·exact .inr (VF r m _ h)
theorem Jm {f : Int} {l : List Int} {k : Nat} (h : bT f (l.take k) = false) : bT f l = false:=by
 rw [← List.take_append_drop k l];exact VF _ _ f h
theorem LU {l : List Int} {k : Nat} {p : Int} (hp : l[k]? = some p) : lastB (-1) (l.take (k + 1)) = p:=by
 rw [AT hp,L0]
def Bm (l : List Int) : Bool:=(decide (2 ≤ l.length) && decide (l.length ≤ 4)) && bT (-1) l
theorem Lo (l : List Int) (hn : l.length ≤ 9223372036854775807) : Go.Gar.Fn Tryz.prog 130 [.is l] (.b (Bm l)):=by
 refine A0 AB Tryz.func130 rfl rfl (Nat.le_of_ble_eq_true rfl) ?_
 by_cases h2 : l.length < 2
 ·have f1 : decide ((l.length : Int) < 2) = true:=decide_eq_true (by omega)
  have hT : Bm l = false:=by unfold Bm;rw [decide_eq_false (show ¬ 2 ≤ l.length by omega)];rfl
  refine wk DK [] (AD f1) A1 ?_;with_reducible repeat' first|constructor|intro hc;try simp only[A3] at hc
  refine ⟨_,_,rfl,rfl,?_⟩;simp [AE,A6,A5,A4,hT]
 have f1 : decide ((l.length : Int) < 2) = false:=decide_eq_false (by omega)
 by_cases h4 : l.length > 4
 ·have f2 : decide ((l.length : Int) > 4) = true:=decide_eq_true (by omega)
  have hT : Bm l = false:=by unfold Bm;rw [decide_eq_false (show ¬ l.length ≤ 4 by omega),Bool.and_false];rfl
  refine wk DK [] (Ao f1 f2) A1 ?_;with_reducible repeat' first|constructor|intro hc;try simp only[A3] at hc
  refine ⟨_,_,rfl,rfl,?_⟩;simp [AE,A6,A5,A4,hT]
 have f2 : decide ((l.length : Int) > 4) = false:=decide_eq_false (by omega)
 have hR : Bm l = bT (-1) l:=by unfold Bm;rw [decide_eq_true (show 2 ≤ l.length by omega),decide_eq_true (show l.length ≤ 4 by omega)];rfl
 refine wk DK [] (Ao f1 f2) A1 ?_;with_reducible repeat' first|constructor|intro hc;try simp only[A3] at hc
 refine BF (fun k => k ≤ l.length ∧ bT (-1) (l.take k) = true) (fun k : Nat => ⟨[(0,.d (.is l)),(2,.d (.b false)),(13,.d (.is l)),(14,.d (.i .i64 l.length)),(15,.d (.i .i64 k))],[],37⟩) (fun k => l.length - k) 0 ⟨Nat.zero_le _,rfl⟩ ?_ (Nat.le_refl _) ?_
 ·exact A2.ck rfl
 rintro k ⟨hk,hpre⟩
 by_cases hkl : k < l.length
 ·obtain ⟨p,hp⟩:=AR hkl
  have gp:=Bv hp
  have hs:=MV p (l.take k) (-1)
  rw [← AT hp,hpre,Bool.true_and] at hs
  have c1:=Ej p
  cases hpl : Ag p with
  | false =>
   rw [hpl] at c1 hs
   have hB:=Jm hs
   rw [hB] at hR
   refine wk DK [] (AD gp) (AD @c1) ?_;with_reducible repeat' first|constructor|intro hc;try simp only[A3] at hc
   refine ⟨_,_,rfl,rfl,?_⟩;simp [AE,A6,A5,A4,hR]
  | true =>
   rw [hpl] at c1 hs
   rw [Bool.true_and] at hs
   have hp0:=EG hpl
   by_cases k0 : k = 0
   ·subst k0
    have hok : bT (-1) (l.take 1) = true:=by
     rw [hs];exact decide_eq_true (by show p > -1;omega)
    refine wk DK [] (AD gp) (AD @c1) ?_;with_reducible repeat' first|constructor|intro hc;try simp only[A3] at hc
    refine ⟨1,⟨hkl,hok⟩,by omega,Nat.le_refl _,?_⟩
    exact A2.ck rfl
   ·obtain ⟨q,hq⟩:=AR (xs:=l) (k:=k - 1) (by omega)
    have gq:=Bv hq
    have hlq : lastB (-1) (l.take k) = q:=by
     have:=LU hq
     rwa [show k - 1 + 1 = k by omega] at this
    have f4 : (k : Int) - 1 = ((k - 1 : Nat) : Int):=by omega
    have f3 : decide ((k : Int) > 0) = true:=decide_eq_true (by omega)
    rw [hlq] at hs
    by_cases hd : p > q
    ·rw [decide_eq_true hd] at hs
     have f5 : decide (p ≤ q) = false:=decide_eq_false (by omega)
     refine wk DK [] (IF gp gq f3 f4 f5) (AD @c1) ?_;with_reducible repeat' first|constructor|intro hc;try simp only[A3] at hc
     refine ⟨k + 1,⟨hkl,hs⟩,by omega,Nat.le_refl _,?_⟩
     exact A2.ck rfl
    ·rw [decide_eq_false hd] at hs
     have hB:=Jm hs
     rw [hB] at hR
     have f5 : decide (p ≤ q) = true:=decide_eq_true (by omega)
     refine wk DK [] (IF gp gq f3 f4 f5) (AD @c1) ?_;with_reducible repeat' first|constructor|intro hc;try simp only[A3] at hc
     refine ⟨_,_,rfl,rfl,?_⟩;simp [AE,A6,A5,A4,hR]
 ·have e : k = l.length:=by omega
  subst e
  rw [List.take_length] at hpre
  rw [hpre] at hR
  refine wk DK [] A1 A1 ?_;with_reducible repeat' first|constructor|intro hc;try simp only[A3] at hc
  refine ⟨_,_,rfl,rfl,?_⟩;simp [AE,A6,A5,A4,hR]
def Df (id n : Int) : Bool:=decide (n = -1) || (Ag n && decide (n ≠ id))
theorem P0 (v : View) (n : Int) : Go.Gar.Fn Tryz.prog 61 [v.d,.i .i64 n] (.b (Df v.id n)):=by
 obtain ⟨id,base,list,pred,f⟩:=v
 have c1:=Hi n
 refine A0 AB Tryz.func61 rfl rfl (Nat.le_of_ble_eq_true rfl) ?_
 by_cases h1 : n = -1
 ·have f1:=AA h1
  have e : Df id n = true:=by simp [Df,h1]
  refine wk [0,1,2,4] [] (AD f1) A1 ?_;with_reducible repeat' first|constructor|intro hc;try simp only[A3] at hc
  refine ⟨_,_,rfl,rfl,?_⟩;simp [AE,A6,A5,A4,e]
 have f1:=eq_false' h1
 have e : Df id n = (Ag n && decide (n ≠ id)):=by simp [Df,h1]
 cases hp : Ag n with
 | false =>
  rw [hp] at c1 e
  refine wk [0,1,2,4] [] (AD f1) (AD @c1) ?_;with_reducible repeat' first|constructor|intro hc;try simp only[A3] at hc
  refine ⟨_,_,rfl,rfl,?_⟩;simp [AE,A6,A5,A4,e]
 | true =>
  rw [hp] at c1 e
  by_cases h2 : n = id
  ·have f2:=AO h2
   have e2 : Df id n = false:=by rw [e];simp [h2]
   refine wk [0,1,2,4] [] (Ao f1 f2) (AD @c1) ?_;with_reducible repeat' first|constructor|intro hc;try simp only[A3] at hc
   refine ⟨_,_,rfl,rfl,?_⟩;simp [AE,A6,A5,A4,e2]
  ·have f2:=BJ h2
   have e2 : Df id n = true:=by rw [e];simp [h2]
   refine wk [0,1,2,4] [] (Ao f1 f2) (AD @c1) ?_;with_reducible repeat' first|constructor|intro hc;try simp only[A3] at hc
   refine ⟨_,_,rfl,rfl,?_⟩;simp [AE,A6,A5,A4,e2]
def AF (v : View) : Bool:=((Ag v.id && Bm v.base) && BD v.id v.list) && (Df v.id v.pred && (CL v.f).all (Df v.id))
theorem Fw (v : View) (h1 : v.base.length ≤ 100000) (h2 : v.list.length ≤ 100000) : Go.Gar.Fn Tryz.prog 72 [v.d] v.d:=by
 obtain ⟨id,base,list,pred,f⟩:=v
 have c1:=LP base h1
 have c2:=LP list h2
 refine A0 AB Tryz.func72 rfl rfl (Nat.le_of_ble_eq_true rfl) ?_
 refine wk [0,1,2] [] A1 (Ao @c1 @c2) ?_;with_reducible repeat' first|constructor|intro hc;try simp only[A3] at hc
 refine ⟨_,_,rfl,rfl,?_⟩;simp [AE,A6,A5,A4,View.d,View.cells]
theorem Vg (v : View) (h1 : v.base.length ≤ 100000) (h2 : v.list.length ≤ 100000) : Go.Gar.Fn Tryz.prog 51 [v.d] v.d:=by
 obtain ⟨id,base,list,pred,f⟩:=v
 replace h1 : base.length ≤ 100000:=h1
 replace h2 : list.length ≤ 100000:=h2
 refine A0 AB Tryz.func51 rfl rfl (Nat.le_of_ble_eq_true rfl) ?_
 refine wk [0,1,2] [] A1 A1 ?_;with_reducible repeat' first|constructor|intro hc;try simp only[A3] at hc
 refine ⟨_,_,rfl,rfl,?_⟩;simp [AE,A6,A5,A4,View.d,View.cells]
end Go.Proofs.YtnahkfkljohjaaaGreatDoor
namespace Go.Proofs.YtnahkfkljohjaaaGreatDoor
namespace Nd
open Go.Gar
open Wi (A8 B0)
set_option maxRecDepth 4000
structure Call where
 id : Int
 msg : A8
 why : Int
 ref : Int
 sent : Int
 tries : Int
def Call.cells (x : Call) : List D:=[.i .i64 x.id,.i .u8 x.msg.kind,.i .i64 x.msg.call,.i .i64 x.msg.src,.i .i64 x.msg.dst,.i .i64 x.msg.key,.b x.msg.slow,.b x.msg.done,.i .i64 x.msg.place,.i .i64 x.msg.pred,.is x.msg.list,.s x.msg.item.key,.i .i64 x.msg.item.value,.i .i64 x.msg.item.version,.b x.msg.item.gone,.i .i64 x.msg.code,.i .u8 x.why,.i .i64 x.ref,.i .i64 x.sent,.i .i64 x.tries]
def Call.d (x : Call) : D:=.agg x.cells
structure Calls where
 id : Int
 many : Int
 op : List Call
abbrev BA (l : List Call) : D:=.sl 20 (l.map Call.cells)
def Calls.cells (c : Calls) : List D:=[.i .i64 c.id,.i .i64 c.many,BA c.op]
def Calls.d (c : Calls) : D:=.agg c.cells
structure Past where
 src : Int
 call : Int
 told : A8
def Past.cells (p : Past) : List D:=[.i .i64 p.src,.i .i64 p.call,.i .u8 p.told.kind,.i .i64 p.told.call,.i .i64 p.told.src,.i .i64 p.told.dst,.i .i64 p.told.key,.b p.told.slow,.b p.told.done,.i .i64 p.told.place,.i .i64 p.told.pred,.is p.told.list,.s p.told.item.key,.i .i64 p.told.item.value,.i .i64 p.told.item.version,.b p.told.item.gone,.i .i64 p.told.code]
def Past.d (p : Past) : D:=.agg p.cells
abbrev AS (l : List Past) : D:=.sl 17 (l.map Past.cells)
structure Look where
 key : Int
 at_ : Int
 hops : Int
 slow : Bool
 found : Bool
 code : Int
structure Job where
 what : Int
 phase : Int
 look : Look
 item : Item
 owner : Int
 left : List Int
 code : Int
def Job.cells (j : Job) : List D:=[.i .u8 j.what,.i .u8 j.phase,.i .i64 j.look.key,.i .i64 j.look.at_,.i .i64 j.look.hops,.b j.look.slow,.b j.look.found,.i .i64 j.look.code,.s j.item.key,.i .i64 j.item.value,.i .i64 j.item.version,.b j.item.gone,.i .i64 j.owner,.is j.left,.i .i64 j.code]
def Job.d (j : Job) : D:=.agg j.cells
structure Node where
 view : View
 clock : Int
 calls : Calls
 seen : List Past
 phase : Int
 of_ : Int
 finger : Job
 mirror : Job
 client : Job
 next : Int
 last : List UInt8
 keep : List Item
 bad : Int
def Node.cells (n : Node) : List D:=n.view.cells ++ (.i .i64 n.clock :: (n.calls.cells ++ (AS n.seen :: .i .u8 n.phase :: .i .i64 n.of_ :: (n.finger.cells ++ (n.mirror.cells ++ (n.client.cells ++ [.i .i64 n.next,.s n.last,AZ n.keep,.i .i64 n.bad]))))))
def Node.d (n : Node) : D:=.agg n.cells
structure X4 where
 nodes : List Node
 gone : List Int
 base : List Int
 grams : List (List D)
 lost : Int
abbrev Zd (l : List Node) : D:=.sl 76 (l.map Node.cells)
def X4.cells (c : X4) : List D:=[Zd c.nodes,.is c.gone,.is c.base,.sl 3 c.grams,.i .i64 c.lost]
def X4.d (c : X4) : D:=.agg c.cells
def Ij (n : Int) : Bool:=decide (0 ≤ n) && decide (n ≤ 1099511627776)
theorem VY (n : Int) : Go.Gar.Fn Tryz.prog 64 [.i .i64 n] (.b (Ij n)):=by
 refine A0 AB Tryz.func64 rfl rfl (Nat.le_of_ble_eq_true rfl) ?_
 refine wk [0,2] [] A1 A1 ?_;with_reducible repeat' first|constructor|intro hc;try simp only[A3] at hc
 all_goals (refine ⟨_,_,rfl,rfl,?_⟩;simp [C4,Ij, *];try omega)
theorem TF (n : Int) : Go.Gar.Fn Tryz.prog 186 [.i .i64 n] (.b (Ij n)):=by
 refine A0 AB Tryz.func186 rfl rfl (Nat.le_of_ble_eq_true rfl) ?_
 refine wk [0,2] [] A1 A1 ?_;with_reducible repeat' first|constructor|intro hc;try simp only[A3] at hc
 all_goals (refine ⟨_,_,rfl,rfl,?_⟩;simp [C4,Ij, *];try omega)
def Bp (phase of_ : Int) : Bool:=if phase = 0 then decide (of_ = 0) else decide (phase ≤ 3) && B0 of_
theorem VE (phase of_ : Int) : Go.Gar.Fn Tryz.prog 27 [.agg [.i .u8 phase,.i .i64 of_]] (.b (Bp phase of_)):=by
 refine A0 AB Tryz.func27 rfl rfl (Nat.le_of_ble_eq_true rfl) ?_
 refine wk [0,1,2,5] [] A1 A1 ?_;with_reducible repeat' first|constructor|intro hc;try simp only[A3] at hc
 all_goals (refine ⟨_,_,rfl,rfl,?_⟩;simp [C4,Bp,B0,DW, *];try omega)
theorem Nn (phase of_ : Int) : Go.Gar.Fn Tryz.prog 85 [.agg [.i .u8 phase,.i .i64 of_]] (.b (Bp phase of_)):=by
 refine A0 AB Tryz.func85 rfl rfl (Nat.le_of_ble_eq_true rfl) ?_
 refine wk [0,1,2,5] [] A1 A1 ?_;with_reducible repeat' first|constructor|intro hc;try simp only[A3] at hc
 all_goals (refine ⟨_,_,rfl,rfl,?_⟩;simp [C4,Bp,B0,DW, *];try omega)
def On (id n : Int) : Int × Int:=if B0 id = true ∧ 1 ≤ n ∧ n ≤ 1048576 then (id * 1048576 + n,0) else (0,2)
theorem Y2 (id n : Int) : Go.Gar.Fn Tryz.prog 185 [.i .i64 id,.i .i64 n] (.tup [.i .i64 (On id n).1,.i .i64 (On id n).2]):=by
 have h1:=Wi.JI id
 have hb : B0 id = true → 0 ≤ id ∧ id < 65536:=Wi.LM
 refine A0 AB Tryz.func185 rfl rfl (Nat.le_of_ble_eq_true rfl) ?_
 cases h : B0 id with
 | false =>
  rw [h] at h1
  have sc : No 3:=trivial;refine wk [0,1,4,5,16] [] A1 (AD @h1) ?_;clear sc;with_reducible repeat' first|constructor|intro hc;try simp only[A3] at hc
  all_goals (refine ⟨_,_,rfl,rfl,?_⟩;simp [Ir,Dq,Ea,C0,On,h])
 | true =>
  rw [h] at h1
  have hb':=hb h
  have sc : No 3:=trivial;refine wk [0,1,4,5,16] [] A1 (AD @h1) ?_;clear sc;with_reducible repeat' first|constructor|intro hc;try simp only[A3] at hc
  all_goals (refine ⟨_,_,rfl,rfl,?_⟩;simp only [Ir,Dq,Ea,C0,On,h,true_and,and_true];split <;> simp <;> omega)
end Nd
end Go.Proofs.YtnahkfkljohjaaaGreatDoor
namespace Go.Proofs.YtnahkfkljohjaaaGreatDoor
open Go.Gar
set_option maxRecDepth 4000
abbrev CC : List Nat:=[0,1,2,3,4,35,40,67,69,78]
theorem f_all {f : Nat → Int} {id : Int} : (CL f).all (Df id) = (Df id (f 0) && (Df id (f 1) && (Df id (f 2) && (Df id (f 3) && (Df id (f 4) && (Df id (f 5) && (Df id (f 6) && (Df id (f 7) && (Df id (f 8) && (Df id (f 9) && (Df id (f 10) && (Df id (f 11) && (Df id (f 12) && (Df id (f 13) && (Df id (f 14) && (Df id (f 15) && true)))))))))))))))):=rfl
theorem JX (v : View) (hid : i64 v.id) (hli : ∀ y ∈ v.list,i64 y) (hb : v.base.length ≤ 9223372036854775807) (hl : v.list.length ≤ 9223372036854775807) : Go.Gar.Fn Tryz.prog 24 [v.d] (.b (AF v)):=by
 obtain ⟨id,base,list,pred,f⟩:=v
 replace hid : i64 id:=hid
 replace hli : ∀ y ∈ list,i64 y:=hli
 replace hb : base.length ≤ 9223372036854775807:=hb
 replace hl : list.length ≤ 9223372036854775807:=hl
 have c1:=Hi id
 have c2:=Kh id list hid hli hl
 have c3:=P0 ⟨id,base,list,pred,f⟩ pred
 have c4:=P0 ⟨id,base,list,pred,f⟩
 have hR : AF ⟨id,base,list,pred,f⟩ = (((Ag id && Bm base) && BD id list) && (Df id pred && (CL f).all (Df id))):=rfl
 refine A0 AB Tryz.func24 rfl rfl (Nat.le_of_ble_eq_true rfl) ?_
 cases h1 : Ag id with
 | false =>
  rw [h1] at c1 hR
  refine wd CC [] [] A1 (AD @c1) ?_;with_reducible repeat' first|constructor|intro hc;try simp only[A3] at hc
  refine ⟨_,_,rfl,rfl,?_⟩;simp [AE,A6,A5,A4,hR]
 | true =>
 rw [h1] at c1 hR
 by_cases h2 : base.length < 2
 ·have f1 : decide ((base.length : Int) < 2) = true:=decide_eq_true (by omega)
  have hB : Bm base = false:=by unfold Bm;rw [decide_eq_false (show ¬ 2 ≤ base.length by omega)];rfl
  rw [hB] at hR
  refine wd CC [] [] (AD f1) (AD @c1) ?_;with_reducible repeat' first|constructor|intro hc;try simp only[A3] at hc
  refine ⟨_,_,rfl,rfl,?_⟩;simp [AE,A6,A5,A4,hR]
 have f1 : decide ((base.length : Int) < 2) = false:=decide_eq_false (by omega)
 by_cases h4 : base.length > 4
 ·have f2 : decide ((base.length : Int) > 4) = true:=decide_eq_true (by omega)
  have hB : Bm base = false:=by unfold Bm;rw [decide_eq_false (show ¬ base.length ≤ 4 by omega),Bool.and_false];rfl
  rw [hB] at hR
  refine wd CC [] [] (Ao f1 f2) (AD @c1) ?_;with_reducible repeat' first|constructor|intro hc;try simp only[A3] at hc
  refine ⟨_,_,rfl,rfl,?_⟩;simp [AE,A6,A5,A4,hR]
 have f2 : decide ((base.length : Int) > 4) = false:=decide_eq_false (by omega)
 have hRB : Bm base = bT (-1) base:=by unfold Bm;rw [decide_eq_true (show 2 ≤ base.length by omega),decide_eq_true (show base.length ≤ 4 by omega)];rfl
 rw [hRB] at hR
 cases h3 : BD id list with
 | false =>
  rw [h3] at c2 hR
  rw [Bool.and_false,Bool.false_and] at hR
  refine wd CC [] [] (Ao f1 f2) (Ao @c1 @c2) ?_;with_reducible repeat' first|constructor|intro hc;try simp only[A3] at hc
  refine ⟨_,_,rfl,rfl,?_⟩;simp [AE,A6,A5,A4,hR]
 | true =>
 rw [h3] at c2 hR
 cases h5 : Df id pred with
 | false =>
  change Go.Gar.Fn _ _ _ (.b (Df id pred)) at c3
  rw [h5] at c3 hR
  rw [Bool.false_and,Bool.and_false] at hR
  refine wd CC [] [] (Ao f1 f2) (Bo @c1 @c2 @c3) ?_;with_reducible repeat' first|constructor|intro hc;try simp only[A3] at hc
  refine ⟨_,_,rfl,rfl,?_⟩;simp [AE,A6,A5,A4,hR]
 | true =>
 change Go.Gar.Fn _ _ _ (.b (Df id pred)) at c3
 rw [h5] at c3 hR
 rw [Bool.true_and,Bool.and_true,Bool.true_and] at hR
 refine wd CC [] [] (Ao f1 f2) (Bo @c1 @c2 @c3) ?_;with_reducible repeat' first|constructor|intro hc;try simp only[A3] at hc
 refine BF (fun k => k ≤ base.length ∧ bT (-1) (base.take k) = true) (fun k : Nat => ⟨[(1,.ptr 0 0 20),(2,.d (.b false)),(3,.d (.i .i64 k))],[.c [.d (.i .i64 id),.d (.is base),.d (.is list),.d (.i .i64 pred),.d (.i .i64 (f 0)),.d (.i .i64 (f 1)),.d (.i .i64 (f 2)),.d (.i .i64 (f 3)),.d (.i .i64 (f 4)),.d (.i .i64 (f 5)),.d (.i .i64 (f 6)),.d (.i .i64 (f 7)),.d (.i .i64 (f 8)),.d (.i .i64 (f 9)),.d (.i .i64 (f 10)),.d (.i .i64 (f 11)),.d (.i .i64 (f 12)),.d (.i .i64 (f 13)),.d (.i .i64 (f 14)),.d (.i .i64 (f 15))]],79⟩) (fun k => base.length - k) 0 ⟨Nat.zero_le _,rfl⟩ ?_ (Nat.le_refl _) ?_
 ·exact A2.ck rfl
 rintro k ⟨hk,hpre⟩
 by_cases hkl : k < base.length
 ·obtain ⟨p,hp⟩:=AR hkl
  have gp:=Bv hp
  have hs:=MV p (base.take k) (-1)
  rw [← AT hp,hpre,Bool.true_and] at hs
  have d1:=Hi p
  cases hpl : Ag p with
  | false =>
   rw [hpl] at d1 hs
   rw [Jm hs] at hR
   refine wd CC [] [] (AD gp) (AD @d1) ?_;with_reducible repeat' first|constructor|intro hc;try simp only[A3] at hc
   refine ⟨_,_,rfl,rfl,?_⟩;simp [AE,A6,A5,A4,hR]
  | true =>
   rw [hpl] at d1 hs
   rw [Bool.true_and] at hs
   have hp0:=EG hpl
   by_cases k0 : k = 0
   ·subst k0
    have hok : bT (-1) (base.take 1) = true:=by
     rw [hs];exact decide_eq_true (by show p > -1;omega)
    refine wd CC [] [] (AD gp) (AD @d1) ?_;with_reducible repeat' first|constructor|intro hc;try simp only[A3] at hc
    refine ⟨1,⟨hkl,hok⟩,by omega,Nat.le_refl _,?_⟩
    exact A2.ck rfl
   ·obtain ⟨q,hq⟩:=AR (xs:=base) (k:=k - 1) (by omega)
    have gq:=Bv hq
    have hlq : lastB (-1) (base.take k) = q:=by
     have:=LU hq
     rwa [show k - 1 + 1 = k by omega] at this
    have f4 : (k : Int) - 1 = ((k - 1 : Nat) : Int):=by omega
    have f3 : decide ((k : Int) > 0) = true:=decide_eq_true (by omega)
    rw [hlq] at hs
    by_cases hd : p > q
    ·rw [decide_eq_true hd] at hs
     have f5 : decide (p ≤ q) = false:=decide_eq_false (by omega)
     refine wd CC [] [] (IF gp gq f3 f4 f5) (AD @d1) ?_;with_reducible repeat' first|constructor|intro hc;try simp only[A3] at hc
     refine ⟨k + 1,⟨hkl,hs⟩,by omega,Nat.le_refl _,?_⟩
     exact A2.ck rfl
    ·rw [decide_eq_false hd] at hs
     rw [Jm hs] at hR
     have f5 : decide (p ≤ q) = true:=decide_eq_true (by omega)
     refine wd CC [] [] (IF gp gq f3 f4 f5) (AD @d1) ?_;with_reducible repeat' first|constructor|intro hc;try simp only[A3] at hc
     refine ⟨_,_,rfl,rfl,?_⟩;simp [AE,A6,A5,A4,hR]
 ·have e : k = base.length:=by omega
  subst e
  rw [List.take_length] at hpre
  rw [hpre,Bool.true_and,f_all] at hR
  change ∀ n,Go.Gar.Fn _ _ _ (.b (Df id n)) at c4
  have un : No 17:=trivial;refine wd CC [] [] A1 (AD @c4) ?_;clear un;with_reducible repeat' first|constructor|intro hc;try simp only[A3] at hc
  all_goals first
   | (refine ⟨_,_,rfl,rfl,?_⟩;simp [AE,A6,A5,A4,hR];done)
   | (refine ⟨_,_,rfl,rfl,?_⟩;simp_all [C4];done)
theorem Kv (v : View) (hid : i64 v.id) (hli : ∀ y ∈ v.list,i64 y) (hb : v.base.length ≤ 1000) (hl : v.list.length ≤ 1000) : Go.Gar.Fn Tryz.prog 24 [v.d] (.b (AF v)):=JX v hid hli (Nat.le_trans hb (by decide)) (Nat.le_trans hl (by decide))
end Go.Proofs.YtnahkfkljohjaaaGreatDoor
namespace Go.Proofs.YtnahkfkljohjaaaGreatDoor
namespace Nd
open Go.Gar
open Wi (A8 B0 Ak)
set_option maxRecDepth 4000
abbrev Dp : List Nat:=[0,2,3,5,6,8]
def AM (n : Node) : List AV:=.d (.i .i64 n.view.id) :: .d (.is n.view.base) :: .d (.is n.view.list) :: .d (.i .i64 n.view.pred) :: .d (.i .i64 (n.view.f 0)) :: .d (.i .i64 (n.view.f 1)) :: .d (.i .i64 (n.view.f 2)) :: .d (.i .i64 (n.view.f 3)) :: .d (.i .i64 (n.view.f 4)) :: .d (.i .i64 (n.view.f 5)) :: .d (.i .i64 (n.view.f 6)) :: .d (.i .i64 (n.view.f 7)) :: .d (.i .i64 (n.view.f 8)) :: .d (.i .i64 (n.view.f 9)) :: .d (.i .i64 (n.view.f 10)) :: .d (.i .i64 (n.view.f 11)) :: .d (.i .i64 (n.view.f 12)) :: .d (.i .i64 (n.view.f 13)) :: .d (.i .i64 (n.view.f 14)) :: .d (.i .i64 (n.view.f 15)) :: .d (.i .i64 n.clock) :: .d (.i .i64 n.calls.id) :: .d (.i .i64 n.calls.many) :: .d (BA n.calls.op) :: .d (AS n.seen) :: .d (.i .u8 n.phase) :: .d (.i .i64 n.of_) :: .d (.i .u8 n.finger.what) :: .d (.i .u8 n.finger.phase) :: .d (.i .i64 n.finger.look.key) :: .d (.i .i64 n.finger.look.at_) :: .d (.i .i64 n.finger.look.hops) :: .d (.b n.finger.look.slow) :: .d (.b n.finger.look.found) :: .d (.i .i64 n.finger.look.code) :: .d (.s n.finger.item.key) :: .d (.i .i64 n.finger.item.value) :: .d (.i .i64 n.finger.item.version) :: .d (.b n.finger.item.gone) :: .d (.i .i64 n.finger.owner) :: .d (.is n.finger.left) :: .d (.i .i64 n.finger.code) :: .d (.i .u8 n.mirror.what) :: .d (.i .u8 n.mirror.phase) :: .d (.i .i64 n.mirror.look.key) :: .d (.i .i64 n.mirror.look.at_) :: .d (.i .i64 n.mirror.look.hops) :: .d (.b n.mirror.look.slow) :: .d (.b n.mirror.look.found) :: .d (.i .i64 n.mirror.look.code) :: .d (.s n.mirror.item.key) :: .d (.i .i64 n.mirror.item.value) :: .d (.i .i64 n.mirror.item.version) :: .d (.b n.mirror.item.gone) :: .d (.i .i64 n.mirror.owner) :: .d (.is n.mirror.left) :: .d (.i .i64 n.mirror.code) :: .d (.i .u8 n.client.what) :: .d (.i .u8 n.client.phase) :: .d (.i .i64 n.client.look.key) :: .d (.i .i64 n.client.look.at_) :: .d (.i .i64 n.client.look.hops) :: .d (.b n.client.look.slow) :: .d (.b n.client.look.found) :: .d (.i .i64 n.client.look.code) :: .d (.s n.client.item.key) :: .d (.i .i64 n.client.item.value) :: .d (.i .i64 n.client.item.version) :: .d (.b n.client.item.gone) :: .d (.i .i64 n.client.owner) :: .d (.is n.client.left) :: .d (.i .i64 n.client.code) :: .d (.i .i64 n.next) :: .d (.s n.last) :: .d (AZ n.keep) :: .d (.i .i64 n.bad) :: []
theorem V0 (n : Node) (k : Nat) : AV.oks k (AM n) = true:=rfl
abbrev WZ (f : Nat) : AV:=.fn (.func f) [] [.ptr 0 0 76]
abbrev Cf : List AV:=[WZ 77,WZ 78,WZ 79,WZ 80,WZ 82,WZ 84,WZ 86,WZ 88,WZ 90]
theorem UJ (n : Node) : B4 Tryz.prog 128 [.bs 1 0 9 1 9] [.c (AM n),.c Cf] (.fn (.func 182) [] [.ptr 2 0 1]) [.c (AM n),.c Cf,.c [.bs 1 0 9 1 9]]:=by
 refine A7 AB Tryz.func128 rfl rfl (Nat.le_of_ble_eq_true rfl) ?_
 unfold Cf WZ
 refine wk [0,1,2] [] A1 A1 ?_;with_reducible repeat' first|constructor|intro hc;try simp only[A3] at hc
 exact ⟨⟨[(2,.fn (.func 182) [] [.ptr 2 0 1])],[.c (AM n),.c Cf,.c [.bs 1 0 9 1 9]],_⟩,(A2.ck rfl),Nat.le_of_ble_eq_true rfl,_,_,rfl,rfl,rfl,rfl⟩
theorem ZJ (n : Node) (b1 b2 b3 b4 b5 b6 b7 b8 b9 : Bool) (h1 : B4 Tryz.prog 77 [.ptr 0 0 76] [.c (AM n)] (.d (.b b1)) [.c (AM n)]) (h2 : B4 Tryz.prog 78 [.ptr 0 0 76] [.c (AM n)] (.d (.b b2)) [.c (AM n)]) (h3 : B4 Tryz.prog 79 [.ptr 0 0 76] [.c (AM n)] (.d (.b b3)) [.c (AM n)]) (h4 : B4 Tryz.prog 80 [.ptr 0 0 76] [.c (AM n)] (.d (.b b4)) [.c (AM n)]) (h5 : B4 Tryz.prog 82 [.ptr 0 0 76] [.c (AM n)] (.d (.b b5)) [.c (AM n)]) (h6 : B4 Tryz.prog 84 [.ptr 0 0 76] [.c (AM n)] (.d (.b b6)) [.c (AM n)]) (h7 : B4 Tryz.prog 86 [.ptr 0 0 76] [.c (AM n)] (.d (.b b7)) [.c (AM n)]) (h8 : B4 Tryz.prog 88 [.ptr 0 0 76] [.c (AM n)] (.d (.b b8)) [.c (AM n)]) (h9 : B4 Tryz.prog 90 [.ptr 0 0 76] [.c (AM n)] (.d (.b b9)) [.c (AM n)]) :
  B4 Tryz.prog 76 [.bs 1 0 9 1 9] [.c (AM n),.c Cf] (.d (.b (b1 && (b2 && (b3 && (b4 && (b5 && (b6 && (b7 && (b8 && (b9))))))))))) [.c (AM n),.c Cf]:=by
 obtain ⟨B,hB⟩ : ∃ B,(b1 && (b2 && (b3 && (b4 && (b5 && (b6 && (b7 && (b8 && (b9))))))))) = B:=⟨_,rfl⟩
 rw [hB]
 refine B4.drop (K:=[.c (AM n),.c Cf,.c [.d (.b B)]]) _ ?_ ⟨.inr rfl,.inr rfl,trivial⟩ rfl rfl rfl
 refine A7 AB Tryz.func76 rfl rfl (Nat.le_of_ble_eq_true rfl) ?_
 have d1:=Ds.mk [0,1] (UJ n);refine wk Dp [] A1 A1 ?_;clear d1;with_reducible repeat' first|constructor|intro hc;try simp only[A3] at hc
 refine Aq (K:=fun r _ H' => (B = true ∧ H' = [.c (AM n),.c Cf,.c [.d (.b false)],.c [.bs 1 0 9 1 9],.lp r]) ∨ (B = false ∧ H' = [.c (AM n),.c Cf,.c [.d (.b false)],.c [.bs 1 0 9 1 9],.lp (r.left .ret)])) rfl (by first | (simp only [AL,AJ,Nat.reduceAdd,Int.reduceAdd,Int.reduceSub,Int.reduceMul,Int.reduceToNat];done) | (simp only [AL,AJ,Nat.reduceAdd,Int.reduceAdd,Int.reduceSub,Int.reduceMul,Int.reduceToNat];rfl) | rfl) (by first | (simp only [AL,AJ,Nat.reduceAdd,Int.reduceAdd,Int.reduceSub,Int.reduceMul,Int.reduceToNat];done) | (simp only [AL,AJ,Nat.reduceAdd,Int.reduceAdd,Int.reduceSub,Int.reduceMul,Int.reduceToNat];rfl) | rfl) (fun r => rfl) ?_ ?_
 ·intro r hr
  have hT : ∀ v : Bool,v = true → YT Tryz.prog 4 [.d (.b v)] [.c (AM n),.c Cf,.c [.d (.b false)],.c [.bs 1 0 9 1 9],.lp r] fun x K => x = .d (.b true) ∧ K = [.c (AM n),.c Cf,.c [.d (.b false)],.c [.bs 1 0 9 1 9],.lp r]:=by
   rintro _ rfl
   refine Aj hr rfl rfl rfl ?_
   refine wk Dp [] A1 A1 ?_;with_reducible repeat' first|constructor|intro hc;try simp only[A3] at hc
   refine ⟨rfl,Bl (by first | (simp only [AL,AJ,Nat.reduceAdd,Int.reduceAdd,Int.reduceSub,Int.reduceMul,Int.reduceToNat];done) | (simp only [AL,AJ,Nat.reduceAdd,Int.reduceAdd,Int.reduceSub,Int.reduceMul,Int.reduceToNat];rfl) | rfl) ?_⟩
   refine wk Dp [] A1 A1 ?_;with_reducible repeat' first|constructor|intro hc;try simp only[A3] at hc
   exact ⟨_,A2.refl _,Nat.le_refl _,rfl,rfl,rfl⟩
  have hF : ∀ v : Bool,v = false → YT Tryz.prog 4 [.d (.b v)] [.c (AM n),.c Cf,.c [.d (.b false)],.c [.bs 1 0 9 1 9],.lp r] fun x K => x = .d (.b false) ∧ K = [.c (AM n),.c Cf,.c [.d (.b false)],.c [.bs 1 0 9 1 9],.lp (r.left .ret)]:=by
   rintro _ rfl
   refine Aj hr rfl rfl rfl ?_
   refine wk Dp [] A1 A1 ?_;with_reducible repeat' first|constructor|intro hc;try simp only[A3] at hc
   refine ⟨rfl,Bl (by first | (simp only [AL,AJ,Nat.reduceAdd,Int.reduceAdd,Int.reduceSub,Int.reduceMul,Int.reduceToNat];done) | (simp only [AL,AJ,Nat.reduceAdd,Int.reduceAdd,Int.reduceSub,Int.reduceMul,Int.reduceToNat];rfl) | rfl) ?_⟩
   refine wk Dp [] A1 A1 ?_;with_reducible repeat' first|constructor|intro hc;try simp only[A3] at hc
   exact ⟨_,A2.refl _,Nat.le_refl _,rfl,rfl,rfl⟩
  refine Ap AB Tryz.func182 rfl rfl (Nat.le_of_ble_eq_true rfl) ?_
  have hk:=And.intro (V0 n) (hr.ok (k:=4) rfl)
  have un : No 10:=trivial;have g1T:=@hT;have g1F:=@hF;have d1:=Ds.mk [0] (h1);have d2:=Ds.mk [0] (h2);have d3:=Ds.mk [0] (h3);have d4:=Ds.mk [0] (h4);have d5:=Ds.mk [0] (h5);have d6:=Ds.mk [0] (h6);have d7:=Ds.mk [0] (h7);have d8:=Ds.mk [0] (h8);have d9:=Ds.mk [0] (h9);refine wk [0,1,4,5,6,7,8,15] [] A1 A1 ?_;clear d9 d8 d7 d6 d5 d4 d3 d2 d1 g1F g1T un;with_reducible repeat' first|constructor|intro hc;try simp only[A3] at hc
  all_goals clear h1 h2 h3 h4 h5 h6 h7 h8 h9 hT hF
  all_goals first
   | (guard_hyp hc : b9 = true;exact ⟨⟨[],[.c (AM n),.c Cf,.c [.d (.b false)],.c [.bs 1 0 9 1 9],.lp r],_⟩,(A2.ck rfl),Nat.le_refl _,_,_,rfl,rfl,.inl ⟨by rw [← hB];simp only [*,Bool.and_self],rfl⟩⟩)
   | exact ⟨⟨[],[.c (AM n),.c Cf,.c [.d (.b false)],.c [.bs 1 0 9 1 9],.lp (r.left .ret)],_⟩,(A2.ck rfl),Nat.le_refl _,_,_,rfl,rfl,.inr ⟨by rw [← hB];simp only [*,Bool.and_false,Bool.false_and,Bool.and_self],rfl⟩⟩
 ·rintro r hr y H' (⟨h,rfl⟩ | ⟨h,rfl⟩)
  ·refine .inl ⟨rfl,?_⟩
   refine wk Dp [] A1 A1 ?_;with_reducible repeat' first|constructor|intro hc;try simp only[A3] at hc
   exact ⟨⟨[(2,.ptr 2 0 1)],[.c (AM n),.c Cf,.c [.d (.b true)]],_⟩,(A2.ck rfl),Nat.le_of_ble_eq_true rfl,_,_,rfl,rfl,by rw [h],by rw [h]⟩
  ·refine .inr ⟨.ret,rfl,?_⟩
   refine wk Dp [] A1 A1 ?_;with_reducible repeat' first|constructor|intro hc;try simp only[A3] at hc
   exact ⟨⟨[(2,.ptr 2 0 1)],[.c (AM n),.c Cf,.c [.d (.b false)]],_⟩,(A2.ck rfl),Nat.le_of_ble_eq_true rfl,_,_,rfl,rfl,by rw [h],by rw [h]⟩
end Nd
end Go.Proofs.YtnahkfkljohjaaaGreatDoor
