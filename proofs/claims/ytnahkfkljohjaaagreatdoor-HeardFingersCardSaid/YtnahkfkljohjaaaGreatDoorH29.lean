/- Part 29 of the texts of this proof, put together by a program and made short.
Conditions: none; what each theorem asks stands in its own hypotheses. -/
import Derived.Test.YtnahkfkljohjaaaGreatDoorH24
import Derived.Sort.Walk0
import Derived.KernelRfl
import Derived.RangeFuncIn
import Derived.OpenShut
import Derived.ProofKit
import Derived.CallsIn
import Derived.RangeFuncLeaves
import Derived.OrdersIn
import Derived.TacticsIn
import Derived.ChangeKeysEq
import Derived.Laws.AppendOwn
import Derived.Laws.OwnMore
import Derived.Laws.MakeOwn
import Derived.Laws.Rows
import Derived.Laws.Cells
import Derived.Laws.Tables
import Derived.Laws.CopyRow
import Derived.Laws.Strings
import Derived.Laws.IdiomStrings
import Derived.Laws.BytesArg
import Derived.Sort.Grow
import Derived.Laws.Cover3
import Derived.RecoverIn
import Derived.Test.YtnahkfkljohjaaaGreatDoorProg
set_option linter.unusedSimpArgs false
set_option linter.unusedVariables false
set_option linter.unnecessarySimpa false
set_option maxHeartbeats 40000000
namespace Go.Proofs.YtnahkfkljohjaaaGreatDoor
namespace Nd
open Go.Gar
open Wi (A8 B0 Ak AX B8 mC)
set_option maxRecDepth 4000
abbrev K3 : List Nat:=[0,2,3,5,7,8,9]
abbrev NV : List Nat:=[0,1,3,4,5,6,7,8,16]
abbrev GA : List Nat:=[0,1,2,3,4,5,6,17,18,20]
theorem Re (m : A8) (h : Ab m) : Go.Gar.Fn Tryz.prog 126 [m.d] m.d:=by
 unfold Ab at h
 refine A0 AB Tryz.func126 rfl rfl (Nat.le_of_ble_eq_true rfl) ?_
 unfold Wi.A8.d Wi.A8.cells
 refine wk [0,1,2] [] A1 A1 ?_;with_reducible repeat' first|constructor|intro hc;try simp only[A3] at hc
 refine ⟨_,_,rfl,rfl,?_⟩;simp [AE,A6,A5,A4]
theorem QI (x : Call) (h : Ab x.msg) : Go.Gar.Fn Tryz.prog 209 [x.d] x.d:=by
 have c1:=Re x.msg h
 refine A0 AB Tryz.func209 rfl rfl (Nat.le_of_ble_eq_true rfl) ?_
 unfold Call.d Call.cells
 unfold Wi.A8.d Wi.A8.cells at c1
 refine wk [0,1,2] [] A1 (AD @c1) ?_;with_reducible repeat' first|constructor|intro hc;try simp only[A3] at hc
 refine ⟨_,_,rfl,rfl,?_⟩;simp [AE,A6,A5,A4]
theorem Sw (l : List Int) (hl : l.length ≤ 1048576) : Go.Gar.Fn Tryz.prog 122 [.is l] (.is l):=by
 refine A0 AB Tryz.func122 rfl rfl (Nat.le_of_ble_eq_true rfl) ?_
 have nS:=True.intro
 repeat' (first | ((with_reducible refine sg ?_);first | with_reducible rfl | ((with_reducible refine GC ?_);first | kernel_rfl | rfl | (simp [Ci,Do,nS];done)) | with_reducible refine G5 ?_ ?_ | with_reducible exact Nat.beq_refl _ | with_reducible exact BP _ | ((with_reducible refine decide_eq_true ?_);first | omega | (simp only [Dh,nS];omega)) | decide | (simp [Dh,slc,BC,D.one,Bt,AV.one,nS];done) | (simp [Dh,nS];omega)) | ((with_reducible refine aQ ?_);first | (refine Gz rfl ?_;refine aJ AB rfl rfl rfl rfl ?_) | refine ZB AB rfl rfl rfl rfl rfl rfl (fun hnil => ?_) ?_ | refine Zn AB rfl rfl rfl rfl rfl rfl (fun hnil => ?_) ?_ | refine Xq AB rfl rfl rfl rfl ?_ ?_ | refine Xn [0,2,4] rfl ?_ | refine Xw AB rfl rfl rfl rfl ?_ ?_) | refine JU ?_ | refine GW ?_ | refine Gl ?_ | refine JY ?_ | refine Ez ?_ | refine GJ ?_ | refine E6 rfl ?_ | refine E7 rfl ?_ | (refine Hm rfl (fun hc => ?_) (fun hc => ?_) <;> (try simp only [A3] at hc) <;> (try (exfalso;omega))))
 ·have e:=is_nil hnil
  subst e
  refine ⟨_,_,rfl,rfl,?_⟩;simp [AE,A6,A5,A4]
 ·refine ⟨_,_,rfl,rfl,?_⟩;simp [AE,A6,A5,A4]
theorem C5 (j : Job) (h : j.left.length ≤ 1048576) : Go.Gar.Fn Tryz.prog 69 [j.d] j.d:=by
 have c1:=Sw j.left h
 refine A0 AB Tryz.func69 rfl rfl (Nat.le_of_ble_eq_true rfl) ?_
 unfold Job.d Job.cells
 by_cases h0 : (j.left.length : Int) = 0
 ·have f1:=AA h0
  have e : j.left = []:=List.length_eq_zero_iff.1 (by omega)
  refine wk [0,1,2,6] [] (AD f1) A1 ?_;with_reducible repeat' first|constructor|intro hc;try simp only[A3] at hc
  refine ⟨_,_,rfl,rfl,?_⟩;simp [AE,A6,A5,A4,e]
 ·have f1:=eq_false' h0
  refine wk [0,1,2,6] [] (AD f1) (AD @c1) ?_;with_reducible repeat' first|constructor|intro hc;try simp only[A3] at hc
  refine ⟨_,_,rfl,rfl,?_⟩;simp [AE,A6,A5,A4]
abbrev R7 (x : Past) : List AV:=[.d (.i .i64 x.src),.d (.i .i64 x.call),.d (.i .u8 x.told.kind),.d (.i .i64 x.told.call),.d (.i .i64 x.told.src),.d (.i .i64 x.told.dst),.d (.i .i64 x.told.key),.d (.b x.told.slow),.d (.b x.told.done),.d (.i .i64 x.told.place),.d (.i .i64 x.told.pred),.d (.is x.told.list),.d (.s x.told.item.key),.d (.i .i64 x.told.item.value),.d (.i .i64 x.told.item.version),.d (.b x.told.item.gone),.d (.i .i64 x.told.code)]
abbrev P2 (x : Call) : List AV:=[.d (.i .i64 x.id),.d (.i .u8 x.msg.kind),.d (.i .i64 x.msg.call),.d (.i .i64 x.msg.src),.d (.i .i64 x.msg.dst),.d (.i .i64 x.msg.key),.d (.b x.msg.slow),.d (.b x.msg.done),.d (.i .i64 x.msg.place),.d (.i .i64 x.msg.pred),.d (.is x.msg.list),.d (.s x.msg.item.key),.d (.i .i64 x.msg.item.value),.d (.i .i64 x.msg.item.version),.d (.b x.msg.item.gone),.d (.i .i64 x.msg.code),.d (.i .u8 x.why),.d (.i .i64 x.ref),.d (.i .i64 x.sent),.d (.i .i64 x.tries)]
theorem Po (l : List Past) (hl : ∀ x ∈ l,Ab x.told) (hn : l.length ≤ 1048576) : Go.Gar.Fn Tryz.prog 74 [AS l] (AS l):=by
 have c1:=Ks l
 refine A0 AB Tryz.func74 rfl rfl (Nat.le_of_ble_eq_true rfl) ?_
 have d1:=Ds.mk [] (c1);refine wk K3 [] A1 A1 ?_;clear d1;with_reducible repeat' first|constructor|intro hc;try simp only[A3] at hc
 refine BN (A2.F9 0 0 (.sl 17 []) rfl rfl rfl rfl (by simp [A4])) (by simp) ?_
 refine Aq (K:=fun r _ H' => H' = [.c [.sl 2 l.length 17],.c [.d (AS l)],.a (AS l),.lp r]) rfl (by first | (simp only [AL,AJ,Nat.reduceAdd,Int.reduceAdd,Int.reduceSub,Int.reduceMul,Int.reduceToNat];done) | (simp only [AL,AJ,Nat.reduceAdd,Int.reduceAdd,Int.reduceSub,Int.reduceMul,Int.reduceToNat];rfl) | rfl) (by first | (simp only [AL,AJ,Nat.reduceAdd,Int.reduceAdd,Int.reduceSub,Int.reduceMul,Int.reduceToNat];done) | (simp only [AL,AJ,Nat.reduceAdd,Int.reduceAdd,Int.reduceSub,Int.reduceMul,Int.reduceToNat];rfl) | rfl) (fun r => (by first | (simp only [AL,AJ,Nat.reduceAdd,Int.reduceAdd,Int.reduceSub,Int.reduceMul,Int.reduceToNat];done) | (simp only [AL,AJ,Nat.reduceAdd,Int.reduceAdd,Int.reduceSub,Int.reduceMul,Int.reduceToNat];rfl) | rfl)) ?_ ?_
 ·intro r hr
  have hk:=hr.ok (k:=3) rfl
  have hY : ∀ (k : Nat) (x : Past) (o : List Past),Ab x.told → o.length ≤ 1048576 → YT Tryz.prog 3 [.d (.i .i64 k),.d (.agg [.i .i64 x.src,.i .i64 x.call,.i .u8 x.told.kind,.i .i64 x.told.call,.i .i64 x.told.src,.i .i64 x.told.dst,.i .i64 x.told.key,.b x.told.slow,.b x.told.done,.i .i64 x.told.place,.i .i64 x.told.pred,.is x.told.list,.s x.told.item.key,.i .i64 x.told.item.value,.i .i64 x.told.item.version,.b x.told.item.gone,.i .i64 x.told.code])] [.c [.sl 2 o.length 17],.c [.d (AS l)],.a (AS o),.lp r,.c (R7 x)] fun v K => v = .d (.b true) ∧ K = [.c [.sl 2 (o ++ [x]).length 17],.c [.d (AS l)],.a (AS (o ++ [x])),.lp r,.c (R7 x)]:=by
   intro k x o hx ho
   have c2:=Re x.told hx
   unfold Wi.A8.d Wi.A8.cells at c2
   refine Aj hr rfl rfl rfl ?_
   unfold R7
   refine wk K3 [] A1 A1 ?_;with_reducible repeat' first|constructor|intro hc;try simp only[A3] at hc
   refine ⟨rfl,Bl (by first | (simp only [AL,AJ,Nat.reduceAdd,Int.reduceAdd,Int.reduceSub,Int.reduceMul,Int.reduceToNat];done) | (simp only [AL,AJ,Nat.reduceAdd,Int.reduceAdd,Int.reduceSub,Int.reduceMul,Int.reduceToNat];rfl) | rfl) ?_⟩
   refine wk K3 [] A1 (AD @c2) ?_;with_reducible repeat' first|constructor|intro hc;try simp only[A3] at hc
   refine ⟨⟨[],[.c [.sl 2 (o ++ [x]).length 17],.c [.d (AS l)],.a (AS (o ++ [x])),.lp r.busy,.c (R7 x)],_⟩,(A2.cut rfl (by repeat' (first | exact True.intro | refine And.intro (by (first | rfl | ((with_reducible_and_instances refine congrArg (fun z => some (AV.d (D.i _ z))) ?_);omega) | (refine congrArg (fun z => some (AV.d (D.i _ z))) (?_ : (_ : Int) = _);omega) | (refine congrArg some ?_;simp only [AS,List.map_append,List.map_cons,List.map_nil,Past.cells,List.length_append,List.length_cons,List.length_nil,List.length_map];done) | (refine congrArg some ?_;simp [AS,List.map_append,List.map_cons,List.map_nil,Past.cells,List.length_append,List.length_cons,List.length_nil,List.length_map];done))) ?_)) (by repeat' (first | exact True.intro | refine And.intro (Or.inr rfl) ?_ | refine And.intro (Or.inl ⟨rfl,rfl⟩) ?_ | refine And.intro (Or.inr (by simp only [AS,List.map_append,List.map_cons,List.map_nil,Past.cells,List.length_append,List.length_cons,List.length_nil,List.length_map])) ?_ | refine And.intro (Or.inr (by simp [AS,List.map_append,List.map_cons,List.map_nil,Past.cells,List.length_append,List.length_cons,List.length_nil,List.length_map])) ?_)) (by first | rfl | (simp (decide:=true) [Ae,AC.ok,AV.oks,AV.ok,hk];done)) rfl),Nat.le_refl _,rfl,rfl,rfl⟩
  refine Ap AB Tryz.func180 rfl rfl (Nat.le_of_ble_eq_true rfl) ?_
  refine wk NV [] A1 A1 ?_;with_reducible repeat' first|constructor|intro hc;try simp only[A3] at hc
  refine C6 (fun j : Nat => j ≤ l.length) (fun j : Nat => [(7,.d (.i .i64 j))]) (fun j => [(0,.c [.sl 2 (l.take j).length 17]),(2,.a (AS (l.take j)))]) (fun j => l.length - j) 0 (Nat.zero_le _) (fun _ => rfl) (fun _ => rfl) ?_ ?_
  ·exact A2.ck rfl
  intro j hj
  by_cases hjl : j < l.length
  ·obtain ⟨x,hx⟩:=AR hjl
   have hy:=hY j x (l.take j) (hl x (List.mem_of_getElem? hx)) (by rw [List.length_take];omega)
   have hn:=AT hx
   rw [← hn] at hy
   have ix1:=hx;have q1:=@hy;refine wk NV [] A1 A1 ?_;clear q1 ix1;with_reducible repeat' first|constructor|intro hc;try simp only[A3] at hc
   refine ⟨j + 1,hjl,by omega,Nat.le_refl _,?_⟩
   exact A2.ck rfl
  ·have e : j = l.length:=by omega
   subst e
   rw [List.take_length]
   refine wk NV [] A1 A1 ?_;with_reducible repeat' first|constructor|intro hc;try simp only[A3] at hc
   exact ⟨_,A2.refl _,Nat.le_refl _,_,_,rfl,rfl,rfl⟩
 ·rintro r hr x H' rfl
  refine .inl ⟨rfl,?_⟩
  refine wk K3 [] A1 A1 ?_;with_reducible repeat' first|constructor|intro hc;try simp only[A3] at hc
  refine ⟨_,_,rfl,rfl,?_⟩;simp [AE,A6,A5,A4]
theorem Vf (c : Calls) : B4 Tryz.prog 179 [.d c.d] [] (.fn (.func 208) [] [.ptr 0 0 3]) [.c [.d (.i .i64 c.id),.d (.i .i64 c.many),.d (BA c.op)]]:=by
 refine A7 AB Tryz.func179 rfl rfl (Nat.le_of_ble_eq_true rfl) ?_
 unfold Calls.d Calls.cells
 refine wk [0,1,2] [] A1 A1 ?_;with_reducible repeat' first|constructor|intro hc;try simp only[A3] at hc
 exact ⟨_,(A2.ck rfl),Nat.zero_le _,_,_,rfl,rfl,rfl,rfl⟩
theorem W0 (cs : List AV) : B4 Tryz.prog 124 [.ptr 0 0 20] [.c cs] (.d (.b true)) [.c cs]:=by
 refine A7 AB Tryz.func124 rfl rfl (Nat.le_of_ble_eq_true rfl) ?_
 refine wk [2] [] A1 A1 ?_;with_reducible repeat' first|constructor|intro hc;try simp only[A3] at hc
 exact ⟨_,A2.refl _,Nat.le_refl _,_,_,rfl,rfl,rfl,rfl⟩
theorem UD (id many : Int) (l : List Call) (hl : ∀ x ∈ l,Ab x.msg) (hn : l.length ≤ 1048576) : B4 Tryz.prog 123 [.d (Calls.d ⟨id,many,l⟩),.fn (.func 124) [] []] [] (.ag [.d (.i .i64 id),.d (.i .i64 many),.sl 3 l.length 20]) [.gone,.gone,.c [.d (.i .i64 id),.d (.i .i64 many),.sl 3 l.length 20],.a (BA l)]:=by
 have c1:=Vf ⟨id,many,l⟩
 refine A7 AB Tryz.func123 rfl rfl (Nat.le_of_ble_eq_true rfl) ?_
 unfold Calls.d Calls.cells at *
 refine wd GA [1] [] A1 A1 ?_;with_reducible repeat' first|constructor|intro hc;try simp only[A3] at hc
 refine Na T.get 7 9 3 4 ⟨[(0,.d (.agg [.i .i64 id,.i .i64 many,BA l])),(1,.fn (.func 124) [] []),(2,.ptr 0 0 3),(3,.ptr 1 0 1),(4,.ptr 2 0 3),(5,.ptr 4 0 3)],[.c [.d (.i .i64 id),.d (.i .i64 many),.d (BA l)],.c [.fn (.func 124) [] []],.c [.d (.i .i64 0),.d (.i .i64 0),.e0],.a (BA []),.c [.d (.i .i64 id),.d (.i .i64 many),.sl 3 0 20]],28⟩ mixed rfl rfl rfl ?_ ?_ ?_
 ·refine wd GA [] [(0,7),(1,7),(2,7),(3,7),(0,9),(1,9),(2,9),(3,9)] A1 A1 ?_;with_reducible repeat' first|constructor|intro hc;try simp only[A3] at hc
  exact ⟨rfl,.inl rfl⟩
 ·refine wd GA [] [(0,7),(1,7),(2,7),(3,7),(4,7),(5,7),(0,8),(1,8),(2,8),(3,8)] A1 A1 ?_;with_reducible repeat' first|constructor|intro hc;try simp only[A3] at hc
  exact ⟨rfl,.inr rfl⟩
 have d1:=Ds.mk [] (c1);refine wd GA [] [] A1 A1 ?_;clear d1;with_reducible repeat' first|constructor|intro hc;try simp only[A3] at hc
 refine Aq (K:=fun r _ H' => H' = [.c [.d (.i .i64 id),.d (.i .i64 many),.d (BA l)],.c [.fn (.func 124) [] []],.c [.d (.i .i64 0),.d (.i .i64 0),.e0],.a (BA l),.c [.d (.i .i64 id),.d (.i .i64 many),.sl 3 l.length 20],.c [.d (.i .i64 id),.d (.i .i64 many),.d (BA l)],.lp r]) rfl (by first | (simp only [AL,AJ,Nat.reduceAdd,Int.reduceAdd,Int.reduceSub,Int.reduceMul,Int.reduceToNat];done) | (simp only [AL,AJ,Nat.reduceAdd,Int.reduceAdd,Int.reduceSub,Int.reduceMul,Int.reduceToNat];rfl) | rfl) (by first | (simp only [AL,AJ,Nat.reduceAdd,Int.reduceAdd,Int.reduceSub,Int.reduceMul,Int.reduceToNat];done) | (simp only [AL,AJ,Nat.reduceAdd,Int.reduceAdd,Int.reduceSub,Int.reduceMul,Int.reduceToNat];rfl) | rfl) (fun r => (by first | (simp only [AL,AJ,Nat.reduceAdd,Int.reduceAdd,Int.reduceSub,Int.reduceMul,Int.reduceToNat];done) | (simp only [AL,AJ,Nat.reduceAdd,Int.reduceAdd,Int.reduceSub,Int.reduceMul,Int.reduceToNat];rfl) | rfl)) ?_ ?_
 ·intro r hr
  have hk:=hr.ok (k:=6) rfl
  have hY : ∀ (x : Call) (o : List Call) (B : AC),o.length ≤ 1048576 → AC.ok 7 B = true → YT Tryz.prog 6 [.d (.agg [.i .i64 x.id,.i .u8 x.msg.kind,.i .i64 x.msg.call,.i .i64 x.msg.src,.i .i64 x.msg.dst,.i .i64 x.msg.key,.b x.msg.slow,.b x.msg.done,.i .i64 x.msg.place,.i .i64 x.msg.pred,.is x.msg.list,.s x.msg.item.key,.i .i64 x.msg.item.value,.i .i64 x.msg.item.version,.b x.msg.item.gone,.i .i64 x.msg.code,.i .u8 x.why,.i .i64 x.ref,.i .i64 x.sent,.i .i64 x.tries])] [.c [.d (.i .i64 id),.d (.i .i64 many),.d (BA l)],.c [.fn (.func 124) [] []],.c [.d (.i .i64 0),.d (.i .i64 0),.e0],.a (BA o),.c [.d (.i .i64 id),.d (.i .i64 many),.sl 3 o.length 20],.c [.d (.i .i64 id),.d (.i .i64 many),.d (BA l)],.lp r,.c (P2 x)] fun v K => v = .d (.b true) ∧ K = [.c [.d (.i .i64 id),.d (.i .i64 many),.d (BA l)],.c [.fn (.func 124) [] []],.c [.d (.i .i64 0),.d (.i .i64 0),.e0],.a (BA (o ++ [x])),.c [.d (.i .i64 id),.d (.i .i64 many),.sl 3 (o ++ [x]).length 20],.c [.d (.i .i64 id),.d (.i .i64 many),.d (BA l)],.lp r,.c (P2 x)]:=by
   intro x o B ho hB
   have c2:=W0 (P2 x)
   refine Aj hr rfl rfl rfl ?_
   unfold P2 at *
   refine wd GA [] [] A1 A1 ?_;with_reducible repeat' first|constructor|intro hc;try simp only[A3] at hc
   refine ⟨rfl,Bl (by first | (simp only [AL,AJ,Nat.reduceAdd,Int.reduceAdd,Int.reduceSub,Int.reduceMul,Int.reduceToNat];done) | (simp only [AL,AJ,Nat.reduceAdd,Int.reduceAdd,Int.reduceSub,Int.reduceMul,Int.reduceToNat];rfl) | rfl) ?_⟩
   have d1:=Ds.mk [8] (c2);refine wd GA [] [] A1 A1 ?_;clear d1;with_reducible repeat' first|constructor|intro hc;try simp only[A3] at hc
   refine ⟨⟨[],[.c [.d (.i .i64 id),.d (.i .i64 many),.d (BA l)],.c [.fn (.func 124) [] []],.c [.d (.i .i64 0),.d (.i .i64 0),.e0],.a (BA (o ++ [x])),.c [.d (.i .i64 id),.d (.i .i64 many),.sl 3 (o ++ [x]).length 20],.c [.d (.i .i64 id),.d (.i .i64 many),.d (BA l)],.lp r.busy,.c (P2 x)],_⟩,(A2.cut rfl (by repeat' (first | exact True.intro | refine And.intro (by (first | rfl | ((with_reducible_and_instances refine congrArg (fun z => some (AV.d (D.i _ z))) ?_);omega) | (refine congrArg (fun z => some (AV.d (D.i _ z))) (?_ : (_ : Int) = _);omega) | (refine congrArg some ?_;simp only [BA,List.map_append,List.map_cons,List.map_nil,Call.cells,List.length_append,List.length_cons,List.length_nil,List.length_map];done) | (refine congrArg some ?_;simp [BA,List.map_append,List.map_cons,List.map_nil,Call.cells,List.length_append,List.length_cons,List.length_nil,List.length_map];done))) ?_)) (by repeat' (first | exact True.intro | refine And.intro (Or.inr rfl) ?_ | refine And.intro (Or.inl ⟨rfl,rfl⟩) ?_ | refine And.intro (Or.inr (by simp only [BA,List.map_append,List.map_cons,List.map_nil,Call.cells,List.length_append,List.length_cons,List.length_nil,List.length_map])) ?_ | refine And.intro (Or.inr (by simp [BA,List.map_append,List.map_cons,List.map_nil,Call.cells,List.length_append,List.length_cons,List.length_nil,List.length_map])) ?_)) (by first | rfl | (simp (decide:=true) [Ae,AC.ok,AV.oks,AV.ok,hk];done)) rfl),Nat.le_refl _,rfl,rfl,rfl⟩
  refine Ap AB Tryz.func208 rfl rfl (Nat.le_of_ble_eq_true rfl) ?_
  refine wk [0,1,4,6,7,8,9,16] [] A1 A1 ?_;with_reducible repeat' first|constructor|intro hc;try simp only[A3] at hc
  refine C6 (fun j : Nat => j ≤ l.length) (fun j : Nat => [(8,.d (.i .i64 j))]) (fun j => [(3,.a (BA (l.take j))),(4,.c [.d (.i .i64 id),.d (.i .i64 many),.sl 3 (l.take j).length 20])]) (fun j => l.length - j) 0 (Nat.zero_le _) (fun _ => rfl) (fun _ => rfl) ?_ ?_
  ·exact A2.ck rfl
  intro j hj
  by_cases hjl : j < l.length
  ·obtain ⟨x,hx⟩:=AR hjl
   have c3:=QI x (hl x (List.mem_of_getElem? hx))
   unfold Call.d Call.cells at c3
   have hy:=hY x (l.take j) .gone (by rw [List.length_take];omega) rfl
   have hn:=AT hx
   rw [← hn] at hy
   have ix1:=hx;have q1:=@hy;refine wk [0,1,4,6,7,8,9,16] [] A1 (AD @c3) ?_;clear q1 ix1;with_reducible repeat' first|constructor|intro hc;try simp only[A3] at hc
   refine ⟨j + 1,hjl,by omega,Nat.le_refl _,?_⟩
   exact A2.ck rfl
  ·have e : j = l.length:=by omega
   subst e
   rw [List.take_length]
   refine wk [0,1,4,6,7,8,9,16] [] A1 A1 ?_;with_reducible repeat' first|constructor|intro hc;try simp only[A3] at hc
   exact ⟨_,A2.refl _,Nat.le_refl _,_,_,rfl,rfl,rfl⟩
 ·rintro r hr x H' rfl
  refine .inl ⟨rfl,?_⟩
  refine wd GA [] [] A1 A1 ?_;with_reducible repeat' first|constructor|intro hc;try simp only[A3] at hc
  exact ⟨⟨[(4,.ptr 2 0 3)],[.gone,.gone,.c [.d (.i .i64 id),.d (.i .i64 many),.sl 3 l.length 20],.a (BA l)],_⟩,(A2.ck rfl),Nat.zero_le _,_,_,rfl,rfl,rfl,rfl⟩
end Nd
end Go.Proofs.YtnahkfkljohjaaaGreatDoor
