/- Part 16 of the texts of this proof, put together by a program and made short.
Conditions: none; what each theorem asks stands in its own hypotheses. -/
import Derived.Test.YtnahkfkljohjaaaGreatDoorH14
import Derived.Sort.Walk0
import Derived.KernelRfl
import Derived.RangeFuncIn
import Derived.OpenShut
import Derived.ProofKit
import Derived.CallsIn
import Derived.RangeFuncLeaves
import Derived.OrdersIn
import Derived.TacticsIn
import Derived.ChangeKeysEq
import Derived.Laws.AppendOwn
import Derived.Laws.OwnMore
import Derived.Laws.MakeOwn
import Derived.Laws.Rows
import Derived.Laws.Cells
import Derived.Laws.Tables
import Derived.Laws.CopyRow
import Derived.Laws.Strings
import Derived.Laws.IdiomStrings
import Derived.Laws.BytesArg
import Derived.Sort.Grow
import Derived.Laws.Cover3
import Derived.RecoverIn
import Derived.Test.YtnahkfkljohjaaaGreatDoorProg
set_option linter.unusedSimpArgs false
set_option linter.unusedVariables false
set_option linter.unnecessarySimpa false
set_option maxHeartbeats 40000000
namespace Go.Proofs.YtnahkfkljohjaaaGreatDoor
namespace Nd
open Go.Gar
open Wi (A8 B0 Ak)
set_option maxRecDepth 4000
abbrev Dx : List Nat:=[0,1,3,4,5,6,8,9,10,13]
abbrev Gr : List Nat:=[0,1,3,4,5,6,7,8,16]
theorem Ks (l : List Past) : B4 Tryz.prog 125 [.d (AS l)] [] (.fn (.func 180) [] [.ptr 0 0 1]) [.c [.d (AS l)]]:=by
 refine A7 AB Tryz.func125 rfl rfl (Nat.le_of_ble_eq_true rfl) ?_
 refine wk [0,1,2] [] A1 A1 ?_;with_reducible repeat' first|constructor|intro hc;try simp only[A3] at hc
 exact ⟨_,(A2.ck rfl),Nat.zero_le _,_,_,rfl,rfl,rfl,rfl⟩
theorem aj (s c : Int) : B4 Tryz.prog 137 [.d (.i .i64 s),.d (.i .i64 c)] [] (.fn (.func 189) [] [.ptr 0 0 1,.ptr 1 0 1]) [.c [.d (.i .i64 s)],.c [.d (.i .i64 c)]]:=by
 refine A7 AB Tryz.func137 rfl rfl (Nat.le_of_ble_eq_true rfl) ?_
 refine wk [0,1,2,3,4] [] A1 A1 ?_;with_reducible repeat' first|constructor|intro hc;try simp only[A3] at hc
 exact ⟨_,(A2.ck rfl),Nat.zero_le _,_,_,rfl,rfl,rfl,rfl⟩
theorem aC (p : Past) (s c : Int) : B4 Tryz.prog 189 [.d p.d,.ptr 0 0 1,.ptr 1 0 1] [.c [.d (.i .i64 s)],.c [.d (.i .i64 c)]] (.d (.b (Hn s c p))) [.c [.d (.i .i64 s)],.c [.d (.i .i64 c)]]:=by
 refine A7 AB Tryz.func189 rfl rfl (Nat.le_of_ble_eq_true rfl) ?_
 unfold Past.d Past.cells
 have hI : Hn s c p = (decide (p.src = s) && decide (p.call = c)):=rfl
 generalize Hn s c p = q at *
 by_cases h1 : p.src = s
 ·have f1 : (p.src == s) = true:=by simp [h1]
  by_cases h2 : p.call = c
  ·have f2 : (p.call == c) = true:=by simp [h2]
   have e : q = true:=by rw [hI];simp [h1,h2]
   subst e
   refine wk [0,1,2,3,4] [] (Ao f1 f2) A1 ?_;with_reducible repeat' first|constructor|intro hc;try simp only[A3] at hc
   exact ⟨⟨[(4,.d (.b true))],[.c [.d (.i .i64 s)],.c [.d (.i .i64 c)]],_⟩,(A2.ck rfl),Nat.le_refl _,_,_,rfl,rfl,rfl,rfl⟩
  ·have f2 : (p.call == c) = false:=by simp [h2]
   have e : q = false:=by rw [hI];simp [h2]
   subst e
   refine wk [0,1,2,3,4] [] (Ao f1 f2) A1 ?_;with_reducible repeat' first|constructor|intro hc;try simp only[A3] at hc
   exact ⟨⟨[(4,.d (.b false))],[.c [.d (.i .i64 s)],.c [.d (.i .i64 c)]],_⟩,(A2.ck rfl),Nat.le_refl _,_,_,rfl,rfl,rfl,rfl⟩
 ·have f1 : (p.src == s) = false:=by simp [h1]
  have e : q = false:=by rw [hI];simp [h1]
  subst e
  refine wk [0,1,2,3,4] [] (AD f1) A1 ?_;with_reducible repeat' first|constructor|intro hc;try simp only[A3] at hc
  exact ⟨⟨[(4,.d (.b false))],[.c [.d (.i .i64 s)],.c [.d (.i .i64 c)]],_⟩,(A2.ck rfl),Nat.le_refl _,_,_,rfl,rfl,rfl,rfl⟩
def KW (l : List Past) (s c : Int) : Int:=match l.findIdx? (Hn s c) with
 | some n => (n : Int)
 | none => -1
theorem JV {α : Type} {p : α → Bool} {l : List α} {k : Nat} {x : α} (hx : l[k]? = some x) (h : p x = true) (hn : (l.take k).any p = false) : l.findIdx? p = some k:=by
 rw [List.findIdx?_eq_some_iff_getElem]
 obtain ⟨hk,hv⟩:=List.getElem?_eq_some_iff.1 hx
 refine ⟨hk,by rw [hv];exact h,fun j hj => ?_⟩
 rw [List.any_eq_false] at hn
 exact hn _ (List.mem_iff_getElem?.2 ⟨j,by rw [List.getElem?_take,if_pos hj];exact List.getElem?_eq_getElem _⟩)
theorem X0 {l : List Past} {s c : Int} {k : Nat} {x : Past} (hx : l[k]? = some x) (h : Hn s c x = true) (hn : (l.take k).any (Hn s c) = false) : KW l s c = k:=by
 unfold KW;rw [JV hx h hn]
theorem Rq {l : List Past} {s c : Int} (hn : l.any (Hn s c) = false) : KW l s c = -1:=by
 unfold KW
 have : l.findIdx? (Hn s c) = none:=by
  rw [List.findIdx?_eq_none_iff]
  rw [List.any_eq_false] at hn
  intro x hx
  simpa using hn x hx
 rw [this]
theorem Xd (l : List Past) (s c : Int) : decide (KW l s c ≥ 0) = l.any (Hn s c):=by
 cases h : l.any (Hn s c) with
 | false => rw [Rq h];rfl
 | true =>
  obtain ⟨x,hx,hp⟩:=List.any_eq_true.1 h
  have : l.findIdx? (Hn s c) ≠ none:=by
   rw [Ne,List.findIdx?_eq_none_iff]
   intro hh
   have:=hh x hx
   rw [hp] at this;cases this
  unfold KW
  split
  ·exact decide_eq_true (by omega)
  ·contradiction
theorem V2 (l : List Past) (s c : Int) (hn : l.length ≤ 9223372036854775807) : B4 Tryz.prog 136 [.d (AS l),.fn (.func 189) [] [.ptr 0 0 1,.ptr 1 0 1]] [.c [.d (.i .i64 s)],.c [.d (.i .i64 c)]] (.d (.i .i64 (KW l s c))) [.c [.d (.i .i64 s)],.c [.d (.i .i64 c)]]:=by
 refine B4.drop (K:=[.c [.d (.i .i64 s)],.c [.d (.i .i64 c)],.gone,.c [.d (.i .i64 (KW l s c))]]) _ ?_ ⟨.inr rfl,.inr rfl,trivial⟩ rfl rfl rfl
 refine A7 AB Tryz.func136 rfl rfl (Nat.le_of_ble_eq_true rfl) ?_
 have d1:=Ds.mk [] (Ks l);refine wk Dx [] A1 A1 ?_;clear d1;with_reducible repeat' first|constructor|intro hc;try simp only[A3] at hc
 refine Aq (K:=fun r _ H' => (l.any (Hn s c) = false ∧ H' = [.c [.d (.i .i64 s)],.c [.d (.i .i64 c)],.c [.fn (.func 189) [] [.ptr 0 0 1,.ptr 1 0 1]],.c [.d (.i .i64 0)],.c [.d (AS l)],.lp r]) ∨
  (∃ k : Nat,KW l s c = k ∧ H' = [.c [.d (.i .i64 s)],.c [.d (.i .i64 c)],.c [.fn (.func 189) [] [.ptr 0 0 1,.ptr 1 0 1]],.c [.d (.i .i64 k)],.c [.d (AS l)],.lp (r.left .ret)])) rfl (by first | (simp only [AL,AJ,Nat.reduceAdd,Int.reduceAdd,Int.reduceSub,Int.reduceMul,Int.reduceToNat];done) | (simp only [AL,AJ,Nat.reduceAdd,Int.reduceAdd,Int.reduceSub,Int.reduceMul,Int.reduceToNat];rfl) | rfl) (by first | (simp only [AL,AJ,Nat.reduceAdd,Int.reduceAdd,Int.reduceSub,Int.reduceMul,Int.reduceToNat];done) | (simp only [AL,AJ,Nat.reduceAdd,Int.reduceAdd,Int.reduceSub,Int.reduceMul,Int.reduceToNat];rfl) | rfl) (fun r => (by first | (simp only [AL,AJ,Nat.reduceAdd,Int.reduceAdd,Int.reduceSub,Int.reduceMul,Int.reduceToNat];done) | (simp only [AL,AJ,Nat.reduceAdd,Int.reduceAdd,Int.reduceSub,Int.reduceMul,Int.reduceToNat];rfl) | rfl)) ?_ ?_
 ·intro r hr
  refine Ap AB Tryz.func180 rfl rfl (Nat.le_of_ble_eq_true rfl) ?_
  refine wk Gr [] A1 A1 ?_;with_reducible repeat' first|constructor|intro hc;try simp only[A3] at hc
  have hk:=hr.ok (k:=5) rfl
  refine B1 (fun k => k ≤ l.length ∧ (l.take k).any (Hn s c) = false) (fun k : Nat => [(7,.d (.i .i64 k))]) (fun k => l.length - k) 0 ⟨Nat.zero_le _,rfl⟩ (fun _ => rfl) ?_ ?_
  ·exact A2.ck rfl
  rintro k ⟨hkk,hpre⟩
  by_cases hkl : k < l.length
  ·obtain ⟨x,hx⟩:=AR hkl
   have c1:=aC x s c
   have hA:=EY (p:=Hn s c) hx
   rw [hpre,Bool.false_or] at hA
   unfold Past.d Past.cells at c1
   cases hb : Hn s c x with
   | true =>
    rw [hb] at c1
    have hY : YT Tryz.prog 5 [.d (.i .i64 k),.d (.agg [.i .i64 x.src,.i .i64 x.call,.i .u8 x.told.kind,.i .i64 x.told.call,.i .i64 x.told.src,.i .i64 x.told.dst,.i .i64 x.told.key,.b x.told.slow,.b x.told.done,.i .i64 x.told.place,.i .i64 x.told.pred,.is x.told.list,.s x.told.item.key,.i .i64 x.told.item.value,.i .i64 x.told.item.version,.b x.told.item.gone,.i .i64 x.told.code])] [.c [.d (.i .i64 s)],.c [.d (.i .i64 c)],.c [.fn (.func 189) [] [.ptr 0 0 1,.ptr 1 0 1]],.c [.d (.i .i64 0)],.c [.d (AS l)],.lp r,.c [.d (.i .i64 x.src),.d (.i .i64 x.call),.d (.i .u8 x.told.kind),.d (.i .i64 x.told.call),.d (.i .i64 x.told.src),.d (.i .i64 x.told.dst),.d (.i .i64 x.told.key),.d (.b x.told.slow),.d (.b x.told.done),.d (.i .i64 x.told.place),.d (.i .i64 x.told.pred),.d (.is x.told.list),.d (.s x.told.item.key),.d (.i .i64 x.told.item.value),.d (.i .i64 x.told.item.version),.d (.b x.told.item.gone),.d (.i .i64 x.told.code)]] fun v K => v = .d (.b false) ∧ K = [.c [.d (.i .i64 s)],.c [.d (.i .i64 c)],.c [.fn (.func 189) [] [.ptr 0 0 1,.ptr 1 0 1]],.c [.d (.i .i64 k)],.c [.d (AS l)],.lp (r.left .ret),.c [.d (.i .i64 x.src),.d (.i .i64 x.call),.d (.i .u8 x.told.kind),.d (.i .i64 x.told.call),.d (.i .i64 x.told.src),.d (.i .i64 x.told.dst),.d (.i .i64 x.told.key),.d (.b x.told.slow),.d (.b x.told.done),.d (.i .i64 x.told.place),.d (.i .i64 x.told.pred),.d (.is x.told.list),.d (.s x.told.item.key),.d (.i .i64 x.told.item.value),.d (.i .i64 x.told.item.version),.d (.b x.told.item.gone),.d (.i .i64 x.told.code)]]:=by
     refine Aj hr rfl rfl rfl ?_
     refine wk Dx [] A1 A1 ?_;with_reducible repeat' first|constructor|intro hc;try simp only[A3] at hc
     refine ⟨rfl,Bl (by first | (simp only [AL,AJ,Nat.reduceAdd,Int.reduceAdd,Int.reduceSub,Int.reduceMul,Int.reduceToNat];done) | (simp only [AL,AJ,Nat.reduceAdd,Int.reduceAdd,Int.reduceSub,Int.reduceMul,Int.reduceToNat];rfl) | rfl) ?_⟩
     have d1:=Ds.mk [0,1] (c1);refine wk Dx [] A1 A1 ?_;clear d1;with_reducible repeat' first|constructor|intro hc;try simp only[A3] at hc
     exact ⟨⟨[],[.c [.d (.i .i64 s)],.c [.d (.i .i64 c)],.c [.fn (.func 189) [] [.ptr 0 0 1,.ptr 1 0 1]],.c [.d (.i .i64 k)],.c [.d (AS l)],.lp r.busy,.c [.d (.i .i64 x.src),.d (.i .i64 x.call),.d (.i .u8 x.told.kind),.d (.i .i64 x.told.call),.d (.i .i64 x.told.src),.d (.i .i64 x.told.dst),.d (.i .i64 x.told.key),.d (.b x.told.slow),.d (.b x.told.done),.d (.i .i64 x.told.place),.d (.i .i64 x.told.pred),.d (.is x.told.list),.d (.s x.told.item.key),.d (.i .i64 x.told.item.value),.d (.i .i64 x.told.item.version),.d (.b x.told.item.gone),.d (.i .i64 x.told.code)]],_⟩,(A2.ck rfl),Nat.le_refl _,rfl,rfl,rfl⟩
    have ix1:=hx;have q1:=@hY;refine wk Gr [] A1 A1 ?_;clear q1 ix1;with_reducible repeat' first|constructor|intro hc;try simp only[A3] at hc
    exact ⟨⟨[],[.c [.d (.i .i64 s)],.c [.d (.i .i64 c)],.c [.fn (.func 189) [] [.ptr 0 0 1,.ptr 1 0 1]],.c [.d (.i .i64 k)],.c [.d (AS l)],.lp (r.left .ret)],_⟩,(A2.ck rfl),Nat.le_refl _,_,_,rfl,rfl,.inr ⟨k,X0 hx hb hpre,rfl⟩⟩
   | false =>
    rw [hb] at c1
    have hY : YT Tryz.prog 5 [.d (.i .i64 k),.d (.agg [.i .i64 x.src,.i .i64 x.call,.i .u8 x.told.kind,.i .i64 x.told.call,.i .i64 x.told.src,.i .i64 x.told.dst,.i .i64 x.told.key,.b x.told.slow,.b x.told.done,.i .i64 x.told.place,.i .i64 x.told.pred,.is x.told.list,.s x.told.item.key,.i .i64 x.told.item.value,.i .i64 x.told.item.version,.b x.told.item.gone,.i .i64 x.told.code])] [.c [.d (.i .i64 s)],.c [.d (.i .i64 c)],.c [.fn (.func 189) [] [.ptr 0 0 1,.ptr 1 0 1]],.c [.d (.i .i64 0)],.c [.d (AS l)],.lp r,.c [.d (.i .i64 x.src),.d (.i .i64 x.call),.d (.i .u8 x.told.kind),.d (.i .i64 x.told.call),.d (.i .i64 x.told.src),.d (.i .i64 x.told.dst),.d (.i .i64 x.told.key),.d (.b x.told.slow),.d (.b x.told.done),.d (.i .i64 x.told.place),.d (.i .i64 x.told.pred),.d (.is x.told.list),.d (.s x.told.item.key),.d (.i .i64 x.told.item.value),.d (.i .i64 x.told.item.version),.d (.b x.told.item.gone),.d (.i .i64 x.told.code)]] fun v K => v = .d (.b true) ∧ K = [.c [.d (.i .i64 s)],.c [.d (.i .i64 c)],.c [.fn (.func 189) [] [.ptr 0 0 1,.ptr 1 0 1]],.c [.d (.i .i64 0)],.c [.d (AS l)],.lp r,.c [.d (.i .i64 x.src),.d (.i .i64 x.call),.d (.i .u8 x.told.kind),.d (.i .i64 x.told.call),.d (.i .i64 x.told.src),.d (.i .i64 x.told.dst),.d (.i .i64 x.told.key),.d (.b x.told.slow),.d (.b x.told.done),.d (.i .i64 x.told.place),.d (.i .i64 x.told.pred),.d (.is x.told.list),.d (.s x.told.item.key),.d (.i .i64 x.told.item.value),.d (.i .i64 x.told.item.version),.d (.b x.told.item.gone),.d (.i .i64 x.told.code)]]:=by
     refine Aj hr rfl rfl rfl ?_
     refine wk Dx [] A1 A1 ?_;with_reducible repeat' first|constructor|intro hc;try simp only[A3] at hc
     refine ⟨rfl,Bl (by first | (simp only [AL,AJ,Nat.reduceAdd,Int.reduceAdd,Int.reduceSub,Int.reduceMul,Int.reduceToNat];done) | (simp only [AL,AJ,Nat.reduceAdd,Int.reduceAdd,Int.reduceSub,Int.reduceMul,Int.reduceToNat];rfl) | rfl) ?_⟩
     have d1:=Ds.mk [0,1] (c1);refine wk Dx [] A1 A1 ?_;clear d1;with_reducible repeat' first|constructor|intro hc;try simp only[A3] at hc
     exact ⟨⟨[],[.c [.d (.i .i64 s)],.c [.d (.i .i64 c)],.c [.fn (.func 189) [] [.ptr 0 0 1,.ptr 1 0 1]],.c [.d (.i .i64 0)],.c [.d (AS l)],.lp r.busy,.c [.d (.i .i64 x.src),.d (.i .i64 x.call),.d (.i .u8 x.told.kind),.d (.i .i64 x.told.call),.d (.i .i64 x.told.src),.d (.i .i64 x.told.dst),.d (.i .i64 x.told.key),.d (.b x.told.slow),.d (.b x.told.done),.d (.i .i64 x.told.place),.d (.i .i64 x.told.pred),.d (.is x.told.list),.d (.s x.told.item.key),.d (.i .i64 x.told.item.value),.d (.i .i64 x.told.item.version),.d (.b x.told.item.gone),.d (.i .i64 x.told.code)]],_⟩,(A2.ck rfl),Nat.le_refl _,rfl,rfl,rfl⟩
    have ix1:=hx;have q1:=@hY;refine wk Gr [] A1 A1 ?_;clear q1 ix1;with_reducible repeat' first|constructor|intro hc;try simp only[A3] at hc
    refine ⟨k + 1,⟨hkl,by rw [hA,hb]⟩,by omega,Nat.le_refl _,?_⟩
    exact A2.ck rfl
  ·have e : k = l.length:=by omega
   subst e
   rw [List.take_length] at hpre
   refine wk Gr [] A1 A1 ?_;with_reducible repeat' first|constructor|intro hc;try simp only[A3] at hc
   exact ⟨_,A2.refl _,Nat.le_refl _,_,_,rfl,rfl,.inl ⟨hpre,rfl⟩⟩
 ·rintro r hr y H' (⟨h,rfl⟩ | ⟨k,h,rfl⟩)
  ·refine .inl ⟨rfl,?_⟩
   rw [Rq h]
   refine wk Dx [] A1 A1 ?_;with_reducible repeat' first|constructor|intro hc;try simp only[A3] at hc
   exact ⟨⟨[(4,.ptr 3 0 1)],[.c [.d (.i .i64 s)],.c [.d (.i .i64 c)],.gone,.c [.d (.i .i64 (-1))]],_⟩,(A2.ck rfl),Nat.le_of_ble_eq_true rfl,_,_,rfl,rfl,rfl,rfl⟩
  ·refine .inr ⟨.ret,rfl,?_⟩
   rw [h]
   refine wk Dx [] A1 A1 ?_;with_reducible repeat' first|constructor|intro hc;try simp only[A3] at hc
   exact ⟨⟨[(4,.ptr 3 0 1)],[.c [.d (.i .i64 s)],.c [.d (.i .i64 c)],.gone,.c [.d (.i .i64 k)]],_⟩,(A2.ck rfl),Nat.le_of_ble_eq_true rfl,_,_,rfl,rfl,rfl,rfl⟩
abbrev BQ : List Nat:=[0,1,2,3,4,7,9,10,11,20,34,44]
abbrev H3 : List Nat:=[0,1,3,4,5,6,7,8,16]
theorem Xp (l : List Past) (hl : ∀ x ∈ l,Ab x.told) (hn : l.length ≤ 9223372036854775807) : Go.Gar.Fn Tryz.prog 89 [AS l] (.b (FM l)):=by
 refine A0 AB Tryz.func89 rfl rfl (Nat.le_of_ble_eq_true rfl) ?_
 by_cases h40 : l.length > 40
 ·have f1 : decide ((l.length : Int) > 40) = true:=decide_eq_true (by omega)
  have hT : FM l = false:=by unfold FM;rw [decide_eq_false (by omega)];rfl
  refine wd BQ [] [] (AD f1) A1 ?_;with_reducible repeat' first|constructor|intro hc;try simp only[A3] at hc
  refine ⟨_,_,rfl,rfl,?_⟩;simp [AE,A6,A5,A4,hT]
 have f1 : decide ((l.length : Int) > 40) = false:=decide_eq_false (by omega)
 have hT : FM l = EE l.length (Dm l):=by unfold FM;rw [decide_eq_true (by omega)];rfl
 have d1:=Ds.mk [] (Ks l);refine wd BQ [] [] (AD f1) A1 ?_;clear d1;with_reducible repeat' first|constructor|intro hc;try simp only[A3] at hc
 refine Aq (K:=fun r _ H' => (EE l.length (Dm l) = true ∧ H' = [.c [.d (AS l)],.c [.d (.b false)],.c [.d (AS l)],.lp r]) ∨
  (EE l.length (Dm l) = false ∧ H' = [.c [.d (AS l)],.c [.d (.b false)],.c [.d (AS l)],.lp (r.left .ret)])) rfl (by first | (simp only [AL,AJ,Nat.reduceAdd,Int.reduceAdd,Int.reduceSub,Int.reduceMul,Int.reduceToNat];done) | (simp only [AL,AJ,Nat.reduceAdd,Int.reduceAdd,Int.reduceSub,Int.reduceMul,Int.reduceToNat];rfl) | rfl) (by first | (simp only [AL,AJ,Nat.reduceAdd,Int.reduceAdd,Int.reduceSub,Int.reduceMul,Int.reduceToNat];done) | (simp only [AL,AJ,Nat.reduceAdd,Int.reduceAdd,Int.reduceSub,Int.reduceMul,Int.reduceToNat];rfl) | rfl) (fun r => (by first | (simp only [AL,AJ,Nat.reduceAdd,Int.reduceAdd,Int.reduceSub,Int.reduceMul,Int.reduceToNat];done) | (simp only [AL,AJ,Nat.reduceAdd,Int.reduceAdd,Int.reduceSub,Int.reduceMul,Int.reduceToNat];rfl) | rfl)) ?_ ?_
 ·intro r hr
  refine Ap AB Tryz.func180 rfl rfl (Nat.le_of_ble_eq_true rfl) ?_
  refine wk H3 [] A1 A1 ?_;with_reducible repeat' first|constructor|intro hc;try simp only[A3] at hc
  have hk:=hr.ok (k:=3) rfl
  refine B1 (fun k => k ≤ l.length ∧ EE k (Dm l) = true) (fun k : Nat => [(7,.d (.i .i64 k))]) (fun k => l.length - k) 0 ⟨Nat.zero_le _,rfl⟩ (fun _ => rfl) ?_ ?_
  ·exact A2.ck rfl
  rintro k ⟨hkk,hpre⟩
  by_cases hkl : k < l.length
  ·obtain ⟨x,hx⟩:=AR hkl
   have gx : l.getD k M0 = x:=getD_at hx
   have hlx:=hl x (List.mem_of_getElem? hx)
   have hK : Dm l k = ((x.told.right && (!x.told.asks && (decide (x.told.dst = x.src) && decide (x.told.call = x.call)))) && !(decide (KW (l.take k) x.src x.call ≥ 0))):=by unfold Dm Nj;rw [gx,Xd]
   have c1:=Wi.Cc x.told (lm hlx)
   have c2:=Wi.LV x.told
   have d1:=aj x.src x.call
   have d2:=V2 (l.take k) x.src x.call (by rw [List.length_take];omega)
   have e1 : List.take k (List.map Past.cells l) = List.map Past.cells (List.take k l):=(List.map_take ..).symm
   unfold A8.d A8.cells at c1 c2
   generalize KW (l.take k) x.src x.call = fi at *
   have hY : YT Tryz.prog 3 [.d (.i .i64 k),.d (.agg [.i .i64 x.src,.i .i64 x.call,.i .u8 x.told.kind,.i .i64 x.told.call,.i .i64 x.told.src,.i .i64 x.told.dst,.i .i64 x.told.key,.b x.told.slow,.b x.told.done,.i .i64 x.told.place,.i .i64 x.told.pred,.is x.told.list,.s x.told.item.key,.i .i64 x.told.item.value,.i .i64 x.told.item.version,.b x.told.item.gone,.i .i64 x.told.code])] [.c [.d (AS l)],.c [.d (.b false)],.c [.d (AS l)],.lp r,.c [.d (.i .i64 x.src),.d (.i .i64 x.call),.d (.i .u8 x.told.kind),.d (.i .i64 x.told.call),.d (.i .i64 x.told.src),.d (.i .i64 x.told.dst),.d (.i .i64 x.told.key),.d (.b x.told.slow),.d (.b x.told.done),.d (.i .i64 x.told.place),.d (.i .i64 x.told.pred),.d (.is x.told.list),.d (.s x.told.item.key),.d (.i .i64 x.told.item.value),.d (.i .i64 x.told.item.version),.d (.b x.told.item.gone),.d (.i .i64 x.told.code)]] fun v K => v = .d (.b (Dm l k)) ∧ K = if Dm l k then [.c [.d (AS l)],.c [.d (.b false)],.c [.d (AS l)],.lp r,.c [.d (.i .i64 x.src),.d (.i .i64 x.call),.d (.i .u8 x.told.kind),.d (.i .i64 x.told.call),.d (.i .i64 x.told.src),.d (.i .i64 x.told.dst),.d (.i .i64 x.told.key),.d (.b x.told.slow),.d (.b x.told.done),.d (.i .i64 x.told.place),.d (.i .i64 x.told.pred),.d (.is x.told.list),.d (.s x.told.item.key),.d (.i .i64 x.told.item.value),.d (.i .i64 x.told.item.version),.d (.b x.told.item.gone),.d (.i .i64 x.told.code)]] else [.c [.d (AS l)],.c [.d (.b false)],.c [.d (AS l)],.lp (r.left .ret),.c [.d (.i .i64 x.src),.d (.i .i64 x.call),.d (.i .u8 x.told.kind),.d (.i .i64 x.told.call),.d (.i .i64 x.told.src),.d (.i .i64 x.told.dst),.d (.i .i64 x.told.key),.d (.b x.told.slow),.d (.b x.told.done),.d (.i .i64 x.told.place),.d (.i .i64 x.told.pred),.d (.is x.told.list),.d (.s x.told.item.key),.d (.i .i64 x.told.item.value),.d (.i .i64 x.told.item.version),.d (.b x.told.item.gone),.d (.i .i64 x.told.code)]]:=by
    refine Aj hr rfl rfl rfl ?_
    rw [hK]
    generalize x.told.right = rr at *
    generalize x.told.asks = aa at *
    clear hK
    cases rr
    ·refine wd BQ [] [] A1 A1 ?_;with_reducible repeat' first|constructor|intro hc;try simp only[A3] at hc
     refine ⟨rfl,Bl (by first | (simp only [AL,AJ,Nat.reduceAdd,Int.reduceAdd,Int.reduceSub,Int.reduceMul,Int.reduceToNat];done) | (simp only [AL,AJ,Nat.reduceAdd,Int.reduceAdd,Int.reduceSub,Int.reduceMul,Int.reduceToNat];rfl) | rfl) ?_⟩
     refine wd BQ [] [] A1 (AD @c1) ?_;with_reducible repeat' first|constructor|intro hc;try simp only[A3] at hc
     exact ⟨⟨[],[.c [.d (AS l)],.c [.d (.b false)],.c [.d (AS l)],.lp r.busy,.c [.d (.i .i64 x.src),.d (.i .i64 x.call),.d (.i .u8 x.told.kind),.d (.i .i64 x.told.call),.d (.i .i64 x.told.src),.d (.i .i64 x.told.dst),.d (.i .i64 x.told.key),.d (.b x.told.slow),.d (.b x.told.done),.d (.i .i64 x.told.place),.d (.i .i64 x.told.pred),.d (.is x.told.list),.d (.s x.told.item.key),.d (.i .i64 x.told.item.value),.d (.i .i64 x.told.item.version),.d (.b x.told.item.gone),.d (.i .i64 x.told.code)]],_⟩,(A2.ck rfl),Nat.le_refl _,rfl,rfl,rfl⟩
    cases aa
    ·by_cases h1 : x.told.dst = x.src
     ·have f2 : (x.told.dst != x.src) = false:=AO h1
      by_cases h2 : x.told.call = x.call
      ·have f3 : (x.told.call != x.call) = false:=AO h2
       rw [decide_eq_true h1,decide_eq_true h2]
       by_cases h3 : fi ≥ 0
       ·have f4 : decide (fi ≥ 0) = true:=decide_eq_true h3
        rw [f4]
        refine wd BQ [] [] A1 A1 ?_;with_reducible repeat' first|constructor|intro hc;try simp only[A3] at hc
        refine ⟨rfl,Bl (by first | (simp only [AL,AJ,Nat.reduceAdd,Int.reduceAdd,Int.reduceSub,Int.reduceMul,Int.reduceToNat];done) | (simp only [AL,AJ,Nat.reduceAdd,Int.reduceAdd,Int.reduceSub,Int.reduceMul,Int.reduceToNat];rfl) | rfl) ?_⟩
        have d1:=Ds.mk [] (d1);have d2:=Ds.mk [6,7] (d2);refine wd BQ [] [(0,7)] (GD f2 f3 f4 e1) (Ao @c1 @c2) ?_;clear d2 d1;with_reducible repeat' first|constructor|intro hc;try simp only[A3] at hc
        exact ⟨⟨[],[.c [.d (AS l)],.c [.d (.b false)],.c [.d (AS l)],.lp r.busy,.c [.d (.i .i64 x.src),.d (.i .i64 x.call),.d (.i .u8 x.told.kind),.d (.i .i64 x.told.call),.d (.i .i64 x.told.src),.d (.i .i64 x.told.dst),.d (.i .i64 x.told.key),.d (.b x.told.slow),.d (.b x.told.done),.d (.i .i64 x.told.place),.d (.i .i64 x.told.pred),.d (.is x.told.list),.d (.s x.told.item.key),.d (.i .i64 x.told.item.value),.d (.i .i64 x.told.item.version),.d (.b x.told.item.gone),.d (.i .i64 x.told.code)]],_⟩,(A2.ck rfl),Nat.le_refl _,rfl,rfl,rfl⟩
       ·have f4 : decide (fi ≥ 0) = false:=decide_eq_false h3
        rw [f4]
        refine wd BQ [] [] A1 A1 ?_;with_reducible repeat' first|constructor|intro hc;try simp only[A3] at hc
        refine ⟨rfl,Bl (by first | (simp only [AL,AJ,Nat.reduceAdd,Int.reduceAdd,Int.reduceSub,Int.reduceMul,Int.reduceToNat];done) | (simp only [AL,AJ,Nat.reduceAdd,Int.reduceAdd,Int.reduceSub,Int.reduceMul,Int.reduceToNat];rfl) | rfl) ?_⟩
        have d1:=Ds.mk [] (d1);have d2:=Ds.mk [6,7] (d2);refine wd BQ [] [(0,7)] (GD f2 f3 f4 e1) (Ao @c1 @c2) ?_;clear d2 d1;with_reducible repeat' first|constructor|intro hc;try simp only[A3] at hc
        exact ⟨⟨[],[.c [.d (AS l)],.c [.d (.b false)],.c [.d (AS l)],.lp r.busy,.c [.d (.i .i64 x.src),.d (.i .i64 x.call),.d (.i .u8 x.told.kind),.d (.i .i64 x.told.call),.d (.i .i64 x.told.src),.d (.i .i64 x.told.dst),.d (.i .i64 x.told.key),.d (.b x.told.slow),.d (.b x.told.done),.d (.i .i64 x.told.place),.d (.i .i64 x.told.pred),.d (.is x.told.list),.d (.s x.told.item.key),.d (.i .i64 x.told.item.value),.d (.i .i64 x.told.item.version),.d (.b x.told.item.gone),.d (.i .i64 x.told.code)]],_⟩,(A2.ck rfl),Nat.le_refl _,rfl,rfl,rfl⟩
      ·have f3 : (x.told.call != x.call) = true:=BJ h2
       rw [decide_eq_true h1,decide_eq_false h2]
       refine wd BQ [] [] A1 A1 ?_;with_reducible repeat' first|constructor|intro hc;try simp only[A3] at hc
       refine ⟨rfl,Bl (by first | (simp only [AL,AJ,Nat.reduceAdd,Int.reduceAdd,Int.reduceSub,Int.reduceMul,Int.reduceToNat];done) | (simp only [AL,AJ,Nat.reduceAdd,Int.reduceAdd,Int.reduceSub,Int.reduceMul,Int.reduceToNat];rfl) | rfl) ?_⟩
       refine wd BQ [] [] (Ao f2 f3) (Ao @c1 @c2) ?_;with_reducible repeat' first|constructor|intro hc;try simp only[A3] at hc
       exact ⟨⟨[],[.c [.d (AS l)],.c [.d (.b false)],.c [.d (AS l)],.lp r.busy,.c [.d (.i .i64 x.src),.d (.i .i64 x.call),.d (.i .u8 x.told.kind),.d (.i .i64 x.told.call),.d (.i .i64 x.told.src),.d (.i .i64 x.told.dst),.d (.i .i64 x.told.key),.d (.b x.told.slow),.d (.b x.told.done),.d (.i .i64 x.told.place),.d (.i .i64 x.told.pred),.d (.is x.told.list),.d (.s x.told.item.key),.d (.i .i64 x.told.item.value),.d (.i .i64 x.told.item.version),.d (.b x.told.item.gone),.d (.i .i64 x.told.code)]],_⟩,(A2.ck rfl),Nat.le_refl _,rfl,rfl,rfl⟩
     ·have f2 : (x.told.dst != x.src) = true:=BJ h1
      rw [decide_eq_false h1]
      refine wd BQ [] [] A1 A1 ?_;with_reducible repeat' first|constructor|intro hc;try simp only[A3] at hc
      refine ⟨rfl,Bl (by first | (simp only [AL,AJ,Nat.reduceAdd,Int.reduceAdd,Int.reduceSub,Int.reduceMul,Int.reduceToNat];done) | (simp only [AL,AJ,Nat.reduceAdd,Int.reduceAdd,Int.reduceSub,Int.reduceMul,Int.reduceToNat];rfl) | rfl) ?_⟩
      refine wd BQ [] [] (AD f2) (Ao @c1 @c2) ?_;with_reducible repeat' first|constructor|intro hc;try simp only[A3] at hc
      exact ⟨⟨[],[.c [.d (AS l)],.c [.d (.b false)],.c [.d (AS l)],.lp r.busy,.c [.d (.i .i64 x.src),.d (.i .i64 x.call),.d (.i .u8 x.told.kind),.d (.i .i64 x.told.call),.d (.i .i64 x.told.src),.d (.i .i64 x.told.dst),.d (.i .i64 x.told.key),.d (.b x.told.slow),.d (.b x.told.done),.d (.i .i64 x.told.place),.d (.i .i64 x.told.pred),.d (.is x.told.list),.d (.s x.told.item.key),.d (.i .i64 x.told.item.value),.d (.i .i64 x.told.item.version),.d (.b x.told.item.gone),.d (.i .i64 x.told.code)]],_⟩,(A2.ck rfl),Nat.le_refl _,rfl,rfl,rfl⟩
    ·refine wd BQ [] [] A1 A1 ?_;with_reducible repeat' first|constructor|intro hc;try simp only[A3] at hc
     refine ⟨rfl,Bl (by first | (simp only [AL,AJ,Nat.reduceAdd,Int.reduceAdd,Int.reduceSub,Int.reduceMul,Int.reduceToNat];done) | (simp only [AL,AJ,Nat.reduceAdd,Int.reduceAdd,Int.reduceSub,Int.reduceMul,Int.reduceToNat];rfl) | rfl) ?_⟩
     refine wd BQ [] [] A1 (Ao @c1 @c2) ?_;with_reducible repeat' first|constructor|intro hc;try simp only[A3] at hc
     exact ⟨⟨[],[.c [.d (AS l)],.c [.d (.b false)],.c [.d (AS l)],.lp r.busy,.c [.d (.i .i64 x.src),.d (.i .i64 x.call),.d (.i .u8 x.told.kind),.d (.i .i64 x.told.call),.d (.i .i64 x.told.src),.d (.i .i64 x.told.dst),.d (.i .i64 x.told.key),.d (.b x.told.slow),.d (.b x.told.done),.d (.i .i64 x.told.place),.d (.i .i64 x.told.pred),.d (.is x.told.list),.d (.s x.told.item.key),.d (.i .i64 x.told.item.value),.d (.i .i64 x.told.item.version),.d (.b x.told.item.gone),.d (.i .i64 x.told.code)]],_⟩,(A2.ck rfl),Nat.le_refl _,rfl,rfl,rfl⟩
   cases hb : Dm l k with
   | true =>
    rw [hb] at hY
    have ix1:=hx;have q1:=@hY;refine wk H3 [] A1 A1 ?_;clear q1 ix1;with_reducible repeat' first|constructor|intro hc;try simp only[A3] at hc
    refine ⟨k + 1,⟨hkl,DD hpre hb⟩,by omega,Nat.le_refl _,?_⟩
    exact A2.ck rfl
   | false =>
    rw [hb] at hY
    have ix1:=hx;have q1:=@hY;refine wk H3 [] A1 A1 ?_;clear q1 ix1;with_reducible repeat' first|constructor|intro hc;try simp only[A3] at hc
    exact ⟨⟨[],[.c [.d (AS l)],.c [.d (.b false)],.c [.d (AS l)],.lp (r.left .ret)],_⟩,(A2.ck rfl),Nat.le_refl _,_,_,rfl,rfl,.inr ⟨Er hkl hb,rfl⟩⟩
  ·have e : k = l.length:=by omega
   subst e
   refine wk H3 [] A1 A1 ?_;with_reducible repeat' first|constructor|intro hc;try simp only[A3] at hc
   exact ⟨_,A2.refl _,Nat.le_refl _,_,_,rfl,rfl,.inl ⟨hpre,rfl⟩⟩
 ·rintro r hr y H' (⟨h,rfl⟩ | ⟨h,rfl⟩)
  ·refine .inl ⟨rfl,?_⟩
   rw [h] at hT
   refine wd BQ [] [] A1 A1 ?_;with_reducible repeat' first|constructor|intro hc;try simp only[A3] at hc
   refine ⟨_,_,rfl,rfl,?_⟩;simp [AE,A6,A5,A4,hT]
  ·refine .inr ⟨.ret,rfl,?_⟩
   rw [h] at hT
   refine wd BQ [] [] A1 A1 ?_;with_reducible repeat' first|constructor|intro hc;try simp only[A3] at hc
   refine ⟨_,_,rfl,rfl,?_⟩;simp [AE,A6,A5,A4,hT]
end Nd
end Go.Proofs.YtnahkfkljohjaaaGreatDoor
