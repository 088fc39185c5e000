/- Part 10 of the texts of this proof, put together by a program and made short.
Conditions: none; what each theorem asks stands in its own hypotheses. -/
import Derived.Test.YtnahkfkljohjaaaGreatDoorH08
import Derived.KernelRfl
import Derived.RangeFuncIn
import Derived.OpenShut
import Derived.ProofKit
import Derived.CallsIn
import Derived.RangeFuncLeaves
import Derived.OrdersIn
import Derived.TacticsIn
import Derived.ChangeKeysEq
import Derived.Laws.AppendOwn
import Derived.Laws.OwnMore
import Derived.Laws.MakeOwn
import Derived.Laws.Rows
import Derived.Laws.Cells
import Derived.Laws.Tables
import Derived.Laws.CopyRow
import Derived.Laws.Strings
import Derived.Laws.IdiomStrings
import Derived.Laws.BytesArg
import Derived.Sort.Grow
import Derived.Laws.Cover3
import Derived.RecoverIn
import Derived.Test.YtnahkfkljohjaaaGreatDoorProg
set_option linter.unusedSimpArgs false
set_option linter.unusedVariables false
set_option linter.unnecessarySimpa false
set_option maxHeartbeats 40000000
namespace Go.Proofs.YtnahkfkljohjaaaGreatDoor
open Go.Gar
set_option maxRecDepth 4000
abbrev ET : List Nat:=[0,1,4,5,7,8,9,16]
abbrev Fa : List Nat:=[0,1,4,5,10,14,25]
def Ba (n : Int) : Int:=n % 65536
def AU (a b : Int) : Int:=(b - a) % 65536
theorem HY (n : Int) : 0 ≤ Ba n ∧ Ba n < 65536:=by unfold Ba;omega
theorem Mt (a b : Int) : 0 ≤ AU a b ∧ AU a b < 65536:=by unfold AU;omega
theorem V5 (a b : Int) : Ba (Ba b - Ba a) = AU a b:=by unfold Ba AU;omega
theorem WM (n : Int) : EB .and .i64 n 65535 = Ba n:=by
 have h1 : ((BitVec.ofInt 64 n) &&& (BitVec.ofInt 64 65535)).toNat = (n % 65536).toNat:=by
  rw [BitVec.toNat_and]
  have e1 : (BitVec.ofInt 64 65535).toNat = 2 ^ 16 - 1:=by decide
  rw [e1,Nat.and_two_pow_sub_one_eq_mod,BitVec.toNat_ofInt]
  omega
 have e : EB .and .i64 n 65535 = IntKind.wrap .i64 (((BitVec.ofInt 64 n) &&& (BitVec.ofInt 64 65535)).toNat : Int):=rfl
 rw [e,h1,IntKind.wrap_i64]
 unfold Ba
 omega
theorem YE (n : Int) : (n.tmod 65536 + 65536).tmod 65536 = Ba n:=by
 have h1:=Int.tmod_lt_of_pos n (show (0 : Int) < 65536 by decide)
 have h2:=Int.lt_tmod_of_pos n (show (0 : Int) < 65536 by decide)
 rw [Int.tmod_eq_emod_of_nonneg (by omega)]
 unfold Ba
 have h3:=Int.tmod_add_mul_tdiv n 65536
 omega
theorem Cw (n : Int) : Go.Gar.Fn Tryz.prog 140 [.i .i64 n] (.i .i64 (Ba n)):=by
 have e:=WM n
 refine A0 AB Tryz.func140 rfl rfl (Nat.le_of_ble_eq_true rfl) ?_
 refine wk [0,2] [] (AD e) A1 ?_;with_reducible repeat' first|constructor|intro hc;try simp only[A3] at hc
 refine ⟨_,_,rfl,rfl,?_⟩;simp [AE,A6,A5,A4]
theorem FE (a b : Int) : Go.Gar.Fn Tryz.prog 156 [.i .i64 a,.i .i64 b] (.i .i64 (AU a b)):=by
 have c1:=Cw a
 have c2:=Cw b
 have c3:=Cw (Ba b - Ba a)
 rw [V5] at c3
 have h1:=HY a
 have h2:=HY b
 refine A0 AB Tryz.func156 rfl rfl (Nat.le_of_ble_eq_true rfl) ?_
 refine wk [0,1,4] [] A1 (Bo @c1 @c2 @c3) ?_;with_reducible repeat' first|constructor|intro hc;try simp only[A3] at hc
 refine ⟨_,_,rfl,rfl,?_⟩;simp [AE,A6,A5,A4]
theorem By (n : Int) (hn : -9223372036854775808 ≤ n ∧ n ≤ 9223372036854775807) : Go.Gar.Fn Tryz.prog 70 [.i .i64 n] (.i .i64 (Ba n)):=by
 have e:=YE n
 have h1:=Int.tmod_lt_of_pos n (show (0 : Int) < 65536 by decide)
 have h2:=Int.lt_tmod_of_pos n (show (0 : Int) < 65536 by decide)
 refine A0 AB Tryz.func70 rfl rfl (Nat.le_of_ble_eq_true rfl) ?_
 refine wk [0,2] [] (AD e) A1 ?_;with_reducible repeat' first|constructor|intro hc;try simp only[A3] at hc
 refine ⟨_,_,rfl,rfl,?_⟩;simp [AE,A6,A5,A4]
def i64 (n : Int) : Prop:=-9223372036854775808 ≤ n ∧ n ≤ 9223372036854775807
theorem K9 (a b : Int) (ha : i64 a) (hb : i64 b) : Go.Gar.Fn Tryz.prog 71 [.i .i64 a,.i .i64 b] (.i .i64 (AU a b)):=by
 have h1:=HY a
 have h2:=HY b
 have c1:=By a ha
 have c2:=By b hb
 have c3:=By (Ba b - Ba a) (by omega)
 rw [V5] at c3
 refine A0 AB Tryz.func71 rfl rfl (Nat.le_of_ble_eq_true rfl) ?_
 refine wk [0,1,4] [] A1 (Bo @c1 @c2 @c3) ?_;with_reducible repeat' first|constructor|intro hc;try simp only[A3] at hc
 refine ⟨_,_,rfl,rfl,?_⟩;simp [AE,A6,A5,A4]
def Ag (n : Int) : Bool:=decide (0 ≤ n ∧ n < 65536)
theorem EG {n : Int} (h : Ag n = true) : 0 ≤ n ∧ n < 65536:=by simpa [Ag] using h
theorem Ej (n : Int) : Go.Gar.Fn Tryz.prog 129 [.i .i64 n] (.b (Ag n)):=by
 refine A0 AB Tryz.func129 rfl rfl (Nat.le_of_ble_eq_true rfl) ?_
 by_cases h1 : 0 ≤ n
 ·have f1 : decide (n ≥ 0) = true:=decide_eq_true h1
  by_cases h2 : n < 65536
  ·have f2 : decide (n < 65536) = true:=decide_eq_true h2
   have e : Ag n = true:=decide_eq_true ⟨h1,h2⟩
   rw [e]
   refine wk [0,2] [] (Ao f1 f2) A1 ?_;with_reducible repeat' first|constructor|intro hc;try simp only[A3] at hc
   refine ⟨_,_,rfl,rfl,?_⟩;simp [AE,A6,A5,A4]
  ·have f2 : decide (n < 65536) = false:=decide_eq_false h2
   have e : Ag n = false:=decide_eq_false fun h => h2 h.2
   rw [e]
   refine wk [0,2] [] (Ao f1 f2) A1 ?_;with_reducible repeat' first|constructor|intro hc;try simp only[A3] at hc
   refine ⟨_,_,rfl,rfl,?_⟩;simp [AE,A6,A5,A4]
 ·have f1 : decide (n ≥ 0) = false:=decide_eq_false h1
  have e : Ag n = false:=decide_eq_false fun h => h1 h.1
  rw [e]
  refine wk [0,2] [] (AD f1) A1 ?_;with_reducible repeat' first|constructor|intro hc;try simp only[A3] at hc
  refine ⟨_,_,rfl,rfl,?_⟩;simp [AE,A6,A5,A4]
theorem Iy (n : Int) : Go.Gar.Fn Tryz.prog 154 [.i .i64 n] (.b (Ag n)):=by
 refine A0 AB Tryz.func154 rfl rfl (Nat.le_of_ble_eq_true rfl) ?_
 by_cases h1 : 0 ≤ n
 ·have f1 : decide (n ≥ 0) = true:=decide_eq_true h1
  by_cases h2 : n < 65536
  ·have f2 : decide (n < 65536) = true:=decide_eq_true h2
   have e : Ag n = true:=decide_eq_true ⟨h1,h2⟩
   rw [e]
   refine wk [0,2] [] (Ao f1 f2) A1 ?_;with_reducible repeat' first|constructor|intro hc;try simp only[A3] at hc
   refine ⟨_,_,rfl,rfl,?_⟩;simp [AE,A6,A5,A4]
  ·have f2 : decide (n < 65536) = false:=decide_eq_false h2
   have e : Ag n = false:=decide_eq_false fun h => h2 h.2
   rw [e]
   refine wk [0,2] [] (Ao f1 f2) A1 ?_;with_reducible repeat' first|constructor|intro hc;try simp only[A3] at hc
   refine ⟨_,_,rfl,rfl,?_⟩;simp [AE,A6,A5,A4]
 ·have f1 : decide (n ≥ 0) = false:=decide_eq_false h1
  have e : Ag n = false:=decide_eq_false fun h => h1 h.1
  rw [e]
  refine wk [0,2] [] (AD f1) A1 ?_;with_reducible repeat' first|constructor|intro hc;try simp only[A3] at hc
  refine ⟨_,_,rfl,rfl,?_⟩;simp [AE,A6,A5,A4]
theorem Hi (n : Int) : Go.Gar.Fn Tryz.prog 59 [.i .i64 n] (.b (Ag n)):=by
 refine A0 AB Tryz.func59 rfl rfl (Nat.le_of_ble_eq_true rfl) ?_
 by_cases h1 : 0 ≤ n
 ·have f1 : decide (n ≥ 0) = true:=decide_eq_true h1
  by_cases h2 : n < 65536
  ·have f2 : decide (n < 65536) = true:=decide_eq_true h2
   have e : Ag n = true:=decide_eq_true ⟨h1,h2⟩
   rw [e]
   refine wk [0,2] [] (Ao f1 f2) A1 ?_;with_reducible repeat' first|constructor|intro hc;try simp only[A3] at hc
   refine ⟨_,_,rfl,rfl,?_⟩;simp [AE,A6,A5,A4]
  ·have f2 : decide (n < 65536) = false:=decide_eq_false h2
   have e : Ag n = false:=decide_eq_false fun h => h2 h.2
   rw [e]
   refine wk [0,2] [] (Ao f1 f2) A1 ?_;with_reducible repeat' first|constructor|intro hc;try simp only[A3] at hc
   refine ⟨_,_,rfl,rfl,?_⟩;simp [AE,A6,A5,A4]
 ·have f1 : decide (n ≥ 0) = false:=decide_eq_false h1
  have e : Ag n = false:=decide_eq_false fun h => h1 h.1
  rw [e]
  refine wk [0,2] [] (AD f1) A1 ?_;with_reducible repeat' first|constructor|intro hc;try simp only[A3] at hc
  refine ⟨_,_,rfl,rfl,?_⟩;simp [AE,A6,A5,A4]
theorem QT (n : Int) : Go.Gar.Fn Tryz.prog 116 [.i .i64 n] (.b (Ag n)):=by
 refine A0 AB Tryz.func116 rfl rfl (Nat.le_of_ble_eq_true rfl) ?_
 by_cases h1 : 0 ≤ n
 ·have f1 : decide (n ≥ 0) = true:=decide_eq_true h1
  by_cases h2 : n < 65536
  ·have f2 : decide (n < 65536) = true:=decide_eq_true h2
   have e : Ag n = true:=decide_eq_true ⟨h1,h2⟩
   rw [e]
   refine wk [0,2] [] (Ao f1 f2) A1 ?_;with_reducible repeat' first|constructor|intro hc;try simp only[A3] at hc
   refine ⟨_,_,rfl,rfl,?_⟩;simp [AE,A6,A5,A4]
  ·have f2 : decide (n < 65536) = false:=decide_eq_false h2
   have e : Ag n = false:=decide_eq_false fun h => h2 h.2
   rw [e]
   refine wk [0,2] [] (Ao f1 f2) A1 ?_;with_reducible repeat' first|constructor|intro hc;try simp only[A3] at hc
   refine ⟨_,_,rfl,rfl,?_⟩;simp [AE,A6,A5,A4]
 ·have f1 : decide (n ≥ 0) = false:=decide_eq_false h1
  have e : Ag n = false:=decide_eq_false fun h => h1 h.1
  rw [e]
  refine wk [0,2] [] (AD f1) A1 ?_;with_reducible repeat' first|constructor|intro hc;try simp only[A3] at hc
  refine ⟨_,_,rfl,rfl,?_⟩;simp [AE,A6,A5,A4]
theorem LP (l : List Int) (hl : l.length ≤ 100000) : Go.Gar.Fn Tryz.prog 122 [.is l] (.is l):=by
 refine A0 AB Tryz.func122 rfl rfl (Nat.le_of_ble_eq_true rfl) ?_
 have nS:=True.intro
 repeat' (first | ((with_reducible refine sg ?_);first | with_reducible rfl | ((with_reducible refine GC ?_);first | kernel_rfl | rfl | (simp [Ci,Do,nS];done)) | with_reducible refine G5 ?_ ?_ | with_reducible exact Nat.beq_refl _ | with_reducible exact BP _ | ((with_reducible refine decide_eq_true ?_);first | omega | (simp only [Dh,nS];omega)) | decide | (simp [Dh,slc,BC,D.one,Bt,AV.one,nS];done) | (simp [Dh,nS];omega)) | ((with_reducible refine aQ ?_);first | (refine Gz rfl ?_;refine aJ AB rfl rfl rfl rfl ?_) | refine ZB AB rfl rfl rfl rfl rfl rfl (fun hnil => ?_) ?_ | refine Zn AB rfl rfl rfl rfl rfl rfl (fun hnil => ?_) ?_ | refine Xq AB rfl rfl rfl rfl ?_ ?_ | refine Xn [0,2,4] rfl ?_ | refine Xw AB rfl rfl rfl rfl ?_ ?_) | refine JU ?_ | refine GW ?_ | refine Gl ?_ | refine JY ?_ | refine Ez ?_ | refine GJ ?_ | refine E6 rfl ?_ | refine E7 rfl ?_ | (refine Hm rfl (fun hc => ?_) (fun hc => ?_) <;> (try simp only [A3] at hc) <;> (try (exfalso;omega))))
 ·have e:=is_nil hnil
  subst e
  refine ⟨_,_,rfl,rfl,?_⟩;simp [AE,A6,A5,A4]
 ·refine ⟨_,_,rfl,rfl,?_⟩;simp [AE,A6,A5,A4]
theorem Bv {l : List Int} {k : Nat} {x : Int} (hx : l[k]? = some x) : l.getD k 0 = x:=by rw [List.getD_eq_getElem?_getD,hx];rfl
theorem UU (l : List Int) (x : Int) (hl : l.length ≤ 100000) (hx : ∀ y ∈ l,x ≠ y) : Go.Gar.Fn Tryz.prog 176 [.is l,.i .i64 x] (.i .i64 (-1)):=by
 refine A0 AB Tryz.func176 rfl rfl (Nat.le_of_ble_eq_true rfl) ?_
 refine wk ET [] A1 A1 ?_;with_reducible repeat' first|constructor|intro hc;try simp only[A3] at hc
 refine BF (fun k => k ≤ l.length) (fun k : Nat => ⟨[(0,.d (.is l)),(1,.d (.i .i64 x)),(4,.d (.i .i64 0)),(7,.d (.i .i64 l.length)),(8,.d (.i .i64 k))],[],19⟩) (fun k => l.length - k) 0 (Nat.zero_le _) ?_ (Nat.le_refl _) ?_
 ·exact A2.ck rfl
 intro k hk
 by_cases hkl : k < l.length
 ·obtain ⟨y,hy⟩:=AR hkl
  have gy:=Bv hy
  have f1:=eq_false' (hx y (List.mem_of_getElem? hy))
  refine wk ET [] (Ao gy f1) A1 ?_;with_reducible repeat' first|constructor|intro hc;try simp only[A3] at hc
  refine ⟨k + 1,hkl,by omega,Nat.le_refl _,?_⟩
  exact A2.ck rfl
 ·have e : k = l.length:=by omega
  subst e
  refine wk ET [] A1 A1 ?_;with_reducible repeat' first|constructor|intro hc;try simp only[A3] at hc
  refine ⟨_,_,rfl,rfl,?_⟩;simp [AE,A6,A5,A4]
theorem WP (l : List Int) (x : Int) (n : Nat) (hl : l.length ≤ 100000) (hn : l[n]? = some x) (hx : ∀ j y,j < n → l[j]? = some y → x ≠ y) : Go.Gar.Fn Tryz.prog 176 [.is l,.i .i64 x] (.i .i64 n):=by
 refine A0 AB Tryz.func176 rfl rfl (Nat.le_of_ble_eq_true rfl) ?_
 have hnl:=(List.getElem?_eq_some_iff.1 hn).1
 refine wk ET [] A1 A1 ?_;with_reducible repeat' first|constructor|intro hc;try simp only[A3] at hc
 refine BF (fun k => k ≤ n) (fun k : Nat => ⟨[(0,.d (.is l)),(1,.d (.i .i64 x)),(4,.d (.i .i64 0)),(7,.d (.i .i64 l.length)),(8,.d (.i .i64 k))],[],19⟩) (fun k => n - k) 0 (Nat.zero_le _) ?_ (Nat.le_refl _) ?_
 ·exact A2.ck rfl
 intro k hk
 by_cases hkl : k < n
 ·obtain ⟨y,hy⟩:=AR (xs:=l) (k:=k) (by omega)
  have gy:=Bv hy
  have f1:=eq_false' (hx k y hkl hy)
  refine wk ET [] (Ao gy f1) A1 ?_;with_reducible repeat' first|constructor|intro hc;try simp only[A3] at hc
  refine ⟨k + 1,hkl,by omega,Nat.le_refl _,?_⟩
  exact A2.ck rfl
 ·have e : k = n:=by omega
  subst e
  have gy:=Bv hn
  refine wk ET [] (AD gy) A1 ?_;with_reducible repeat' first|constructor|intro hc;try simp only[A3] at hc
  refine ⟨_,_,rfl,rfl,?_⟩;simp [AE,A6,A5,A4]
theorem Ey (l : List Int) (x : Int) (hl : l.length ≤ 100000) : Go.Gar.Fn Tryz.prog 110 [.is l,.i .i64 x] (.b (decide (x ∈ l))):=by
 refine A0 AB Tryz.func110 rfl rfl (Nat.le_of_ble_eq_true rfl) ?_
 by_cases hm : x ∈ l
 ·obtain ⟨n,hn⟩ : ∃ n,l.findIdx? (fun y => y == x) = some n:=by
   cases h : l.findIdx? (fun y => y == x) with
   | some n => exact ⟨n,rfl⟩
   | none => rw [List.findIdx?_eq_none_iff] at h;have:=h x hm;simp at this
  obtain ⟨h1,h2,h3⟩:=List.findIdx?_eq_some_iff_getElem.1 hn
  have c:=WP l x n hl (by rw [List.getElem?_eq_getElem h1];simpa using h2) (fun j y hj hy e => by
   have:=h3 j hj
   rw [(List.getElem?_eq_some_iff.1 hy).2,e] at this
   simp at this)
  rw [decide_eq_true hm]
  have f1 : decide ((n : Int) ≥ 0) = true:=decide_eq_true (by omega)
  refine wk [0,1,4] [] (AD f1) (AD @c) ?_;with_reducible repeat' first|constructor|intro hc;try simp only[A3] at hc
  refine ⟨_,_,rfl,rfl,?_⟩;simp [AE,A6,A5,A4]
 ·have c:=UU l x hl (fun y hy e => hm (e ▸ hy))
  rw [decide_eq_false hm]
  refine wk [0,1,4] [] A1 (AD @c) ?_;with_reducible repeat' first|constructor|intro hc;try simp only[A3] at hc
  refine ⟨_,_,rfl,rfl,?_⟩;simp [AE,A6,A5,A4]
theorem Rf (a b : List Int) (hl : a.length ≤ 100000) : Go.Gar.Fn Tryz.prog 113 [.is a,.is b] (.b (decide (a = b))):=by
 refine A0 AB Tryz.func113 rfl rfl (Nat.le_of_ble_eq_true rfl) ?_
 by_cases heq : a.length = b.length
 ·have e1 : ((a.length : Int) != (b.length : Int)) = false:=AO (by omega)
  refine wd Fa [] [] (AD e1) A1 ?_;with_reducible repeat' first|constructor|intro hc;try simp only[A3] at hc
  refine BF (fun k => k ≤ a.length ∧ a.take k = b.take k) (fun k : Nat => ⟨[(0,.d (.is a)),(1,.d (.is b)),(4,.d (.b false)),(5,.d (.i .i64 k))],[],26⟩) (fun k => a.length - k) 0 ⟨Nat.zero_le _,by simp⟩ ?_ (Nat.le_refl _) ?_
  ·exact A2.ck rfl
  rintro k ⟨hk,hpre⟩
  by_cases hkl : k < a.length
  ·obtain ⟨x,hx⟩:=AR hkl
   obtain ⟨y,hy⟩:=AR (xs:=b) (k:=k) (by omega)
   have gx : a.getD k 0 = x:=by rw [List.getD_eq_getElem?_getD,hx];rfl
   have gy : b.getD k 0 = y:=by rw [List.getD_eq_getElem?_getD,hy];rfl
   by_cases hxy : x = y
   ·have f1:=AO hxy
    refine wd Fa [] [] (Bo gx gy f1) A1 ?_;with_reducible repeat' first|constructor|intro hc;try simp only[A3] at hc
    refine ⟨k + 1,⟨hkl,by rw [List.take_add_one,List.take_add_one,hpre,hx,hy,hxy]⟩,by omega,Nat.le_refl _,?_⟩
    exact A2.ck rfl
   ·have hne : ¬ a = b:=fun e => by subst e;rw [hx] at hy;cases hy;exact hxy rfl
    have f1:=BJ hxy
    refine wd Fa [] [] (Bo gx gy f1) A1 ?_;with_reducible repeat' first|constructor|intro hc;try simp only[A3] at hc
    refine ⟨_,_,rfl,rfl,?_⟩;simp [AE,A6,A5,A4,hne]
  ·have e : k = a.length:=by omega
   subst e
   have hE : a = b:=by rw [List.take_length,heq,List.take_length] at hpre;exact hpre
   refine wd Fa [] [] A1 A1 ?_;with_reducible repeat' first|constructor|intro hc;try simp only[A3] at hc
   refine ⟨_,_,rfl,rfl,?_⟩;simp [AE,A6,A5,A4,hE]
 ·have e1 : ((a.length : Int) != (b.length : Int)) = true:=BJ (by omega)
  have hne : ¬ a = b:=fun e => heq (by rw [e])
  refine wd Fa [] [] (AD e1) A1 ?_;with_reducible repeat' first|constructor|intro hc;try simp only[A3] at hc
  refine ⟨_,_,rfl,rfl,?_⟩;simp [AE,A6,A5,A4,hne]
end Go.Proofs.YtnahkfkljohjaaaGreatDoor
