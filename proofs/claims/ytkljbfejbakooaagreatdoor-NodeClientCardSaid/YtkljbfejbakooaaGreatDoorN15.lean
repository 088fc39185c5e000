/- Part 15 of a proof, put together by a program. Conditions: none beyond those that a theorem states. -/
import Derived.Test.YtkljbfejbakooaaGreatDoorN08
import Derived.Test.YtkljbfejbakooaaGreatDoorN10
set_option linter.unusedSimpArgs false
set_option linter.unusedVariables false
set_option linter.unnecessarySimpa false
set_option maxHeartbeats 40000000
namespace Go.Proofs.YtkljbfejbakooaaGreatDoor
open Go.Gar
set_option maxRecDepth 4000
abbrev Fa : List Nat:=[0,1,4,5,7,8,9,16]
def Bj (n : Int) : Int:=n % 65536
def Af (a b : Int) : Int:=(b - a) % 65536
theorem IX (n : Int) : 0 ≤ Bj n ∧ Bj n < 65536:=by unfold Bj;omega
theorem VL (a b : Int) : 0 ≤ Af a b ∧ Af a b < 65536:=by unfold Af;omega
theorem ZO (a b : Int) : Bj (Bj b - Bj a) = Af a b:=by unfold Bj Af;omega
theorem Yh (n : Int) : C2 .and .i64 n 65535 = Bj n:=by
 have h1 : ((BitVec.ofInt 64 n) &&& (BitVec.ofInt 64 65535)).toNat = (n % 65536).toNat:=by
  rw [BitVec.toNat_and];have e1 : (BitVec.ofInt 64 65535).toNat = 2 ^ 16 - 1:=by decide
  rw [e1,Nat.and_two_pow_sub_one_eq_mod,BitVec.toNat_ofInt];omega
 have e : C2 .and .i64 n 65535 = IntKind.wrap .i64 (((BitVec.ofInt 64 n) &&& (BitVec.ofInt 64 65535)).toNat : Int):=rfl;rw [e,h1,IntKind.wrap_i64];unfold Bj;omega
theorem eY (n : Int) : (n.tmod 65536 + 65536).tmod 65536 = Bj n:=by
 have h1:=Int.tmod_lt_of_pos n (show (0 : Int) < 65536 by decide);have h2:=Int.lt_tmod_of_pos n (show (0 : Int) < 65536 by decide);rw [Int.tmod_eq_emod_of_nonneg (by omega)];unfold Bj;have h3:=Int.tmod_add_mul_tdiv n 65536;omega
theorem E4 (n : Int) : Go.Gar.Fn Tryz.prog 237 [.i .i64 n] (.i .i64 (Bj n)):=by
 have e:=Yh n;refine zF A6 Tryz.func237 ?_;refine wk [0,2] [] (AF e) A0 ?_;exact zE
theorem I4 (a b : Int) : Go.Gar.Fn Tryz.prog 217 [.i .i64 a,.i .i64 b] (.i .i64 (Af a b)):=by
 have c1:=E4 a;have c2:=E4 b;have c3:=E4 (Bj b - Bj a);rw [ZO] at c3;have h1:=IX a;have h2:=IX b;refine zF A6 Tryz.func217 ?_;refine wk [0,1,4] [] A0 (Dl @c1 @c2 @c3) ?_;exact zE
theorem Cb (n : Int) (hn : -9223372036854775808 ≤ n ∧ n ≤ 9223372036854775807) : Go.Gar.Fn Tryz.prog 71 [.i .i64 n] (.i .i64 (Bj n)):=by
 have e:=eY n;have h1:=Int.tmod_lt_of_pos n (show (0 : Int) < 65536 by decide);have h2:=Int.lt_tmod_of_pos n (show (0 : Int) < 65536 by decide);refine zF A6 Tryz.func71 ?_;refine wk [0,2] [] (AF e) A0 ?_;exact zE
def i64 (n : Int) : Prop:=-9223372036854775808 ≤ n ∧ n ≤ 9223372036854775807
theorem Mh (a b : Int) (ha : i64 a) (hb : i64 b) : Go.Gar.Fn Tryz.prog 148 [.i .i64 a,.i .i64 b] (.i .i64 (Af a b)):=by
 have h1:=IX a;have h2:=IX b;have c1:=Cb a ha;have c2:=Cb b hb;have c3:=Cb (Bj b - Bj a) (by omega);rw [ZO] at c3;refine zF A6 Tryz.func148 ?_;refine wk [0,1,4] [] A0 (Dl @c1 @c2 @c3) ?_;exact zE
def Am (n : Int) : Bool:=decide (0 ≤ n ∧ n < 65536)
theorem F3 {n : Int} (h : Am n = true) : 0 ≤ n ∧ n < 65536:=by simpa [Am] using h
theorem Fv (n : Int) : Go.Gar.Fn Tryz.prog 159 [.i .i64 n] (.b (Am n)):=by
 refine zF A6 Tryz.func159 ?_
 by_cases h1 : 0 ≤ n
 ·have f1 : decide (n ≥ 0) = true:=decide_eq_true h1
  by_cases h2 : n < 65536
  ·have f2 : decide (n < 65536) = true:=decide_eq_true h2;have e : Am n = true:=decide_eq_true ⟨h1,h2⟩;rw [e];refine wk [0,2] [] (Aj f1 f2) A0 ?_;exact zE
  ·have f2 : decide (n < 65536) = false:=decide_eq_false h2;have e : Am n = false:=decide_eq_false fun h => h2 h.2
   rw [e];refine wk [0,2] [] (Aj f1 f2) A0 ?_;exact zE
 ·have f1 : decide (n ≥ 0) = false:=decide_eq_false h1;have e : Am n = false:=decide_eq_false fun h => h1 h.1
  rw [e];refine wk [0,2] [] (AF f1) A0 ?_;exact zE
theorem Wu (n : Int) : Go.Gar.Fn Tryz.prog 239 [.i .i64 n] (.b (Am n)):=by
 refine zF A6 Tryz.func239 ?_
 by_cases h1 : 0 ≤ n
 ·have f1 : decide (n ≥ 0) = true:=decide_eq_true h1
  by_cases h2 : n < 65536
  ·have f2 : decide (n < 65536) = true:=decide_eq_true h2;have e : Am n = true:=decide_eq_true ⟨h1,h2⟩;rw [e];refine wk [0,2] [] (Aj f1 f2) A0 ?_;exact zE
  ·have f2 : decide (n < 65536) = false:=decide_eq_false h2;have e : Am n = false:=decide_eq_false fun h => h2 h.2
   rw [e];refine wk [0,2] [] (Aj f1 f2) A0 ?_;exact zE
 ·have f1 : decide (n ≥ 0) = false:=decide_eq_false h1;have e : Am n = false:=decide_eq_false fun h => h1 h.1
  rw [e];refine wk [0,2] [] (AF f1) A0 ?_;exact zE
theorem K0 (n : Int) : Go.Gar.Fn Tryz.prog 75 [.i .i64 n] (.b (Am n)):=by
 refine zF A6 Tryz.func75 ?_
 by_cases h1 : 0 ≤ n
 ·have f1 : decide (n ≥ 0) = true:=decide_eq_true h1
  by_cases h2 : n < 65536
  ·have f2 : decide (n < 65536) = true:=decide_eq_true h2;have e : Am n = true:=decide_eq_true ⟨h1,h2⟩;rw [e];refine wk [0,2] [] (Aj f1 f2) A0 ?_;exact zE
  ·have f2 : decide (n < 65536) = false:=decide_eq_false h2;have e : Am n = false:=decide_eq_false fun h => h2 h.2
   rw [e];refine wk [0,2] [] (Aj f1 f2) A0 ?_;exact zE
 ·have f1 : decide (n ≥ 0) = false:=decide_eq_false h1;have e : Am n = false:=decide_eq_false fun h => h1 h.1
  rw [e];refine wk [0,2] [] (AF f1) A0 ?_;exact zE
theorem UL (n : Int) : Go.Gar.Fn Tryz.prog 70 [.i .i64 n] (.b (Am n)):=by
 refine zF A6 Tryz.func70 ?_
 by_cases h1 : 0 ≤ n
 ·have f1 : decide (n ≥ 0) = true:=decide_eq_true h1
  by_cases h2 : n < 65536
  ·have f2 : decide (n < 65536) = true:=decide_eq_true h2;have e : Am n = true:=decide_eq_true ⟨h1,h2⟩;rw [e];refine wk [0,2] [] (Aj f1 f2) A0 ?_;exact zE
  ·have f2 : decide (n < 65536) = false:=decide_eq_false h2;have e : Am n = false:=decide_eq_false fun h => h2 h.2
   rw [e];refine wk [0,2] [] (Aj f1 f2) A0 ?_;exact zE
 ·have f1 : decide (n ≥ 0) = false:=decide_eq_false h1;have e : Am n = false:=decide_eq_false fun h => h1 h.1
  rw [e];refine wk [0,2] [] (AF f1) A0 ?_;exact zE
theorem R3 (l : List Int) (hl : l.length ≤ 100000) : Go.Gar.Fn Tryz.prog 151 [.is l] (.is l):=by
 refine zF A6 Tryz.func151 ?_;have nS:=True.intro
 repeat' (first | ((with_reducible refine sg ?_);first | with_reducible rfl | ((with_reducible refine Db ?_);first | kernel_rfl | rfl | (simp [Bw,CV,nS];done)) | with_reducible refine Cr ?_ ?_ | with_reducible exact Nat.beq_refl _ | with_reducible exact AT _ | ((with_reducible refine decide_eq_true ?_);first | omega | (simp only [Bm,nS];omega)) | decide | (simp [Bm,slc,AX,D.one,B1,AV.one,nS];done) | (simp [Bm,nS];omega)) | ((with_reducible refine ZZ ?_);first | (refine E5 rfl ?_;refine YZ A6 rfl rfl rfl rfl ?_) | refine kF A6 rfl rfl rfl rfl rfl rfl (fun hnil => ?_) ?_ | refine kG A6 rfl rfl rfl rfl rfl rfl (fun hnil => ?_) ?_ | refine Xq A6 rfl rfl rfl rfl ?_ ?_ | refine Xn [0,2,4] rfl ?_ | refine Xw A6 rfl rfl rfl rfl ?_ ?_) | refine Fi ?_ | refine Df ?_ | refine Dr ?_ | refine Fh ?_ | refine Ci ?_ | refine Dq ?_ | refine C1 rfl ?_ | refine C0 rfl ?_ | (refine Fg rfl (fun hc => ?_) (fun hc => ?_) <;> (try simp only [AD] at hc) <;> (try (exfalso;omega))))
 ·have e:=is_nil hnil;subst e;exact zE
 ·exact zE
theorem Cm {l : List Int} {k : Nat} {x : Int} (hx : l[k]? = some x) : l.getD k 0 = x:=by rw [List.getD_eq_getElem?_getD,hx];rfl
theorem YB (l : List Int) (x : Int) (hl : l.length ≤ 100000) (hx : ∀ y ∈ l,x ≠ y) : Go.Gar.Fn Tryz.prog 346 [.is l,.i .i64 x] (.i .i64 (-1)):=by
 refine zF A6 Tryz.func346 ?_;refine wk Fa [] A0 A0 ?_;refine Ac (fun k => k ≤ l.length) (fun k : Nat => ⟨[(0,.d (.is l)),(1,.d (.i .i64 x)),(4,.d (.i .i64 0)),(7,.d (.i .i64 l.length)),(8,.d (.i .i64 k))],[],19⟩) (fun k => l.length - k) 0 (Nat.zero_le _) ?_ (Nat.le_refl _) ?_
 ·exact A3.ck rfl
 intro k hk
 by_cases hkl : k < l.length
 ·obtain ⟨y,hy⟩:=Aa hkl;have gy:=Cm hy;have f1:=eq_false' (hx y (List.mem_of_getElem? hy));refine wk Fa [] (Aj gy f1) A0 ?_;with_reducible repeat' first|constructor|intro hc;try simp only[AD] at hc
  refine ⟨k + 1,hkl,by omega,Nat.le_refl _,?_⟩;exact A3.ck rfl
 ·have e : k = l.length:=by omega
  subst e;refine wk Fa [] A0 A0 ?_;with_reducible repeat' first|constructor|intro hc;try simp only[AD] at hc
  exact zE
theorem YA (l : List Int) (x : Int) (n : Nat) (hl : l.length ≤ 100000) (hn : l[n]? = some x) (hx : ∀ j y,j < n → l[j]? = some y → x ≠ y) : Go.Gar.Fn Tryz.prog 346 [.is l,.i .i64 x] (.i .i64 n):=by
 refine zF A6 Tryz.func346 ?_;have hnl:=(List.getElem?_eq_some_iff.1 hn).1;refine wk Fa [] A0 A0 ?_;refine Ac (fun k => k ≤ n) (fun k : Nat => ⟨[(0,.d (.is l)),(1,.d (.i .i64 x)),(4,.d (.i .i64 0)),(7,.d (.i .i64 l.length)),(8,.d (.i .i64 k))],[],19⟩) (fun k => n - k) 0 (Nat.zero_le _) ?_ (Nat.le_refl _) ?_
 ·exact A3.ck rfl
 intro k hk
 by_cases hkl : k < n
 ·obtain ⟨y,hy⟩:=Aa (xs:=l) (k:=k) (by omega);have gy:=Cm hy;have f1:=eq_false' (hx k y hkl hy);refine wk Fa [] (Aj gy f1) A0 ?_;with_reducible repeat' first|constructor|intro hc;try simp only[AD] at hc
  refine ⟨k + 1,hkl,by omega,Nat.le_refl _,?_⟩;exact A3.ck rfl
 ·have e : k = n:=by omega
  subst e;have gy:=Cm hn;refine wk Fa [] (AF gy) A0 ?_;with_reducible repeat' first|constructor|intro hc;try simp only[AD] at hc
  exact zE
theorem R5 (l : List Int) (x : Int) (hl : l.length ≤ 100000) : Go.Gar.Fn Tryz.prog 303 [.is l,.i .i64 x] (.b (decide (x ∈ l))):=by
 refine zF A6 Tryz.func303 ?_
 by_cases hm : x ∈ l
 ·obtain ⟨n,hn⟩ : ∃ n,l.findIdx? (fun y => y == x) = some n:=by
   cases h : l.findIdx? (fun y => y == x) with
   | some n => exact ⟨n,rfl⟩
   | none => rw [List.findIdx?_eq_none_iff] at h;have:=h x hm;simp at this
  obtain ⟨h1,h2,h3⟩:=List.findIdx?_eq_some_iff_getElem.1 hn
  have c:=YA l x n hl (by rw [List.getElem?_eq_getElem h1];simpa using h2) (fun j y hj hy e => by
   have:=h3 j hj;rw [(List.getElem?_eq_some_iff.1 hy).2,e] at this
   simp at this)
  rw [decide_eq_true hm];have f1 : decide ((n : Int) ≥ 0) = true:=decide_eq_true (by omega);refine wk [0,1,4] [] (AF f1) (AF @c) ?_;exact zE
 ·have c:=YB l x hl (fun y hy e => hm (e ▸ hy));rw [decide_eq_false hm];refine wk [0,1,4] [] A0 (AF @c) ?_;exact zE
def Po (a x b : Int) : Bool:=if Bj a = Bj b then decide (Bj x ≠ Bj a) else decide (Af a x > 0 ∧ Af a x < Af a b)
end Go.Proofs.YtkljbfejbakooaaGreatDoor
