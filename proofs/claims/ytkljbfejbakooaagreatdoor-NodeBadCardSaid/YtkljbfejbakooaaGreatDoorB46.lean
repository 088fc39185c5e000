/- Part 46 of a proof, put together by a program. Conditions: none beyond those that a theorem states. -/
import Derived.Test.YtkljbfejbakooaaGreatDoorB42
set_option linter.unusedSimpArgs false
set_option linter.unusedVariables false
set_option linter.unnecessarySimpa false
set_option maxHeartbeats 40000000
namespace Go.Proofs.YtkljbfejbakooaaGreatDoor
namespace Nd
open Go.Gar
open Wi (A8 B2 Ai AA BN mC Bs Ar)
set_option maxRecDepth 4000
abbrev Gb : List Nat:=[0,1,2,3,4,5,6,7,8,23,33]
theorem Hn (c : Calls) (m : A8) (hl : ∀ x ∈ c.op,B5 x.msg) (hn : c.op.length ≤ 1048576) (hm : m.list.length < 9223372036854775807) : ∃ (c' : Calls) (y : Call),Go.Gar.Fn Tryz.prog 18 [c.d,m.d] (.tup [c'.d,y.d,.b ((BB c && m.right) && c.op.any (Fb m))]):=by
 obtain ⟨id,many,l⟩:=c;dsimp only at *;have c1:=XV ⟨id,many,l⟩ hl hn;have c2:=NK ⟨id,many,l⟩ hl (Nat.le_trans hn (by decide));have c3:=Wi.Es m hm;obtain ⟨ok,hok⟩ : ∃ ok,ok = (BB ⟨id,many,l⟩ && m.right):=⟨_,rfl⟩;rw [← hok];generalize BB ⟨id,many,l⟩ = b1 at *;generalize m.right = b2 at *
 have key : ∀ (c' : Calls) (y : Call) (b : Bool),b = (ok && l.any (Fb m)) → (b = false → c' = ⟨id,many,l⟩ ∧ y = Bf) →
   (b = true → ∃ k,l[k]? = some y ∧ (l.take k).any (Fb m) = false ∧ Fb m y = true ∧ c' = ⟨id,many,l.take k ++ l.drop (k + 1)⟩) →
   Go.Gar.Fn Tryz.prog 18 [(⟨id,many,l⟩ : Calls).d,m.d] (.tup [c'.d,y.d,.b b]):=by
  intro c' y b hb hF hT;refine zF A6 Tryz.func18 ?_;unfold Calls.d Calls.cells Wi.A8.d Wi.A8.cells at *;refine wd Gb [] [] A0 (AG @c1) ?_;refine Bg (fun k => k ≤ l.length ∧ (k = 0 ∨ ok = true) ∧ (l.take k).any (Fb m) = false) (fun k : Nat => [(7,.d (.i .i64 k))]) (fun k => l.length - k) 0 ⟨Nat.zero_le _,.inl rfl,rfl⟩ (fun _ => rfl) ?_ ?_
  ·exact A1.ck rfl
  rintro k ⟨hk,hk0,hpre⟩
  by_cases hkl : k < l.length
  ·have f1 : decide ((k : Int) < (l.length : Int)) = true:=decide_eq_true (by omega)
   cases b1 with
   | false =>
    have hb : b = false:=by rw [hb,hok];rfl
    obtain ⟨rfl,rfl⟩:=hF hb;subst hb;refine wd Gb [] [] (AG f1) (AG @c2) ?_;refine ⟨_,_,rfl,rfl,?_⟩;simp [Ab,A9,A4,A3,AA,AF,Call.d,Call.cells]
   | true =>
   cases b2 with
   | false =>
    have hb : b = false:=by rw [hb,hok];rfl
    obtain ⟨rfl,rfl⟩:=hF hb;subst hb;refine wd Gb [] [] (AG f1) (BM @c2 @c3) ?_;refine ⟨_,_,rfl,rfl,?_⟩;simp [Ab,A9,A4,A3,AA,AF,Call.d,Call.cells]
   | true =>
   obtain ⟨x,hx⟩:=Ah hkl;have c4:=ZZ x m;have hA:=EC (p:=Fb m) hx;rw [hpre,Bool.false_or] at hA;unfold Call.d Call.cells Wi.A8.d Wi.A8.cells at c4
   cases hr : Fb m x with
   | false =>
    rw [hr] at c4;have ix1:=hx;refine wd Gb [] [] (AG f1) (EP @c2 @c3 @c4) ?_;clear ix1;refine ⟨k + 1,⟨hkl,.inr (by rw [hok];rfl),by rw [hA,hr]⟩,by omega,Nat.le_refl _,?_⟩;exact A1.ck rfl
   | true =>
    rw [hr] at c4;have hany : l.any (Fb m) = true:=List.any_eq_true.2 ⟨x,List.mem_of_getElem? hx,hr⟩;have hb : b = true:=by rw [hb,hok,hany];rfl
    obtain ⟨j,hj1,hj2,hj3,rfl⟩:=hT hb
    have e : j = k:=by
     rcases Nat.lt_trichotomy j k with h | h | h
     ·exfalso
      have : Fb m y = false:=by
       have:=List.any_eq_false.1 hpre y (List.mem_of_getElem? (i:=j) (by rw [List.getElem?_take_of_lt h];exact hj1));simpa using this
      rw [hj3] at this;cases this
     ·exact h
     ·exfalso
      have : Fb m x = false:=by
       have:=List.any_eq_false.1 hj2 x (List.mem_of_getElem? (i:=k) (by rw [List.getElem?_take_of_lt h];exact hx));simpa using this
      rw [hr] at this;cases this
    subst e;rw [hx] at hj1;cases hj1;subst hb;have ix1:=hx;refine wd Gb [7] [] (AG f1) (EP @c2 @c3 @c4) ?_;clear ix1;have nS:=True.intro
    repeat' (first | ((with_reducible refine sg ?_);first | with_reducible rfl | ((with_reducible refine Cz ?_);first | kernel_rfl | rfl | (simp [Bb,CE,nS];done)) | with_reducible refine CV ?_ ?_ | with_reducible exact Nat.beq_refl _ | with_reducible exact AO _ | ((with_reducible refine decide_eq_true ?_);first | omega | (simp only [BU,nS];omega)) | decide | (simp [BU,slc,AQ,D.one,Al,AV.one,nS];done) | (simp [BU,nS];omega)) | ((with_reducible refine Y7 ?_);first | (refine E0 rfl ?_;refine Y5 A6 rfl rfl rfl rfl ?_) | refine YZ [34,39] A6 rfl rfl rfl rfl rfl rfl ?_ ?_ | refine Xq A6 rfl rfl rfl rfl ?_ ?_ | refine Xn [0,1,2,3,4,5,6,7,8,23,33] rfl ?_ | refine Xa A6 rfl rfl rfl rfl rfl ?_ ?_ | refine Xw A6 rfl rfl rfl rfl ?_ ?_ | refine Xs rfl rfl rfl ?_ | (refine Vg rfl rfl (fun hc => ?_) (fun hc => ?_) <;> (fail_if_success (with_reducible first | exact tF hc | exact fT hc)) <;> (try simp only [AB] at hc) <;> (try (exfalso;omega)))) | ((with_reducible refine gWd ?_);first | (refine Ni rfl ?_;refine Ymv A6 rfl rfl (fun _ => rfl) rfl rfl ?_) | refine dm [34,39] A6 rfl rfl rfl rfl rfl rfl rfl ?_ ?_ | refine Yp A6 rfl rfl (fun _ => rfl) rfl rfl ?_ ?_ | refine Yq rfl rfl rfl rfl rfl ?_ ?_ | refine Ys rfl rfl rfl rfl ?_ | refine Ya A6 rfl rfl rfl rfl rfl rfl ?_ ?_ | refine Yw A6 rfl rfl rfl rfl rfl ?_ ?_ | refine Yn [0,1,2,3,4,5,6,7,8,23,33] [(1,0),(2,0),(4,0),(6,0),(7,0),(10,0),(6,5),(7,5),(10,5)] mixed A6 (by kernel_rfl) (by simp only [Ba];repeat' (first | exact True.intro | refine And.intro ?_ ?_ | exact ⟨_,rfl,rfl⟩ | (refine ⟨_,rfl,?_⟩;simp [BU,A9,An];omega) | rfl)) rfl ?_ | (refine Vh rfl rfl (fun hc => ?_) (fun hc => ?_) <;> (fail_if_success (with_reducible first | exact tF hc | exact fT hc)) <;> (try simp only [AB] at hc) <;> (try (exfalso;omega)))) | refine FF ?_ | refine Mh [8] rfl ?_ | refine VT [8] T.get rfl ?_ | refine DT ?_ | refine FE ?_ | refine CW ?_ | refine DR ?_ | refine Bo rfl ?_ | refine Bn rfl ?_ | (refine FX rfl (fun hc => ?_) (fun hc => ?_) <;> (try simp only [AB] at hc) <;> (try (exfalso;omega))))
    refine wd Gb [] [(1,2)] A0 A0 ?_;refine ⟨_,_,rfl,rfl,?_⟩;simp [Ab,A9,A4,A3,Call.d,Call.cells]
  ·have f1 : decide ((k : Int) < (l.length : Int)) = false:=decide_eq_false (by omega)
   have hb : b = false:=by
    have e : k = l.length:=by omega
    subst e;rw [List.take_length] at hpre;rw [hb,hpre,Bool.and_false]
   obtain ⟨rfl,rfl⟩:=hF hb;subst hb;refine wd Gb [] [] (AG f1) A0 ?_;refine ⟨_,_,rfl,rfl,?_⟩;simp [Ab,A9,A4,A3,AA,AF,Call.d,Call.cells]
 cases hq : ok && l.any (Fb m) with
 | false => exact ⟨⟨id,many,l⟩,Bf,key _ _ false hq.symm (fun _ => ⟨rfl,rfl⟩) (fun e => by cases e)⟩
 | true =>
  rw [Bool.and_eq_true,List.any_eq_true] at hq;obtain ⟨h1,y,hy,hr⟩:=hq
  obtain ⟨k,x,hx1,hx2,hx3⟩ : ∃ k x,l[k]? = some x ∧ (l.take k).any (Fb m) = false ∧ Fb m x = true:=by
   rcases PV (Fb m) l with ⟨_,h⟩ | ⟨k,x,hk,hx,hf⟩
   ·rw [List.find?_eq_none] at h;exact absurd hr (h y hy)
   ·refine ⟨k,x,hx,?_,List.find?_some hf⟩;rw [List.any_eq_false];intro z hz hzr;obtain ⟨i,hi⟩:=List.getElem?_of_mem hz
    have hlt : i < k:=by
     have:=(List.getElem?_eq_some_iff.1 hi).1;rw [List.length_take] at this;omega
    rw [List.getElem?_take_of_lt hlt] at hi;have:=(List.findIdx?_eq_some_iff_getElem.1 hk).2.2 i hlt;rw [List.getElem?_eq_some_iff] at hi;obtain ⟨_,hi⟩:=hi;rw [hi] at this;exact this hzr
  exact ⟨⟨id,many,l.take k ++ l.drop (k + 1)⟩,x,key _ _ true (by rw [h1,List.any_eq_true.2 ⟨y,hy,hr⟩];rfl) (fun e => by cases e) (fun _ => ⟨k,hx1,hx2,hx3,rfl⟩)⟩
end Nd
end Go.Proofs.YtkljbfejbakooaaGreatDoor
