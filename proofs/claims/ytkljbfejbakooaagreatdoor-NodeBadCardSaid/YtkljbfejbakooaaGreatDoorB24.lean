/- Part 24 of a proof, put together by a program. Conditions: none beyond those that a theorem states. -/
import Derived.Test.YtkljbfejbakooaaGreatDoorB11
import Derived.Test.YtkljbfejbakooaaGreatDoorB19
set_option linter.unusedSimpArgs false
set_option linter.unusedVariables false
set_option linter.unnecessarySimpa false
set_option maxHeartbeats 40000000
namespace Go.Proofs.YtkljbfejbakooaaGreatDoor
namespace Wi
open Go.Gar
set_option maxRecDepth 4000
abbrev Dy : List Nat:=[0,2,3,4,5,6,9,24,39,45,46,61]
def Gg (b : List UInt8) : Nat:=(b.getD 2 0).toNat * 256 + (b.getD 3 0).toNat
def Bd (b : List UInt8) : List UInt8 × Int :=
 if b.length < 8 then ([],11) else
 if 120 < b.length ∨ ¬ ((b.getD 0 0).toNat : Int) = 71 ∨ ¬ ((b.getD 1 0).toNat : Int) = 1 ∨ ¬ b.length = Gg b + 8 then ([],12) else
 if (List.range 4).all (fun i => b.getD (4 + Gg b + i) 0 == (be4 (Gq (b.take (4 + Gg b)))).getD i 0) then ((b.drop 4).take (Gg b),0) else ([],12)
theorem bj : ∀ (d e : Fin 256),BY .or .i64 (IntKind.wrap .i64 ((d.1 : Int) * 2 ^ min 8 64)) e.1 = (d.1 * 256 + e.1 : Nat):=by decide +kernel
theorem bC (s : BitVec 32) (k : Nat) (hk : k < 4) : (s.toNat : Int).fdiv (2 ^ min (24 - 8 * (k : Int)).toNat IntKind.u32.bits) % 256 = (((be4 s).getD k 0).toNat : Int):=by
 have hs:=s.isLt
 have key : ∀ n : Nat,((UInt8.ofNat ((n : Int) % 256).toNat).toNat : Int) = n % 256:=fun n => by
  simp [UInt8.toNat_ofNat'];omega
 have e : k = 0 ∨ k = 1 ∨ k = 2 ∨ k = 3:=by omega
 rw [Int.fdiv_eq_ediv_of_nonneg _ (by exact Int.le_of_lt (Int.pow_pos (by decide)))];rcases e with rfl | rfl | rfl | rfl
 ·have:=key (s.toNat / 16777216);simp [be4,IntKind.bits] at this ⊢;omega
 ·have:=key (s.toNat / 65536);simp [be4,IntKind.bits] at this ⊢;omega
 ·have:=key (s.toNat / 256);simp [be4,IntKind.bits] at this ⊢;omega
 ·have:=key (s.toNat);simp [be4,IntKind.bits] at this ⊢;omega
theorem YI (b : List UInt8) (hb : b.length < 70368744177664) : Go.Gar.Fn Tryz.prog 116 [.by b] (.tup [.by (Bd b).1,.i .i64 (Bd b).2]):=by
 refine zF A6 Tryz.func116 ?_;have hor : BY .or .i64 (IntKind.wrap .i64 (((b.getD 2 0).toNat : Int) * 2 ^ min 8 64)) ((b.getD 3 0).toNat : Int) = (Gg b : Nat):=bj ⟨(b.getD 2 0).toNat,(b.getD 2 0).toNat_lt⟩ ⟨(b.getD 3 0).toNat,(b.getD 3 0).toNat_lt⟩;have hz:=SP (Gg b : Int)
 by_cases h8 : b.length < 8
 ·have e : Bd b = ([],11):=if_pos h8;have sc : No 3:=trivial;refine wd Dy [] [] A0 A0 ?_;clear sc;with_reducible repeat' first|constructor|intro hc;try simp only[AB] at hc
  refine ⟨_,_,rfl,rfl,?_⟩;simp [Ab,A9,A4,A3,e]
 by_cases h : 120 < b.length ∨ ¬ ((b.getD 0 0).toNat : Int) = 71 ∨ ¬ ((b.getD 1 0).toNat : Int) = 1 ∨ ¬ b.length = Gg b + 8
 ·have e : Bd b = ([],12):=by
   unfold Bd;rw [if_neg h8,if_pos h]
  by_cases hq : Gg b ≤ 112
  ·rw [if_neg (by omega)] at hz;have sc : No 3:=trivial;refine wd Dy [] [] (AG hor) (AG @hz) ?_;clear sc;with_reducible repeat' first|constructor|intro hc;try simp only[AB] at hc
   all_goals try (exfalso;omega)
   all_goals (refine ⟨_,_,rfl,rfl,?_⟩;simp [Ab,A9,A4,A3,e])
  ·rw [if_pos (by omega)] at hz;have sc : No 3:=trivial;refine wd Dy [] [] (AG hor) (AG @hz) ?_;clear sc;with_reducible repeat' first|constructor|intro hc;try simp only[AB] at hc
   all_goals try (exfalso;omega)
   all_goals (refine ⟨_,_,rfl,rfl,?_⟩;simp [Ab,A9,A4,A3,e])
 have hn : b.length = Gg b + 8:=by omega
 have h0 : ((b.getD 0 0).toNat : Int) = 71:=by omega
 have h1 : ((b.getD 1 0).toNat : Int) = 1:=by omega
 have hl : b.length ≤ 120:=by omega
 rw [if_neg (by omega)] at hz;have htk : (b.take (4 + Gg b)).length = 4 + Gg b:=by rw [List.length_take];omega
 have hs:=VR (b.take (4 + Gg b)) (by omega);have e1 : ((4 : Int) + (Gg b : Int)).toNat = 4 + Gg b:=by omega
 have sc : No 3:=trivial;refine wd Dy [] [] (BM hor e1) (BM @hz @hs) ?_;clear sc;with_reducible repeat' first|constructor|intro hc;try simp only[AB] at hc
 unfold u32;refine Ae (fun k => k ≤ 4 ∧ ∀ i,i < k → b.getD (4 + Gg b + i) 0 = (be4 (Gq (b.take (4 + Gg b)))).getD i 0) (fun k : Nat => ⟨[(0,.d (.by b)),(4,.d (.i .i64 (Gg b))),(5,.d (u32 (Gq (b.take (4 + Gg b))))),(45,.d (.i .i64 k))],[],68⟩) (fun k => 4 - k) 0 ⟨Nat.zero_le _,fun i hi => by omega⟩ ?_ (Nat.le_refl _) ?_
 ·unfold u32;exact A1.ck rfl
 rintro k ⟨hk,hall⟩;unfold u32
 by_cases hk4 : k < 4
 ·have e2 : ((4 : Int) + (Gg b : Int) + (k : Int)).toNat = 4 + Gg b + k:=by omega
  have e3:=bC (Gq (b.take (4 + Gg b))) k hk4
  by_cases hm : b.getD (4 + Gg b + k) 0 = (be4 (Gq (b.take (4 + Gg b)))).getD k 0
  ·have e4 : (((b.getD (4 + Gg b + k) 0).toNat : Int) != (((be4 (Gq (b.take (4 + Gg b)))).getD k 0).toNat : Int)) = false:=by rw [hm];simp
   have sc : No 3:=trivial;refine wd Dy [] [] (EP e2 e3 e4) A0 ?_;clear sc;with_reducible repeat' first|constructor|intro hc;try simp only[AB] at hc
   refine ⟨k + 1,⟨hk4,fun i hi => ?_⟩,by omega,Nat.le_refl _,?_⟩
   ·rcases Nat.lt_or_eq_of_le (Nat.le_of_lt_succ hi) with h | h
    ·exact hall i h
    ·rw [h];exact hm
   exact A1.ck rfl
  ·have e4 : (((b.getD (4 + Gg b + k) 0).toNat : Int) != (((be4 (Gq (b.take (4 + Gg b)))).getD k 0).toNat : Int)) = true:=by
    rw [bne_iff_ne];intro h;exact hm (UInt8.toNat_inj.1 (by omega))
   have e : Bd b = ([],12):=by
    unfold Bd;rw [if_neg h8,if_neg h,if_neg];intro ha;rw [List.all_eq_true] at ha;exact hm (by simpa using ha k (List.mem_range.2 hk4))
   have sc : No 3:=trivial;refine wd Dy [] [] (EP e2 e3 e4) A0 ?_;clear sc;with_reducible repeat' first|constructor|intro hc;try simp only[AB] at hc
   refine ⟨_,_,rfl,rfl,?_⟩;simp [Ab,A9,A4,A3,e]
 ·have e : Bd b = ((b.drop 4).take (Gg b),0):=by
   unfold Bd;rw [if_neg h8,if_neg h,if_pos];rw [List.all_eq_true];intro i hi;simpa using hall i (by have:=List.mem_range.1 hi;omega)
  have e5 : (b.take (4 + Gg b)).drop 4 = (b.drop 4).take (Gg b):=by rw [List.drop_take];congr 1;omega
  have sc : No 3:=trivial;refine wd Dy [] [] (AG e1) A0 ?_;clear sc;with_reducible repeat' first|constructor|intro hc;try simp only[AB] at hc
  refine ⟨_,_,rfl,rfl,?_⟩;simp [Ab,A9,A4,A3,e,e5]
theorem FP (n : Int) : (hdr n).length = 4:=rfl
theorem Nm (s : BitVec 32) : (be4 s).length = 4:=rfl
theorem aS (n : Nat) (h : n < 256) : (UInt8.ofNat n).toNat = n:=by simp [UInt8.toNat_ofNat'];omega
variable {p : List UInt8}
theorem Eo (h : p.length ≤ 112) : BH p = (hdr p.length ++ p ++ be4 (Gq (hdr p.length ++ p)),0):=if_neg (by omega)
theorem Wc (n : Nat) (h : n < 65536) : hdr n = [71,1,UInt8.ofNat (n / 256),UInt8.ofNat (n % 256)]:=by
 have e1 : ((n : Int) / 256 % 256).toNat = n / 256:=by omega
 have e2 : ((n : Int) % 256).toNat = n % 256:=by omega
 unfold hdr;rw [e1,e2];rfl
theorem M2 (h : p.length ≤ 112) : Bd (BH p).1 = (p,0):=by
 rw [Eo h];generalize hs : be4 (Gq (hdr p.length ++ p)) = S;have hS : S.length = 4:=by rw [← hs];rfl
 have hb : hdr p.length ++ p ++ S = 71 :: 1 :: UInt8.ofNat (p.length / 256) :: UInt8.ofNat (p.length % 256) :: (p ++ S):=by
  rw [Wc p.length (by omega)];rfl
 have hfr : Gg (hdr p.length ++ p ++ S) = p.length:=by
  rw [hb];unfold Gg;simp only [List.getD_cons_succ,List.getD_cons_zero];rw [aS _ (by omega),aS _ (by omega)];omega
 have htk : (hdr p.length ++ p ++ S).take (4 + p.length) = hdr p.length ++ p:=by
  rw [List.take_append_of_le_length (by simp [FP]),List.take_of_length_le (by simp [FP])]
 unfold Bd;rw [hfr,htk,hs];rw [if_neg (by simp [FP];omega),if_neg]
 ·rw [if_pos]
  ·rw [hb];simp
  ·rw [List.all_eq_true];intro i hi;have hi:=List.mem_range.1 hi;rw [beq_iff_eq,List.getD_eq_getElem?_getD,List.getD_eq_getElem?_getD,List.getElem?_append_right (by simp [FP])]
   congr 2
   simp [FP]
 ·rw [hb];simp [hS];omega
theorem Q6 {b : List UInt8} {e : Int} (h : Bd b = (p,e)) : (e = 0 ∧ p.length ≤ 112 ∧ (BH p).1 = b) ∨ (e = 11 ∧ b.length < 8 ∧ p = []) ∨ (e = 12 ∧ 8 ≤ b.length ∧ p = []):=by
 unfold Bd at h;split at h
 ·cases h;exact .inr (.inl ⟨rfl,by assumption,rfl⟩)
 rename_i h8;split at h
 ·cases h;exact .inr (.inr ⟨rfl,by omega,rfl⟩)
 rename_i hc;split at h
 ·rename_i hall;simp only [Prod.mk.injEq] at h;obtain ⟨rfl,rfl⟩:=h;refine .inl ⟨rfl,by simp;omega,?_⟩;have hn : b.length = Gg b + 8:=by omega
  have hpl : ((b.drop 4).take (Gg b)).length = Gg b:=by simp;omega
  obtain ⟨b0,b1,b2,b3,t,rfl⟩ : ∃ b0 b1 b2 b3 t,b = b0 :: b1 :: b2 :: b3 :: t:=by
   rcases b with _ | ⟨b0,_ | ⟨b1,_ | ⟨b2,_ | ⟨b3,t⟩⟩⟩⟩ <;> first | exact ⟨_,_,_,_,_,rfl⟩ | (simp at h8)
  have hfr : Gg (b0 :: b1 :: b2 :: b3 :: t) = b2.toNat * 256 + b3.toNat:=rfl;have l2:=b2.toNat_lt;have l3:=b3.toNat_lt
  have e0 : b0 = 71:=UInt8.toNat_inj.1 (by have : ((b0.toNat : Nat) : Int) = 71:=by simpa using Classical.not_not.1 (fun h => hc (.inr (.inl h)))
                                           have : (71 : UInt8).toNat = 71:=rfl
                                           omega)
  have e1 : b1 = 1:=UInt8.toNat_inj.1 (by have : ((b1.toNat : Nat) : Int) = 1:=by simpa using Classical.not_not.1 (fun h => hc (.inr (.inr (.inl h))))
                                          have : (1 : UInt8).toNat = 1:=rfl
                                          omega)
  rw [Eo (by rw [hpl];omega),hpl]
  have hh : hdr (Gg (b0 :: b1 :: b2 :: b3 :: t)) = [b0,b1,b2,b3]:=by
   rw [Wc _ (by omega),hfr,e0,e1,show (b2.toNat * 256 + b3.toNat) / 256 = b2.toNat by omega,show (b2.toNat * 256 + b3.toNat) % 256 = b3.toNat by omega];simp
  generalize hN : Gg (b0 :: b1 :: b2 :: b3 :: t) = N at *
  have htk : (b0 :: b1 :: b2 :: b3 :: t).take (4 + N) = hdr N ++ List.take N (List.drop 4 (b0 :: b1 :: b2 :: b3 :: t)):=by
   rw [hh,show 4 + N = N + 4 by omega];rfl
  have htl : (b0 :: b1 :: b2 :: b3 :: t).drop (4 + N) = be4 (Gq ((b0 :: b1 :: b2 :: b3 :: t).take (4 + N))):=by
   apply List.ext_getElem?;intro i;rw [List.getElem?_drop];rcases Nat.lt_or_ge i 4 with hi | hi
   ·have:=List.all_eq_true.1 hall i (List.mem_range.2 hi);rw [beq_iff_eq,List.getD_eq_getElem?_getD,List.getD_eq_getElem?_getD] at this;rw [List.getElem?_eq_getElem (by omega)] at this ⊢;rw [List.getElem?_eq_getElem (by rw [Nm];exact hi)] at this ⊢;simpa using this
   ·rw [List.getElem?_eq_none (by omega),List.getElem?_eq_none (by rw [Nm];exact hi)]
  rw [← htk,← htl];exact List.take_append_drop _ _
 ·cases h;exact .inr (.inr ⟨rfl,by omega,rfl⟩)
end Wi
end Go.Proofs.YtkljbfejbakooaaGreatDoor
