/- Part 14 of a proof, put together by a program. Conditions: none beyond those that a theorem states. -/
import Derived.Test.YtkljbfejbakooaaGreatDoorN08
import Derived.Test.YtkljbfejbakooaaGreatDoorN10
import Derived.Test.YtkljbfejbakooaaGreatDoorN13
set_option linter.unusedSimpArgs false
set_option linter.unusedVariables false
set_option linter.unnecessarySimpa false
set_option maxHeartbeats 40000000
namespace Go.Proofs.YtkljbfejbakooaaGreatDoor
namespace Wi
open Go.Gar
set_option maxRecDepth 4000
abbrev JV : List Nat:=[0,1,4,5,13,17]
def Cs (d : UInt8) : List Bool:=(List.range 8).map fun k => d.toNat.testBit (7 - k)
def D1 (l : List UInt8) : List Bool:=l.flatMap Cs
theorem cq : ∀ (d : Fin 256) (i : Fin 8),(C2 .and .u8 ((d.1 : Int).fdiv (2 ^ min ((i.1 : Nat) : Int).toNat IntKind.u8.bits)) 1 == 1) = d.1.testBit i.1:=by decide +kernel
theorem Yv (d : UInt8) (i : Int) (h : 0 ≤ i) (h' : i ≤ 7) : (C2 .and .u8 ((d.toNat : Int).fdiv (2 ^ min i.toNat IntKind.u8.bits)) 1 == 1) = d.toNat.testBit i.toNat:=by
 obtain ⟨n,rfl⟩ : ∃ n : Nat,i = n:=⟨i.toNat,by omega⟩;exact cq ⟨d.toNat,d.toNat_lt⟩ ⟨n,by omega⟩
theorem N5 (d : UInt8) (k : Nat) (h : k < 8) : (Cs d).take (k + 1) = (Cs d).take k ++ [d.toNat.testBit (7 - k)]:=by
 rw [List.take_succ_eq_append_getElem (by simp [Cs];exact h)];simp [Cs]
def Ig (l : List UInt8) (r : Lp) (s : BitVec 32) : List A5:=[.c [.d (u32 s)],.c [.d (.by l)],.lp r]
theorem Kz (d : UInt8) (l : List UInt8) (r : Lp) (s : BitVec 32) (hk : Dg 3 r.env = true) (hY : ∀ s b,YT Tryz.prog 2 [.d (.b b)] (Ig l r s) fun x K => x = .d (.b true) ∧ K = Ig l r (Eo s b)) :
  Ja Tryz.prog 308 [.d (.i .u8 d.toNat),.yl 2] (Ig l r s) fun x K => x = .d (.b true) ∧ K = Ig l r (D4 s (Cs d)):=by
 refine zT A6 Tryz.func308 ?_;unfold Ig at hY ⊢
 have hb : ∀ k : Nat,k < 8 → Eo (D4 s ((Cs d).take k)) (C2 .and .u8 ((d.toNat : Int).fdiv (2 ^ min (7 - (k : Int)).toNat IntKind.u8.bits)) 1 == 1) = D4 s ((Cs d).take (k + 1)):=by
  intro k hk;rw [Yv d (7 - k) (by omega) (by omega),N5 d k hk,Gq,show (7 - (k : Int)).toNat = 7 - k by omega];rfl
 refine wk JV [] A0 A0 ?_;refine RF 0 _ (fun k : Nat => 1 ≤ k ∧ k < 8) (fun k : Nat => ⟨[(0,.d (.i .u8 d.toNat)),(1,.yl 2),(4,.d (.b false)),(5,.d (.i .i64 (7 - k)))],[.c [.d (u32 (D4 s ((Cs d).take k)))],.c [.d (.by l)],.lp r],18⟩) (fun k => 8 - k) 8 2 2 rfl ?_ ?_
 ·have h0 : Eo s (C2 .and .u8 ((d.toNat : Int).fdiv (2 ^ min 7 8)) 1 == 1) = D4 s ((Cs d).take 1):=hb 0 (by omega);have q1:=@hY;refine wk JV [] A0 A0 ?_;clear q1;refine ⟨1,⟨by omega,by omega⟩,(show 8 - 1 < 8 by omega),Nat.le_of_ble_eq_true rfl,?_⟩;exact (have nC:=h0;A3.cn rfl)
 ·rintro k ⟨k1,k8⟩;have h0:=hb k k8;have e7 : (7 - (k : Int)).toNat = 7 - k:=by omega
  have h1:=h0;rw [e7,show IntKind.u8.bits = 8 from rfl] at h1
  by_cases h : k + 1 < 8
  ·have q1:=@hY;refine wk JV [] A0 A0 ?_;clear q1;with_reducible repeat' first|constructor|intro hc;try simp only[AD] at hc
   refine ⟨k + 1,⟨by omega,h⟩,(show 8 - (k + 1) < 8 - k by omega),Nat.le_of_ble_eq_true rfl,?_⟩;exact (have nC:=And.intro h0 h1;A3.cn rfl)
  ·have hf : (Cs d).take (k + 1) = Cs d:=List.take_of_length_le (by simp [Cs];omega);rw [hf] at h0 h1;have q1:=@hY;refine wk JV [] A0 A0 ?_;clear q1;with_reducible repeat' first|constructor|intro hc;try simp only[AD] at hc
   refine ⟨_,A3.refl _,Nat.le_refl _,_,_,rfl,rfl,rfl,?_⟩;simp only [e7,h1]
end Wi
end Go.Proofs.YtkljbfejbakooaaGreatDoor
