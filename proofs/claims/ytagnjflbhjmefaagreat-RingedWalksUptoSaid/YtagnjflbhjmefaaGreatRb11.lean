/- Part 11 of the texts of this proof, put together by a program and made short.
Conditions: none; what each theorem asks stands in its own hypotheses. -/
import Derived.Test.YtagnjflbhjmefaaGreatRb09
import Derived.Test.YtagnjflbhjmefaaGreatRb10
import Derived.KernelRfl
import Derived.RangeFuncIn
import Derived.Sort.Grow
import Derived.Laws.Cover3
import Derived.RecoverIn
import Derived.ProofKit
import Derived.OpenShut
import Derived.CallsIn
import Derived.RangeFuncLeaves
import Derived.OrdersIn
import Derived.TacticsIn
import Derived.ChangeKeysEq
import Derived.Laws.AppendOwn
import Derived.Laws.OwnMore
import Derived.Laws.MakeOwn
import Derived.Laws.Rows
import Derived.Laws.Cells
import Derived.Laws.Tables
import Derived.Laws.CopyRow
import Derived.Laws.Strings
import Derived.Laws.IdiomStrings
import Derived.Laws.BytesArg
import Derived.Test.YtagnjflbhjmefaaGreatProg
set_option linter.unusedSimpArgs false
set_option linter.unusedVariables false
set_option linter.unnecessarySimpa false
set_option maxHeartbeats 40000000
namespace Go.Proofs.YtagnjflbhjmefaaGreat
namespace Wi
open Go.Gar
set_option maxRecDepth 4000
def C8 (d : UInt8) : List Bool:=(List.range 8).map fun k => d.toNat.testBit (7 - k)
def CJ (l : List UInt8) : List Bool:=l.flatMap C8
theorem W9 : ∀ (d : Fin 256) (i : Fin 8),(Bc .and .u8 ((d.1 : Int).fdiv (2 ^ min ((i.1 : Nat) : Int).toNat IntKind.u8.bits)) 1 == 1) = d.1.testBit i.1:=by decide +kernel
theorem UJ (d : UInt8) (i : Int) (h : 0 ≤ i) (h' : i ≤ 7) : (Bc .and .u8 ((d.toNat : Int).fdiv (2 ^ min i.toNat IntKind.u8.bits)) 1 == 1) = d.toNat.testBit i.toNat:=by
 obtain ⟨n,rfl⟩ : ∃ n : Nat,i = n:=⟨i.toNat,by omega⟩
 exact W9 ⟨d.toNat,d.toNat_lt⟩ ⟨n,by omega⟩
theorem KV (d : UInt8) (k : Nat) (h : k < 8) : (C8 d).take (k + 1) = (C8 d).take k ++ [d.toNat.testBit (7 - k)]:=by
 rw [List.take_succ_eq_append_getElem (by simp [C8];exact h)]
 simp [C8]
def Fs (l : List UInt8) (r : Lp) (s : BitVec 32) : List A7:=[.c [.d (u32 s)],.c [.d (.by l)],.lp r]
theorem Fv (d : UInt8) (l : List UInt8) (r : Lp) (s : BitVec 32) (hk : Dz 3 r.env = true) (hY : ∀ s b,YT Tryz.prog 2 [.d (.b b)] (Fs l r s) fun x K => x = .d (.b true) ∧ K = Fs l r (Dm s b)) :
  J9 Tryz.prog 244 [.d (.i .u8 d.toNat),.yl 2] (Fs l r s) fun x K => x = .d (.b true) ∧ K = Fs l r (CM s (C8 d)):=by
 refine BP A8 Tryz.func244 rfl rfl (Nat.le_of_ble_eq_true rfl) ?_
 unfold Fs at hY ⊢
 have hb : ∀ k : Nat,k < 8 → Dm (CM s ((C8 d).take k)) (Bc .and .u8 ((d.toNat : Int).fdiv (2 ^ min (7 - (k : Int)).toNat IntKind.u8.bits)) 1 == 1) = CM s ((C8 d).take (k + 1)):=by
  intro k hk
  rw [UJ d (7 - k) (by omega) (by omega),KV d k hk,F4,show (7 - (k : Int)).toNat = 7 - k by omega]
  rfl
 have nS:=True.intro;obtain ⟨lv,st,ns,nc⟩:=wq [0,1,4,5,13,17] [];refine wk ?_;clear nc ns st lv;repeat' (first|with_reducible constructor|(with_reducible intro hc;try simp only[A1] at hc))
 refine Ud 0 _ (fun k : Nat => 1 ≤ k ∧ k < 8) (fun k : Nat => ⟨[(0,.d (.i .u8 d.toNat)),(1,.yl 2),(4,.d (.b false)),(5,.d (.i .i64 (7 - k)))],[.c [.d (u32 (CM s ((C8 d).take k)))],.c [.d (.by l)],.lp r],18⟩) (fun k => 8 - k) 8 2 2 rfl ?_ ?_
 ·have h0 : Dm s (Bc .and .u8 ((d.toNat : Int).fdiv (2 ^ min 7 8)) 1 == 1) = CM s ((C8 d).take 1):=hb 0 (by omega)
  have nS:=True.intro;obtain ⟨lv,st,ns,nc⟩:=wq [0,1,4,5,13,17] [];have q1:=@hY;refine wk ?_;clear nc ns st lv q1;repeat' (first|with_reducible constructor|(with_reducible intro hc;try simp only[A1] at hc))
  refine ⟨1,⟨by omega,by omega⟩,(show 8 - 1 < 8 by omega),Nat.le_of_ble_eq_true rfl,?_⟩
  exact A0.cut rfl (by repeat' (first | exact True.intro | refine And.intro (by (first | rfl | ((with_reducible_and_instances refine congrArg (fun z => some (AV.d (D.i _ z))) ?_);omega) | (refine congrArg (fun z => some (AV.d (D.i _ z))) (?_ : (_ : Int) = _);omega) | (refine congrArg some ?_;simp only [h0];done) | (refine congrArg some ?_;simp [h0];done))) ?_)) (by repeat' (first | exact True.intro | refine And.intro (Or.inr rfl) ?_ | refine And.intro (Or.inl ⟨rfl,rfl⟩) ?_ | refine And.intro (Or.inr (by simp only [h0])) ?_ | refine And.intro (Or.inr (by simp [h0])) ?_)) (by first | rfl | (simp (decide:=true) [AT,A7.ok,AV.oks,AV.ok,hk];done)) rfl
 ·rintro k ⟨k1,k8⟩
  have h0:=hb k k8
  have e7 : (7 - (k : Int)).toNat = 7 - k:=by omega
  have h1:=h0
  rw [e7,show IntKind.u8.bits = 8 from rfl] at h1
  by_cases h : k + 1 < 8
  ·have nS:=True.intro;obtain ⟨lv,st,ns,nc⟩:=wq [0,1,4,5,13,17] [];have q1:=@hY;refine wk ?_;clear nc ns st lv q1;repeat' (first|with_reducible constructor|(with_reducible intro hc;try simp only[A1] at hc))
   refine ⟨k + 1,⟨by omega,h⟩,(show 8 - (k + 1) < 8 - k by omega),Nat.le_of_ble_eq_true rfl,?_⟩
   exact A0.cut rfl (by repeat' (first | exact True.intro | refine And.intro (by (first | rfl | ((with_reducible_and_instances refine congrArg (fun z => some (AV.d (D.i _ z))) ?_);omega) | (refine congrArg (fun z => some (AV.d (D.i _ z))) (?_ : (_ : Int) = _);omega) | (refine congrArg some ?_;simp only [h0,h1];done) | (refine congrArg some ?_;simp [h0,h1];done))) ?_)) (by repeat' (first | exact True.intro | refine And.intro (Or.inr rfl) ?_ | refine And.intro (Or.inl ⟨rfl,rfl⟩) ?_ | refine And.intro (Or.inr (by simp only [h0,h1])) ?_ | refine And.intro (Or.inr (by simp [h0,h1])) ?_)) (by first | rfl | (simp (decide:=true) [AT,A7.ok,AV.oks,AV.ok,hk];done)) rfl
  ·have hf : (C8 d).take (k + 1) = C8 d:=List.take_of_length_le (by simp [C8];omega)
   rw [hf] at h0 h1
   have nS:=True.intro;obtain ⟨lv,st,ns,nc⟩:=wq [0,1,4,5,13,17] [];have q1:=@hY;refine wk ?_;clear nc ns st lv q1;repeat' (first|with_reducible constructor|(with_reducible intro hc;try simp only[A1] at hc))
   refine ⟨_,A0.refl _,Nat.le_refl _,_,_,rfl,rfl,rfl,?_⟩
   simp only [e7,h1]
end Wi
end Go.Proofs.YtagnjflbhjmefaaGreat
