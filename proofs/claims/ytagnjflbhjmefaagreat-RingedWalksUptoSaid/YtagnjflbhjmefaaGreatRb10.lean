/- Part 10 of the texts of this proof, put together by a program and made short.
Conditions: none; what each theorem asks stands in its own hypotheses. -/
import Derived.Test.YtagnjflbhjmefaaGreatRb06
import Derived.Test.YtagnjflbhjmefaaGreatRb08
import Derived.KernelRfl
import Derived.RangeFuncIn
import Derived.Sort.Grow
import Derived.Laws.Cover3
import Derived.RecoverIn
import Derived.ProofKit
import Derived.OpenShut
import Derived.CallsIn
import Derived.RangeFuncLeaves
import Derived.OrdersIn
import Derived.TacticsIn
import Derived.ChangeKeysEq
import Derived.Laws.AppendOwn
import Derived.Laws.OwnMore
import Derived.Laws.MakeOwn
import Derived.Laws.Rows
import Derived.Laws.Cells
import Derived.Laws.Tables
import Derived.Laws.CopyRow
import Derived.Laws.Strings
import Derived.Laws.IdiomStrings
import Derived.Laws.BytesArg
import Derived.Test.YtagnjflbhjmefaaGreatProg
set_option linter.unusedSimpArgs false
set_option linter.unusedVariables false
set_option linter.unnecessarySimpa false
set_option maxHeartbeats 40000000
namespace Go.Proofs.YtagnjflbhjmefaaGreat
namespace Wi
open Go.Gar
set_option maxRecDepth 4000
def u32 (s : BitVec 32) : D:=.i .u32 (s.toNat : Int)
theorem wrap_u32 (n : Nat) : IntKind.wrap .u32 (n : Int) = ((BitVec.ofNat 32 n).toNat : Int):=by
 simp [IntKind.wrap,IntKind.bits,IntKind.signed]
theorem YE (s : BitVec 32) : IntKind.wrap .u32 ((s.toNat : Int) * 2 ^ min 1 IntKind.u32.bits) = ((s <<< 1).toNat : Int):=by
 have : (s.toNat : Int) * 2 ^ min 1 IntKind.u32.bits = ((s.toNat * 2 : Nat) : Int):=by simp [IntKind.bits]
 rw [this,wrap_u32]
 simp [BitVec.toNat_shiftLeft,Nat.shiftLeft_eq]
theorem ofInt32 (s : BitVec 32) : BitVec.ofInt 32 (s.toNat : Int) = s:=by
 apply BitVec.eq_of_toNat_eq;simp
theorem or1 (s : BitVec 32) : Bc .or .u32 ((s <<< 1).toNat : Int) 1 = ((s <<< 1 ^^^ 1#32).toNat : Int):=by
 have h : (s <<< 1) ||| 1#32 = s <<< 1 ^^^ 1#32:=by
  apply BitVec.eq_of_getLsbD_eq
  intro i hi
  simp only [BitVec.getLsbD_or,BitVec.getLsbD_xor,BitVec.getLsbD_shiftLeft,BitVec.getLsbD_one]
  by_cases e : i = 0 <;> simp [e]
 unfold Bc
 show IntKind.wrap .u32 ((BitVec.ofInt 32 _ ||| BitVec.ofInt 32 1).toNat : Int) = _
 rw [ofInt32,show BitVec.ofInt 32 1 = 1#32 from by decide,h,wrap_u32]
 simp
theorem V9 (s : BitVec 32) : Bc .xor .u32 (s.toNat : Int) 1947962583 = ((s ^^^ pat).toNat : Int):=by
 unfold Bc
 show IntKind.wrap .u32 ((BitVec.ofInt 32 _ ^^^ BitVec.ofInt 32 1947962583).toNat : Int) = _
 rw [ofInt32,show BitVec.ofInt 32 1947962583 = pat from by decide,wrap_u32]
 simp
theorem Qf (s : BitVec 32) (h : s.getLsbD 31 = true) : (s.toNat : Int).fdiv (2 ^ min 31 IntKind.u32.bits) = 1:=by
 have:=BitVec.msb_eq_decide s
 rw [BitVec.msb_eq_getLsbD_last,h] at this
 have hlt:=s.isLt
 simp at this
 rw [Int.fdiv_eq_ediv_of_nonneg _ (by decide)]
 simp [IntKind.bits]
 omega
theorem QS (s : BitVec 32) (h : s.getLsbD 31 = false) : (s.toNat : Int).fdiv (2 ^ min 31 IntKind.u32.bits) = 0:=by
 have:=BitVec.msb_eq_decide s
 rw [BitVec.msb_eq_getLsbD_last,h] at this
 simp at this
 rw [Int.fdiv_eq_ediv_of_nonneg _ (by decide)]
 simp [IntKind.bits]
 omega
theorem O9 (s : BitVec 32) (h : s.getLsbD 31 = true) : Dm s true = (s <<< 1 ^^^ 1#32) ^^^ pat:=by unfold Dm;rw [h];simp [UW]
theorem Od (s : BitVec 32) (h : s.getLsbD 31 = true) : Dm s false = (s <<< 1) ^^^ pat:=by unfold Dm;rw [h];simp [UW]
theorem NW (s : BitVec 32) (h : s.getLsbD 31 = false) : Dm s true = s <<< 1 ^^^ 1#32:=by unfold Dm;rw [h];simp [UW]
theorem O5 (s : BitVec 32) (h : s.getLsbD 31 = false) : Dm s false = s <<< 1:=by unfold Dm;rw [h];simp [UW]
theorem WA (s : BitVec 32) (b : Bool) : Go.Gar.Fn Tryz.prog 174 [u32 s,.b b] (u32 (Dm s b)):=by
 have h1:=YE s
 have h2:=or1 s
 have h3:=V9 (s <<< 1)
 have h4:=V9 (s <<< 1 ^^^ 1#32)
 refine A3 A8 Tryz.func174 rfl rfl (Nat.le_of_ble_eq_true rfl) ?_
 cases hs : s.getLsbD 31 <;> cases b
 ·have h5:=QS s hs
  have e:=O5 s hs
  have nS:=And.intro h1 (And.intro h2 (And.intro h3 (And.intro h4 h5)));obtain ⟨lv,st,ns,nc⟩:=wq [0,1,4,5,10,14] [];refine wk ?_;clear nc ns st lv;repeat' (first|with_reducible constructor|(with_reducible intro hc;try simp only[A1] at hc))
  refine ⟨_,_,rfl,rfl,?_⟩;simp [AH,A6,A5,A4,u32,e]
 ·have h5:=QS s hs
  have e:=NW s hs
  have nS:=And.intro h1 (And.intro h2 (And.intro h3 (And.intro h4 h5)));obtain ⟨lv,st,ns,nc⟩:=wq [0,1,4,5,10,14] [];refine wk ?_;clear nc ns st lv;repeat' (first|with_reducible constructor|(with_reducible intro hc;try simp only[A1] at hc))
  refine ⟨_,_,rfl,rfl,?_⟩;simp [AH,A6,A5,A4,u32,e]
 ·have h5:=Qf s hs
  have e:=Od s hs
  have nS:=And.intro h1 (And.intro h2 (And.intro h3 (And.intro h4 h5)));obtain ⟨lv,st,ns,nc⟩:=wq [0,1,4,5,10,14] [];refine wk ?_;clear nc ns st lv;repeat' (first|with_reducible constructor|(with_reducible intro hc;try simp only[A1] at hc))
  refine ⟨_,_,rfl,rfl,?_⟩;simp [AH,A6,A5,A4,u32,e]
 ·have h5:=Qf s hs
  have e:=O9 s hs
  have nS:=And.intro h1 (And.intro h2 (And.intro h3 (And.intro h4 h5)));obtain ⟨lv,st,ns,nc⟩:=wq [0,1,4,5,10,14] [];refine wk ?_;clear nc ns st lv;repeat' (first|with_reducible constructor|(with_reducible intro hc;try simp only[A1] at hc))
  refine ⟨_,_,rfl,rfl,?_⟩;simp [AH,A6,A5,A4,u32,e]
theorem OK (s : BitVec 32) (b : Bool) : Go.Gar.Fn Tryz.prog 251 [u32 s,.b b] (u32 (Dm s b)):=by
 have h1:=YE s
 have h2:=or1 s
 have h3:=V9 (s <<< 1)
 have h4:=V9 (s <<< 1 ^^^ 1#32)
 refine A3 A8 Tryz.func251 rfl rfl (Nat.le_of_ble_eq_true rfl) ?_
 cases hs : s.getLsbD 31 <;> cases b
 ·have h5:=QS s hs
  have e:=O5 s hs
  have nS:=And.intro h1 (And.intro h2 (And.intro h3 (And.intro h4 h5)));obtain ⟨lv,st,ns,nc⟩:=wq [0,1,4,5,11,14] [];refine wk ?_;clear nc ns st lv;repeat' (first|with_reducible constructor|(with_reducible intro hc;try simp only[A1] at hc))
  refine ⟨_,_,rfl,rfl,?_⟩;simp [AH,A6,A5,A4,u32,e]
 ·have h5:=QS s hs
  have e:=NW s hs
  have nS:=And.intro h1 (And.intro h2 (And.intro h3 (And.intro h4 h5)));obtain ⟨lv,st,ns,nc⟩:=wq [0,1,4,5,11,14] [];refine wk ?_;clear nc ns st lv;repeat' (first|with_reducible constructor|(with_reducible intro hc;try simp only[A1] at hc))
  refine ⟨_,_,rfl,rfl,?_⟩;simp [AH,A6,A5,A4,u32,e]
 ·have h5:=Qf s hs
  have e:=Od s hs
  have nS:=And.intro h1 (And.intro h2 (And.intro h3 (And.intro h4 h5)));obtain ⟨lv,st,ns,nc⟩:=wq [0,1,4,5,11,14] [];refine wk ?_;clear nc ns st lv;repeat' (first|with_reducible constructor|(with_reducible intro hc;try simp only[A1] at hc))
  refine ⟨_,_,rfl,rfl,?_⟩;simp [AH,A6,A5,A4,u32,e]
 ·have h5:=Qf s hs
  have e:=O9 s hs
  have nS:=And.intro h1 (And.intro h2 (And.intro h3 (And.intro h4 h5)));obtain ⟨lv,st,ns,nc⟩:=wq [0,1,4,5,11,14] [];refine wk ?_;clear nc ns st lv;repeat' (first|with_reducible constructor|(with_reducible intro hc;try simp only[A1] at hc))
  refine ⟨_,_,rfl,rfl,?_⟩;simp [AH,A6,A5,A4,u32,e]
theorem Vm (n : Int) : Go.Gar.Fn Tryz.prog 130 [.i .i64 n] (.i .i64 (if n < 0 ∨ n > 112 then 0 else n + 8)):=by
 refine A3 A8 Tryz.func130 rfl rfl (Nat.le_of_ble_eq_true rfl) ?_
 by_cases h : n < 0 ∨ n > 112
 ·rw [if_pos h]
  have nS:=True.intro;obtain ⟨lv,st,ns,nc⟩:=wq [0,2,8] [];refine wk ?_;clear nc ns st lv;repeat' (first|with_reducible constructor|(with_reducible intro hc;try simp only[A1] at hc))
  all_goals first | (exfalso;omega) | (refine ⟨_,_,rfl,rfl,?_⟩;simp [BQ])
 ·rw [if_neg h]
  have nS:=True.intro;obtain ⟨lv,st,ns,nc⟩:=wq [0,2,8] [];refine wk ?_;clear nc ns st lv;repeat' (first|with_reducible constructor|(with_reducible intro hc;try simp only[A1] at hc))
  all_goals first | (exfalso;omega) | (refine ⟨_,_,rfl,rfl,?_⟩;simp [BQ] <;> omega)
theorem TS (n : Int) : Go.Gar.Fn Tryz.prog 194 [.i .i64 n] (.i .i64 (if n < 0 ∨ n > 112 then 0 else n + 8)):=by
 refine A3 A8 Tryz.func194 rfl rfl (Nat.le_of_ble_eq_true rfl) ?_
 by_cases h : n < 0 ∨ n > 112
 ·rw [if_pos h]
  have nS:=True.intro;obtain ⟨lv,st,ns,nc⟩:=wq [0,2,8] [];refine wk ?_;clear nc ns st lv;repeat' (first|with_reducible constructor|(with_reducible intro hc;try simp only[A1] at hc))
  all_goals first | (exfalso;omega) | (refine ⟨_,_,rfl,rfl,?_⟩;simp [BQ])
 ·rw [if_neg h]
  have nS:=True.intro;obtain ⟨lv,st,ns,nc⟩:=wq [0,2,8] [];refine wk ?_;clear nc ns st lv;repeat' (first|with_reducible constructor|(with_reducible intro hc;try simp only[A1] at hc))
  all_goals first | (exfalso;omega) | (refine ⟨_,_,rfl,rfl,?_⟩;simp [BQ] <;> omega)
end Wi
end Go.Proofs.YtagnjflbhjmefaaGreat
