/- Part 41 of a proof, put together by a program. Conditions: none beyond those that a theorem states. -/
import Derived.Test.YtkljbfejbakooaaGreatDoorB38
import Derived.Test.YtkljbfejbakooaaGreatDoorB40
set_option linter.unusedSimpArgs false
set_option linter.unusedVariables false
set_option linter.unnecessarySimpa false
set_option maxHeartbeats 40000000
namespace Go.Proofs.YtkljbfejbakooaaGreatDoor
namespace Nd
open Go.Gar
open Wi (A8 B2 Ai AA BN Bs Ar)
set_option maxRecDepth 4000
theorem Vi {α : Type} {R : α → α → Prop} (tr : ∀ a b c,R a b → R b c → R a c) (d : α) : ∀ l : List α,(∀ k,k < l.length → k = 0 ∨ R (l.getD (k - 1) d) (l.getD k d)) → l.Pairwise R
 | [],_ => List.Pairwise.nil
 | [a],_ => by simp
 | a :: b :: r,h => by
  have ih:=Vi tr d (b :: r) (fun k hk => by
   rcases Nat.eq_zero_or_pos k with e | e
   ·exact .inl e
   ·have:=h (k + 1) (by simpa using hk);obtain ⟨j,rfl⟩ : ∃ j,k = j + 1:=⟨k - 1,by omega⟩
    simpa using this)
  have hab : R a b:=by
   have:=h 1 (by simp);simpa using this
  refine List.pairwise_cons.2 ⟨fun x hx => ?_,ih⟩;rcases List.mem_cons.1 hx with rfl | hx
  ·exact hab
  ·exact tr _ _ _ hab ((List.pairwise_cons.1 ih).1 x hx)
theorem bq {α : Type} {R : α → α → Prop} (d : α) {l : List α} (h : l.Pairwise R) (k : Nat) (hk : k < l.length) : k = 0 ∨ R (l.getD (k - 1) d) (l.getD k d):=by
 rcases Nat.eq_zero_or_pos k with e | e
 ·exact .inl e
 ·right;rw [getD_at (List.getElem?_eq_getElem hk),getD_at (List.getElem?_eq_getElem (show k - 1 < l.length by omega))];exact List.pairwise_iff_getElem.1 h (k - 1) k (by omega) hk (by omega)
theorem GE {c : Calls} : BB c = true ↔ (B2 c.id = true ∧ 0 ≤ c.many ∧ c.many ≤ 1048576 ∧ c.op.length ≤ 16) ∧ (∀ x ∈ c.op,DX c.id c.many x = true) ∧ c.op.Pairwise fun x y => x.id < y.id:=by
 unfold BB KJ;simp only [Bool.and_eq_true,decide_eq_true_eq,Gy];refine and_congr_right fun _ => ⟨fun h => ⟨fun x hx => ?_,Vi (R:=fun x y : Call => x.id < y.id) (fun _ _ _ => Int.lt_trans) Gl _ fun k hk => ?_⟩,fun h k hk => ?_⟩
 ·obtain ⟨k,hk,rfl⟩:=List.getElem_of_mem hx;have:=h k hk;unfold Fh at this;rw [Bool.and_eq_true,getD_at (List.getElem?_eq_getElem hk)] at this;exact this.1
 ·have:=h k hk;unfold Fh at this;rw [Bool.and_eq_true,decide_eq_true_eq] at this;exact this.2
 ·unfold Fh;rw [Bool.and_eq_true,decide_eq_true_eq];refine ⟨?_,bq Gl h.2 k hk⟩;rw [getD_at (List.getElem?_eq_getElem hk)];exact h.1 _ (List.getElem_mem hk)
theorem IK {id many : Int} {x : Call} : DX id many x = true ↔ x.msg.right = true ∧ x.msg.asks = true ∧ x.msg.src = id ∧ x.id = x.msg.call ∧ x.id ≤ id * 1048576 + many ∧ 1 ≤ x.tries ∧ x.tries ≤ 3 ∧ HQ x.sent = true:=by
 unfold DX;simp only [Bool.and_eq_true,decide_eq_true_eq]
theorem Vz {c : Calls} {m : A8} (hk : (Cx c m).2.2 = true) : BB c = true ∧ m.right = true ∧ (Cx c m).2.1 ∈ c.op ∧ KN c.id m (Cx c m).2.1 = true ∧ (Cx c m).1 = ⟨c.id,c.many,c.op.filter fun y => !KN c.id m y⟩:=by
 unfold Cx at hk ⊢;split at hk
 ·rename_i hc;rw [if_pos hc];rw [Bool.and_eq_true] at hc
  cases hf : c.op.find? (KN c.id m) with
  | none => rw [hf] at hk;cases hk
  | some x => exact ⟨hc.1,hc.2,List.mem_of_find?_eq_some hf,List.find?_some hf,rfl⟩
 ·cases hk
theorem Uv {l : List Past} : EW l = true ↔ l.length ≤ 40 ∧ (∀ p ∈ l,IU p = true) ∧ l.Pairwise fun p q => ¬ (p.src = q.src ∧ p.call = q.call):=by
 unfold EW;rw [Bool.and_eq_true,decide_eq_true_eq,Gy];refine and_congr_right fun _ => ⟨fun h => ⟨fun x hx => ?_,List.pairwise_iff_getElem.2 fun i j hi hj hij => ?_⟩,fun h k hk => ?_⟩
 ·obtain ⟨k,hk,rfl⟩:=List.getElem_of_mem hx;have:=h k hk;unfold D2 at this;rw [Bool.and_eq_true,getD_at (List.getElem?_eq_getElem hk)] at this;exact this.1
 ·have:=h j hj;unfold D2 at this;rw [Bool.and_eq_true,getD_at (List.getElem?_eq_getElem hj),Bool.not_eq_true'] at this;have h2:=List.any_eq_false.1 this.2 l[i] (List.mem_iff_getElem?.2 ⟨i,by rw [List.getElem?_take,if_pos hij];exact List.getElem?_eq_getElem hi⟩);unfold I9 at h2;simpa using h2
 ·unfold D2;rw [Bool.and_eq_true,Bool.not_eq_true',getD_at (List.getElem?_eq_getElem hk)];refine ⟨h.1 _ (List.getElem_mem hk),List.any_eq_false.2 fun p hp => ?_⟩;obtain ⟨i,hi,rfl⟩:=List.getElem_of_mem hp;rw [List.length_take] at hi;rw [List.getElem_take];have:=List.pairwise_iff_getElem.1 h.2 i k (by omega) hk (by omega);unfold I9;simpa using this
theorem Re {p : Past} : IU p = true ↔ p.told.right = true ∧ p.told.asks = false ∧ p.told.dst = p.src ∧ p.told.call = p.call:=by
 unfold IU;simp only [Bool.and_eq_true,decide_eq_true_eq,Bool.not_eq_true']
end Nd
end Go.Proofs.YtkljbfejbakooaaGreatDoor
