/- Part 43 of a proof, put together by a program. Conditions: none beyond those that a theorem states. -/
import Derived.Test.YtkljbfejbakooaaGreatDoorN37
import Derived.Test.YtkljbfejbakooaaGreatDoorN42
set_option linter.unusedSimpArgs false
set_option linter.unusedVariables false
set_option linter.unnecessarySimpa false
set_option maxHeartbeats 40000000
namespace Go.Proofs.YtkljbfejbakooaaGreatDoor
namespace Nd
open Go.Gar
open Wi (A8 B7 AU AC B2 Bn Bl)
set_option maxRecDepth 4000
theorem Ye {α : Type} {R : α → α → Prop} (tr : ∀ a b c,R a b → R b c → R a c) (d : α) : ∀ l : List α,(∀ k,k < l.length → k = 0 ∨ R (l.getD (k - 1) d) (l.getD k d)) → l.Pairwise R
 | [],_ => List.Pairwise.nil
 | [a],_ => by simp
 | a :: b :: r,h => by
  have ih:=Ye tr d (b :: r) (fun k hk => by
   rcases Nat.eq_zero_or_pos k with e | e
   ·exact .inl e
   ·have:=h (k + 1) (by simpa using hk);obtain ⟨j,rfl⟩ : ∃ j,k = j + 1:=⟨k - 1,by omega⟩
    simpa using this)
  have hab : R a b:=by
   have:=h 1 (by simp);simpa using this
  refine List.pairwise_cons.2 ⟨fun x hx => ?_,ih⟩;rcases List.mem_cons.1 hx with rfl | hx
  ·exact hab
  ·exact tr _ _ _ hab ((List.pairwise_cons.1 ih).1 x hx)
theorem iT {α : Type} {R : α → α → Prop} (d : α) {l : List α} (h : l.Pairwise R) (k : Nat) (hk : k < l.length) : k = 0 ∨ R (l.getD (k - 1) d) (l.getD k d):=by
 rcases Nat.eq_zero_or_pos k with e | e
 ·exact .inl e
 ·right;rw [getD_at (List.getElem?_eq_getElem hk),getD_at (List.getElem?_eq_getElem (show k - 1 < l.length by omega))];exact List.pairwise_iff_getElem.1 h (k - 1) k (by omega) hk (by omega)
variable {c : Calls}
theorem CM : Bh c = true ↔ (B7 c.id = true ∧ 0 ≤ c.many ∧ c.many ≤ 1048576 ∧ c.op.length ≤ 16) ∧ (∀ x ∈ c.op,F0 c.id c.many x = true) ∧ c.op.Pairwise fun x y => x.id < y.id:=by
 unfold Bh Ly;simp only [Bool.and_eq_true,decide_eq_true_eq,I8];refine and_congr_right fun _ => ⟨fun h => ⟨fun x hx => ?_,Ye (R:=fun x y : Call => x.id < y.id) (fun _ _ _ => Int.lt_trans) Hw _ fun k hk => ?_⟩,fun h k hk => ?_⟩
 ·obtain ⟨k,hk,rfl⟩:=List.getElem_of_mem hx;have:=h k hk;unfold Gp at this;rw [Bool.and_eq_true,getD_at (List.getElem?_eq_getElem hk)] at this;exact this.1
 ·have:=h k hk;unfold Gp at this;rw [Bool.and_eq_true,decide_eq_true_eq] at this;exact this.2
 ·unfold Gp;rw [Bool.and_eq_true,decide_eq_true_eq];refine ⟨?_,iT Hw h.2 k hk⟩;rw [getD_at (List.getElem?_eq_getElem hk)];exact h.1 _ (List.getElem_mem hk)
theorem Fo {id many : Int} {x : Call} : F0 id many x = true ↔ x.msg.right = true ∧ x.msg.asks = true ∧ x.msg.src = id ∧ x.id = x.msg.call ∧ x.id ≤ id * 1048576 + many ∧ 1 ≤ x.tries ∧ x.tries ≤ 3 ∧ GX x.sent = true:=by
 unfold F0;simp only [Bool.and_eq_true,decide_eq_true_eq]
theorem QU {m : A8} {why ref now : Int} (h : Bh c = true) (he : (As c m why ref now).2.2 = 0) :
  c.op.length < 16 ∧ c.many < 1048576 ∧ GX now = true ∧ ∃ q : A8,q = { m with call:=c.id * 1048576 + (c.many + 1),src:=c.id } ∧ q.right = true ∧ q.asks = true ∧ As c m why ref now = (⟨c.id,c.many + 1,c.op ++ [⟨c.id * 1048576 + (c.many + 1),q,why,ref,now,1⟩]⟩,q,0):=by
 have hh:=(CM.1 h).1;unfold As at he ⊢;rw [if_pos h] at he ⊢;split at he
 ·cases he
 ·rename_i h1;rw [if_neg h1];dsimp only at he ⊢;split at he
  ·rename_i h2;rw [if_pos h2];simp only [Bool.and_eq_true] at h2;exact ⟨by omega,by omega,h2.1,_,rfl,h2.2.2,h2.2.1,rfl⟩
  ·cases he
theorem UD {m : A8} {why ref now : Int} (h : Bh c = true) (he : (As c m why ref now).2.2 = 0) : Bh (As c m why ref now).1 = true:=by
 obtain ⟨h1,h2,h3,q,hq,h4,h5,e⟩:=QU h he;rw [e];obtain ⟨⟨a1,a2,a3,a4⟩,a5,a6⟩:=CM.1 h;have hs : q.src = c.id:=by rw [hq]
 have hc : q.call = c.id * 1048576 + (c.many + 1):=by rw [hq]
 refine CM.2 ⟨⟨a1,by dsimp only;omega,by dsimp only;omega,by simp;omega⟩,fun x hx => ?_,?_⟩
 ·dsimp only at hx ⊢;rw [List.mem_append,List.mem_singleton] at hx;rcases hx with hx | rfl
  ·obtain ⟨b1,b2,b3,b4,b5,b6⟩:=Fo.1 (a5 x hx);exact Fo.2 ⟨b1,b2,b3,b4,by omega,b6⟩
  ·exact Fo.2 ⟨h4,h5,hs,hc.symm,Int.le_refl _,Int.le_refl _,(by decide : (1 : Int) ≤ 3),h3⟩
 ·refine List.pairwise_append.2 ⟨a6,by simp,fun x hx y hy => ?_⟩;rw [List.mem_singleton] at hy;subst hy;have:=(Fo.1 (a5 x hx)).2.2.2.2.1;dsimp only;omega
theorem Xb {l : List Past} : FB l = true ↔ l.length ≤ 40 ∧ (∀ p ∈ l,Jz p = true) ∧ l.Pairwise fun p q => ¬ (p.src = q.src ∧ p.call = q.call):=by
 unfold FB;rw [Bool.and_eq_true,decide_eq_true_eq,I8];refine and_congr_right fun _ => ⟨fun h => ⟨fun x hx => ?_,List.pairwise_iff_getElem.2 fun i j hi hj hij => ?_⟩,fun h k hk => ?_⟩
 ·obtain ⟨k,hk,rfl⟩:=List.getElem_of_mem hx;have:=h k hk;unfold Di at this;rw [Bool.and_eq_true,getD_at (List.getElem?_eq_getElem hk)] at this;exact this.1
 ·have:=h j hj;unfold Di at this;rw [Bool.and_eq_true,getD_at (List.getElem?_eq_getElem hj),Bool.not_eq_true'] at this;have h2:=List.any_eq_false.1 this.2 l[i] (List.mem_iff_getElem?.2 ⟨i,by rw [List.getElem?_take,if_pos hij];exact List.getElem?_eq_getElem hi⟩);unfold Je at h2;simpa using h2
 ·unfold Di;rw [Bool.and_eq_true,Bool.not_eq_true',getD_at (List.getElem?_eq_getElem hk)];refine ⟨h.1 _ (List.getElem_mem hk),List.any_eq_false.2 fun p hp => ?_⟩;obtain ⟨i,hi,rfl⟩:=List.getElem_of_mem hp;rw [List.length_take] at hi;rw [List.getElem_take];have:=List.pairwise_iff_getElem.1 h.2 i k (by omega) hk (by omega);unfold Je;simpa using this
theorem UK {p : Past} : Jz p = true ↔ p.told.right = true ∧ p.told.asks = false ∧ p.told.dst = p.src ∧ p.told.call = p.call:=by
 unfold Jz;simp only [Bool.and_eq_true,decide_eq_true_eq,Bool.not_eq_true']
end Nd
end Go.Proofs.YtkljbfejbakooaaGreatDoor
namespace Go.Proofs.YtkljbfejbakooaaGreatDoor
namespace Nd
open Go.Gar
open Wi (A8 B7 AU AC B2 mC Bn Bl)
set_option maxRecDepth 4000
abbrev CL : List Nat:=[0,1,2,3,4,5,6,10,11,12,13,14,17,26,53]
theorem WO (c : Calls) (m : A8) (why ref now : Int) (hl : ∀ x ∈ c.op,C3 x.msg) (hn : c.op.length ≤ 1048576) (hm : C3 m) : Go.Gar.Fn Tryz.prog 153 [c.d,m.d,.i .u8 why,.i .i64 ref,.i .i64 now] (.tup [(As c m why ref now).1.d,(As c m why ref now).2.1.d,.i .i64 (As c m why ref now).2.2]):=by
 have c1:=RS c hl;have c2:=VB c hl hn;have c3:=Ot now;have c5:=Ma m hm
 cases hc : Bh c with
 | false =>
  have hT : As c m why ref now = (c,AC,2):=by unfold As;rw [hc];rfl
  rw [hc] at c1;rw [hT];clear c3 c5 hT hc;refine zF A6 Tryz.func153 ?_;unfold Wi.A8.d Wi.A8.cells Calls.d Calls.cells at *;have sc : No 3:=trivial;refine wd CL [] [] A0 (Aj @c1 @c2) ?_;clear sc;refine ⟨_,_,rfl,rfl,?_⟩;simp [AR,AB,A7,A4,AC,AE]
 | true =>
 have hh:=(CM.1 hc).1;rw [hc] at c1
 by_cases h1 : c.op.length = 16
 ·have f1 : ((c.op.length : Int) == 16) = true:=AS (by omega);have hT : As c m why ref now = (c,AC,100):=by unfold As;rw [hc,if_pos rfl,if_pos (.inl h1)]
  rw [hT];clear c3 c5 hT hc;refine zF A6 Tryz.func153 ?_;unfold Wi.A8.d Wi.A8.cells Calls.d Calls.cells at *;have sc : No 3:=trivial;refine wd CL [] [] (AF f1) (Aj @c1 @c2) ?_;clear sc;refine ⟨_,_,rfl,rfl,?_⟩;simp [AR,AB,A7,A4,AC,AE]
 have f1 : ((c.op.length : Int) == 16) = false:=eq_false' (by omega)
 by_cases h2 : c.many = 1048576
 ·have f2:=AS h2;have hT : As c m why ref now = (c,AC,100):=by unfold As;rw [hc,if_pos rfl,if_pos (.inr h2)]
  rw [hT];clear c3 c5 hT hc;refine zF A6 Tryz.func153 ?_;unfold Wi.A8.d Wi.A8.cells Calls.d Calls.cells at *;have sc : No 3:=trivial;refine wd CL [] [] (Aj f1 f2) (Aj @c1 @c2) ?_;clear sc;refine ⟨_,_,rfl,rfl,?_⟩;simp [AR,AB,A7,A4,AC,AE]
 have f2:=eq_false' h2;have c4:=PU c.id (c.many + 1);have e4 : En c.id (c.many + 1) = (c.id * 1048576 + (c.many + 1),0):=if_pos ⟨hh.1,by omega,by omega⟩;rw [e4] at c4;have hp:=Wi.Dj hh.1;obtain ⟨q,hq⟩ : ∃ q : A8,q = { m with call:=c.id * 1048576 + (c.many + 1),src:=c.id }:=⟨_,rfl⟩;have hql : C3 q:=by rw [hq];exact hm
 have c6:=Wi.Ki q;have c7:=Wi.Ff q (lm hql);have c8:=Ma q hql
 have hT : As c m why ref now = if GX now && (q.asks && q.right) then (⟨c.id,c.many + 1,c.op ++ [⟨c.id * 1048576 + (c.many + 1),q,why,ref,now,1⟩]⟩,q,0) else (c,AC,2):=by
  unfold As;rw [hc,if_pos rfl,if_neg (by omega),hq]
 rw [hT];clear hT c5 e4;generalize q.asks = qa at *;generalize q.right = qr at *;subst hq;generalize hid : c.id * 1048576 + (c.many + 1) = k at *;refine zF A6 Tryz.func153 ?_;unfold Wi.A8.d Wi.A8.cells Calls.d Calls.cells at *
 cases ht : GX now with
 | false =>
  rw [ht] at c3;have sc : No 3:=trivial;refine wd CL [7] [] (Aj f1 f2) (Aj @c1 @c4) ?_;clear sc;have sc : No 3:=trivial;refine wd CL [8] [(1,4),(2,4)] A0 A0 ?_;clear sc;have sc : No 3:=trivial;refine wd CL [] [] A0 (Aj @c2 @c3) ?_;clear sc;refine ⟨_,_,rfl,rfl,?_⟩;simp [AR,AB,A7,A4,AC,AE]
 | true =>
 rw [ht] at c3
 cases qa with
 | false =>
  have sc : No 3:=trivial;refine wd CL [7] [] (Aj f1 f2) (Aj @c1 @c4) ?_;clear sc;have sc : No 3:=trivial;refine wd CL [8] [(1,4),(2,4)] A0 A0 ?_;clear sc;have sc : No 3:=trivial;refine wd CL [] [] A0 (Dl @c2 @c3 @c6) ?_;clear sc;refine ⟨_,_,rfl,rfl,?_⟩;simp [AR,AB,A7,A4,AC,AE]
 | true =>
 cases qr with
 | false =>
  have sc : No 3:=trivial;refine wd CL [7] [] (Aj f1 f2) (Aj @c1 @c4) ?_;clear sc;have sc : No 3:=trivial;refine wd CL [8] [(1,4),(2,4)] A0 A0 ?_;clear sc;have sc : No 3:=trivial;refine wd CL [] [] A0 (M9 @c2 @c3 @c6 @c7) ?_;clear sc;refine ⟨_,_,rfl,rfl,?_⟩;simp [AR,AB,A7,A4,AC,AE]
 | true =>
  have c9:=Z1 c.id c.many c.op hl hn;unfold Calls.d Calls.cells at c9;have sc : No 3:=trivial;refine wd CL [7] [] (Aj f1 f2) (Aj @c1 @c4) ?_;clear sc;have sc : No 3:=trivial;refine wd CL [8] [(1,4),(2,4)] A0 A0 ?_;clear sc;have d1:=Ds.mk [] (c9);have sc : No 3:=trivial;refine wd CL [11] [] A0 (Dl @c3 @c6 @c7) ?_;clear sc d1;have ow : Lv [69]:=trivial;have sc : No 3:=trivial;refine wd CL [12] [(0,9),(1,9)] A0 (AF @c8) ?_;clear sc ow;have sc : No 3:=trivial;refine wd CL [] [(1,3)] A0 (AF @c8) ?_;clear sc;refine ⟨_,_,rfl,rfl,?_⟩;simp [AR,AB,A7,A4,BW,List.map_append,List.map_cons,List.map_nil,Call.cells]
end Nd
end Go.Proofs.YtkljbfejbakooaaGreatDoor
