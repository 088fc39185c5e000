/- Part 38 of a proof, put together by a program. Conditions: none beyond those that a theorem states. -/
import Derived.Test.YtkljbfejbakooaaGreatDoorN36
import Derived.Test.YtkljbfejbakooaaGreatDoorN37
set_option linter.unusedSimpArgs false
set_option linter.unusedVariables false
set_option linter.unnecessarySimpa false
set_option maxHeartbeats 40000000
namespace Go.Proofs.YtkljbfejbakooaaGreatDoor
namespace Nd
open Go.Gar
open Wi (A8 B7 AU AC B2 mC)
set_option maxRecDepth 4000
theorem dy : ∀ l : List Int,(Hs l).length ≤ 3
 | [] => by simp [Hs]
 | [a] => by simp [Hs]
 | [a,b] => by simp only [Hs];split <;> simp
 | a :: b :: c :: _ => by simp only [Hs,List.length_cons,List.length_append];split <;> split <;> simp
theorem iC (id : Int) (j : Job) (owner : Int) (l : List Int) : (IM id j owner l).asks.length ≤ 3 ∧ (IM id j owner l).job.item = j.item ∧ (IM id j owner l).job.left.length ≤ 3:=by
 unfold IM;dsimp only;have h:=dy (owner :: l);have h2:=List.length_filter_le (fun p => p != id) (Hs (owner :: l));rw [List.length_map];exact ⟨by omega,rfl,by omega⟩
theorem VX (v : View) (j : Job) : (F8 v j).asks.length ≤ 3 ∧ (F8 v j).job.item = j.item ∧ (F8 v j).job.left.length ≤ j.left.length + 3:=by
 unfold F8;split
 ·exact ⟨Nat.zero_le _,rfl,Nat.zero_le _⟩
 split
 ·refine ⟨?_,rfl,by dsimp only;omega⟩;dsimp only;split <;> simp
 split
 ·exact ⟨Nat.zero_le _,rfl,Nat.zero_le _⟩
 split
 ·have:=iC v.id ⟨j.what,j.phase,j.look,j.item,j.look.at_,j.left,j.code⟩ j.look.at_ v.list;exact ⟨this.1,this.2.1,by omega⟩
 split
 ·exact ⟨by simp,rfl,by dsimp only;omega⟩
 split
 ·exact ⟨Nat.zero_le _,rfl,Nat.zero_le _⟩
 ·exact ⟨by simp,rfl,by dsimp only;omega⟩
theorem cj (what place : Int) (x : Item) : (Ga what place x).2.1.key.length ≤ x.key.length:=by
 unfold Ga;split
 ·exact Nat.zero_le _
 split
 ·exact Nat.le_refl _
 split
 ·exact Nat.le_refl _
 ·exact Nat.zero_le _
theorem Tu (v : View) (what place : Int) (x : Item) : (C7 v what place x).asks.length ≤ 3 ∧ (C7 v what place x).job.item.key.length ≤ x.key.length ∧ (C7 v what place x).job.left.length ≤ 3:=by
 unfold C7;split
 ·have:=VX v ⟨what,0,jU v (Ga what place x).1,(Ga what place x).2.1,0,[],0⟩;exact ⟨this.1,by rw [this.2.1];exact cj what place x,this.2.2⟩
 ·exact ⟨Nat.zero_le _,Nat.zero_le _,Nat.zero_le _⟩
structure HOk (n : Node) : Prop where
 ok : Ip n
 h0 : 0 ≤ n.phase
 l5 : n.finger.left.length ≤ 1000
 l6 : n.mirror.left.length ≤ 1000
 l7 : n.client.left.length ≤ 1000
 k5 : 0 ≤ n.finger.item.key.length
 k6 : 0 ≤ n.mirror.item.key.length
 k7 : 0 ≤ n.client.item.key.length
theorem Zh (n : Node) (h : HOk n) (w what place : Int) (x : Item) (hx : x.key.length ≤ 9223372036854775807) : Go.Gar.Fn Tryz.prog 52 [n.d,.i .u8 w,.i .u8 what,.i .i64 place,x.d] (.tup [(BI n w what place x).1.d,AI (BI n w what place x).2]):=by
 have:=Tu n.view what place x;exact Wk n h.ok w what place x hx (by omega) (by omega)
theorem bm {w : Int} (h1 : ¬ (1 ≤ w ∧ w ≤ 3)) (h2 : ¬ (5 ≤ w ∧ w ≤ 7)) : OM w [1,2,3,5,6,7] = true:=by
 simp only [OM];simp;omega
theorem N9 (n : Node) (w : Int) (j : Job) (hj : Ke n w = j) : (if (5 ≤ w ∧ w ≤ 7) ∧ (Ke n w).phase ≠ 5 then (Ar n w false ⟨CX (CW (Ke n w) 100),[],false⟩).1 else n) = if (5 ≤ w ∧ w ≤ 7) then (if j.phase = 5 then n else (Ar n w false ⟨CX (CW j 100),[],false⟩).1) else n:=by
 rw [hj]
 by_cases a : 5 ≤ w ∧ w ≤ 7
 ·rw [if_pos a]
  by_cases b : j.phase = 5
  ·rw [if_pos b,if_neg (fun h => h.2 b)]
  ·rw [if_neg b,if_pos ⟨a,b⟩]
 ·rw [if_neg a,if_neg (fun h => a h.1)]
theorem dR (n : Node) (h : HOk n) (w : Int) : Go.Gar.Fn Tryz.prog 154 [n.d,.i .u8 w] (DY n w).d:=by
 unfold DY
 cases hr : B0 n with
 | false =>
  rw [if_neg (by decide)]
  by_cases a1 : 1 ≤ w ∧ w ≤ 3
  ·have : w = 1 ∨ w = 2 ∨ w = 3:=by omega
   rcases this with e | e | e
   ·subst e;exact bno1 n h.ok hr
   ·subst e;exact bno2 n h.ok hr
   ·subst e;exact bno3 n h.ok hr
  by_cases a2 : 5 ≤ w ∧ w ≤ 7
  ·have : w = 5 ∨ w = 6 ∨ w = 7:=by omega
   rcases this with e | e | e
   ·subst e;exact bno5 n h.ok hr
   ·subst e;exact bno6 n h.ok hr
   ·subst e;exact bno7 n h.ok hr
  exact bx n w h.ok (bm a1 a2)
 | true =>
  obtain ⟨x0,x1⟩:=aX hr;rw [if_pos rfl]
  by_cases a1 : 1 ≤ w ∧ w ≤ 3
  ·rw [if_pos a1];have : w = 1 ∨ w = 2 ∨ w = 3:=by omega
   rcases this with e | e | e
   ·subst e;exact bok1 n h.ok hr
   ·subst e;exact bok2 n h.ok hr
   ·subst e;exact bok3 n h.ok hr
  rw [if_neg a1]
  by_cases a2 : 5 ≤ w ∧ w ≤ 7
  ·have : w = 5 ∨ w = 6 ∨ w = 7:=by omega
   rcases this with e | e | e
   ·subst e;rw [N9 n 5 n.finger rfl,if_pos a2];exact bok5 n h.ok hr x0 x1 (by have:=h.k5;omega)
   ·subst e;rw [N9 n 6 n.mirror rfl,if_pos a2];exact bok6 n h.ok hr x0 x1 (by have:=h.k6;omega)
   ·subst e;rw [N9 n 7 n.client rfl,if_pos a2];exact bok7 n h.ok hr x0 x1 (by have:=h.k7;omega)
  rw [if_neg (fun h => a2 h.1)];exact bx n w h.ok (bm a1 a2)
structure ec (L K : Nat) (j : Job) : Prop where
 l : j.left.length ≤ L
 k : j.item.key.length ≤ K
structure JB (L K : Nat) (n : Node) : Prop where
 f : ec L K n.finger
 m : ec L K n.mirror
 c : ec L K n.client
variable {L K : Nat}
theorem eL (k : List Item) (j : Job) (h : ec L K j) : ec L K (Bc k j).2:=by
 unfold Bc;split
 ·dsimp only;split
  ·exact ⟨h.l,h.k⟩
  ·exact h
 split
 ·dsimp only;split
  ·rename_i hg;refine ⟨h.l,?_⟩;dsimp only
   have hk : (Fu k j.item.key).1.key = j.item.key:=by
    unfold Fu at hg ⊢;split
    ·rename_i hc;rw [Bool.and_eq_true] at hc;obtain ⟨x,-,hx,hg2⟩:=HT hc.2;dsimp only;rw [hg2,hx]
    ·rename_i hc;rw [if_neg hc] at hg;cases hg
   rw [hk];exact h.k
  ·exact ⟨h.l,h.k⟩
 ·exact h
theorem Ze (n : Node) (w : Int) (e : Bool) (c : JC) (h : JB L K n) (hc : ec L K c.job) : JB L K (Ar n w e c).1:=by
 unfold Ar
 have hs : ec L K (if c.own then Bc n.keep c.job else (n.keep,c.job)).2:=by
  split
  ·exact eL _ _ hc
  ·exact hc
 generalize (if c.own then Bc n.keep c.job else (n.keep,c.job)) = s at *;dsimp only
 have h1 : JB L K (MH { n with keep:=s.1 } w s.2):=by
  unfold MH;split
  ·exact ⟨hs,h.m,h.c⟩
  split
  ·exact ⟨h.f,hs,h.c⟩
  ·exact ⟨h.f,h.m,hs⟩
 split
 ·exact ⟨h1.f,h1.m,h1.c⟩
 ·exact h1
theorem eQ (n : Node) (w what place : Int) (x : Item) (h : JB L K n) (hL : 3 ≤ L) (hx : x.key.length ≤ K) : JB L K (BI n w what place x).1:=by
 have:=Tu n.view what place x;unfold BI;split
 ·exact Ze _ _ _ _ h ⟨by omega,by omega⟩
 ·exact h
theorem dX {n : Node} (w : Int) (h : JB L K n) : ec L K (Ke n w):=by
 unfold Ke fX;split
 ·exact h.f
 split
 ·exact h.m
 split
 ·exact h.c
 ·exact ⟨Nat.zero_le _,Nat.zero_le _⟩
theorem gR (n : Node) (w : Int) (h : JB L K n) : JB L K (DY n w):=by
 have hj:=dX w h;unfold DY;split
 ·split
  ·exact ⟨h.f,h.m,h.c⟩
  split
  ·exact Ze _ _ _ _ h ⟨Nat.zero_le _,hj.k⟩
  ·exact h
 ·exact h
theorem bG (x : Int) : ∀ (l : List Int) (f : Int),rT x f l = true → ∀ y ∈ l,Am y = true
 | [],_,_,y,hy => by cases hy
 | p :: r,f,h,y,hy => by
  unfold rT at h;simp only [Bool.and_eq_true] at h;rcases List.mem_cons.1 hy with rfl | hy
  ·exact h.1.1
  ·exact bG x r _ h.2 y hy
theorem SE {y : Int} (h : Am y = true) : i64 y:=by have:=F3 h;unfold i64;omega
structure R7 (n : Node) : Prop where
 id : i64 n.view.id
 li : ∀ y ∈ n.view.list,i64 y
 ph : 0 ≤ n.phase
end Nd
end Go.Proofs.YtkljbfejbakooaaGreatDoor
