/- Part 39 of a proof, put together by a program. Conditions: none beyond those that a theorem states. -/
import Derived.Test.YtkljbfejbakooaaGreatDoorB37
import Derived.Test.YtkljbfejbakooaaGreatDoorB38
set_option linter.unusedSimpArgs false
set_option linter.unusedVariables false
set_option linter.unnecessarySimpa false
set_option maxHeartbeats 40000000
namespace Go.Proofs.YtkljbfejbakooaaGreatDoor
namespace Nd
open Go.Gar
open Wi (A8 B2 Ai AA BN mC)
set_option maxRecDepth 4000
structure Zp (L K : Nat) (j : Job) : Prop where
 l : j.left.length ≤ L
 k : j.item.key.length ≤ K
structure JB (L K : Nat) (n : Node) : Prop where
 f : Zp L K n.finger
 m : Zp L K n.mirror
 c : Zp L K n.client
variable {L K : Nat}
theorem Zd (k : List Item) (j : Job) (h : Zp L K j) : Zp L K (Fy k j).2:=by
 unfold Fy;split
 ·dsimp only;split
  ·exact ⟨h.l,h.k⟩
  ·exact h
 split
 ·dsimp only;split
  ·rename_i hg;refine ⟨h.l,?_⟩;dsimp only
   have hk : (Gn k j.item.key).1.key = j.item.key:=by
    unfold Gn at hg ⊢;split
    ·rename_i hc;rw [Bool.and_eq_true] at hc;obtain ⟨x,-,hx,hg2⟩:=Ks hc.2;dsimp only;rw [hg2,hx]
    ·rename_i hc;rw [if_neg hc] at hg;cases hg
   rw [hk];exact h.k
  ·exact ⟨h.l,h.k⟩
 ·exact h
theorem bP (n : Node) (w : Int) (e : Bool) (c : JC) (h : JB L K n) (hc : Zp L K c.job) : JB L K (Pg n w e c).1:=by
 unfold Pg
 have hs : Zp L K (if c.own then Fy n.keep c.job else (n.keep,c.job)).2:=by
  split
  ·exact Zd _ _ hc
  ·exact hc
 generalize (if c.own then Fy n.keep c.job else (n.keep,c.job)) = s at *;dsimp only
 have h1 : JB L K (QD { n with keep:=s.1 } w s.2):=by
  unfold QD;split
  ·exact ⟨hs,h.m,h.c⟩
  split
  ·exact ⟨h.f,hs,h.c⟩
  ·exact ⟨h.f,h.m,hs⟩
 split
 ·exact ⟨h1.f,h1.m,h1.c⟩
 ·exact h1
theorem ZC {n : Node} (w : Int) (h : JB L K n) : Zp L K (TB n w):=by
 unfold TB aP;split
 ·exact h.f
 split
 ·exact h.m
 split
 ·exact h.c
 ·exact ⟨Nat.zero_le _,Nat.zero_le _⟩
theorem bE (n : Node) (w : Int) (h : JB L K n) : JB L K (LP n w):=by
 have hj:=ZC w h;unfold LP;split
 ·split
  ·exact ⟨h.f,h.m,h.c⟩
  split
  ·exact bP _ _ _ _ h ⟨Nat.zero_le _,hj.k⟩
  ·exact h
 ·exact h
theorem XS (x : Int) : ∀ (l : List Int) (f : Int),rT x f l = true → ∀ y ∈ l,Bc y = true
 | [],_,_,y,hy => by cases hy
 | p :: r,f,h,y,hy => by
  unfold rT at h;simp only [Bool.and_eq_true] at h;rcases List.mem_cons.1 hy with rfl | hy
  ·exact h.1.1
  ·exact XS x r _ h.2 y hy
theorem Po {y : Int} (h : Bc y = true) : i64 y:=by have:=OE h;unfold i64;omega
structure Ox (n : Node) : Prop where
 id : i64 n.view.id
 li : ∀ y ∈ n.view.list,i64 y
 ph : 0 ≤ n.phase
end Nd
end Go.Proofs.YtkljbfejbakooaaGreatDoor
