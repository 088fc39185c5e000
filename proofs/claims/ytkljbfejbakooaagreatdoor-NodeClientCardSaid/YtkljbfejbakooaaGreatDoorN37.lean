/- Part 37 of a proof, put together by a program. Conditions: none beyond those that a theorem states. -/
import Derived.Test.YtkljbfejbakooaaGreatDoorN34
set_option linter.unusedSimpArgs false
set_option linter.unusedVariables false
set_option linter.unnecessarySimpa false
set_option maxHeartbeats 40000000
namespace Go.Proofs.YtkljbfejbakooaaGreatDoor
namespace Nd
open Go.Gar
open Wi (A8 B7 AU AC B2 mC)
set_option maxRecDepth 4000
abbrev W3 : List Nat:=[0,1,2,3,4,5,6,7,8,9,10,11,12,33]
theorem hx (n : Node) (c : Call) (m : A8) (h : Ip n) (hw : OM c.why [1,2,3,5,6,7] = true) : Go.Gar.Fn Tryz.prog 49 [n.d,c.d,m.d] (.tup [n.d,AI []]):=by
 obtain ⟨cid,msg,why,ref,sent,tries⟩:=c;dsimp only at hw;have cO:=BQ n h;have cR:=BA n h;have cT:=Wm n m;refine zF A6 Tryz.func49 ?_;unfold Node.d Node.cells View.cells Calls.cells Job.cells Call.d Call.cells Wi.A8.d Wi.A8.cells at *;unfold hC ka Zg Zf at *;have d1:=Ds.mk [4,2] (cT);have lk1:=hw;have sc : No 3:=trivial;refine wd W3 [5] [(3,2),(4,2)] A0 (AF @cO) ?_;clear sc lk1 d1;have sc : No 3:=trivial;refine wd W3 [] [(2,4),(3,4)] A0 A0 ?_;clear sc;exact zE
end Nd
end Go.Proofs.YtkljbfejbakooaaGreatDoor
namespace Go.Proofs.YtkljbfejbakooaaGreatDoor
namespace Nd
open Go.Gar
open Wi (A8 B7)
set_option maxRecDepth 4000
abbrev HC : List Nat:=[0,1,2,3,4,28,33,109]
theorem XR (c : Calls) (hl : ∀ x ∈ c.op,C3 x.msg) (hn : c.op.length ≤ 9223372036854775807) : Go.Gar.Fn Tryz.prog 32 [c.d] (.b (Bh c)):=by
 obtain ⟨id,many,op⟩:=c;replace hl : ∀ x ∈ op,C3 x.msg:=hl;replace hn : op.length ≤ 9223372036854775807:=hn;refine zF A6 Tryz.func32 ?_;unfold Calls.d Calls.cells
 cases hh : Ly ⟨id,many,op⟩ with
 | false =>
  have hT : Bh ⟨id,many,op⟩ = false:=by unfold Bh;rw [hh];rfl
  refine wd HC [] [] A0 A0 ?_;with_reducible repeat' first|constructor|intro hc;try simp only[AD] at hc
  all_goals first
   | (refine ⟨_,_,rfl,rfl,?_⟩;simp only [Bi];rw [hT];done)
   | (exfalso;simp [Ly,B7] at hh;omega)
 | true =>
 have hT : Bh ⟨id,many,op⟩ = Ez op.length (Gp ⟨id,many,op⟩):=by unfold Bh;rw [hh];rfl
 simp only [Ly,B7,Bool.and_eq_true,decide_eq_true_eq] at hh;obtain ⟨⟨h1,h2⟩,h3,h4,h5⟩:=hh;have f1 : decide (id < 0) = false:=decide_eq_false (by omega);have f2 : decide (id ≥ 65536) = false:=decide_eq_false (by omega);have f3 : decide (many < 0) = false:=decide_eq_false (by omega);have f4 : decide (many > 1048576) = false:=decide_eq_false (by omega);have f5 : decide ((op.length : Int) > 16) = false:=decide_eq_false (by omega);refine wd HC [] [] (R2 f1 f2 f3 f4 f5) A0 ?_;refine Cz (fun k => k ≤ op.length ∧ Ez k (Gp ⟨id,many,op⟩) = true) (fun k : Nat => [(3,.d (.i .i64 k))]) (fun k => op.length - k) 0 ⟨Nat.zero_le _,rfl⟩ (fun _ => rfl) ?_ ?_
 ·exact A3.ck rfl
 rintro k ⟨hk,hpre⟩
 by_cases hkl : k < op.length
 ·obtain ⟨x,hx⟩:=Aa hkl;have gx : op.getD k Hw = x:=getD_at hx;have c1:=Wi.Nv x.msg;have c2:=Wi.J9 x.msg (lm (hl x (List.mem_of_getElem? hx)));have c3:=bV x.sent;have hK : Gp ⟨id,many,op⟩ k = ((x.msg.right && (x.msg.asks && (decide (x.msg.src = id) && (decide (x.id = x.msg.call) && (decide (x.id ≤ id * 1048576 + many) && (decide (1 ≤ x.tries) && (decide (x.tries ≤ 3) && GX x.sent))))))) && decide (k = 0 ∨ (op.getD (k - 1) Hw).id < x.id)):=by unfold Gp F0;rw [gx]
  unfold A8.d A8.cells at c1 c2;generalize x.msg.right = rr at *;generalize x.msg.asks = aa at *;generalize GX x.sent = tt at *;generalize Gp ⟨id,many,op⟩ = K at *
  by_cases h0 : k = 0
  ·have f6 : decide ((k : Int) > 0) = false:=decide_eq_false (by omega);have ix1:=hx;refine wd HC [] [] (AF f6) (Dl @c1 @c2 @c3) ?_;clear ix1;with_reducible repeat' first|constructor|intro hc;try simp only[AD] at hc
   all_goals clear c1 c2 c3
   all_goals first
    | (refine ⟨k + 1,⟨hkl,Du hpre (by rw [hK];grind)⟩,by omega,Nat.le_refl _,?_⟩
       exact A3.ck rfl)
    | (refine ⟨_,_,rfl,rfl,?_⟩;simp only [Bi];rw [hT,Fj hkl (by rw [hK];grind)])
  ·have f6 : decide ((k : Int) > 0) = true:=decide_eq_true (by omega);have e1 : (k : Int) - 1 = ((k - 1 : Nat) : Int):=by omega
   obtain ⟨y,hy⟩:=Aa (xs:=op) (k:=k - 1) (by omega);have gy : op.getD (k - 1) Hw = y:=getD_at hy;rw [gy] at hK;have ix1:=hx;have ix2:=hy;refine wd HC [] [] (Aj f6 e1) (Dl @c1 @c2 @c3) ?_;clear ix2 ix1;with_reducible repeat' first|constructor|intro hc;try simp only[AD] at hc
   all_goals clear c1 c2 c3
   all_goals first
    | (refine ⟨k + 1,⟨hkl,Du hpre (by rw [hK];grind)⟩,by omega,Nat.le_refl _,?_⟩
       exact A3.ck rfl)
    | (refine ⟨_,_,rfl,rfl,?_⟩;simp only [Bi];rw [hT,Fj hkl (by rw [hK];grind)])
 ·have e : k = op.length:=by omega
  subst e;rw [hpre] at hT;refine wd HC [] [] A0 A0 ?_;with_reducible repeat' first|constructor|intro hc;try simp only[AD] at hc
  refine ⟨_,_,rfl,rfl,?_⟩;simp [AR,AB,A7,A4,hT]
end Nd
end Go.Proofs.YtkljbfejbakooaaGreatDoor
namespace Go.Proofs.YtkljbfejbakooaaGreatDoor
namespace Nd
open Go.Gar
open Wi (A8 B7 AU)
set_option maxRecDepth 4000
abbrev FZ : List Nat:=[0,2,3,4,5,7,11,44,56]
theorem bR (l : List Past) (hl : ∀ x ∈ l,C3 x.told) (hn : l.length ≤ 9223372036854775807) : Go.Gar.Fn Tryz.prog 33 [AO l] (.b (FB l)):=by
 refine zF A6 Tryz.func33 ?_;have hT : FB l = (decide (l.length ≤ 40) && Ez l.length (Di l)):=rfl;refine wd FZ [] [] A0 A0 ?_;refine Cz (fun k => k ≤ l.length ∧ Ez k (Di l) = true) (fun k : Nat => [(3,.d (.i .i64 k))]) (fun k => l.length - k) 0 ⟨Nat.zero_le _,rfl⟩ (fun _ => rfl) ?_ ?_
 ·exact A3.ck rfl
 rintro k ⟨hk,hpre⟩
 by_cases hkl : k < l.length
 ·obtain ⟨x,hx⟩:=Aa hkl;have gx : l.getD k PT = x:=getD_at hx;have hlx:=hl x (List.mem_of_getElem? hx);have hK : Di l k = (Jz x && !((l.take k).any (Je x.src x.call))):=by unfold Di;rw [gx]
  have c1:=il x.told hlx;have hO : Jz x = (x.told.right && (!x.told.asks && (decide (x.told.dst = x.src) && decide (x.told.call = x.call)))):=rfl;have c2:=XN (l.take k) x.told.dst x.told.call (fun y hy => hl y (List.mem_of_mem_take hy)) (by rw [List.length_take];omega);unfold Past.d Past.cells at c1;unfold A8.d A8.cells at c1 c2;have e1 : List.take k (List.map Past.cells l) = List.map Past.cells (List.take k l):=(List.map_take ..).symm;generalize Ol (l.take k) x.told.dst x.told.call = fm at *
  cases hb : x.told.right && !x.told.asks with
  | false =>
   rw [hb] at c1;simp only [Bool.false_eq_true,if_false] at c1;have hN : Di l k = false:=by rw [hK,hO];revert hb;cases x.told.right <;> cases x.told.asks <;> simp
   have ix1:=hx;refine wd FZ [] [] A0 (AF @c1) ?_;clear ix1;with_reducible repeat' first|constructor|intro hc;try simp only[AD] at hc
   all_goals (clear c1 c2;refine ⟨_,_,rfl,rfl,?_⟩;simp only [Bi];rw [hT,Fj hkl hN,Bool.and_false])
  | true =>
   rw [hb] at c1;simp only [if_true] at c1;rw [Bool.and_eq_true] at hb;rw [hb.1,hb.2,Bool.true_and,Bool.true_and] at hO
   by_cases h1 : x.told.dst = x.src
   ·by_cases h2 : x.told.call = x.call
    ·have f1 : (x.told.dst != x.src) = false:=CI h1;have f2 : (x.told.call != x.call) = false:=CI h2;have hN : Di l k = !((l.take k).any (Je x.told.dst x.told.call)):=by rw [hK,hO,h1,h2];simp
     generalize (l.take k).any (Je x.told.dst x.told.call) = tw at *;have ix1:=hx;refine wd FZ [] [(3,11),(4,11),(5,11),(6,11)] (Dl f1 f2 e1) (Aj @c1 @c2) ?_;clear ix1;with_reducible repeat' first|constructor|intro hc;try simp only[AD] at hc
     all_goals clear c1 c2
     all_goals first
      | (refine ⟨k + 1,⟨hkl,Du hpre (by rw [hN];grind)⟩,by omega,Nat.le_refl _,?_⟩
         exact A3.ck rfl)
      | (refine ⟨_,_,rfl,rfl,?_⟩;simp only [Bi];rw [hT,Fj hkl (by rw [hN];grind),Bool.and_false])
    ·have f1 : (x.told.dst != x.src) = false:=CI h1;have f2 : (x.told.call != x.call) = true:=CJ h2;have hN : Di l k = false:=by rw [hK,hO];simp [h2]
     have ix1:=hx;refine wd FZ [] [] (Aj f1 f2) (AF @c1) ?_;clear ix1;with_reducible repeat' first|constructor|intro hc;try simp only[AD] at hc
     all_goals (clear c1 c2;refine ⟨_,_,rfl,rfl,?_⟩;simp only [Bi];rw [hT,Fj hkl hN,Bool.and_false])
   ·have f1 : (x.told.dst != x.src) = true:=CJ h1;have hN : Di l k = false:=by rw [hK,hO];simp [h1]
    have ix1:=hx;refine wd FZ [] [] (AF f1) (AF @c1) ?_;clear ix1;with_reducible repeat' first|constructor|intro hc;try simp only[AD] at hc
    all_goals (clear c1 c2;refine ⟨_,_,rfl,rfl,?_⟩;simp only [Bi];rw [hT,Fj hkl hN,Bool.and_false])
 ·have e : k = l.length:=by omega
  subst e;rw [hpre] at hT;refine wd FZ [] [] A0 A0 ?_;with_reducible repeat' first|constructor|intro hc;try simp only[AD] at hc
  all_goals (refine ⟨_,_,rfl,rfl,?_⟩;simp only [Bi];rw [hT];simp;try omega)
end Nd
end Go.Proofs.YtkljbfejbakooaaGreatDoor
