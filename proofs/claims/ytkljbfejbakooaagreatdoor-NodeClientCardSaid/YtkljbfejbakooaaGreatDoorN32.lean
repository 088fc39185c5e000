/- Part 32 of a proof, put together by a program. Conditions: none beyond those that a theorem states. -/
import Derived.Test.YtkljbfejbakooaaGreatDoorN26
import Derived.Test.YtkljbfejbakooaaGreatDoorN31
set_option linter.unusedSimpArgs false
set_option linter.unusedVariables false
set_option linter.unnecessarySimpa false
set_option maxHeartbeats 40000000
namespace Go.Proofs.YtkljbfejbakooaaGreatDoor
namespace Nd
open Go.Gar
open Wi (A8 B7 AU AC B2 mC)
set_option maxRecDepth 4000
abbrev Qz : List Nat:=[0,1,4,5,6,11,16]
abbrev L5 : List Nat:=[0,1,4,5,6,7,11,12,33,38,59]
abbrev hC (n : Node) (aq : AV) : List AV:=.d (.i .i64 n.view.id) :: .d (.is n.view.base) :: .d (.is n.view.list) :: .d (.i .i64 n.view.pred) :: .d (.i .i64 (n.view.f 0)) :: .d (.i .i64 (n.view.f 1)) :: .d (.i .i64 (n.view.f 2)) :: .d (.i .i64 (n.view.f 3)) :: .d (.i .i64 (n.view.f 4)) :: .d (.i .i64 (n.view.f 5)) :: .d (.i .i64 (n.view.f 6)) :: .d (.i .i64 (n.view.f 7)) :: .d (.i .i64 (n.view.f 8)) :: .d (.i .i64 (n.view.f 9)) :: .d (.i .i64 (n.view.f 10)) :: .d (.i .i64 (n.view.f 11)) :: .d (.i .i64 (n.view.f 12)) :: .d (.i .i64 (n.view.f 13)) :: .d (.i .i64 (n.view.f 14)) :: .d (.i .i64 (n.view.f 15)) :: .d (.i .i64 n.clock) :: .d (.i .i64 n.calls.id) :: .d (.i .i64 n.calls.many) :: .d (BW n.calls.op) :: .d (AO n.seen) :: .d (.i .u8 n.phase) :: .d (.i .i64 n.of_) :: .d (.i .u8 n.finger.what) :: .d (.i .u8 n.finger.phase) :: .d (.i .i64 n.finger.look.key) :: .d (.i .i64 n.finger.look.at_) :: .d (.i .i64 n.finger.look.hops) :: .d (.b n.finger.look.slow) :: .d (.b n.finger.look.found) :: .d (.i .i64 n.finger.look.code) :: .d (.s n.finger.item.key) :: .d (.i .i64 n.finger.item.value) :: .d (.i .i64 n.finger.item.version) :: .d (.b n.finger.item.gone) :: .d (.i .i64 n.finger.owner) :: .d (.is n.finger.left) :: .d (.i .i64 n.finger.code) :: .d (.i .u8 n.mirror.what) :: .d (.i .u8 n.mirror.phase) :: .d (.i .i64 n.mirror.look.key) :: .d (.i .i64 n.mirror.look.at_) :: .d (.i .i64 n.mirror.look.hops) :: .d (.b n.mirror.look.slow) :: .d (.b n.mirror.look.found) :: .d (.i .i64 n.mirror.look.code) :: .d (.s n.mirror.item.key) :: .d (.i .i64 n.mirror.item.value) :: .d (.i .i64 n.mirror.item.version) :: .d (.b n.mirror.item.gone) :: .d (.i .i64 n.mirror.owner) :: .d (.is n.mirror.left) :: .d (.i .i64 n.mirror.code) :: .d (.i .u8 n.client.what) :: .d (.i .u8 n.client.phase) :: .d (.i .i64 n.client.look.key) :: .d (.i .i64 n.client.look.at_) :: .d (.i .i64 n.client.look.hops) :: .d (.b n.client.look.slow) :: .d (.b n.client.look.found) :: .d (.i .i64 n.client.look.code) :: .d (.s n.client.item.key) :: .d (.i .i64 n.client.item.value) :: .d (.i .i64 n.client.item.version) :: .d (.b n.client.item.gone) :: .d (.i .i64 n.client.owner) :: .d (.is n.client.left) :: .d (.i .i64 n.client.code) :: .d (.i .i64 n.next) :: .d (.s n.last) :: .d (AW n.keep) :: .d (.i .i64 n.bad) :: aq :: []
theorem Ic (n : Node) : Ao Tryz.prog 136 [.ptr 0 0 77,.d (.i .u8 5)] [.c (hC n .e0)] (.ptr 0 27 77) [.c (hC n .e0)]:=by
 refine zD A6 Tryz.func136 ?_;refine wk Qz [] A0 A0 ?_;exact ⟨_,(A3.ck rfl),Nat.le_of_ble_eq_true rfl,_,_,rfl,rfl,rfl,rfl⟩
theorem Ie (n : Node) : Ao Tryz.prog 136 [.ptr 0 0 77,.d (.i .u8 6)] [.c (hC n .e0)] (.ptr 0 42 77) [.c (hC n .e0)]:=by
 refine zD A6 Tryz.func136 ?_;refine wk Qz [] A0 A0 ?_;exact ⟨_,(A3.ck rfl),Nat.le_of_ble_eq_true rfl,_,_,rfl,rfl,rfl,rfl⟩
theorem If (n : Node) : Ao Tryz.prog 136 [.ptr 0 0 77,.d (.i .u8 7)] [.c (hC n .e0)] (.ptr 0 57 77) [.c (hC n .e0)]:=by
 refine zD A6 Tryz.func136 ?_;refine wk Qz [] A0 A0 ?_;exact ⟨_,(A3.ck rfl),Nat.le_of_ble_eq_true rfl,_,_,rfl,rfl,rfl,rfl⟩
abbrev hK (n : Node) (k : List Item) : Node:={ n with keep:=k }
theorem Qm (n : Node) (j : Job) (hn : n.keep.length ≤ 1048576) (hs : 0 ≤ j.item.key.length) : Ao Tryz.prog 208 [.ptr 0 0 77,.ptr 1 0 15] [.c (hC n .e0),.c (Kc j (.d (.is j.left)))] (.tup []) [.c (hC (hK n (Bc n.keep j).1) .e0),.c (Kc (Bc n.keep j).2 (.d (.is (Bc n.keep j).2.left)))]:=by
 obtain ⟨what,phase,look,item,owner,left,code⟩:=j;have c1:=db n.keep item hn;have c2:=dZ n.keep item.key hn;generalize hT : Bc n.keep ⟨what,phase,look,item,owner,left,code⟩ = T;unfold Bc at hT;dsimp only at hT;unfold Item.d Item.cells at c1;refine zD A6 Tryz.func208 ?_;generalize Hc n.keep item = p at *;obtain ⟨pk,pe⟩:=p;generalize Fu n.keep item.key = g at *;obtain ⟨gi,ge⟩:=g;dsimp only at *;unfold hC
 by_cases h1 : what = 2
 ·have f1:=AS h1;rw [if_pos h1] at hT
  by_cases h2 : pe = 0
  ·have f2:=AS h2;rw [if_neg (fun h => h h2)] at hT;subst hT;refine wd L5 [] [] (Aj f1 f2) (AF @c1) ?_;with_reducible repeat' first|constructor|intro hc;try simp only[AD] at hc
   exact ⟨⟨[],[.c (hC (hK n pk) .e0),.c (Kc ⟨what,phase,look,item,owner,left,code⟩ (.d (.is left)))],_⟩,(A3.ck rfl),Nat.le_of_ble_eq_true rfl,_,_,rfl,rfl,rfl,rfl⟩
  ·have f2:=eq_false' h2;rw [if_pos h2] at hT;subst hT;refine wd L5 [] [] (Aj f1 f2) (AF @c1) ?_;with_reducible repeat' first|constructor|intro hc;try simp only[AD] at hc
   exact ⟨⟨[],[.c (hC (hK n pk) .e0),.c (Kc ⟨what,phase,look,item,owner,left,pe⟩ (.d (.is left)))],_⟩,(A3.ck rfl),Nat.le_of_ble_eq_true rfl,_,_,rfl,rfl,rfl,rfl⟩
 rw [if_neg h1] at hT;have f1:=eq_false' h1
 by_cases h3 : what = 3
 ·have f3:=AS h3;rw [if_pos h3] at hT;unfold Item.d Item.cells at c2
  by_cases h2 : ge = 0
  ·have f2:=AS h2;rw [if_pos h2] at hT;subst hT;subst h2;refine wd L5 [] [(0,14),(1,14),(2,14),(3,14),(4,14),(5,14),(6,14),(7,14),(8,14),(9,14),(13,15)] (Aj f1 f3) (AF @c2) ?_;exact ⟨⟨[],[.c (hC (hK n n.keep) .e0),.c (Kc ⟨what,phase,look,gi,owner,left,0⟩ (.d (.is left)))],_⟩,(A3.ck rfl),Nat.le_of_ble_eq_true rfl,_,_,rfl,rfl,rfl,rfl⟩
  ·have f2:=eq_false' h2;rw [if_neg h2] at hT;subst hT;refine wd L5 [] [(0,14),(1,14),(2,14),(3,14),(4,14),(5,14),(6,14),(7,14),(8,14),(9,14),(13,15)] (Dl f1 f2 f3) (AF @c2) ?_;exact ⟨⟨[],[.c (hC (hK n n.keep) .e0),.c (Kc ⟨what,phase,look,item,owner,left,ge⟩ (.d (.is left)))],_⟩,(A3.ck rfl),Nat.le_of_ble_eq_true rfl,_,_,rfl,rfl,rfl,rfl⟩
 ·have f3:=eq_false' h3;rw [if_neg h3] at hT;subst hT;refine wd L5 [] [] (Aj f1 f3) A0 ?_;exact ⟨⟨[],[.c (hC (hK n n.keep) .e0),.c (Kc ⟨what,phase,look,item,owner,left,code⟩ (.d (.is left)))],_⟩,(A3.ck rfl),Nat.le_of_ble_eq_true rfl,_,_,rfl,rfl,rfl,rfl⟩
theorem ba (n : Node) (w : Int) (h5 : w ≠ 5) (h6 : w ≠ 6) (h7 : w ≠ 7) : Ao Tryz.prog 136 [.ptr 0 0 77,.d (.i .u8 w)] [.c (hC n .e0)] (.d .np) [.c (hC n .e0)]:=by
 have f5:=eq_false' h5;have f6:=eq_false' h6;have f7:=eq_false' h7;refine zD A6 Tryz.func136 ?_;refine wk [0,1,4,5,6,11,16] [] (Dl f5 f6 f7) A0 ?_;exact ⟨_,(A3.ck rfl),Nat.le_of_ble_eq_true rfl,_,_,rfl,rfl,rfl,rfl⟩
theorem S5 (n : Node) (h : Ip n) (w what place : Int) (x : Item) (h5 : w ≠ 5) (h6 : w ≠ 6) (h7 : w ≠ 7) : Go.Gar.Fn Tryz.prog 52 [n.d,.i .u8 w,.i .u8 what,.i .i64 place,x.d] (.tup [n.d,AI []]):=by
 have c1:=BQ n h;have c2:=ba n w h5 h6 h7;refine zF A6 Tryz.func52 ?_;unfold Node.d Node.cells View.cells Calls.cells Job.cells Item.d Item.cells at *;unfold hC at c2;simp only [List.cons_append,List.nil_append] at *;have d1:=Ds.mk [3] (c2);have sc : No 3:=trivial;refine wd [0,1,2,3,4,5,9,10,11,12,13,14,15,27] [] [(2,4),(3,4)] A0 (AF @c1) ?_;clear sc d1;exact zE
end Nd
end Go.Proofs.YtkljbfejbakooaaGreatDoor
namespace Go.Proofs.YtkljbfejbakooaaGreatDoor
namespace Nd
open Go.Gar
open Wi (A8 B7 AU AC B2)
set_option maxRecDepth 4000
abbrev Mj : List Nat:=[0,1,2,4,5,9,10]
theorem Qj (n : Int) : Go.Gar.Fn Tryz.prog 362 [.i .i64 n] (.i .i64 (Bj n)):=by
 have e:=Yh n;refine zF A6 Tryz.func362 ?_;refine wk [0,2] [] (AF e) A0 ?_;exact zE
theorem dm (n : Int) (b : UInt8) : Go.Gar.Fn Tryz.prog 364 [.i .i64 n,.i .u8 (b.toNat : Int)] (.i .i64 (aQ n b)):=by
 have c1:=Qj n;have c2:=Qj (40503 * Bj n + (b.toNat : Int) + 1);have hp:=IX n;have hb : b.toNat < 256:=b.toNat_lt;have hT : aQ n b = Bj (40503 * Bj n + (b.toNat : Int) + 1):=rfl;rw [hT];clear hT;refine zF A6 Tryz.func364 ?_;generalize Bj n = p at *;refine wk [0,1,4] [] A0 (Aj @c1 @c2) ?_;exact zE
theorem Yy (s : List UInt8) : Ao Tryz.prog 363 [.d (.s s)] [] (.fn (.func 368) [] [.ptr 0 0 1]) [.c [.d (.s s)]]:=by
 refine zD A6 Tryz.func363 ?_;refine wk [0,1,2] [] A0 A0 ?_;exact ⟨_,(A3.ck rfl),Nat.zero_le _,_,_,rfl,rfl,rfl,rfl⟩
theorem aP (s : List UInt8) (hs : s.length ≤ 9223372036854775807) : Go.Gar.Fn Tryz.prog 338 [.i .i64 7,.s s] (.i .i64 (QN s)):=by
 have c1:=Qj 7;have c2:=Yy s;refine zF A6 Tryz.func338 ?_;rw [show Bj 7 = 7 from rfl] at c1;have d1:=Ds.mk [] (c2);refine wk Mj [] A0 (AF @c1) ?_;clear d1;refine zG (K:=fun r _ H' => H' = [.c [.d (.i .i64 (QN s))],.c [.d (.s s)],.lp r]) ?_ ?_
 ·intro r hr;have hk:=hr.ok (k:=2) rfl
  have hY : ∀ (b : UInt8) p,YT Tryz.prog 2 [.d (.i .u8 (b.toNat : Int))] [.c [.d (.i .i64 p)],.c [.d (.s s)],.lp r] fun x K => x = .d (.b true) ∧ K = [.c [.d (.i .i64 (aQ p b))],.c [.d (.s s)],.lp r]:=by
   intro b p;have c3:=dm p b;refine Az hr rfl rfl rfl ?_;refine wk Mj [] A0 A0 ?_;refine zR ?_;refine wk Mj [] A0 (AF @c3) ?_;exact ⟨_,A3.refl _,Nat.le_refl _,rfl,rfl,rfl⟩
  refine zT A6 Tryz.func368 ?_;refine wk [0,1,3,5,6,7,14] [] A0 A0 ?_;refine Cj (fun j => j ≤ s.length) (fun j : Nat => [(6,.d (.i .i64 j))]) (fun j => [(0,.c [.d (.i .i64 (QN (s.take j)))])]) (fun j => s.length - j) 0 (Nat.zero_le _) (fun _ => rfl) (fun _ => rfl) ?_ ?_
  ·exact A3.ck rfl
  intro j hj
  by_cases hjl : j < s.length
  ·obtain ⟨b,hq⟩:=Aa hjl;have gq : s.getD j 0 = b:=getD_at hq;have hn : QN (s.take (j + 1)) = aQ (QN (s.take j)) b:=by unfold QN;rw [AP hq,List.foldl_append];rfl
   have q1:=@hY;refine wk [0,1,3,5,6,7,14] [] (AF gq) A0 ?_;clear q1;with_reducible repeat' first|constructor|intro hc;try simp only[AD] at hc
   refine ⟨j + 1,hjl,by omega,Nat.le_refl _,?_⟩;exact (have nC:=hn;A3.cn rfl)
  ·have e : j = s.length:=by omega
   subst e;rw [List.take_length];refine wk [0,1,3,5,6,7,14] [] A0 A0 ?_;with_reducible repeat' first|constructor|intro hc;try simp only[AD] at hc
   exact ⟨_,A3.refl _,Nat.le_refl _,_,_,rfl,rfl,rfl⟩
 ·rintro r hr x H' rfl;refine .inl ⟨rfl,?_⟩;refine wk Mj [] A0 A0 ?_;exact zE
theorem aR (s : List UInt8) (hs : s.length ≤ 9223372036854775807) : Go.Gar.Fn Tryz.prog 292 [.s s] (.tup [.i .i64 (Nf s).1,.i .i64 (Nf s).2]):=by
 have c1:=aP s hs;have hT : Nf s = if B2 s then (QN s,0) else (0,2):=rfl
 have hK : B2 s = (decide ((s.length : Int) ≥ 1) && decide ((s.length : Int) ≤ 20)):=rfl;generalize QN s = g at *;generalize Nf s = R at *;refine zF A6 Tryz.func292 ?_
 by_cases h : B2 s = true
 ·rw [if_pos h] at hT;rw [h] at hK;have hK':=hK.symm;simp only [Bool.and_eq_true,decide_eq_true_eq] at hK';have f1 : decide ((s.length : Int) < 1) = false:=decide_eq_false (by omega);have f2 : decide ((s.length : Int) > 20) = false:=decide_eq_false (by omega);rw [hT];have sc : No 3:=trivial;refine wk [0,2,3,11] [] (Aj f1 f2) (AF @c1) ?_;clear sc;exact zE
 ·have h' : B2 s = false:=by simpa using h
  rw [if_neg h] at hT;rw [h'] at hK;have hK':=hK.symm;rw [hT]
  by_cases h1 : (s.length : Int) < 1
  ·have f1 : decide ((s.length : Int) < 1) = true:=decide_eq_true h1;have sc : No 3:=trivial;refine wk [0,2,3,11] [] (AF f1) A0 ?_;clear sc;exact zE
  ·have f1 : decide ((s.length : Int) < 1) = false:=decide_eq_false h1
   have f2 : decide ((s.length : Int) > 20) = true:=decide_eq_true (by
    simp only [Bool.and_eq_false_iff,decide_eq_false_iff_not] at hK';omega)
   have sc : No 3:=trivial;refine wk [0,2,3,11] [] (Aj f1 f2) A0 ?_;clear sc;exact zE
end Nd
end Go.Proofs.YtkljbfejbakooaaGreatDoor
namespace Go.Proofs.YtkljbfejbakooaaGreatDoor
namespace Nd
open Go.Gar
open Wi (A8 B7 AU AC B2 mC)
set_option maxRecDepth 4000
abbrev JJ : List Nat:=[0,1,2,5,6,7,8,9,10,11,12,13,14,24,40]
theorem Yt (what place : Int) (x : Item) (hs : x.key.length ≤ 9223372036854775807) : Go.Gar.Fn Tryz.prog 213 [.i .u8 what,.i .i64 place,x.d] (.tup [.i .i64 (Ga what place x).1,(Ga what place x).2.1.d,.b (Ga what place x).2.2]):=by
 obtain ⟨key,value,version,gone⟩:=x;have c1:=aR key hs;have c2:=Wi.Iq ⟨key,value,version,gone⟩;unfold Ga;dsimp only;generalize Nf key = q at *;obtain ⟨a,e⟩:=q;refine zF A6 Tryz.func213 ?_;unfold Item.d Item.cells at *
 by_cases h1 : what = 1
 ·have f1:=AS h1;rw [if_pos h1]
  by_cases h2 : 0 ≤ place
  ·have f2 : decide (place ≥ 0) = true:=decide_eq_true h2;rw [decide_eq_true h2];refine wd JJ [] [] (Aj f1 f2) A0 ?_;refine ⟨_,_,rfl,rfl,?_⟩;simp [AR,AB,A7,A4,AE]
  ·have f2 : decide (place ≥ 0) = false:=decide_eq_false h2;rw [decide_eq_false h2];refine wd JJ [] [] (Aj f1 f2) A0 ?_;refine ⟨_,_,rfl,rfl,?_⟩;simp [AR,AB,A7,A4,AE]
 have f1:=eq_false' h1;rw [if_neg h1]
 by_cases h2 : what = 2
 ·have f2:=AS h2;rw [if_pos h2]
  by_cases h3 : e = 0
  ·have f3:=AS h3;rw [decide_eq_true h3];refine wd JJ [] [] (Dl f1 f2 f3) (Aj @c1 @c2) ?_;exact zE
  ·have f3:=eq_false' h3;rw [decide_eq_false h3];refine wd JJ [] [] (Dl f1 f2 f3) (Aj @c1 @c2) ?_;exact zE
 have f2:=eq_false' h2;rw [if_neg h2]
 by_cases h3 : what = 3
 ·have f3:=AS h3;have f4 : (e == 0) = decide (e = 0):=rfl;rw [if_pos h3];refine wd JJ [] [] (M9 f1 f2 f3 f4) (AF @c1) ?_;exact zE
 ·have f3:=eq_false' h3;rw [if_neg h3];refine wd JJ [] [] (Dl f1 f2 f3) A0 ?_;refine ⟨_,_,rfl,rfl,?_⟩;simp [AR,AB,A7,A4,AE]
end Nd
end Go.Proofs.YtkljbfejbakooaaGreatDoor
