/- Part 36 of a proof, put together by a program. Conditions: none beyond those that a theorem states. -/
import Derived.Test.YtkljbfejbakooaaGreatDoorN33
import Derived.Test.YtkljbfejbakooaaGreatDoorN35
set_option linter.unusedSimpArgs false
set_option linter.unusedVariables false
set_option linter.unnecessarySimpa false
set_option maxHeartbeats 40000000
namespace Go.Proofs.YtkljbfejbakooaaGreatDoor
namespace Nd
open Go.Gar
open Wi (A8 B7 AU AC B2 mC)
set_option maxRecDepth 4000
abbrev JL : List Nat:=[0,1,2,3,4,5,9,10,11,12,13,14,15,27]
theorem Tg (n : Node) (h : Ip n) (what place : Int) (x : Item) (hr : B0 n = false) : Go.Gar.Fn Tryz.prog 52 [n.d,.i .u8 5,.i .u8 what,.i .i64 place,x.d] (.tup [n.d,AI []]):=by
 have cO:=BQ n h;have cS:=Ic n;have cR:=BA n h;rw [hr] at cR;refine zF A6 Tryz.func52 ?_;unfold Node.d Node.cells View.cells Calls.cells Job.cells Item.d Item.cells at *;unfold hC at cS;have d1:=Ds.mk [3] (cS);have sc : No 3:=trivial;refine wd JL [] [(2,4),(3,4)] A0 (Aj @cO @cR) ?_;clear sc d1;exact zE
theorem Tk (n : Node) (h : Ip n) (what place : Int) (x : Item) (hr : B0 n = true) (hx0 : 0 ≤ n.next) (hx1 : n.next < 16) (hs : x.key.length ≤ 9223372036854775807) (ha : (C7 n.view what place x).asks.length ≤ 100000) (hk : 0 ≤ (C7 n.view what place x).job.item.key.length) : Go.Gar.Fn Tryz.prog 52 [n.d,.i .u8 5,.i .u8 what,.i .i64 place,x.d] (.tup [(Ar n 5 false (C7 n.view what place x)).1.d,AI (Ar n 5 false (C7 n.view what place x)).2]):=by
 have cO:=BQ n h;have cS:=Ic n;have cR:=BA n h;rw [hr] at cR;have cB:=LS n.view what place x h.vb h.vl hs;have cG:=MY n 5 false (C7 n.view what place x) (by decide) ha hx0 hx1 h.vb h.vl h.kn hk;generalize Ar n 5 false (C7 n.view what place x) = r at *;generalize C7 n.view what place x = c at *;refine zF A6 Tryz.func52 ?_;unfold View.d Job.d at *;unfold Node.d Node.cells View.cells Calls.cells Job.cells Item.d Item.cells at *;unfold hC at cS cG;have d1:=Ds.mk [3] (cS);have d2:=Ds.mk [3] (cG);have sc : No 3:=trivial;refine wd JL [] [(2,4),(3,4)] A0 (Dl @cO @cR @cB) ?_;clear sc d2 d1;exact zE
theorem Ti (n : Node) (h : Ip n) (what place : Int) (x : Item) (hr : B0 n = false) : Go.Gar.Fn Tryz.prog 52 [n.d,.i .u8 6,.i .u8 what,.i .i64 place,x.d] (.tup [n.d,AI []]):=by
 have cO:=BQ n h;have cS:=Ie n;have cR:=BA n h;rw [hr] at cR;refine zF A6 Tryz.func52 ?_;unfold Node.d Node.cells View.cells Calls.cells Job.cells Item.d Item.cells at *;unfold hC at cS;have d1:=Ds.mk [3] (cS);have sc : No 3:=trivial;refine wd JL [] [(2,4),(3,4)] A0 (Aj @cO @cR) ?_;clear sc d1;exact zE
theorem Tl (n : Node) (h : Ip n) (what place : Int) (x : Item) (hr : B0 n = true) (hx0 : 0 ≤ n.next) (hx1 : n.next < 16) (hs : x.key.length ≤ 9223372036854775807) (ha : (C7 n.view what place x).asks.length ≤ 100000) (hk : 0 ≤ (C7 n.view what place x).job.item.key.length) : Go.Gar.Fn Tryz.prog 52 [n.d,.i .u8 6,.i .u8 what,.i .i64 place,x.d] (.tup [(Ar n 6 false (C7 n.view what place x)).1.d,AI (Ar n 6 false (C7 n.view what place x)).2]):=by
 have cO:=BQ n h;have cS:=Ie n;have cR:=BA n h;rw [hr] at cR;have cB:=LS n.view what place x h.vb h.vl hs;have cG:=MY n 6 false (C7 n.view what place x) (by decide) ha hx0 hx1 h.vb h.vl h.kn hk;generalize Ar n 6 false (C7 n.view what place x) = r at *;generalize C7 n.view what place x = c at *;refine zF A6 Tryz.func52 ?_;unfold View.d Job.d at *;unfold Node.d Node.cells View.cells Calls.cells Job.cells Item.d Item.cells at *;unfold hC at cS cG;have d1:=Ds.mk [3] (cS);have d2:=Ds.mk [3] (cG);have sc : No 3:=trivial;refine wd JL [] [(2,4),(3,4)] A0 (Dl @cO @cR @cB) ?_;clear sc d2 d1;exact zE
theorem Tj (n : Node) (h : Ip n) (what place : Int) (x : Item) (hr : B0 n = false) : Go.Gar.Fn Tryz.prog 52 [n.d,.i .u8 7,.i .u8 what,.i .i64 place,x.d] (.tup [n.d,AI []]):=by
 have cO:=BQ n h;have cS:=If n;have cR:=BA n h;rw [hr] at cR;refine zF A6 Tryz.func52 ?_;unfold Node.d Node.cells View.cells Calls.cells Job.cells Item.d Item.cells at *;unfold hC at cS;have d1:=Ds.mk [3] (cS);have sc : No 3:=trivial;refine wd JL [] [(2,4),(3,4)] A0 (Aj @cO @cR) ?_;clear sc d1;exact zE
theorem Tn (n : Node) (h : Ip n) (what place : Int) (x : Item) (hr : B0 n = true) (hx0 : 0 ≤ n.next) (hx1 : n.next < 16) (hs : x.key.length ≤ 9223372036854775807) (ha : (C7 n.view what place x).asks.length ≤ 100000) (hk : 0 ≤ (C7 n.view what place x).job.item.key.length) : Go.Gar.Fn Tryz.prog 52 [n.d,.i .u8 7,.i .u8 what,.i .i64 place,x.d] (.tup [(Ar n 7 false (C7 n.view what place x)).1.d,AI (Ar n 7 false (C7 n.view what place x)).2]):=by
 have cO:=BQ n h;have cS:=If n;have cR:=BA n h;rw [hr] at cR;have cB:=LS n.view what place x h.vb h.vl hs;have cG:=MY n 7 false (C7 n.view what place x) (by decide) ha hx0 hx1 h.vb h.vl h.kn hk;generalize Ar n 7 false (C7 n.view what place x) = r at *;generalize C7 n.view what place x = c at *;refine zF A6 Tryz.func52 ?_;unfold View.d Job.d at *;unfold Node.d Node.cells View.cells Calls.cells Job.cells Item.d Item.cells at *;unfold hC at cS cG;have d1:=Ds.mk [3] (cS);have d2:=Ds.mk [3] (cG);have sc : No 3:=trivial;refine wd JL [] [(2,4),(3,4)] A0 (Dl @cO @cR @cB) ?_;clear sc d2 d1;exact zE
theorem aX {n : Node} (h : B0 n = true) : 0 ≤ n.next ∧ n.next < 16:=by
 unfold B0 at h;simp only [Bool.and_eq_true,decide_eq_true_eq] at h;exact h.2.2.1
theorem Wk (n : Node) (h : Ip n) (w what place : Int) (x : Item) (hs : x.key.length ≤ 9223372036854775807) (ha : (C7 n.view what place x).asks.length ≤ 100000) (hk : 0 ≤ (C7 n.view what place x).job.item.key.length) : Go.Gar.Fn Tryz.prog 52 [n.d,.i .u8 w,.i .u8 what,.i .i64 place,x.d] (.tup [(BI n w what place x).1.d,AI (BI n w what place x).2]):=by
 unfold BI
 cases hr : B0 n with
 | false =>
  rw [Bool.and_false,if_neg (by decide)]
  by_cases h5 : w = 5
  ·subst h5;exact Tg n h what place x hr
  by_cases h6 : w = 6
  ·subst h6;exact Ti n h what place x hr
  by_cases h7 : w = 7
  ·subst h7;exact Tj n h what place x hr
  exact S5 n h w what place x h5 h6 h7
 | true =>
  obtain ⟨a,b⟩:=aX hr
  by_cases h5 : w = 5
  ·subst h5;rw [if_pos (by decide)];exact Tk n h what place x hr a b hs ha hk
  by_cases h6 : w = 6
  ·subst h6;rw [if_pos (by decide)];exact Tl n h what place x hr a b hs ha hk
  by_cases h7 : w = 7
  ·subst h7;rw [if_pos (by decide)];exact Tn n h what place x hr a b hs ha hk
  rw [if_neg (by simp;omega)];exact S5 n h w what place x h5 h6 h7
end Nd
end Go.Proofs.YtkljbfejbakooaaGreatDoor
