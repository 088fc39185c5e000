/- Part 51 of the texts of this proof, put together by a program and made short.
Conditions: none; what each theorem asks stands in its own hypotheses. -/
import Derived.Test.YtnahkfkljohjaaaGreatDoorH50
import Derived.Ground.SlgfProg
import Derived.Lib.SliceRun
import Derived.Shelf.SlicesE.DeleteFunc
import Derived.Sort.Walk0
import Derived.KernelRfl
import Derived.RangeFuncIn
import Derived.OpenShut
import Derived.ProofKit
import Derived.CallsIn
import Derived.RangeFuncLeaves
import Derived.OrdersIn
import Derived.TacticsIn
import Derived.ChangeKeysEq
import Derived.Laws.AppendOwn
import Derived.Laws.OwnMore
import Derived.Laws.MakeOwn
import Derived.Laws.Rows
import Derived.Laws.Cells
import Derived.Laws.Tables
import Derived.Laws.CopyRow
import Derived.Laws.Strings
import Derived.Laws.IdiomStrings
import Derived.Laws.BytesArg
import Derived.Sort.Grow
import Derived.Laws.Cover3
import Derived.RecoverIn
import Derived.Test.YtnahkfkljohjaaaGreatDoorProg
set_option linter.unusedSimpArgs false
set_option linter.unusedVariables false
set_option linter.unnecessarySimpa false
set_option maxHeartbeats 40000000
namespace Go.Proofs.YtnahkfkljohjaaaGreatDoor
namespace Nd
open Go.Gar
open Wi (A8 B0 Ak AX B8 mC)
set_option maxRecDepth 100000
abbrev CF : List Nat:=[0,1,2,3,4,5,6,7,11,12,13,14,15,16,18,20,22,23,24,25,47,89,122,158]
theorem GX {n : Node} (hr : AG n = true) : ∀ y ∈ n.view.base,i64 y:=fun y hy => Hq (J0 (Cv (BZ.1 hr).2.2.2.1).2.1 y hy)
theorem OM {n W : Node} (hr : AG n = true) (hb : n.view.base.length ≤ 1000) (s : PP n W) (k : Cs W) : Go.Gar.Fn Tryz.prog 11 [.i .i64 W.view.id,.is W.view.list,.is n.view.base] (.b (PT W)):=by
 have:=Gg W.view.id W.view.list n.view.base k.id k.li (GX hr) (by have:=k.vl;omega) hb
 unfold PT
 rw [s.view.base]
 exact this
theorem Qt {n : Node} (hr : AG n = true) (h : n.phase = 1 ∨ n.phase = 2) : i64 n.of_:=by
 have:=(BZ.1 hr).2.2.2.2.2.1
 unfold Bp at this
 rw [if_neg (by omega),Bool.and_eq_true,← LY] at this
 exact Hq this.2
theorem Lr (n : Node) (w what place : Int) (x : Item) (c : Call) (m : A8) (hw : KO n) (hms : i64 m.src) (hml : ∀ y ∈ m.list,i64 y) : Go.Gar.Fn Tryz.prog 3 [n.d,.i .u8 w,.i .u8 what,.i .i64 place,x.d,c.d,m.d] (.b true):=by
 have cw:=Bu
 have cg:=CZ n
 have cl:=BL m
 have cl2:=BL c.msg
 cases hG : D8 n with
 | true =>
  rw [hG] at cg
  clear cl cl2 hw hG
  refine A0 AB Tryz.func3 rfl rfl (Nat.le_of_ble_eq_true rfl) ?_
  unfold Item.d Item.cells Call.d Call.cells Wi.A8.d Wi.A8.cells Node.d Node.cells View.cells Calls.cells Job.cells at *
  simp only [List.cons_append,List.nil_append] at *
  refine wk CF [] A1 (Ao @cg @cw) ?_;with_reducible repeat' first|constructor|intro hc;try simp only[A3] at hc
  refine ⟨_,_,rfl,rfl,?_⟩;simp [AE,A6,A5,A4]
 | false =>
 rw [hG] at cg
 obtain ⟨hk,hb,-⟩:=G7 hw hG
 have cr:=BV n hk.ok
 cases hL : Bc m with
 | true =>
  rw [hL] at cl
  clear cl2 cr hw hG hk hb hL
  refine A0 AB Tryz.func3 rfl rfl (Nat.le_of_ble_eq_true rfl) ?_
  unfold Item.d Item.cells Call.d Call.cells Wi.A8.d Wi.A8.cells Node.d Node.cells View.cells Calls.cells Job.cells at *
  simp only [List.cons_append,List.nil_append] at *
  refine wk CF [] A1 (Bo @cg @cl @cw) ?_;with_reducible repeat' first|constructor|intro hc;try simp only[A3] at hc
  refine ⟨_,_,rfl,rfl,?_⟩;simp [AE,A6,A5,A4]
 | false =>
 rw [hL] at cl
 cases hL2 : Bc c.msg with
 | true =>
  rw [hL2] at cl2
  clear cr hw hG hk hb hL hL2
  refine A0 AB Tryz.func3 rfl rfl (Nat.le_of_ble_eq_true rfl) ?_
  unfold Item.d Item.cells Call.d Call.cells Wi.A8.d Wi.A8.cells Node.d Node.cells View.cells Calls.cells Job.cells at *
  simp only [List.cons_append,List.nil_append] at *
  refine wk CF [] A1 (GD @cg @cl @cl2 @cw) ?_;with_reducible repeat' first|constructor|intro hc;try simp only[A3] at hc
  refine ⟨_,_,rfl,rfl,?_⟩;simp [AE,A6,A5,A4]
 | false =>
 rw [hL2] at cl2
 have hm:=CB hL
 by_cases hx : 300 < x.key.length
 case pos =>
  have fx : decide ((x.key.length : Int) > 300) = true:=decide_eq_true (by omega)
  clear cr hw hG hk hb hL hL2 hm hx
  refine A0 AB Tryz.func3 rfl rfl (Nat.le_of_ble_eq_true rfl) ?_
  unfold Item.d Item.cells Call.d Call.cells Wi.A8.d Wi.A8.cells Node.d Node.cells View.cells Calls.cells Job.cells at *
  simp only [List.cons_append,List.nil_append] at *
  refine wk CF [] (AD fx) (GD @cg @cl @cl2 @cw) ?_;with_reducible repeat' first|constructor|intro hc;try simp only[A3] at hc
  refine ⟨_,_,rfl,rfl,?_⟩;simp [AE,A6,A5,A4]
 case neg =>
 have fx : decide ((x.key.length : Int) > 300) = false:=decide_eq_false (by omega)
 cases hr : AG n with
 | false =>
  rw [hr] at cr
  clear hw hG hk hb hL hL2 hm hr hx
  refine A0 AB Tryz.func3 rfl rfl (Nat.le_of_ble_eq_true rfl) ?_
  unfold Item.d Item.cells Call.d Call.cells Wi.A8.d Wi.A8.cells Node.d Node.cells View.cells Calls.cells Job.cells at *
  simp only [List.cons_append,List.nil_append] at *
  refine wk CF [] (AD fx) (IF @cg @cl @cl2 @cr @cw) ?_;with_reducible repeat' first|constructor|intro hc;try simp only[A3] at hc
  refine ⟨_,_,rfl,rfl,?_⟩;simp [AE,A6,A5,A4]
 | true =>
 rw [hr] at cr
 have hbl:=hk.ok.vb
 have cS:=OM hr hbl (PP.refl n) hk.ok
 have cM:=Gg m.src m.list n.view.base hms hml (GX hr) (by omega) hbl
 cases hS : PT n with
 | true =>
  rw [hS] at cS
  clear cM hbl hms hml hS hw hG hk hb hL hL2 hm hr hx
  refine A0 AB Tryz.func3 rfl rfl (Nat.le_of_ble_eq_true rfl) ?_
  unfold Item.d Item.cells Call.d Call.cells Wi.A8.d Wi.A8.cells Node.d Node.cells View.cells Calls.cells Job.cells at *
  simp only [List.cons_append,List.nil_append] at *
  refine wk CF [] (AD fx) (Pe @cg @cl @cl2 @cr @cS @cw) ?_;with_reducible repeat' first|constructor|intro hc;try simp only[A3] at hc
  refine ⟨_,_,rfl,rfl,?_⟩;simp [AE,A6,A5,A4]
 | false =>
 rw [hS] at cS
 cases hM : Fy m.src m.list n.view.base with
 | true =>
  rw [hM] at cM
  clear hbl hms hml hS hM hw hG hk hb hL hL2 hm hr hx
  refine A0 AB Tryz.func3 rfl rfl (Nat.le_of_ble_eq_true rfl) ?_
  unfold Item.d Item.cells Call.d Call.cells Wi.A8.d Wi.A8.cells Node.d Node.cells View.cells Calls.cells Job.cells at *
  simp only [List.cons_append,List.nil_append] at *
  refine wk CF [] (AD fx) (Tu @cg @cl @cl2 @cr @cS @cM @cw) ?_;with_reducible repeat' first|constructor|intro hc;try simp only[A3] at hc
  refine ⟨_,_,rfl,rfl,?_⟩;simp [AE,A6,A5,A4]
 | false =>
 rw [hM] at cM
 by_cases hp1 : n.phase = 1 ∧ Fy n.view.id [n.of_] n.view.base = true
 case pos =>
  obtain ⟨hp,ho⟩:=hp1
  have cO:=Gg n.view.id [n.of_] n.view.base hk.ok.id (fun y hy => by rw [List.mem_singleton] at hy;subst hy;exact Qt hr (by omega)) (GX hr) (by simp) hbl
  rw [ho] at cO
  have p1 : (n.phase == 1) = true:=AA hp
  clear hbl hms hml hS hM hp ho hw hG hk hb hL hL2 hm hr hx
  refine A0 AB Tryz.func3 rfl rfl (Nat.le_of_ble_eq_true rfl) ?_
  unfold Item.d Item.cells Call.d Call.cells Wi.A8.d Wi.A8.cells Node.d Node.cells View.cells Calls.cells Job.cells at *
  simp only [List.cons_append,List.nil_append] at *
  refine wk CF [] (Ao fx p1) (Xx @cg @cl @cl2 @cr @cS @cM @cO @cw) ?_;with_reducible repeat' first|constructor|intro hc;try simp only[A3] at hc
  refine ⟨_,_,rfl,rfl,?_⟩;simp [AE,A6,A5,A4]
 case neg =>
 by_cases hp2 : n.phase = 2 ∧ Fy n.view.id [n.of_] n.view.base = true
 case pos =>
  obtain ⟨hp,ho⟩:=hp2
  have cO:=Gg n.view.id [n.of_] n.view.base hk.ok.id (fun y hy => by rw [List.mem_singleton] at hy;subst hy;exact Qt hr (by omega)) (GX hr) (by simp) hbl
  rw [ho] at cO
  have p1 : (n.phase == 1) = false:=eq_false' (by omega)
  have p2 : (n.phase == 2) = true:=AA hp
  clear hbl hms hml hS hM hp ho hp1 hw hG hk hb hL hL2 hm hr hx
  refine A0 AB Tryz.func3 rfl rfl (Nat.le_of_ble_eq_true rfl) ?_
  unfold Item.d Item.cells Call.d Call.cells Wi.A8.d Wi.A8.cells Node.d Node.cells View.cells Calls.cells Job.cells at *
  simp only [List.cons_append,List.nil_append] at *
  refine wk CF [] (Bo fx p1 p2) (Xx @cg @cl @cl2 @cr @cS @cM @cO @cw) ?_;with_reducible repeat' first|constructor|intro hc;try simp only[A3] at hc
  refine ⟨_,_,rfl,rfl,?_⟩;simp [AE,A6,A5,A4]
 case neg =>
 have ho : n.phase = 1 ∨ n.phase = 2 → Fy n.view.id [n.of_] n.view.base = false:=fun h => by
  cases hs : Fy n.view.id [n.of_] n.view.base with
  | false => rfl
  | true => rcases h with h | h;exact absurd ⟨h,hs⟩ hp1;exact absurd ⟨h,hs⟩ hp2
 obtain ⟨⟨sA,lA⟩,sB,sD,sE⟩:=(⟨FR n w what place x,PG n c m,RZ n c,NH n w⟩ : _ ∧ _ ∧ _ ∧ _)
 have jA : JB 43 300 (B6 n w what place x).1:=(Jv n w what place x hb (by decide) (by omega)).mono (by decide)
 have jB : JB 43 300 (Aw n c m).1:=S6 n c m hb (by omega)
 have jD : JB 43 300 (Be n c).1:=Tz n c hb
 have jE : JB 43 300 (E9 n w):=(Vk n w hb).mono (by decide)
 have kA:=Fs hk.ok sA hr jA (by decide)
 have kB:=Fs hk.ok sB hr jB (by decide)
 have kD:=Fs hk.ok sD hr jD (by decide)
 have kE:=Fs hk.ok sE hr jE (by decide)
 have cA:=Gf n hk w what place x (by omega)
 have cB:=Cz n hk c m (by unfold Ab;omega) (by omega)
 have cD:=E0 n hk c
 have cE:=N7 n hk w
 have zA:=(V7 n w what place x).trans hS
 have zB : PT (Aw n c m).1 = false:=Vj hw.ph hS hM ho
 have zD : PT (Be n c).1 = false:=XM hS
 have zE:=(XJ n w).trans hS
 have uA:=OM hr hbl sA kA
 rw [zA] at uA
 have rA:=BV (B6 n w what place x).1 kA
 rw [sA.right hr] at rA
 have iA:=AO sA.view.id
 have bA : (((B6 n w what place x).1.view.base.length : Int) != (n.view.base.length : Int)) = false:=AO (by rw [sA.view.base])
 have uB:=OM hr hbl sB kB
 rw [zB] at uB
 have rB:=BV (Aw n c m).1 kB
 rw [sB.right hr] at rB
 have iB:=AO sB.view.id
 have bB : (((Aw n c m).1.view.base.length : Int) != (n.view.base.length : Int)) = false:=AO (by rw [sB.view.base])
 have uD:=OM hr hbl sD kD
 rw [zD] at uD
 have rD:=BV (Be n c).1 kD
 rw [sD.right hr] at rD
 have iD:=AO sD.view.id
 have bD : (((Be n c).1.view.base.length : Int) != (n.view.base.length : Int)) = false:=AO (by rw [sD.view.base])
 have uE:=OM hr hbl sE kE
 rw [zE] at uE
 have rE:=BV (E9 n w) kE
 rw [sE.right hr] at rE
 have iE:=AO sE.view.id
 have bE : (((E9 n w).view.base.length : Int) != (n.view.base.length : Int)) = false:=AO (by rw [sE.view.base])
 have cO : n.phase = 1 ∨ n.phase = 2 → Go.Gar.Fn Tryz.prog 11 [.i .i64 n.view.id,.is [n.of_],.is n.view.base] (.b false):=fun h => by
  have:=Gg n.view.id [n.of_] n.view.base hk.ok.id (fun y hy => by rw [List.mem_singleton] at hy;subst hy;exact Qt hr h) (GX hr) (by simp) hbl
  rwa [ho h] at this
 clear lA sA sB sD sE jA jB jD jE kA kB kD kE zA zB zD zE hbl hms hml hS hM ho hp1 hp2 hw hG hk hb hL hL2 hm hr hx
 generalize B6 n w what place x = A at *
 generalize Aw n c m = B at *
 generalize Be n c = U at *
 generalize E9 n w = V at *
 obtain ⟨A,A'⟩:=A
 obtain ⟨B,B'⟩:=B
 obtain ⟨U,U'⟩:=U
 dsimp only at *
 have hp : n.phase = 1 ∨ n.phase = 2 ∨ ¬ (n.phase = 1 ∨ n.phase = 2):=by omega
 refine A0 AB Tryz.func3 rfl rfl (Nat.le_of_ble_eq_true rfl) ?_
 unfold Item.d Item.cells Call.d Call.cells Wi.A8.d Wi.A8.cells Node.d Node.cells View.cells Calls.cells Job.cells at *
 simp only [List.cons_append,List.nil_append] at *
 rcases hp with hp | hp | hp
 ·have cO:=cO (.inl hp)
  have p1:=AA hp
  refine wk CF [6] (Ao fx p1) (Tu @cg @cl @cl2 @cr @cS @cM @cO) ?_;with_reducible repeat' first|constructor|intro hc;try simp only[A3] at hc
  have un : No 5:=trivial;refine wk CF [] (Xx iA iB iD iE bA bB bD bE) (XK @cA @cB @cD @cE @uA @uB @uD @uE @rA @rB @rD @rE @cw) ?_;clear un;with_reducible repeat' first|constructor|intro hc;try simp only[A3] at hc
  refine ⟨_,_,rfl,rfl,?_⟩;simp [AE,A6,A5,A4]
 ·have cO:=cO (.inr hp)
  have p1 : (n.phase == 1) = false:=eq_false' (by omega)
  have p2:=AA hp
  refine wk CF [6] (Bo fx p1 p2) (Tu @cg @cl @cl2 @cr @cS @cM @cO) ?_;with_reducible repeat' first|constructor|intro hc;try simp only[A3] at hc
  have un : No 5:=trivial;refine wk CF [] (Xx iA iB iD iE bA bB bD bE) (XK @cA @cB @cD @cE @uA @uB @uD @uE @rA @rB @rD @rE @cw) ?_;clear un;with_reducible repeat' first|constructor|intro hc;try simp only[A3] at hc
  refine ⟨_,_,rfl,rfl,?_⟩;simp [AE,A6,A5,A4]
 ·have p1 : (n.phase == 1) = false:=eq_false' (by omega)
  have p2 : (n.phase == 2) = false:=eq_false' (by omega)
  refine wk CF [6] (Bo fx p1 p2) (Pe @cg @cl @cl2 @cr @cS @cM) ?_;with_reducible repeat' first|constructor|intro hc;try simp only[A3] at hc
  have un : No 5:=trivial;refine wk CF [] (Xx iA iB iD iE bA bB bD bE) (XK @cA @cB @cD @cE @uA @uB @uD @uE @rA @rB @rD @rE @cw) ?_;clear un;with_reducible repeat' first|constructor|intro hc;try simp only[A3] at hc
  refine ⟨_,_,rfl,rfl,?_⟩;simp [AE,A6,A5,A4]
end Nd
end Go.Proofs.YtnahkfkljohjaaaGreatDoor
