/- Part 56 of the texts of this proof, put together by a program and made short.
Conditions: none; what each theorem asks stands in its own hypotheses. -/
import Derived.Test.YtnahkfkljohjaaaGreatDoorH50
import Derived.Ground.SlgfProg
import Derived.Lib.SliceRun
import Derived.Shelf.SlicesE.DeleteFunc
import Derived.Sort.Walk0
import Derived.KernelRfl
import Derived.RangeFuncIn
import Derived.OpenShut
import Derived.ProofKit
import Derived.CallsIn
import Derived.RangeFuncLeaves
import Derived.OrdersIn
import Derived.TacticsIn
import Derived.ChangeKeysEq
import Derived.Laws.AppendOwn
import Derived.Laws.OwnMore
import Derived.Laws.MakeOwn
import Derived.Laws.Rows
import Derived.Laws.Cells
import Derived.Laws.Tables
import Derived.Laws.CopyRow
import Derived.Laws.Strings
import Derived.Laws.IdiomStrings
import Derived.Laws.BytesArg
import Derived.Sort.Grow
import Derived.Laws.Cover3
import Derived.RecoverIn
import Derived.Test.YtnahkfkljohjaaaGreatDoorProg
set_option linter.unusedSimpArgs false
set_option linter.unusedVariables false
set_option linter.unnecessarySimpa false
set_option maxHeartbeats 40000000
namespace Go.Proofs.YtnahkfkljohjaaaGreatDoor
namespace Nd
open Go.Gar
open Wi (A8 B0 Ak AX B8 mC)
set_option maxRecDepth 100000
abbrev D3 : List Nat:=[0,1,2,3,4,5,6,7,8,9,10,11,12,13,14,15,16,17,42,84,91,140,145,205]
theorem YN (n : Node) (c : Call) (m : A8) (hk : Oh n) (hr : AG n = true) (hG : D8 n = false) (hL : Bc m = false) (hL2 : Bc c.msg = false) (hto : c.msg.dst ≠ n.view.id) (hy : c.why = 5) : Go.Gar.Fn Tryz.prog 5 [n.d,c.d,m.d] (.b true):=by
 have cw:=Bu
 have cg:=CZ n
 have cl:=BL m
 have cl2:=BL c.msg
 have cr:=BV n hk.ok
 have hm:=CB hL
 have hF:=hk.ok.fl
 have hM:=hk.ok.ml
 have hC:=hk.ok.tl
 rw [hG] at cg
 rw [hL] at cl
 rw [hL2] at cl2
 rw [hr] at cr
 have f0:=eq_false' hto
 have cB:=Cz n hk c m (by unfold Ab;omega) (by omega)
 have cD:=E0 n hk c
 have aB:=Eb n c m
 have aD:=Fl n c
 have tB:=El (n:=n) (c:=c) (m:=m)
 have tD:=Fh (n:=n) (c:=c)
 have nB:=Dr n c m
 have nD:=Ec n c
 clear hG hL hL2 hr hto hm
 generalize Aw n c m = B at *
 generalize Be n c = U at *
 obtain ⟨B,B'⟩:=B
 obtain ⟨U,U'⟩:=U
 dsimp only at *
 have jmB : Go.Gar.Fn Tryz.prog 20 [B.mirror.d,n.mirror.d] (.b true):=by rw [(aB.m (by omega))];exact Ah _ hM
 have jcB : Go.Gar.Fn Tryz.prog 20 [B.client.d,n.client.d] (.b true):=by rw [(aB.c (by omega))];exact Ah _ hC
 have sB : Cy [.i .u8 B.phase,.i .i64 B.of_] [.i .u8 n.phase,.i .i64 n.of_] = true:=by rw [(aB.s (by omega)).1,(aB.s (by omega)).2];simp [Cy,eq1]
 have jmD : Go.Gar.Fn Tryz.prog 20 [U.mirror.d,n.mirror.d] (.b true):=by rw [(aD.m (by omega))];exact Ah _ hM
 have jcD : Go.Gar.Fn Tryz.prog 20 [U.client.d,n.client.d] (.b true):=by rw [(aD.c (by omega))];exact Ah _ hC
 have sD : Cy [.i .u8 U.phase,.i .i64 U.of_] [.i .u8 n.phase,.i .i64 n.of_] = true:=by rw [(aD.s (by omega)).1,(aD.s (by omega)).2];simp [Cy,eq1]
 clear aB aD hF hM hC hk
 refine A0 AB Tryz.func5 rfl rfl (Nat.le_of_ble_eq_true rfl) ?_
 unfold Call.d Call.cells Wi.A8.d Wi.A8.cells Job.d Node.d Node.cells View.cells Calls.cells Job.cells at *
 simp only [List.cons_append,List.nil_append] at *
 simp only [hy] at *
 refine wk D3 [8] (AD f0) (Pe @cg @cl @cl2 @cr @cB @cD) ?_;with_reducible repeat' first|constructor|intro hc;try simp only[A3] at hc
 refine B1 (fun k => k ≤ B'.length + U'.length) (fun k : Nat => [(13,.d (.i .i64 k))]) (fun k => B'.length + U'.length - k) 0 (Nat.zero_le _) (fun _ => rfl) ?_ ?_
 ·exact A2.ck rfl
 rintro k hk
 by_cases hkl : k < B'.length
 ·obtain ⟨a,ha⟩:=AR hkl
  have ht:=tB a (List.mem_of_getElem? ha)
  have g1:=eq_false' ht.1
  have g2 : (a.2 != 5) = false:=AO (by omega)
  have g4 : decide ((k : Int) < (B'.length : Int)) = true:=decide_eq_true (by omega)
  have g5 : decide ((k : Int) < (B'.length : Int) + (U'.length : Int)) = true:=decide_eq_true (by omega)
  clear ht
  have ix1:=ha;refine wk D3 [] (GD g1 g2 g4 g5) A1 ?_;clear ix1;with_reducible repeat' first|constructor|intro hc;try simp only[A3] at hc
  refine ⟨k + 1,by omega,by omega,Nat.le_refl _,?_⟩
  exact A2.ck rfl
 have g4 : decide ((k : Int) < (B'.length : Int)) = false:=decide_eq_false (by omega)
 by_cases hkd : k < B'.length + U'.length
 ·obtain ⟨a,ha⟩:=AR (show k - B'.length < U'.length by omega)
  have ht:=tD a (List.mem_of_getElem? ha)
  have g1:=eq_false' ht.1
  have g2 : (a.2 != 5) = false:=AO (by omega)
  have g5 : decide ((k : Int) < (B'.length : Int) + (U'.length : Int)) = true:=decide_eq_true (by omega)
  have g6 : (k : Int) - (B'.length : Int) = ((k - B'.length : Nat) : Int):=by omega
  clear ht
  have ix1:=ha;refine wk D3 [] (IF g1 g2 g4 g5 g6) A1 ?_;clear ix1;with_reducible repeat' first|constructor|intro hc;try simp only[A3] at hc
  refine ⟨k + 1,by omega,by omega,Nat.le_refl _,?_⟩
  exact A2.ck rfl
 have g5 : decide ((k : Int) < (B'.length : Int) + (U'.length : Int)) = false:=decide_eq_false (by omega)
 clear hkl hk hkd g4
 have un : No 3:=trivial;refine wk D3 [] (Bo g5 sB sD) (IF @jmB @jcB @jmD @jcD @cw) ?_;clear un;with_reducible repeat' first|constructor|intro hc;try simp only[A3] at hc
 refine ⟨_,_,rfl,rfl,?_⟩;simp [AE,A6,A5,A4]
theorem Wx (n : Node) (c : Call) (m : A8) (hk : Oh n) (hr : AG n = true) (hG : D8 n = false) (hL : Bc m = false) (hL2 : Bc c.msg = false) (hto : c.msg.dst ≠ n.view.id) (hy : c.why = 6) : Go.Gar.Fn Tryz.prog 5 [n.d,c.d,m.d] (.b true):=by
 have cw:=Bu
 have cg:=CZ n
 have cl:=BL m
 have cl2:=BL c.msg
 have cr:=BV n hk.ok
 have hm:=CB hL
 have hF:=hk.ok.fl
 have hM:=hk.ok.ml
 have hC:=hk.ok.tl
 rw [hG] at cg
 rw [hL] at cl
 rw [hL2] at cl2
 rw [hr] at cr
 have f0:=eq_false' hto
 have cB:=Cz n hk c m (by unfold Ab;omega) (by omega)
 have cD:=E0 n hk c
 have aB:=Eb n c m
 have aD:=Fl n c
 have tB:=El (n:=n) (c:=c) (m:=m)
 have tD:=Fh (n:=n) (c:=c)
 have nB:=Dr n c m
 have nD:=Ec n c
 clear hG hL hL2 hr hto hm
 generalize Aw n c m = B at *
 generalize Be n c = U at *
 obtain ⟨B,B'⟩:=B
 obtain ⟨U,U'⟩:=U
 dsimp only at *
 have jfB : Go.Gar.Fn Tryz.prog 20 [B.finger.d,n.finger.d] (.b true):=by rw [(aB.f (by omega)).1];exact Ah _ hF
 have jcB : Go.Gar.Fn Tryz.prog 20 [B.client.d,n.client.d] (.b true):=by rw [(aB.c (by omega))];exact Ah _ hC
 have xB:=AO (aB.f (by omega)).2
 have sB : Cy [.i .u8 B.phase,.i .i64 B.of_] [.i .u8 n.phase,.i .i64 n.of_] = true:=by rw [(aB.s (by omega)).1,(aB.s (by omega)).2];simp [Cy,eq1]
 have jfD : Go.Gar.Fn Tryz.prog 20 [U.finger.d,n.finger.d] (.b true):=by rw [(aD.f (by omega)).1];exact Ah _ hF
 have jcD : Go.Gar.Fn Tryz.prog 20 [U.client.d,n.client.d] (.b true):=by rw [(aD.c (by omega))];exact Ah _ hC
 have xD:=AO (aD.f (by omega)).2
 have sD : Cy [.i .u8 U.phase,.i .i64 U.of_] [.i .u8 n.phase,.i .i64 n.of_] = true:=by rw [(aD.s (by omega)).1,(aD.s (by omega)).2];simp [Cy,eq1]
 clear aB aD hF hM hC hk
 refine A0 AB Tryz.func5 rfl rfl (Nat.le_of_ble_eq_true rfl) ?_
 unfold Call.d Call.cells Wi.A8.d Wi.A8.cells Job.d Node.d Node.cells View.cells Calls.cells Job.cells at *
 simp only [List.cons_append,List.nil_append] at *
 simp only [hy] at *
 refine wk D3 [8] (AD f0) (Pe @cg @cl @cl2 @cr @cB @cD) ?_;with_reducible repeat' first|constructor|intro hc;try simp only[A3] at hc
 refine B1 (fun k => k ≤ B'.length + U'.length) (fun k : Nat => [(13,.d (.i .i64 k))]) (fun k => B'.length + U'.length - k) 0 (Nat.zero_le _) (fun _ => rfl) ?_ ?_
 ·exact A2.ck rfl
 rintro k hk
 by_cases hkl : k < B'.length
 ·obtain ⟨a,ha⟩:=AR hkl
  have ht:=tB a (List.mem_of_getElem? ha)
  have g1:=eq_false' ht.1
  have g2 : (a.2 != 6) = false:=AO (by omega)
  have g4 : decide ((k : Int) < (B'.length : Int)) = true:=decide_eq_true (by omega)
  have g5 : decide ((k : Int) < (B'.length : Int) + (U'.length : Int)) = true:=decide_eq_true (by omega)
  clear ht
  have ix1:=ha;refine wk D3 [] (GD g1 g2 g4 g5) A1 ?_;clear ix1;with_reducible repeat' first|constructor|intro hc;try simp only[A3] at hc
  refine ⟨k + 1,by omega,by omega,Nat.le_refl _,?_⟩
  exact A2.ck rfl
 have g4 : decide ((k : Int) < (B'.length : Int)) = false:=decide_eq_false (by omega)
 by_cases hkd : k < B'.length + U'.length
 ·obtain ⟨a,ha⟩:=AR (show k - B'.length < U'.length by omega)
  have ht:=tD a (List.mem_of_getElem? ha)
  have g1:=eq_false' ht.1
  have g2 : (a.2 != 6) = false:=AO (by omega)
  have g5 : decide ((k : Int) < (B'.length : Int) + (U'.length : Int)) = true:=decide_eq_true (by omega)
  have g6 : (k : Int) - (B'.length : Int) = ((k - B'.length : Nat) : Int):=by omega
  clear ht
  have ix1:=ha;refine wk D3 [] (IF g1 g2 g4 g5 g6) A1 ?_;clear ix1;with_reducible repeat' first|constructor|intro hc;try simp only[A3] at hc
  refine ⟨k + 1,by omega,by omega,Nat.le_refl _,?_⟩
  exact A2.ck rfl
 have g5 : decide ((k : Int) < (B'.length : Int) + (U'.length : Int)) = false:=decide_eq_false (by omega)
 clear hkl hk hkd g4
 have un : No 3:=trivial;refine wk D3 [] (IF g5 xB sB xD sD) (IF @jfB @jcB @jfD @jcD @cw) ?_;clear un;with_reducible repeat' first|constructor|intro hc;try simp only[A3] at hc
 refine ⟨_,_,rfl,rfl,?_⟩;simp [AE,A6,A5,A4]
theorem Wn (n : Node) (c : Call) (m : A8) (hk : Oh n) (hr : AG n = true) (hG : D8 n = false) (hL : Bc m = false) (hL2 : Bc c.msg = false) (hto : c.msg.dst ≠ n.view.id) (hy : c.why = 7) : Go.Gar.Fn Tryz.prog 5 [n.d,c.d,m.d] (.b true):=by
 have cw:=Bu
 have cg:=CZ n
 have cl:=BL m
 have cl2:=BL c.msg
 have cr:=BV n hk.ok
 have hm:=CB hL
 have hF:=hk.ok.fl
 have hM:=hk.ok.ml
 have hC:=hk.ok.tl
 rw [hG] at cg
 rw [hL] at cl
 rw [hL2] at cl2
 rw [hr] at cr
 have f0:=eq_false' hto
 have cB:=Cz n hk c m (by unfold Ab;omega) (by omega)
 have cD:=E0 n hk c
 have aB:=Eb n c m
 have aD:=Fl n c
 have tB:=El (n:=n) (c:=c) (m:=m)
 have tD:=Fh (n:=n) (c:=c)
 have nB:=Dr n c m
 have nD:=Ec n c
 clear hG hL hL2 hr hto hm
 generalize Aw n c m = B at *
 generalize Be n c = U at *
 obtain ⟨B,B'⟩:=B
 obtain ⟨U,U'⟩:=U
 dsimp only at *
 have jfB : Go.Gar.Fn Tryz.prog 20 [B.finger.d,n.finger.d] (.b true):=by rw [(aB.f (by omega)).1];exact Ah _ hF
 have jmB : Go.Gar.Fn Tryz.prog 20 [B.mirror.d,n.mirror.d] (.b true):=by rw [(aB.m (by omega))];exact Ah _ hM
 have xB:=AO (aB.f (by omega)).2
 have sB : Cy [.i .u8 B.phase,.i .i64 B.of_] [.i .u8 n.phase,.i .i64 n.of_] = true:=by rw [(aB.s (by omega)).1,(aB.s (by omega)).2];simp [Cy,eq1]
 have jfD : Go.Gar.Fn Tryz.prog 20 [U.finger.d,n.finger.d] (.b true):=by rw [(aD.f (by omega)).1];exact Ah _ hF
 have jmD : Go.Gar.Fn Tryz.prog 20 [U.mirror.d,n.mirror.d] (.b true):=by rw [(aD.m (by omega))];exact Ah _ hM
 have xD:=AO (aD.f (by omega)).2
 have sD : Cy [.i .u8 U.phase,.i .i64 U.of_] [.i .u8 n.phase,.i .i64 n.of_] = true:=by rw [(aD.s (by omega)).1,(aD.s (by omega)).2];simp [Cy,eq1]
 clear aB aD hF hM hC hk
 refine A0 AB Tryz.func5 rfl rfl (Nat.le_of_ble_eq_true rfl) ?_
 unfold Call.d Call.cells Wi.A8.d Wi.A8.cells Job.d Node.d Node.cells View.cells Calls.cells Job.cells at *
 simp only [List.cons_append,List.nil_append] at *
 simp only [hy] at *
 refine wk D3 [8] (AD f0) (Pe @cg @cl @cl2 @cr @cB @cD) ?_;with_reducible repeat' first|constructor|intro hc;try simp only[A3] at hc
 refine B1 (fun k => k ≤ B'.length + U'.length) (fun k : Nat => [(13,.d (.i .i64 k))]) (fun k => B'.length + U'.length - k) 0 (Nat.zero_le _) (fun _ => rfl) ?_ ?_
 ·exact A2.ck rfl
 rintro k hk
 by_cases hkl : k < B'.length
 ·obtain ⟨a,ha⟩:=AR hkl
  have ht:=tB a (List.mem_of_getElem? ha)
  have g1:=eq_false' ht.1
  have g2 : (a.2 != 7) = false:=AO (by omega)
  have g4 : decide ((k : Int) < (B'.length : Int)) = true:=decide_eq_true (by omega)
  have g5 : decide ((k : Int) < (B'.length : Int) + (U'.length : Int)) = true:=decide_eq_true (by omega)
  clear ht
  have ix1:=ha;refine wk D3 [] (GD g1 g2 g4 g5) A1 ?_;clear ix1;with_reducible repeat' first|constructor|intro hc;try simp only[A3] at hc
  refine ⟨k + 1,by omega,by omega,Nat.le_refl _,?_⟩
  exact A2.ck rfl
 have g4 : decide ((k : Int) < (B'.length : Int)) = false:=decide_eq_false (by omega)
 by_cases hkd : k < B'.length + U'.length
 ·obtain ⟨a,ha⟩:=AR (show k - B'.length < U'.length by omega)
  have ht:=tD a (List.mem_of_getElem? ha)
  have g1:=eq_false' ht.1
  have g2 : (a.2 != 7) = false:=AO (by omega)
  have g5 : decide ((k : Int) < (B'.length : Int) + (U'.length : Int)) = true:=decide_eq_true (by omega)
  have g6 : (k : Int) - (B'.length : Int) = ((k - B'.length : Nat) : Int):=by omega
  clear ht
  have ix1:=ha;refine wk D3 [] (IF g1 g2 g4 g5 g6) A1 ?_;clear ix1;with_reducible repeat' first|constructor|intro hc;try simp only[A3] at hc
  refine ⟨k + 1,by omega,by omega,Nat.le_refl _,?_⟩
  exact A2.ck rfl
 have g5 : decide ((k : Int) < (B'.length : Int) + (U'.length : Int)) = false:=decide_eq_false (by omega)
 clear hkl hk hkd g4
 have un : No 3:=trivial;refine wk D3 [] (IF g5 xB sB xD sD) (IF @jfB @jmB @jfD @jmD @cw) ?_;clear un;with_reducible repeat' first|constructor|intro hc;try simp only[A3] at hc
 refine ⟨_,_,rfl,rfl,?_⟩;simp [AE,A6,A5,A4]
abbrev IJ : List Nat:=[0,1,2,3,4,5,6,7,8,9,10,11,12,13,14,15,16,17,42,84,91,140,145,205]
theorem Lh (n : Node) (c : Call) (m : A8) (hw : KO n) : Go.Gar.Fn Tryz.prog 5 [n.d,c.d,m.d] (.b true):=by
 have cw:=Bu
 have cg:=CZ n
 have cl:=BL m
 have cl2:=BL c.msg
 cases hG : D8 n with
 | true =>
  rw [hG] at cg
  clear cl cl2 hw hG
  refine A0 AB Tryz.func5 rfl rfl (Nat.le_of_ble_eq_true rfl) ?_
  unfold Call.d Call.cells Wi.A8.d Wi.A8.cells Node.d Node.cells View.cells Calls.cells Job.cells at *
  simp only [List.cons_append,List.nil_append] at *
  refine wk IJ [] A1 (Ao @cg @cw) ?_;with_reducible repeat' first|constructor|intro hc;try simp only[A3] at hc
  refine ⟨_,_,rfl,rfl,?_⟩;simp [AE,A6,A5,A4]
 | false =>
 rw [hG] at cg
 obtain ⟨hk,hb,-⟩:=G7 hw hG
 have cr:=BV n hk.ok
 cases hL : Bc m with
 | true =>
  rw [hL] at cl
  clear cl2 cr hw hG hk hb hL
  refine A0 AB Tryz.func5 rfl rfl (Nat.le_of_ble_eq_true rfl) ?_
  unfold Call.d Call.cells Wi.A8.d Wi.A8.cells Node.d Node.cells View.cells Calls.cells Job.cells at *
  simp only [List.cons_append,List.nil_append] at *
  refine wk IJ [] A1 (Bo @cg @cl @cw) ?_;with_reducible repeat' first|constructor|intro hc;try simp only[A3] at hc
  refine ⟨_,_,rfl,rfl,?_⟩;simp [AE,A6,A5,A4]
 | false =>
 rw [hL] at cl
 cases hL2 : Bc c.msg with
 | true =>
  rw [hL2] at cl2
  clear cr hw hG hk hb hL hL2
  refine A0 AB Tryz.func5 rfl rfl (Nat.le_of_ble_eq_true rfl) ?_
  unfold Call.d Call.cells Wi.A8.d Wi.A8.cells Node.d Node.cells View.cells Calls.cells Job.cells at *
  simp only [List.cons_append,List.nil_append] at *
  refine wk IJ [] A1 (GD @cg @cl @cl2 @cw) ?_;with_reducible repeat' first|constructor|intro hc;try simp only[A3] at hc
  refine ⟨_,_,rfl,rfl,?_⟩;simp [AE,A6,A5,A4]
 | false =>
 rw [hL2] at cl2
 have hm:=CB hL
 cases hr : AG n with
 | false =>
  rw [hr] at cr
  clear hw hG hk hb hL hL2 hm hr
  refine A0 AB Tryz.func5 rfl rfl (Nat.le_of_ble_eq_true rfl) ?_
  unfold Call.d Call.cells Wi.A8.d Wi.A8.cells Node.d Node.cells View.cells Calls.cells Job.cells at *
  simp only [List.cons_append,List.nil_append] at *
  refine wk IJ [] A1 (IF @cg @cl @cl2 @cr @cw) ?_;with_reducible repeat' first|constructor|intro hc;try simp only[A3] at hc
  refine ⟨_,_,rfl,rfl,?_⟩;simp [AE,A6,A5,A4]
 | true =>
 rw [hr] at cr
 by_cases ht : c.msg.dst = n.view.id
 case pos =>
  have f0:=AA ht
  clear hw hG hk hb hL hL2 hm hr ht
  refine A0 AB Tryz.func5 rfl rfl (Nat.le_of_ble_eq_true rfl) ?_
  unfold Call.d Call.cells Wi.A8.d Wi.A8.cells Node.d Node.cells View.cells Calls.cells Job.cells at *
  simp only [List.cons_append,List.nil_append] at *
  refine wk IJ [] (AD f0) (IF @cg @cl @cl2 @cr @cw) ?_;with_reducible repeat' first|constructor|intro hc;try simp only[A3] at hc
  refine ⟨_,_,rfl,rfl,?_⟩;simp [AE,A6,A5,A4]
 case neg =>
 by_cases h1 : 1 ≤ c.why ∧ c.why ≤ 3
 ·have : c.why = 1 ∨ c.why = 2 ∨ c.why = 3:=by omega
  rcases this with e | e | e
  ·exact Wg n c m hk hr hG hL hL2 ht e
  ·exact Ws n c m hk hr hG hL hL2 ht e
  ·exact YH n c m hk hr hG hL hL2 ht e
 by_cases h2 : 5 ≤ c.why ∧ c.why ≤ 7
 ·have : c.why = 5 ∨ c.why = 6 ∨ c.why = 7:=by omega
  rcases this with e | e | e
  ·exact YN n c m hk hr hG hL hL2 ht e
  ·exact Wx n c m hk hr hG hL hL2 ht e
  ·exact Wn n c m hk hr hG hL hL2 ht e
 exact YB n c m hk hr hG hL hL2 ht h1 h2
end Nd
end Go.Proofs.YtnahkfkljohjaaaGreatDoor
