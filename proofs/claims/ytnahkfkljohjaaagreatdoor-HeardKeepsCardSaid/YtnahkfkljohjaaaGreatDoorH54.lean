/- Part 54 of the texts of this proof, put together by a program and made short.
Conditions: none; what each theorem asks stands in its own hypotheses. -/
import Derived.Test.YtnahkfkljohjaaaGreatDoorH50
import Derived.Ground.SlgfProg
import Derived.Lib.SliceRun
import Derived.Shelf.SlicesE.DeleteFunc
import Derived.Sort.Walk0
import Derived.KernelRfl
import Derived.RangeFuncIn
import Derived.OpenShut
import Derived.ProofKit
import Derived.CallsIn
import Derived.RangeFuncLeaves
import Derived.OrdersIn
import Derived.TacticsIn
import Derived.ChangeKeysEq
import Derived.Laws.AppendOwn
import Derived.Laws.OwnMore
import Derived.Laws.MakeOwn
import Derived.Laws.Rows
import Derived.Laws.Cells
import Derived.Laws.Tables
import Derived.Laws.CopyRow
import Derived.Laws.Strings
import Derived.Laws.IdiomStrings
import Derived.Laws.BytesArg
import Derived.Sort.Grow
import Derived.Laws.Cover3
import Derived.RecoverIn
import Derived.Test.YtnahkfkljohjaaaGreatDoorProg
set_option linter.unusedSimpArgs false
set_option linter.unusedVariables false
set_option linter.unnecessarySimpa false
set_option maxHeartbeats 40000000
namespace Go.Proofs.YtnahkfkljohjaaaGreatDoor
namespace Nd
open Go.Gar
open Wi (A8 B0 Ak AX B8 mC)
set_option maxRecDepth 100000
abbrev Ar : List Nat:=[0,1,2,3,4,5,6,7,11,12,13,14,15,17,19,21,22,23,24,25,26,48,80,87,114,157]
theorem Us {l : List Item} {key : List UInt8} (h : Bd l = true) (hg : (Di l key).2 = 0) : hasK l key = true:=by
 unfold Di at hg
 rw [h,Bool.true_and] at hg
 cases hh : hasK l key with
 | true => rfl
 | false => rw [hh] at hg;cases hg
theorem IK {n W : Node} (hr : AG n = true) (s : PP n W) (k : Cs W) : ∀ y ∈ n.keep,∃ z : Item,Go.Gar.Fn Tryz.prog 16 [AZ W.keep,.s y.key] (.tup [z.d,.i .i64 0]) ∧ Go.Gar.Fn Tryz.prog 17 [y.d,z.d] (.b false):=by
 intro y hy
 have hn:=(BZ.1 hr).2.2.2.2.2.2.1
 have hw:=(BZ.1 (s.right hr)).2.2.2.2.2.2.1
 obtain ⟨h1,h2⟩:=s.keep hn y hy
 have g:=YP W.keep y.key k.kn hw (Us hw h1)
 rw [h1] at g
 have e:=Sz y (Di W.keep y.key).1
 unfold HN at h2
 rw [h2] at e
 exact ⟨_,g,e⟩
theorem Mx {n W : Node} (s : PP n W) (k : Cs W) : Go.Gar.Fn Tryz.prog 19 [Node.d ⟨W.view,n.clock,n.calls,n.seen,W.phase,W.of_,W.finger,W.mirror,W.client,W.next,n.last,W.keep,n.bad⟩,W.d] (.b true):=by
 have h:=PL W k
 rw [show (⟨W.view,n.clock,n.calls,n.seen,W.phase,W.of_,W.finger,W.mirror,W.client,W.next,n.last,W.keep,n.bad⟩ : Node) = W by rw [← s.clock,← s.calls,← s.seen,← s.last,← s.bad]]
 exact h
theorem Ll (n : Node) (w what place : Int) (x : Item) (c : Call) (m : A8) (hw : KO n) : Go.Gar.Fn Tryz.prog 4 [n.d,.i .u8 w,.i .u8 what,.i .i64 place,x.d,c.d,m.d] (.b true):=by
 have cw:=Bu
 have cg:=CZ n
 have cl:=BL m
 have cl2:=BL c.msg
 cases hG : D8 n with
 | true =>
  rw [hG] at cg
  clear cl cl2 hw hG
  refine A0 AB Tryz.func4 rfl rfl (Nat.le_of_ble_eq_true rfl) ?_
  unfold Item.d Item.cells Call.d Call.cells Wi.A8.d Wi.A8.cells Node.d Node.cells View.cells Calls.cells Job.cells at *
  simp only [List.cons_append,List.nil_append] at *
  refine wd Ar [] [] A1 (Ao @cg @cw) ?_;with_reducible repeat' first|constructor|intro hc;try simp only[A3] at hc
  refine ⟨_,_,rfl,rfl,?_⟩;simp [AE,A6,A5,A4]
 | false =>
 rw [hG] at cg
 obtain ⟨hk,hb,-⟩:=G7 hw hG
 have cr:=BV n hk.ok
 cases hL : Bc m with
 | true =>
  rw [hL] at cl
  clear cl2 cr hw hG hk hb hL
  refine A0 AB Tryz.func4 rfl rfl (Nat.le_of_ble_eq_true rfl) ?_
  unfold Item.d Item.cells Call.d Call.cells Wi.A8.d Wi.A8.cells Node.d Node.cells View.cells Calls.cells Job.cells at *
  simp only [List.cons_append,List.nil_append] at *
  refine wd Ar [] [] A1 (Bo @cg @cl @cw) ?_;with_reducible repeat' first|constructor|intro hc;try simp only[A3] at hc
  refine ⟨_,_,rfl,rfl,?_⟩;simp [AE,A6,A5,A4]
 | false =>
 rw [hL] at cl
 cases hL2 : Bc c.msg with
 | true =>
  rw [hL2] at cl2
  clear cr hw hG hk hb hL hL2
  refine A0 AB Tryz.func4 rfl rfl (Nat.le_of_ble_eq_true rfl) ?_
  unfold Item.d Item.cells Call.d Call.cells Wi.A8.d Wi.A8.cells Node.d Node.cells View.cells Calls.cells Job.cells at *
  simp only [List.cons_append,List.nil_append] at *
  refine wd Ar [] [] A1 (GD @cg @cl @cl2 @cw) ?_;with_reducible repeat' first|constructor|intro hc;try simp only[A3] at hc
  refine ⟨_,_,rfl,rfl,?_⟩;simp [AE,A6,A5,A4]
 | false =>
 rw [hL2] at cl2
 have hm:=CB hL
 by_cases hx : 300 < x.key.length
 case pos =>
  have fx : decide ((x.key.length : Int) > 300) = true:=decide_eq_true (by omega)
  clear cr hw hG hk hb hL hL2 hm hx
  refine A0 AB Tryz.func4 rfl rfl (Nat.le_of_ble_eq_true rfl) ?_
  unfold Item.d Item.cells Call.d Call.cells Wi.A8.d Wi.A8.cells Node.d Node.cells View.cells Calls.cells Job.cells at *
  simp only [List.cons_append,List.nil_append] at *
  refine wd Ar [] [] (AD fx) (GD @cg @cl @cl2 @cw) ?_;with_reducible repeat' first|constructor|intro hc;try simp only[A3] at hc
  refine ⟨_,_,rfl,rfl,?_⟩;simp [AE,A6,A5,A4]
 case neg =>
 have fx : decide ((x.key.length : Int) > 300) = false:=decide_eq_false (by omega)
 cases hr : AG n with
 | false =>
  rw [hr] at cr
  clear hw hG hk hb hL hL2 hm hr hx
  refine A0 AB Tryz.func4 rfl rfl (Nat.le_of_ble_eq_true rfl) ?_
  unfold Item.d Item.cells Call.d Call.cells Wi.A8.d Wi.A8.cells Node.d Node.cells View.cells Calls.cells Job.cells at *
  simp only [List.cons_append,List.nil_append] at *
  refine wd Ar [] [] (AD fx) (IF @cg @cl @cl2 @cr @cw) ?_;with_reducible repeat' first|constructor|intro hc;try simp only[A3] at hc
  refine ⟨_,_,rfl,rfl,?_⟩;simp [AE,A6,A5,A4]
 | true =>
 rw [hr] at cr
 obtain ⟨⟨sA,lA⟩,sB,sD,sE⟩:=(⟨FR n w what place x,PG n c m,RZ n c,NH n w⟩ : _ ∧ _ ∧ _ ∧ _)
 have jA : JB 43 300 (B6 n w what place x).1:=(Jv n w what place x hb (by decide) (by omega)).mono (by decide)
 have jB : JB 43 300 (Aw n c m).1:=S6 n c m hb (by omega)
 have jD : JB 43 300 (Be n c).1:=Tz n c hb
 have jE : JB 43 300 (E9 n w):=(Vk n w hb).mono (by decide)
 have kA:=Fs hk.ok sA hr jA (by decide)
 have kB:=Fs hk.ok sB hr jB (by decide)
 have kD:=Fs hk.ok sD hr jD (by decide)
 have kE:=Fs hk.ok sE hr jE (by decide)
 have cA:=Gf n hk w what place x (by omega)
 have cB:=Cz n hk c m (by unfold Ab;omega) (by omega)
 have cD:=E0 n hk c
 have cE:=N7 n hk w
 have cO:=VV n hk.ok
 have hkn:=hk.ok.kn
 have gA:=IK hr sA kA
 have mA:=Mx sA kA
 have gB:=IK hr sB kB
 have mB:=Mx sB kB
 have gD:=IK hr sD kD
 have mD:=Mx sD kD
 have gE:=IK hr sE kE
 have mE:=Mx sE kE
 clear lA sA sB sD sE jA jB jD jE kA kB kD kE hw hG hk hb hL hL2 hm hr hx
 generalize B6 n w what place x = A at *
 generalize Aw n c m = B at *
 generalize Be n c = U at *
 generalize E9 n w = V at *
 obtain ⟨A,A'⟩:=A
 obtain ⟨B,B'⟩:=B
 obtain ⟨U,U'⟩:=U
 dsimp only at *
 refine A0 AB Tryz.func4 rfl rfl (Nat.le_of_ble_eq_true rfl) ?_
 unfold Item.d Item.cells Call.d Call.cells Wi.A8.d Wi.A8.cells Node.d Node.cells View.cells Calls.cells Job.cells at *
 simp only [List.cons_append,List.nil_append] at *
 refine wd Ar [6] [] (AD fx) (Xx @cg @cl @cl2 @cr @cA @cB @cD @cE) ?_;with_reducible repeat' first|constructor|intro hc;try simp only[A3] at hc
 refine wd Ar [7] [(0,7),(1,7),(2,7),(3,7)] A1 (AD @cE) ?_;with_reducible repeat' first|constructor|intro hc;try simp only[A3] at hc
 clear cA cB cD cE cg cl cl2 fx cr
 refine wd Ar [8] [] A1 A1 ?_;with_reducible repeat' first|constructor|intro hc;try simp only[A3] at hc
 refine EO 5 ?_
 refine wd Ar [] [] A1 A1 ?_;with_reducible repeat' first|constructor|intro hc;try simp only[A3] at hc
 refine B1 (fun k => k ≤ n.keep.length) (fun k : Nat => [(23,.d (.i .i64 k))]) (fun k => n.keep.length - k) 0 (Nat.zero_le _) (fun _ => rfl) ?_ ?_
 ·exact A2.ck rfl
 rintro k hk
 by_cases hkl : k < n.keep.length
 ·obtain ⟨y,hy⟩:=AR hkl
  obtain ⟨z,c1,c2⟩:=gA y (List.mem_of_getElem? hy)
  (try unfold Item.d Item.cells at c1 c2)
  have fk : decide ((k : Int) < (n.keep.length : Int)) = true:=decide_eq_true (by omega)
  refine wd Ar [13] [] (AD fk) A1 ?_;with_reducible repeat' first|constructor|intro hc;try simp only[A3] at hc
  have ix1:=hy;refine wd Ar [14] [(1,14),(2,14),(3,14),(4,14),(5,14),(8,14),(9,14)] A1 (AD @c1) ?_;clear ix1;with_reducible repeat' first|constructor|intro hc;try simp only[A3] at hc
  have ix1:=hy;refine wd Ar [] [] A1 (AD @c2) ?_;clear ix1;with_reducible repeat' first|constructor|intro hc;try simp only[A3] at hc
  refine ⟨k + 1,hkl,by dsimp only;omega,Nat.le_refl _,?_⟩
  exact A2.ck rfl
 have e : k = n.keep.length:=by omega
 subst e
 clear hkl hk gA
 have fk : decide ((n.keep.length : Int) < (n.keep.length : Int)) = false:=decide_eq_false (by omega)
 refine wd Ar [17] [] (AD fk) (AD @cO) ?_;with_reducible repeat' first|constructor|intro hc;try simp only[A3] at hc
 refine wd Ar [18] [(4,29),(5,29),(6,29),(7,29),(8,29),(9,29),(10,29),(11,29),(12,29),(13,29),(14,29),(15,29),(16,29),(17,29),(18,29),(19,29),(20,29),(21,29),(22,29),(23,29),(24,29),(25,29),(26,29),(27,29),(8,31),(9,31),(10,31),(11,31),(12,31),(13,31),(14,31),(15,31),(16,31),(17,31),(18,31),(19,31),(20,31),(21,31),(22,31),(23,31),(24,31),(25,31),(26,31),(27,31),(12,33),(13,33),(14,33),(15,33),(16,33),(17,33),(18,33),(19,33),(20,33),(21,33),(22,33),(23,33),(24,33),(25,33),(26,33),(27,33),(16,35),(17,35),(18,35),(19,35),(20,35),(21,35),(22,35),(23,35),(24,35),(25,35),(26,35),(27,35),(20,37),(21,37),(22,37),(23,37),(24,37),(25,37),(26,37),(27,37),(24,39),(25,39),(26,39),(27,39)] A1 A1 ?_;with_reducible repeat' first|constructor|intro hc;try simp only[A3] at hc
 refine wd Ar [] [] A1 (AD @mA) ?_;with_reducible repeat' first|constructor|intro hc;try simp only[A3] at hc
 refine B1 (fun x : Nat × Bool => x.1 ≤ n.keep.length) (fun x : Nat × Bool => [(23,.d (.i .i64 x.1)),(87,.d (.b x.2))]) (fun x => n.keep.length - x.1) (0,false) (Nat.zero_le _) (fun _ => rfl) ?_ ?_
 ·exact A2.ck rfl
 rintro ⟨k,b⟩ hk
 dsimp only at hk ⊢
 by_cases hkl : k < n.keep.length
 ·obtain ⟨y,hy⟩:=AR hkl
  obtain ⟨z,c1,c2⟩:=gB y (List.mem_of_getElem? hy)
  (try unfold Item.d Item.cells at c1 c2)
  have fk : decide ((k : Int) < (n.keep.length : Int)) = true:=decide_eq_true (by omega)
  refine wd Ar [13] [] (AD fk) A1 ?_;with_reducible repeat' first|constructor|intro hc;try simp only[A3] at hc
  have ix1:=hy;refine wd Ar [14] [(1,14),(2,14),(3,14),(4,14),(5,14),(8,14),(9,14)] A1 (AD @c1) ?_;clear ix1;with_reducible repeat' first|constructor|intro hc;try simp only[A3] at hc
  have ix1:=hy;refine wd Ar [] [] A1 (AD @c2) ?_;clear ix1;with_reducible repeat' first|constructor|intro hc;try simp only[A3] at hc
  refine ⟨(k + 1,true),hkl,by dsimp only;omega,Nat.le_refl _,?_⟩
  exact A2.ck rfl
 have e : k = n.keep.length:=by omega
 subst e
 clear hkl hk gB
 have fk : decide ((n.keep.length : Int) < (n.keep.length : Int)) = false:=decide_eq_false (by omega)
 refine wd Ar [17] [] (AD fk) (AD @cO) ?_;with_reducible repeat' first|constructor|intro hc;try simp only[A3] at hc
 refine wd Ar [18] [(4,29),(5,29),(6,29),(7,29),(8,29),(9,29),(10,29),(11,29),(12,29),(13,29),(14,29),(15,29),(16,29),(17,29),(18,29),(19,29),(20,29),(21,29),(22,29),(23,29),(24,29),(25,29),(26,29),(27,29),(8,31),(9,31),(10,31),(11,31),(12,31),(13,31),(14,31),(15,31),(16,31),(17,31),(18,31),(19,31),(20,31),(21,31),(22,31),(23,31),(24,31),(25,31),(26,31),(27,31),(12,33),(13,33),(14,33),(15,33),(16,33),(17,33),(18,33),(19,33),(20,33),(21,33),(22,33),(23,33),(24,33),(25,33),(26,33),(27,33),(16,35),(17,35),(18,35),(19,35),(20,35),(21,35),(22,35),(23,35),(24,35),(25,35),(26,35),(27,35),(20,37),(21,37),(22,37),(23,37),(24,37),(25,37),(26,37),(27,37),(24,39),(25,39),(26,39),(27,39)] A1 A1 ?_;with_reducible repeat' first|constructor|intro hc;try simp only[A3] at hc
 refine wd Ar [] [] A1 (AD @mB) ?_;with_reducible repeat' first|constructor|intro hc;try simp only[A3] at hc
 refine B1 (fun x : Nat × Bool => x.1 ≤ n.keep.length) (fun x : Nat × Bool => [(23,.d (.i .i64 x.1)),(87,.d (.b x.2))]) (fun x => n.keep.length - x.1) (0,false) (Nat.zero_le _) (fun _ => rfl) ?_ ?_
 ·exact A2.ck rfl
 rintro ⟨k,b⟩ hk
 dsimp only at hk ⊢
 by_cases hkl : k < n.keep.length
 ·obtain ⟨y,hy⟩:=AR hkl
  obtain ⟨z,c1,c2⟩:=gD y (List.mem_of_getElem? hy)
  (try unfold Item.d Item.cells at c1 c2)
  have fk : decide ((k : Int) < (n.keep.length : Int)) = true:=decide_eq_true (by omega)
  refine wd Ar [13] [] (AD fk) A1 ?_;with_reducible repeat' first|constructor|intro hc;try simp only[A3] at hc
  have ix1:=hy;refine wd Ar [14] [(1,14),(2,14),(3,14),(4,14),(5,14),(8,14),(9,14)] A1 (AD @c1) ?_;clear ix1;with_reducible repeat' first|constructor|intro hc;try simp only[A3] at hc
  have ix1:=hy;refine wd Ar [] [] A1 (AD @c2) ?_;clear ix1;with_reducible repeat' first|constructor|intro hc;try simp only[A3] at hc
  refine ⟨(k + 1,true),hkl,by dsimp only;omega,Nat.le_refl _,?_⟩
  exact A2.ck rfl
 have e : k = n.keep.length:=by omega
 subst e
 clear hkl hk gD
 have fk : decide ((n.keep.length : Int) < (n.keep.length : Int)) = false:=decide_eq_false (by omega)
 refine wd Ar [17] [] (AD fk) (AD @cO) ?_;with_reducible repeat' first|constructor|intro hc;try simp only[A3] at hc
 refine wd Ar [18] [(4,29),(5,29),(6,29),(7,29),(8,29),(9,29),(10,29),(11,29),(12,29),(13,29),(14,29),(15,29),(16,29),(17,29),(18,29),(19,29),(20,29),(21,29),(22,29),(23,29),(24,29),(25,29),(26,29),(27,29),(8,31),(9,31),(10,31),(11,31),(12,31),(13,31),(14,31),(15,31),(16,31),(17,31),(18,31),(19,31),(20,31),(21,31),(22,31),(23,31),(24,31),(25,31),(26,31),(27,31),(12,33),(13,33),(14,33),(15,33),(16,33),(17,33),(18,33),(19,33),(20,33),(21,33),(22,33),(23,33),(24,33),(25,33),(26,33),(27,33),(16,35),(17,35),(18,35),(19,35),(20,35),(21,35),(22,35),(23,35),(24,35),(25,35),(26,35),(27,35),(20,37),(21,37),(22,37),(23,37),(24,37),(25,37),(26,37),(27,37),(24,39),(25,39),(26,39),(27,39)] A1 A1 ?_;with_reducible repeat' first|constructor|intro hc;try simp only[A3] at hc
 refine wd Ar [] [] A1 (AD @mD) ?_;with_reducible repeat' first|constructor|intro hc;try simp only[A3] at hc
 refine B1 (fun x : Nat × Bool => x.1 ≤ n.keep.length) (fun x : Nat × Bool => [(23,.d (.i .i64 x.1)),(87,.d (.b x.2))]) (fun x => n.keep.length - x.1) (0,false) (Nat.zero_le _) (fun _ => rfl) ?_ ?_
 ·exact A2.ck rfl
 rintro ⟨k,b⟩ hk
 dsimp only at hk ⊢
 by_cases hkl : k < n.keep.length
 ·obtain ⟨y,hy⟩:=AR hkl
  obtain ⟨z,c1,c2⟩:=gE y (List.mem_of_getElem? hy)
  (try unfold Item.d Item.cells at c1 c2)
  have fk : decide ((k : Int) < (n.keep.length : Int)) = true:=decide_eq_true (by omega)
  refine wd Ar [13] [] (AD fk) A1 ?_;with_reducible repeat' first|constructor|intro hc;try simp only[A3] at hc
  have ix1:=hy;refine wd Ar [14] [(1,14),(2,14),(3,14),(4,14),(5,14),(8,14),(9,14)] A1 (AD @c1) ?_;clear ix1;with_reducible repeat' first|constructor|intro hc;try simp only[A3] at hc
  have ix1:=hy;refine wd Ar [] [] A1 (AD @c2) ?_;clear ix1;with_reducible repeat' first|constructor|intro hc;try simp only[A3] at hc
  refine ⟨(k + 1,true),hkl,by dsimp only;omega,Nat.le_refl _,?_⟩
  exact A2.ck rfl
 have e : k = n.keep.length:=by omega
 subst e
 clear hkl hk gE
 have fk : decide ((n.keep.length : Int) < (n.keep.length : Int)) = false:=decide_eq_false (by omega)
 refine wd Ar [17] [] (AD fk) (AD @cO) ?_;with_reducible repeat' first|constructor|intro hc;try simp only[A3] at hc
 refine wd Ar [18] [(4,29),(5,29),(6,29),(7,29),(8,29),(9,29),(10,29),(11,29),(12,29),(13,29),(14,29),(15,29),(16,29),(17,29),(18,29),(19,29),(20,29),(21,29),(22,29),(23,29),(24,29),(25,29),(26,29),(27,29),(8,31),(9,31),(10,31),(11,31),(12,31),(13,31),(14,31),(15,31),(16,31),(17,31),(18,31),(19,31),(20,31),(21,31),(22,31),(23,31),(24,31),(25,31),(26,31),(27,31),(12,33),(13,33),(14,33),(15,33),(16,33),(17,33),(18,33),(19,33),(20,33),(21,33),(22,33),(23,33),(24,33),(25,33),(26,33),(27,33),(16,35),(17,35),(18,35),(19,35),(20,35),(21,35),(22,35),(23,35),(24,35),(25,35),(26,35),(27,35),(20,37),(21,37),(22,37),(23,37),(24,37),(25,37),(26,37),(27,37),(24,39),(25,39),(26,39),(27,39)] A1 A1 ?_;with_reducible repeat' first|constructor|intro hc;try simp only[A3] at hc
 refine wd Ar [] [] A1 (Ao @mE @cw) ?_;with_reducible repeat' first|constructor|intro hc;try simp only[A3] at hc
 refine ⟨_,_,rfl,rfl,?_⟩;simp [AE,A6,A5,A4]
end Nd
end Go.Proofs.YtnahkfkljohjaaaGreatDoor
