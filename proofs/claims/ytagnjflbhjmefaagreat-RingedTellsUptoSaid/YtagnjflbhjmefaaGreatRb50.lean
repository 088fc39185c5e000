/- Part 50 of the texts of this proof, put together by a program and made short.
Conditions: none; what each theorem asks stands in its own hypotheses. -/
import Derived.Test.YtagnjflbhjmefaaGreatRb32
import Derived.Test.YtagnjflbhjmefaaGreatRb45
import Derived.Test.YtagnjflbhjmefaaGreatRb46
import Derived.Test.YtagnjflbhjmefaaGreatRb49
import Derived.Ground.NamesProg
import Derived.Shelf.Slices.In.SortAlone
import Derived.Shelf.Slices.In.SortNone
import Derived.Sort.Walk0
import Derived.KernelRfl
import Derived.RangeFuncIn
import Derived.Sort.Grow
import Derived.Laws.Cover3
import Derived.RecoverIn
import Derived.ProofKit
import Derived.OpenShut
import Derived.CallsIn
import Derived.RangeFuncLeaves
import Derived.OrdersIn
import Derived.TacticsIn
import Derived.ChangeKeysEq
import Derived.Laws.AppendOwn
import Derived.Laws.OwnMore
import Derived.Laws.MakeOwn
import Derived.Laws.Rows
import Derived.Laws.Cells
import Derived.Laws.Tables
import Derived.Laws.CopyRow
import Derived.Laws.Strings
import Derived.Laws.IdiomStrings
import Derived.Laws.BytesArg
import Derived.Test.YtagnjflbhjmefaaGreatProg
set_option linter.unusedSimpArgs false
set_option linter.unusedVariables false
set_option linter.unnecessarySimpa false
set_option maxHeartbeats 40000000
namespace Go.Proofs.YtagnjflbhjmefaaGreat
namespace Nd
open Go.Gar
open Wi (AE Az B7 BC)
set_option maxRecDepth 4000
theorem Le (c : AD) (p steps : Int) : (Ci c p steps).length ≤ 1000:=by
 unfold Ci
 split
 ·rw [El];have:=ML steps;omega
 ·exact Nat.zero_le _
theorem Lh (c : AD) (h : I7 c) : (ET c).1.length ≤ 1048576:=by
 have hn:=h.nl
 unfold ET
 split
 ·split
  ·rename_i j hj
   unfold HS at hj
   have:=List.mem_range.1 (List.mem_of_find?_eq_some hj)
   show (wl _ _ _).length ≤ _
   rw [El];omega
  ·exact Nat.zero_le _
 ·exact Nat.zero_le _
theorem Kc (c : AD) (gs : List Bu) (p steps : Int) (hw : R5 c) (hg : c.grams = gs.map Bu.cells) (hb : ∀ g ∈ gs,g.by_.length ≤ 1048576) : Go.Gar.Fn Tryz.prog 3 [c.d,.i .i64 p,.i .i64 steps] (.b true):=by
 have cw:=H7
 have cg:=Jt c gs hw hg hb
 cases hG : GJ c gs with
 | true =>
  rw [hG] at cg
  obtain ⟨nodes,gone,base,grams,lost⟩:=c
  clear hw hg hb hG
  unfold AD.d AD.cells at *
  simp only at *
  refine A3 A8 Tryz.func3 rfl rfl (Nat.le_of_ble_eq_true rfl) ?_
  have nS:=True.intro;obtain ⟨lv,st,ns,nc⟩:=wq [0,1,2,3,6,7,8,9,10,11,12,13,14,15,16,17,18,20] [];have c1:=@cg;have c2:=@cw;have pr : AC []:=trivial;refine wd ?_;clear nc ns st lv pr c2 c1;repeat' (first|with_reducible constructor|(with_reducible intro hc;try simp only[A1] at hc))
  refine ⟨_,_,rfl,rfl,?_⟩;simp [AH,A6,A5,A4]
 | false =>
 rw [hG] at cg
 have h:=Ie hw hG
 clear hG hw
 have a1:=Hw c p h
 have a2:=Ng c p h
 have a3:=Mt c h
 have a4:=Tw c h
 have a5:=Ks c p h
 have a6:=RX c p h
 have a7:=JR c p steps h
 have a8:=Kt c p steps h
 have a9:=JV c gs h hg hb
 have a10:=If c gs h hg hb
 have i1:=MJ (Ci c p steps) (Ci c p steps) (by have:=Le c p steps;omega) (by have:=Le c p steps;omega)
 have i2:=MJ (ET c).1 (ET c).1 (Lh c h) (Lh c h)
 rw [decide_eq_true rfl] at i1 i2
 generalize Bq c gs = b1 at *
 generalize Ci c p steps = w at *
 generalize DR c p = re at *
 generalize ET c = ri at *
 generalize Eg c p = ne at *
 obtain ⟨re1,re2⟩:=re
 obtain ⟨ri1,ri2⟩:=ri
 obtain ⟨ne1,ne2⟩:=ne
 obtain ⟨nodes,gone,base,grams,lost⟩:=c
 clear h hg hb
 unfold AD.d AD.cells at *
 simp only at *
 have e1 : (ne1 == ne1) = true:=beq_self_eq_true _
 have e2 : (ne2 == ne2) = true:=by cases ne2 <;> rfl
 have e3 : (ri2 == ri2) = true:=by cases ri2 <;> rfl
 have e4 : (re1 == re1) = true:=beq_self_eq_true _
 have e5 : (re2 == re2) = true:=by cases re2 <;> rfl
 have e6 : (b1 == b1) = true:=by cases b1 <;> rfl
 refine A3 A8 Tryz.func3 rfl rfl (Nat.le_of_ble_eq_true rfl) ?_
 have nS:=And.intro e1 (And.intro e2 (And.intro e3 (And.intro e4 (And.intro e5 e6))));obtain ⟨lv,st,ns,nc⟩:=wq [0,1,2,3,6,7,8,9,10,11,12,13,14,15,16,17,18,20] [];have c1:=@cg;have c2:=@a1;have c3:=@a2;have c4:=@a3;have c5:=@a4;have c6:=@a5;have c7:=@a6;have c8:=@a7;have c9:=@a8;have c10:=@a9;have c11:=@a10;have c12:=@i1;have c13:=@i2;have c14:=@cw;have pr : AC []:=trivial;refine wd ?_;clear nc ns st lv pr c14 c13 c12 c11 c10 c9 c8 c7 c6 c5 c4 c3 c2 c1;repeat' (first|with_reducible constructor|(with_reducible intro hc;try simp only[A1] at hc))
 refine ⟨_,_,rfl,rfl,?_⟩;simp [AH,A6,A5,A4]
end Nd
end Go.Proofs.YtagnjflbhjmefaaGreat
