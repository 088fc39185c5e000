/- Part 29 of the texts of this proof, put together by a program and made short.
Conditions: none; what each theorem asks stands in its own hypotheses. -/
import Derived.Test.YtagnjflbhjmefaaGreatRb27
import Derived.Test.YtagnjflbhjmefaaGreatRb28
import Derived.Ground.NamesProg
import Derived.Shelf.Slices.In.SortAlone
import Derived.Shelf.Slices.In.SortNone
import Derived.Sort.Walk0
import Derived.KernelRfl
import Derived.RangeFuncIn
import Derived.Sort.Grow
import Derived.Laws.Cover3
import Derived.RecoverIn
import Derived.ProofKit
import Derived.OpenShut
import Derived.CallsIn
import Derived.RangeFuncLeaves
import Derived.OrdersIn
import Derived.TacticsIn
import Derived.ChangeKeysEq
import Derived.Laws.AppendOwn
import Derived.Laws.OwnMore
import Derived.Laws.MakeOwn
import Derived.Laws.Rows
import Derived.Laws.Cells
import Derived.Laws.Tables
import Derived.Laws.CopyRow
import Derived.Laws.Strings
import Derived.Laws.IdiomStrings
import Derived.Laws.BytesArg
import Derived.Test.YtagnjflbhjmefaaGreatProg
set_option linter.unusedSimpArgs false
set_option linter.unusedVariables false
set_option linter.unnecessarySimpa false
set_option maxHeartbeats 40000000
namespace Go.Proofs.YtagnjflbhjmefaaGreat
namespace Nd
open Go.Gar
open Wi (AE Az B7)
set_option maxRecDepth 4000
def Eg (c : AD) (p : Int) : Int × Bool:=if AN c then B2 c.nodes p else (0,false)
theorem Hw (c : AD) (p : Int) (h : I7 c) : Go.Gar.Fn Tryz.prog 10 [c.d,.i .i64 p] (.tup [.i .i64 (Eg c p).1,.b (Eg c p).2]):=by
 have c1:=Ey c h
 have c2:=JB c p h
 have hT : Eg c p = if AN c then B2 c.nodes p else (0,false):=rfl
 generalize AN c = R at *
 obtain ⟨nodes,gone,base,grams,lost⟩:=c
 refine A3 A8 Tryz.func10 rfl rfl (Nat.le_of_ble_eq_true rfl) ?_
 unfold AD.d AD.cells at *
 generalize B2 (AD.mk nodes gone base grams lost).nodes p = nx at *
 rw [hT]
 cases R
 ·have nS:=True.intro;obtain ⟨lv,st,ns,nc⟩:=wq [0,1,2,4,5,8] [];have c1:=@c1;refine wk ?_;clear nc ns st lv c1;repeat' (first|with_reducible constructor|(with_reducible intro hc;try simp only[A1] at hc))
  refine ⟨_,_,rfl,rfl,?_⟩;simp [AH,A6,A5,A4]
 ·have nS:=True.intro;obtain ⟨lv,st,ns,nc⟩:=wq [0,1,2,4,5,8] [];have c1:=@c1;have c2:=@c2;refine wk ?_;clear nc ns st lv c2 c1;repeat' (first|with_reducible constructor|(with_reducible intro hc;try simp only[A1] at hc))
  refine ⟨_,_,rfl,rfl,?_⟩;simp [AH,A6,A5,A4]
theorem Ng (c : AD) (p : Int) (h : I7 c) : Go.Gar.Fn Tryz.prog 11 [c.d,.i .i64 p] (.tup [.i .i64 (Eg c p).1,.b (Eg c p).2]):=by
 have c1:=DN c h
 have cA:=fun p => Td c p h
 have hT : Eg c p = if AN c then B2 c.nodes p else (0,false):=rfl
 generalize AN c = R at *
 obtain ⟨nodes,gone,base,grams,lost⟩:=c
 obtain ⟨hnl,hnn,hgl,hbl,hll⟩:=h
 simp only at *
 have c2:=cA p
 have hN : B2 nodes p = if AZ nodes p then (EF nodes (nodeAt nodes p).view,true) else (0,false):=rfl
 have hA : ∀ q,AZ nodes q = true → LA (nodeAt nodes q):=fun q hq => by
  obtain ⟨k,x,e1,e2,e3,e4⟩:=EC hq
  rw [e4];exact hnn x (List.mem_of_getElem? e2)
 have hxo:=hA p
 rw [hN] at hT
 refine A3 A8 Tryz.func11 rfl rfl (Nat.le_of_ble_eq_true rfl) ?_
 unfold AD.d AD.cells at *
 simp only at *
 generalize nodeAt nodes p = x at *
 rw [hT]
 clear hT hN
 cases R with
 | false =>
  have nS:=True.intro;obtain ⟨lv,st,ns,nc⟩:=wq [0,1,2,4,5,6,7,8,10,23,29,43] [];have c1:=@c1;have c2:=@c2;have pr : AC []:=trivial;refine wd ?_;clear nc ns st lv pr c2 c1;repeat' (first|with_reducible constructor|(with_reducible intro hc;try simp only[A1] at hc))
  refine ⟨_,_,rfl,rfl,?_⟩;simp [AH,A6,A5,A4]
 | true =>
 cases hb : AZ nodes p with
 | false =>
  rw [hb] at c2
  have nS:=True.intro;obtain ⟨lv,st,ns,nc⟩:=wq [0,1,2,4,5,6,7,8,10,23,29,43] [];have c1:=@c1;have c2:=@c2;have pr : AC []:=trivial;refine wd ?_;clear nc ns st lv pr c2 c1;repeat' (first|with_reducible constructor|(with_reducible intro hc;try simp only[A1] at hc))
  refine ⟨_,_,rfl,rfl,?_⟩;simp [AH,A6,A5,A4]
 | true =>
 rw [hb] at c2
 replace hxo:=hxo hb
 have c3:=PS x.view hxo.id hxo.li hxo.vb hxo.vl
 have hll:=hxo.vl
 unfold View.d View.cells at c3
 have nS:=True.intro;obtain ⟨lv,st,ns,nc⟩:=wq [0,1,2,4,5,6,7,8,10,23,29,43] [];have c1:=@c1;have c2:=@c2;have pr : AC []:=trivial;refine wd ?_;clear nc ns st lv pr c2 c1;repeat' (first|with_reducible constructor|(with_reducible intro hc;try simp only[A1] at hc))
 refine AS (fun k => k ≤ x.view.list.length ∧ (x.view.list.take k).any (AZ nodes) = false) (fun k : Nat => [(8,.d (.i .i64 k))]) (fun k => x.view.list.length - k) 0 ⟨Nat.zero_le _,rfl⟩ (fun _ => rfl) ?_ ?_
 ·exact A0.ck rfl
 rintro j ⟨hj,hpre⟩
 by_cases hjl : j < x.view.list.length
 ·obtain ⟨y,hy⟩:=AG hjl
  have gy:=AY hy
  have c4:=cA y
  generalize nodeAt nodes y = ny at *
  have hA:=BH (p:=AZ nodes) hy
  rw [hpre,Bool.false_or] at hA
  cases hb2 : AZ nodes y with
  | true =>
   rw [hb2] at c4
   have hV : EF nodes x.view = y:=by unfold EF;rw [NY hy hb2 hpre]
   have nS:=gy;obtain ⟨lv,st,ns,nc⟩:=wq [0,1,2,4,5,6,7,8,10,23,29,43] [];have c1:=@c4;have pr : AC [(0,11),(1,11),(2,11),(3,11),(6,11)]:=trivial;refine wd ?_;clear nc ns st lv pr c1;repeat' (first|with_reducible constructor|(with_reducible intro hc;try simp only[A1] at hc))
   simp only [if_true]
   rw [hV]
   refine ⟨_,_,rfl,rfl,?_⟩;simp [AH,A6,A5,A4]
  | false =>
   rw [hb2] at c4
   have nS:=gy;obtain ⟨lv,st,ns,nc⟩:=wq [0,1,2,4,5,6,7,8,10,23,29,43] [];have c1:=@c4;have pr : AC [(0,11),(1,11),(2,11),(3,11),(6,11)]:=trivial;refine wd ?_;clear nc ns st lv pr c1;repeat' (first|with_reducible constructor|(with_reducible intro hc;try simp only[A1] at hc))
   refine ⟨j + 1,⟨hjl,by rw [hA,hb2]⟩,by omega,Nat.le_refl _,?_⟩
   exact A0.ck rfl
 ·have e : j = x.view.list.length:=by omega
  subst e
  rw [List.take_length] at hpre
  have hV : EF nodes x.view = P5 x.view:=by unfold EF;rw [Oc hpre]
  have nS:=True.intro;obtain ⟨lv,st,ns,nc⟩:=wq [0,1,2,4,5,6,7,8,10,23,29,43] [];have c1:=@c3;have pr : AC []:=trivial;refine wd ?_;clear nc ns st lv pr c1;repeat' (first|with_reducible constructor|(with_reducible intro hc;try simp only[A1] at hc))
  simp only [if_true]
  rw [hV]
  refine ⟨_,_,rfl,rfl,?_⟩;simp [AH,A6,A5,A4]
end Nd
end Go.Proofs.YtagnjflbhjmefaaGreat
