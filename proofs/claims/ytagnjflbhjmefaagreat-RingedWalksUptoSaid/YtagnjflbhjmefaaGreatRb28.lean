/- Part 28 of the texts of this proof, put together by a program and made short.
Conditions: none; what each theorem asks stands in its own hypotheses. -/
import Derived.Test.YtagnjflbhjmefaaGreatRb18
import Derived.Test.YtagnjflbhjmefaaGreatRb24
import Derived.Ground.NamesProg
import Derived.Shelf.Slices.In.SortAlone
import Derived.Shelf.Slices.In.SortNone
import Derived.Sort.Walk0
import Derived.KernelRfl
import Derived.RangeFuncIn
import Derived.Sort.Grow
import Derived.Laws.Cover3
import Derived.RecoverIn
import Derived.ProofKit
import Derived.OpenShut
import Derived.CallsIn
import Derived.RangeFuncLeaves
import Derived.OrdersIn
import Derived.TacticsIn
import Derived.ChangeKeysEq
import Derived.Laws.AppendOwn
import Derived.Laws.OwnMore
import Derived.Laws.MakeOwn
import Derived.Laws.Rows
import Derived.Laws.Cells
import Derived.Laws.Tables
import Derived.Laws.CopyRow
import Derived.Laws.Strings
import Derived.Laws.IdiomStrings
import Derived.Laws.BytesArg
import Derived.Test.YtagnjflbhjmefaaGreatProg
set_option linter.unusedSimpArgs false
set_option linter.unusedVariables false
set_option linter.unnecessarySimpa false
set_option maxHeartbeats 40000000
namespace Go.Proofs.YtagnjflbhjmefaaGreat
namespace Nd
open Go.Gar
open Wi (AE Az B7)
set_option maxRecDepth 4000
theorem Ue (x : Node) (p : Int) : BK Tryz.prog 123 [.d x.d,.ptr 0 0 1] [.c [.d (.i .i64 p)]] (.d (.b (Do p x))) [.c [.d (.i .i64 p)]]:=by
 refine AB A8 Tryz.func123 rfl rfl (Nat.le_of_ble_eq_true rfl) ?_
 unfold Node.d
 have hE : Do p x = decide (x.view.id = p):=rfl
 by_cases h1 : x.view.id = p
 ·have f1:=Ar h1
  rw [hE,decide_eq_true h1]
  have nS:=f1;obtain ⟨lv,st,ns,nc⟩:=wq [0,1,2,3] [];refine wk ?_;clear nc ns st lv;repeat' (first|with_reducible constructor|(with_reducible intro hc;try simp only[A1] at hc))
  exact ⟨⟨[(3,.d (.b true))],[.c [.d (.i .i64 p)]],_⟩,(A0.ck rfl),Nat.le_refl _,_,_,rfl,rfl,rfl,rfl⟩
 ·have f1:=eq_false' h1
  rw [hE,decide_eq_false h1]
  have nS:=f1;obtain ⟨lv,st,ns,nc⟩:=wq [0,1,2,3] [];refine wk ?_;clear nc ns st lv;repeat' (first|with_reducible constructor|(with_reducible intro hc;try simp only[A1] at hc))
  exact ⟨⟨[(3,.d (.b false))],[.c [.d (.i .i64 p)]],_⟩,(A0.ck rfl),Nat.le_refl _,_,_,rfl,rfl,rfl,rfl⟩
theorem P0 (l : List Node) (p : Int) (hn : l.length ≤ 9223372036854775807) : BK Tryz.prog 81 [.d (A2 l),.fn (.func 123) [] [.ptr 0 0 1]] [.c [.d (.i .i64 p)]] (.d (.i .i64 (CN (Do p) l))) [.c [.d (.i .i64 p)]]:=by
 refine AB A8 Tryz.func81 rfl rfl (Nat.le_of_ble_eq_true rfl) ?_
 have nS:=True.intro;obtain ⟨lv,st,ns,nc⟩:=wq [0,1,4,5,7,8,9,16] [];refine wk ?_;clear nc ns st lv;repeat' (first|with_reducible constructor|(with_reducible intro hc;try simp only[A1] at hc))
 refine AS (fun k => k ≤ l.length ∧ (l.take k).any (Do p) = false) (fun k : Nat => [(8,.d (.i .i64 k))]) (fun k => l.length - k) 0 ⟨Nat.zero_le _,rfl⟩ (fun _ => rfl) ?_ ?_
 ·exact A0.ck rfl
 rintro k ⟨hk,hpre⟩
 by_cases hkl : k < l.length
 ·obtain ⟨x,hx⟩:=AG hkl
  have hA:=BH (p:=Do p) hx
  rw [hpre,Bool.false_or] at hA
  have c1:=Ue x p
  unfold Node.d at c1
  cases hb : Do p x with
  | true =>
   rw [hb] at c1
   have nS:=True.intro;obtain ⟨lv,st,ns,nc⟩:=wq [0,1,4,5,7,8,9,16] [];have ix1:=hx;have d1:=Ds.mk [0] (c1);refine wk ?_;clear nc ns st lv d1 ix1;repeat' (first|with_reducible constructor|(with_reducible intro hc;try simp only[A1] at hc))
   rw [FH hx hb hpre]
   exact ⟨⟨[(4,.d (.i .i64 k))],[.c [.d (.i .i64 p)]],_⟩,(A0.ck rfl),Nat.le_refl _,_,_,rfl,rfl,rfl,rfl⟩
  | false =>
   rw [hb] at c1
   have nS:=True.intro;obtain ⟨lv,st,ns,nc⟩:=wq [0,1,4,5,7,8,9,16] [];have ix1:=hx;have d1:=Ds.mk [0] (c1);refine wk ?_;clear nc ns st lv d1 ix1;repeat' (first|with_reducible constructor|(with_reducible intro hc;try simp only[A1] at hc))
   refine ⟨k + 1,⟨hkl,by rw [hA,hb]⟩,by omega,Nat.le_refl _,?_⟩
   exact A0.ck rfl
 ·have e : k = l.length:=by omega
  subst e
  rw [List.take_length] at hpre
  have nS:=True.intro;obtain ⟨lv,st,ns,nc⟩:=wq [0,1,4,5,7,8,9,16] [];refine wk ?_;clear nc ns st lv;repeat' (first|with_reducible constructor|(with_reducible intro hc;try simp only[A1] at hc))
  rw [E3 hpre]
  exact ⟨⟨[(4,.d (.i .i64 (-1)))],[.c [.d (.i .i64 p)]],_⟩,(A0.ck rfl),Nat.le_refl _,_,_,rfl,rfl,rfl,rfl⟩
theorem Sw (c : AD) (p : Int) (hn : c.nodes.length ≤ 9223372036854775807) : Go.Gar.Fn Tryz.prog 69 [c.d,.i .i64 p] (.i .i64 (CN (Do p) c.nodes)):=by
 obtain ⟨l,gone,base,grams,lost⟩:=c
 have d1:=P0 l p hn
 refine A3 A8 Tryz.func69 rfl rfl (Nat.le_of_ble_eq_true rfl) ?_
 simp only
 generalize CN (Do p) l = z at *
 unfold AD.d AD.cells
 have nS:=True.intro;obtain ⟨lv,st,ns,nc⟩:=wq [0,1,2,3,4] [];have d1:=Ds.mk [1] (d1);refine wk ?_;clear nc ns st lv d1;repeat' (first|with_reducible constructor|(with_reducible intro hc;try simp only[A1] at hc))
 refine ⟨_,_,rfl,rfl,?_⟩;simp [AH,A6,A5,A4]
def EF (l : List Node) (v : View) : Int:=match v.list.find? (AZ l) with
 | some q => q
 | none => P5 v
def B2 (l : List Node) (p : Int) : Int × Bool:=if AZ l p then (EF l (nodeAt l p).view,true) else (0,false)
theorem NY {q : Int → Bool} {l : List Int} {k : Nat} {x : Int} (hx : l[k]? = some x) (h : q x = true) (hn : (l.take k).any q = false) : l.find? q = some x:=by
 have e : l = l.take k ++ x :: l.drop (k + 1):=by
  have hk:=(List.getElem?_eq_some_iff.1 hx).1
  have hv:=(List.getElem?_eq_some_iff.1 hx).2
  rw [← hv,← List.drop_eq_getElem_cons hk,List.take_append_drop]
 rw [e,List.find?_append]
 have : (l.take k).find? q = none:=by
  rw [List.find?_eq_none]
  intro y hy
  rw [List.any_eq_false] at hn
  simpa using hn y hy
 rw [this]
 simp [List.find?_cons,h]
theorem Oc {q : Int → Bool} {l : List Int} (hn : l.any q = false) : l.find? q = none:=by
 rw [List.find?_eq_none]
 intro y hy
 rw [List.any_eq_false] at hn
 simpa using hn y hy
theorem JB (c : AD) (p : Int) (h : I7 c) : Go.Gar.Fn Tryz.prog 32 [c.d,.i .i64 p] (.tup [.i .i64 (B2 c.nodes p).1,.b (B2 c.nodes p).2]):=by
 have cf:=fun p => Sw c p (by have:=h.nl;omega)
 obtain ⟨nodes,gone,base,grams,lost⟩:=c
 obtain ⟨hnl,hnn,hgl,hbl,hll⟩:=h
 simp only at *
 refine A3 A8 Tryz.func32 rfl rfl (Nat.le_of_ble_eq_true rfl) ?_
 unfold AD.d AD.cells at *
 have c1:=cf p
 cases hb : AZ nodes p with
 | false =>
  rw [(LQ hb).1] at c1
  have hT : B2 nodes p = (0,false):=by unfold B2;rw [hb];rfl
  rw [hT]
  have nS:=True.intro;obtain ⟨lv,st,ns,nc⟩:=wq [0,1,2,4,5,6,7,9,14,22,23,24,25,31] [];have c1:=@c1;refine wk ?_;clear nc ns st lv c1;repeat' (first|with_reducible constructor|(with_reducible intro hc;try simp only[A1] at hc))
  refine ⟨_,_,rfl,rfl,?_⟩;simp [AH,A6,A5,A4]
 | true =>
 obtain ⟨k,x,e1,e2,e3,e4⟩:=EC hb
 rw [e1] at c1
 have hT : B2 nodes p = (EF nodes x.view,true):=by unfold B2;rw [hb,e4];rfl
 rw [hT]
 have f1 : decide ((k : Int) < 0) = false:=decide_eq_false (by omega)
 have hxo:=hnn x (List.mem_of_getElem? e2)
 have c2:=RU x.view hxo.vb hxo.vl
 have hll : x.view.list.length ≤ 1000:=hxo.vl
 unfold View.d View.cells at c2
 have nS:=f1;obtain ⟨lv,st,ns,nc⟩:=wq [0,1,2,4,5,6,7,9,14,22,23,24,25,31] [];have c1:=@c1;have ix1:=e2;refine wk ?_;clear nc ns st lv ix1 c1;repeat' (first|with_reducible constructor|(with_reducible intro hc;try simp only[A1] at hc))
 refine AS (fun k => k ≤ x.view.list.length ∧ (x.view.list.take k).any (AZ nodes) = false) (fun k : Nat => [(24,.d (.i .i64 k))]) (fun k => x.view.list.length - k) 0 ⟨Nat.zero_le _,rfl⟩ (fun _ => rfl) ?_ ?_
 ·exact A0.ck rfl
 rintro j ⟨hj,hpre⟩
 by_cases hjl : j < x.view.list.length
 ·obtain ⟨y,hy⟩:=AG hjl
  have gy:=AY hy
  have c3:=cf y
  have f6 : decide (CN (Do y) nodes ≥ 0) = AZ nodes y:=E8 (Do y) nodes
  generalize CN (Do y) nodes = z at *
  have hA:=BH (p:=AZ nodes) hy
  rw [hpre,Bool.false_or] at hA
  cases hb2 : AZ nodes y with
  | true =>
   rw [hb2] at f6
   have hV : EF nodes x.view = y:=by unfold EF;rw [NY hy hb2 hpre]
   have nS:=And.intro gy f6;obtain ⟨lv,st,ns,nc⟩:=wq [0,1,2,4,5,6,7,9,14,22,23,24,25,31] [];have c1:=@c3;refine wk ?_;clear nc ns st lv c1;repeat' (first|with_reducible constructor|(with_reducible intro hc;try simp only[A1] at hc))
   rw [hV]
   refine ⟨_,_,rfl,rfl,?_⟩;simp [AH,A6,A5,A4]
  | false =>
   rw [hb2] at f6
   have nS:=And.intro gy f6;obtain ⟨lv,st,ns,nc⟩:=wq [0,1,2,4,5,6,7,9,14,22,23,24,25,31] [];have c1:=@c3;refine wk ?_;clear nc ns st lv c1;repeat' (first|with_reducible constructor|(with_reducible intro hc;try simp only[A1] at hc))
   refine ⟨j + 1,⟨hjl,by rw [hA,hb2]⟩,by omega,Nat.le_refl _,?_⟩
   exact A0.ck rfl
 ·have e : j = x.view.list.length:=by omega
  subst e
  rw [List.take_length] at hpre
  have hV : EF nodes x.view = P5 x.view:=by unfold EF;rw [Oc hpre]
  have nS:=True.intro;obtain ⟨lv,st,ns,nc⟩:=wq [0,1,2,4,5,6,7,9,14,22,23,24,25,31] [];have c1:=@c2;refine wk ?_;clear nc ns st lv c1;repeat' (first|with_reducible constructor|(with_reducible intro hc;try simp only[A1] at hc))
  rw [hV]
  refine ⟨_,_,rfl,rfl,?_⟩;simp [AH,A6,A5,A4]
end Nd
end Go.Proofs.YtagnjflbhjmefaaGreat
