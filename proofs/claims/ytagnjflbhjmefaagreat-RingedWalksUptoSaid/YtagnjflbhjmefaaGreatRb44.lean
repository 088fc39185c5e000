/- Part 44 of the texts of this proof, put together by a program and made short.
Conditions: none; what each theorem asks stands in its own hypotheses. -/
import Derived.Test.YtagnjflbhjmefaaGreatRb27
import Derived.Test.YtagnjflbhjmefaaGreatRb42
import Derived.Test.YtagnjflbhjmefaaGreatRb43
import Derived.Ground.NamesProg
import Derived.Shelf.Slices.In.SortAlone
import Derived.Shelf.Slices.In.SortNone
import Derived.Sort.Walk0
import Derived.KernelRfl
import Derived.RangeFuncIn
import Derived.Sort.Grow
import Derived.Laws.Cover3
import Derived.RecoverIn
import Derived.ProofKit
import Derived.OpenShut
import Derived.CallsIn
import Derived.RangeFuncLeaves
import Derived.OrdersIn
import Derived.TacticsIn
import Derived.ChangeKeysEq
import Derived.Laws.AppendOwn
import Derived.Laws.OwnMore
import Derived.Laws.MakeOwn
import Derived.Laws.Rows
import Derived.Laws.Cells
import Derived.Laws.Tables
import Derived.Laws.CopyRow
import Derived.Laws.Strings
import Derived.Laws.IdiomStrings
import Derived.Laws.BytesArg
import Derived.Test.YtagnjflbhjmefaaGreatProg
set_option linter.unusedSimpArgs false
set_option linter.unusedVariables false
set_option linter.unnecessarySimpa false
set_option maxHeartbeats 40000000
namespace Go.Proofs.YtagnjflbhjmefaaGreat
namespace Nd
open Go.Gar
open Wi (AE Az B7 BC)
set_option maxRecDepth 4000
structure Bu where
 to : Int
 by_ : List UInt8
 harmed : Bool
def Bu.cells (g : Bu) : List D:=[.i .i64 g.to,.by g.by_,.b g.harmed]
def Bu.d (g : Bu) : D:=.agg g.cells
def Cs (base : List Int) (m : AE) : Bool:=decide (m.kind = 7) && Es m.src m.list base
def Du (base : List Int) (p : Past) : Bool:=Cs base p.told
def CG (base : List Int) (n : Node) : Bool:=Es n.view.id n.view.list base || (((decide (n.phase = 1) || decide (n.phase = 2)) && Es n.view.id [n.of_] base) || n.seen.any (Du base))
def CH (base : List Int) (g : Bu) : Bool:=decide ((BC g.by_).2 = 0) && Cs base (BC g.by_).1
theorem So (nodes : List Node) (gone base : List Int) (grams : List (List D)) (lost : Int) (x : Int) (l : List Int) (hn : l.length ≤ 9223372036854775807) (hm : base.length ≤ 9223372036854775807) : BK Tryz.prog 37 [.d (.i .i64 x),.d (.is l),.ptr 0 0 5] [.c [.d (A2 nodes),.d (.is gone),.d (.is base),.d (.sl 3 grams),.d (.i .i64 lost)]] (.d (.b (Es x l base))) [.c [.d (A2 nodes),.d (.is gone),.d (.is base),.d (.sl 3 grams),.d (.i .i64 lost)]]:=by
 have c1:=TX x l base hn hm
 refine AB A8 Tryz.func37 rfl rfl (Nat.le_of_ble_eq_true rfl) ?_
 have nS:=True.intro;obtain ⟨lv,st,ns,nc⟩:=wq [0,1,2,5] [];have c1:=@c1;refine wk ?_;clear nc ns st lv c1;repeat' (first|with_reducible constructor|(with_reducible intro hc;try simp only[A1] at hc))
 exact ⟨⟨[(5,.d (.b (Es x l base)))],[.c [.d (A2 nodes),.d (.is gone),.d (.is base),.d (.sl 3 grams),.d (.i .i64 lost)]],_⟩,(A0.ck rfl),Nat.le_refl _,_,_,rfl,rfl,rfl,rfl⟩
theorem WL (nodes : List Node) (gone base : List Int) (grams : List (List D)) (lost : Int) (m : AE) (hn : m.list.length ≤ 9223372036854775807) (hm : base.length ≤ 9223372036854775807) : BK Tryz.prog 39 [.d m.d,.ptr 1 0 1] [.c [.d (A2 nodes),.d (.is gone),.d (.is base),.d (.sl 3 grams),.d (.i .i64 lost)],.c [.fn (.func 37) [] [.ptr 0 0 5]]] (.d (.b (Cs base m))) [.c [.d (A2 nodes),.d (.is gone),.d (.is base),.d (.sl 3 grams),.d (.i .i64 lost)],.c [.fn (.func 37) [] [.ptr 0 0 5]]]:=by
 have c1:=So nodes gone base grams lost m.src m.list hn hm
 refine AB A8 Tryz.func39 rfl rfl (Nat.le_of_ble_eq_true rfl) ?_
 have hT : Cs base m = (decide (m.kind = 7) && Es m.src m.list base):=rfl
 generalize Cs base m = R at *
 generalize Es m.src m.list base = s at *
 unfold AE.d AE.cells
 by_cases h1 : m.kind = 7
 ·have f1:=Ar h1
  rw [decide_eq_true h1,Bool.true_and] at hT
  subst hT
  have nS:=f1;obtain ⟨lv,st,ns,nc⟩:=wq [0,1,2,3] [];have d1:=Ds.mk [0] (c1);refine wk ?_;clear nc ns st lv d1;repeat' (first|with_reducible constructor|(with_reducible intro hc;try simp only[A1] at hc))
  exact ⟨⟨[(3,.d (.b R))],[.c [.d (A2 nodes),.d (.is gone),.d (.is base),.d (.sl 3 grams),.d (.i .i64 lost)],.c [.fn (.func 37) [] [.ptr 0 0 5]]],_⟩,(A0.ck rfl),Nat.le_refl _,_,_,rfl,rfl,rfl,rfl⟩
 ·have f1:=eq_false' h1
  rw [decide_eq_false h1,Bool.false_and] at hT
  subst hT
  have nS:=f1;obtain ⟨lv,st,ns,nc⟩:=wq [0,1,2,3] [];have d1:=Ds.mk [0] (c1);refine wk ?_;clear nc ns st lv d1;repeat' (first|with_reducible constructor|(with_reducible intro hc;try simp only[A1] at hc))
  exact ⟨⟨[(3,.d (.b false))],[.c [.d (A2 nodes),.d (.is gone),.d (.is base),.d (.sl 3 grams),.d (.i .i64 lost)],.c [.fn (.func 37) [] [.ptr 0 0 5]]],_⟩,(A0.ck rfl),Nat.le_refl _,_,_,rfl,rfl,rfl,rfl⟩
theorem Xe (nodes : List Node) (gone base : List Int) (grams : List (List D)) (lost : Int) (p : Past) (hn : p.told.list.length ≤ 9223372036854775807) (hm : base.length ≤ 9223372036854775807) : BK Tryz.prog 42 [.d p.d,.ptr 2 0 1] [.c [.d (A2 nodes),.d (.is gone),.d (.is base),.d (.sl 3 grams),.d (.i .i64 lost)],.c [.fn (.func 37) [] [.ptr 0 0 5]],.c [.fn (.func 39) [] [.ptr 1 0 1]]] (.d (.b (Du base p))) [.c [.d (A2 nodes),.d (.is gone),.d (.is base),.d (.sl 3 grams),.d (.i .i64 lost)],.c [.fn (.func 37) [] [.ptr 0 0 5]],.c [.fn (.func 39) [] [.ptr 1 0 1]]]:=by
 have c1:=WL nodes gone base grams lost p.told hn hm
 refine AB A8 Tryz.func42 rfl rfl (Nat.le_of_ble_eq_true rfl) ?_
 unfold Du
 generalize Cs base p.told = R at *
 unfold AE.d AE.cells at c1
 unfold Past.d Past.cells
 have nS:=True.intro;obtain ⟨lv,st,ns,nc⟩:=wq [0,1,2,3] [];have d1:=Ds.mk [0,1] (c1);refine wk ?_;clear nc ns st lv d1;repeat' (first|with_reducible constructor|(with_reducible intro hc;try simp only[A1] at hc))
 exact ⟨⟨[(3,.d (.b R))],[.c [.d (A2 nodes),.d (.is gone),.d (.is base),.d (.sl 3 grams),.d (.i .i64 lost)],.c [.fn (.func 37) [] [.ptr 0 0 5]],.c [.fn (.func 39) [] [.ptr 1 0 1]]],_⟩,(A0.ck rfl),Nat.le_refl _,_,_,rfl,rfl,rfl,rfl⟩
theorem Vt (nodes : List Node) (gone base : List Int) (grams : List (List D)) (lost : Int) (l : List Past) (hn : l.length ≤ 9223372036854775807) (hc : ∀ x ∈ l,BK Tryz.prog 42 [.d x.d,.ptr 2 0 1] [.c [.d (A2 nodes),.d (.is gone),.d (.is base),.d (.sl 3 grams),.d (.i .i64 lost)],.c [.fn (.func 37) [] [.ptr 0 0 5]],.c [.fn (.func 39) [] [.ptr 1 0 1]]] (.d (.b (Du base x))) [.c [.d (A2 nodes),.d (.is gone),.d (.is base),.d (.sl 3 grams),.d (.i .i64 lost)],.c [.fn (.func 37) [] [.ptr 0 0 5]],.c [.fn (.func 39) [] [.ptr 1 0 1]]]) : BK Tryz.prog 78 [.d (AW l),.fn (.func 42) [] [.ptr 2 0 1]] [.c [.d (A2 nodes),.d (.is gone),.d (.is base),.d (.sl 3 grams),.d (.i .i64 lost)],.c [.fn (.func 37) [] [.ptr 0 0 5]],.c [.fn (.func 39) [] [.ptr 1 0 1]]] (.d (.i .i64 (CN (Du base) l))) [.c [.d (A2 nodes),.d (.is gone),.d (.is base),.d (.sl 3 grams),.d (.i .i64 lost)],.c [.fn (.func 37) [] [.ptr 0 0 5]],.c [.fn (.func 39) [] [.ptr 1 0 1]]]:=by
 refine AB A8 Tryz.func78 rfl rfl (Nat.le_of_ble_eq_true rfl) ?_
 obtain ⟨q,hq⟩ : ∃ q,q = Du base:=⟨_,rfl⟩
 rw [← hq]
 replace hc : ∀ x ∈ l,BK Tryz.prog 42 [.d x.d,.ptr 2 0 1] [.c [.d (A2 nodes),.d (.is gone),.d (.is base),.d (.sl 3 grams),.d (.i .i64 lost)],.c [.fn (.func 37) [] [.ptr 0 0 5]],.c [.fn (.func 39) [] [.ptr 1 0 1]]] (.d (.b (q x))) [.c [.d (A2 nodes),.d (.is gone),.d (.is base),.d (.sl 3 grams),.d (.i .i64 lost)],.c [.fn (.func 37) [] [.ptr 0 0 5]],.c [.fn (.func 39) [] [.ptr 1 0 1]]]:=fun x hx => by rw [hq];exact hc x hx
 clear hq
 have nS:=True.intro;obtain ⟨lv,st,ns,nc⟩:=wq [0,1,4,5,7,8,9,16] [];refine wk ?_;clear nc ns st lv;repeat' (first|with_reducible constructor|(with_reducible intro hc;try simp only[A1] at hc))
 refine AS (fun k => k ≤ l.length ∧ (l.take k).any q = false) (fun k : Nat => [(8,.d (.i .i64 k))]) (fun k => l.length - k) 0 ⟨Nat.zero_le _,rfl⟩ (fun _ => rfl) ?_ ?_
 ·exact A0.ck rfl
 rintro k ⟨hk,hpre⟩
 by_cases hkl : k < l.length
 ·obtain ⟨x,hx⟩:=AG hkl
  have hA:=BH (p:=q) hx
  rw [hpre,Bool.false_or] at hA
  have c1:=hc x (List.mem_of_getElem? hx)
  unfold Past.d Past.cells at c1
  cases hb : q x with
  | true =>
   rw [hb] at c1
   have nS:=True.intro;obtain ⟨lv,st,ns,nc⟩:=wq [0,1,4,5,7,8,9,16] [];have ix1:=hx;have d1:=Ds.mk [0,1,2] (c1);refine wk ?_;clear nc ns st lv d1 ix1;repeat' (first|with_reducible constructor|(with_reducible intro hc;try simp only[A1] at hc))
   rw [FH hx hb hpre]
   exact ⟨⟨[(4,.d (.i .i64 k))],[.c [.d (A2 nodes),.d (.is gone),.d (.is base),.d (.sl 3 grams),.d (.i .i64 lost)],.c [.fn (.func 37) [] [.ptr 0 0 5]],.c [.fn (.func 39) [] [.ptr 1 0 1]]],_⟩,(A0.ck rfl),Nat.le_refl _,_,_,rfl,rfl,rfl,rfl⟩
  | false =>
   rw [hb] at c1
   have nS:=True.intro;obtain ⟨lv,st,ns,nc⟩:=wq [0,1,4,5,7,8,9,16] [];have ix1:=hx;have d1:=Ds.mk [0,1,2] (c1);refine wk ?_;clear nc ns st lv d1 ix1;repeat' (first|with_reducible constructor|(with_reducible intro hc;try simp only[A1] at hc))
   refine ⟨k + 1,⟨hkl,by rw [hA,hb]⟩,by omega,Nat.le_refl _,?_⟩
   exact A0.ck rfl
 ·have e : k = l.length:=by omega
  subst e
  rw [List.take_length] at hpre
  have nS:=True.intro;obtain ⟨lv,st,ns,nc⟩:=wq [0,1,4,5,7,8,9,16] [];refine wk ?_;clear nc ns st lv;repeat' (first|with_reducible constructor|(with_reducible intro hc;try simp only[A1] at hc))
  rw [E3 hpre]
  exact ⟨⟨[(4,.d (.i .i64 (-1)))],[.c [.d (A2 nodes),.d (.is gone),.d (.is base),.d (.sl 3 grams),.d (.i .i64 lost)],.c [.fn (.func 37) [] [.ptr 0 0 5]],.c [.fn (.func 39) [] [.ptr 1 0 1]]],_⟩,(A0.ck rfl),Nat.le_refl _,_,_,rfl,rfl,rfl,rfl⟩
theorem VN (nodes : List Node) (gone base : List Int) (grams : List (List D)) (lost : Int) (l : List Past) (hn : l.length ≤ 9223372036854775807) (hc : ∀ x ∈ l,BK Tryz.prog 42 [.d x.d,.ptr 2 0 1] [.c [.d (A2 nodes),.d (.is gone),.d (.is base),.d (.sl 3 grams),.d (.i .i64 lost)],.c [.fn (.func 37) [] [.ptr 0 0 5]],.c [.fn (.func 39) [] [.ptr 1 0 1]]] (.d (.b (Du base x))) [.c [.d (A2 nodes),.d (.is gone),.d (.is base),.d (.sl 3 grams),.d (.i .i64 lost)],.c [.fn (.func 37) [] [.ptr 0 0 5]],.c [.fn (.func 39) [] [.ptr 1 0 1]]]) : BK Tryz.prog 41 [.d (AW l),.fn (.func 42) [] [.ptr 2 0 1]] [.c [.d (A2 nodes),.d (.is gone),.d (.is base),.d (.sl 3 grams),.d (.i .i64 lost)],.c [.fn (.func 37) [] [.ptr 0 0 5]],.c [.fn (.func 39) [] [.ptr 1 0 1]]] (.d (.b (l.any (Du base)))) [.c [.d (A2 nodes),.d (.is gone),.d (.is base),.d (.sl 3 grams),.d (.i .i64 lost)],.c [.fn (.func 37) [] [.ptr 0 0 5]],.c [.fn (.func 39) [] [.ptr 1 0 1]]]:=by
 refine AB A8 Tryz.func41 rfl rfl (Nat.le_of_ble_eq_true rfl) ?_
 have c1:=Vt nodes gone base grams lost l hn hc
 rw [← E8]
 generalize CN (Du base) l = z at *
 have nS:=True.intro;obtain ⟨lv,st,ns,nc⟩:=wq [0,1,4] [];have d1:=Ds.mk [0,1,2] (c1);refine wk ?_;clear nc ns st lv d1;repeat' (first|with_reducible constructor|(with_reducible intro hc;try simp only[A1] at hc))
 exact ⟨⟨[(4,.d (.b (decide (z ≥ 0))))],[.c [.d (A2 nodes),.d (.is gone),.d (.is base),.d (.sl 3 grams),.d (.i .i64 lost)],.c [.fn (.func 37) [] [.ptr 0 0 5]],.c [.fn (.func 39) [] [.ptr 1 0 1]]],_⟩,(A0.ck rfl),Nat.le_refl _,_,_,rfl,rfl,rfl,rfl⟩
theorem Y5 (nodes : List Node) (gone base : List Int) (grams : List (List D)) (lost : Int) (n : Node) (h : LA n) (hm : base.length ≤ 9223372036854775807) : BK Tryz.prog 40 [.d n.d,.ptr 1 0 1,.ptr 2 0 1] [.c [.d (A2 nodes),.d (.is gone),.d (.is base),.d (.sl 3 grams),.d (.i .i64 lost)],.c [.fn (.func 37) [] [.ptr 0 0 5]],.c [.fn (.func 39) [] [.ptr 1 0 1]]] (.d (.b (CG base n))) [.c [.d (A2 nodes),.d (.is gone),.d (.is base),.d (.sl 3 grams),.d (.i .i64 lost)],.c [.fn (.func 37) [] [.ptr 0 0 5]],.c [.fn (.func 39) [] [.ptr 1 0 1]]]:=by
 have c1:=So nodes gone base grams lost n.view.id n.view.list (by have:=h.vl;omega) hm
 have c2:=So nodes gone base grams lost n.view.id [n.of_] (by simp) hm
 have c3:=VN nodes gone base grams lost n.seen (by have:=h.sn;omega) (fun p hp => Xe nodes gone base grams lost p (by have:=h.sl p hp;unfold Cj at this;omega) hm)
 have hT : CG base n = (Es n.view.id n.view.list base || (((decide (n.phase = 1) || decide (n.phase = 2)) && Es n.view.id [n.of_] base) || n.seen.any (Du base))):=rfl
 refine AB A8 Tryz.func40 rfl rfl (Nat.le_of_ble_eq_true rfl) ?_
 generalize CG base n = R at *
 generalize Es n.view.id n.view.list base = s1 at *
 generalize Es n.view.id [n.of_] base = s2 at *
 generalize n.seen.any (Du base) = s3 at *
 clear h
 cases s1 with
 | true =>
  rw [Bool.true_or] at hT
  subst hT
  have nS:=True.intro;obtain ⟨lv,st,ns,nc⟩:=wq [0,1,2,3,4,12,33] [];have d1:=Ds.mk [0] (c1);refine wk ?_;clear nc ns st lv d1;repeat' (first|with_reducible constructor|(with_reducible intro hc;try simp only[A1] at hc))
  exact ⟨⟨[(4,.d (.b true))],[.c [.d (A2 nodes),.d (.is gone),.d (.is base),.d (.sl 3 grams),.d (.i .i64 lost)],.c [.fn (.func 37) [] [.ptr 0 0 5]],.c [.fn (.func 39) [] [.ptr 1 0 1]]],_⟩,(A0.ck rfl),Nat.le_refl _,_,_,rfl,rfl,rfl,rfl⟩
 | false =>
 rw [Bool.false_or] at hT
 by_cases h1 : n.phase = 1
 ·have f1:=Ar h1
  cases s2 with
  | true =>
   rw [decide_eq_true h1] at hT
   replace hT : R = true:=hT
   subst hT
   have nS:=f1;obtain ⟨lv,st,ns,nc⟩:=wq [0,1,2,3,4,12,33] [];have d1:=Ds.mk [0] (c1);have d2:=Ds.mk [0] (c2);refine wk ?_;clear nc ns st lv d2 d1;repeat' (first|with_reducible constructor|(with_reducible intro hc;try simp only[A1] at hc))
   exact ⟨⟨[(4,.d (.b true))],[.c [.d (A2 nodes),.d (.is gone),.d (.is base),.d (.sl 3 grams),.d (.i .i64 lost)],.c [.fn (.func 37) [] [.ptr 0 0 5]],.c [.fn (.func 39) [] [.ptr 1 0 1]]],_⟩,(A0.ck rfl),Nat.le_refl _,_,_,rfl,rfl,rfl,rfl⟩
  | false =>
   rw [Bool.and_false,Bool.false_or] at hT
   subst hT
   have nS:=f1;obtain ⟨lv,st,ns,nc⟩:=wq [0,1,2,3,4,12,33] [];have d1:=Ds.mk [0] (c1);have d2:=Ds.mk [0] (c2);have d3:=Ds.mk [0,1,2] (c3);refine wk ?_;clear nc ns st lv d3 d2 d1;repeat' (first|with_reducible constructor|(with_reducible intro hc;try simp only[A1] at hc))
   exact ⟨⟨[(4,.d (.b R))],[.c [.d (A2 nodes),.d (.is gone),.d (.is base),.d (.sl 3 grams),.d (.i .i64 lost)],.c [.fn (.func 37) [] [.ptr 0 0 5]],.c [.fn (.func 39) [] [.ptr 1 0 1]]],_⟩,(A0.ck rfl),Nat.le_refl _,_,_,rfl,rfl,rfl,rfl⟩
 ·have f1:=eq_false' h1
  by_cases h2 : n.phase = 2
  ·have f2:=Ar h2
   cases s2 with
   | true =>
    rw [decide_eq_true h2,Bool.or_true] at hT
    replace hT : R = true:=hT
    subst hT
    have nS:=And.intro f1 f2;obtain ⟨lv,st,ns,nc⟩:=wq [0,1,2,3,4,12,33] [];have d1:=Ds.mk [0] (c1);have d2:=Ds.mk [0] (c2);refine wk ?_;clear nc ns st lv d2 d1;repeat' (first|with_reducible constructor|(with_reducible intro hc;try simp only[A1] at hc))
    exact ⟨⟨[(4,.d (.b true))],[.c [.d (A2 nodes),.d (.is gone),.d (.is base),.d (.sl 3 grams),.d (.i .i64 lost)],.c [.fn (.func 37) [] [.ptr 0 0 5]],.c [.fn (.func 39) [] [.ptr 1 0 1]]],_⟩,(A0.ck rfl),Nat.le_refl _,_,_,rfl,rfl,rfl,rfl⟩
   | false =>
    rw [Bool.and_false,Bool.false_or] at hT
    subst hT
    have nS:=And.intro f1 f2;obtain ⟨lv,st,ns,nc⟩:=wq [0,1,2,3,4,12,33] [];have d1:=Ds.mk [0] (c1);have d2:=Ds.mk [0] (c2);have d3:=Ds.mk [0,1,2] (c3);refine wk ?_;clear nc ns st lv d3 d2 d1;repeat' (first|with_reducible constructor|(with_reducible intro hc;try simp only[A1] at hc))
    exact ⟨⟨[(4,.d (.b R))],[.c [.d (A2 nodes),.d (.is gone),.d (.is base),.d (.sl 3 grams),.d (.i .i64 lost)],.c [.fn (.func 37) [] [.ptr 0 0 5]],.c [.fn (.func 39) [] [.ptr 1 0 1]]],_⟩,(A0.ck rfl),Nat.le_refl _,_,_,rfl,rfl,rfl,rfl⟩
  ·have f2:=eq_false' h2
   rw [decide_eq_false h1,decide_eq_false h2] at hT
   simp only [Bool.or_false,Bool.false_and,Bool.false_or] at hT
   subst hT
   have nS:=And.intro f1 f2;obtain ⟨lv,st,ns,nc⟩:=wq [0,1,2,3,4,12,33] [];have d1:=Ds.mk [0] (c1);have d2:=Ds.mk [0,1,2] (c3);refine wk ?_;clear nc ns st lv d2 d1;repeat' (first|with_reducible constructor|(with_reducible intro hc;try simp only[A1] at hc))
   exact ⟨⟨[(4,.d (.b R))],[.c [.d (A2 nodes),.d (.is gone),.d (.is base),.d (.sl 3 grams),.d (.i .i64 lost)],.c [.fn (.func 37) [] [.ptr 0 0 5]],.c [.fn (.func 39) [] [.ptr 1 0 1]]],_⟩,(A0.ck rfl),Nat.le_refl _,_,_,rfl,rfl,rfl,rfl⟩
theorem Y4 (nodes : List Node) (gone base : List Int) (grams : List (List D)) (lost : Int) (g : Bu) (hg : g.by_.length ≤ 1048576) (hm : base.length ≤ 9223372036854775807) : BK Tryz.prog 43 [.d g.d,.ptr 2 0 1] [.c [.d (A2 nodes),.d (.is gone),.d (.is base),.d (.sl 3 grams),.d (.i .i64 lost)],.c [.fn (.func 37) [] [.ptr 0 0 5]],.c [.fn (.func 39) [] [.ptr 1 0 1]]] (.d (.b (CH base g))) [.c [.d (A2 nodes),.d (.is gone),.d (.is base),.d (.sl 3 grams),.d (.i .i64 lost)],.c [.fn (.func 37) [] [.ptr 0 0 5]],.c [.fn (.func 39) [] [.ptr 1 0 1]]]:=by
 have c1:=Wi.JL g.by_ (by omega)
 have c2:=WL nodes gone base grams lost (BC g.by_).1 (by have:=Wi.PI g.by_;omega) hm
 have hT : CH base g = (decide ((BC g.by_).2 = 0) && Cs base (BC g.by_).1):=rfl
 refine AB A8 Tryz.func43 rfl rfl (Nat.le_of_ble_eq_true rfl) ?_
 generalize CH base g = R at *
 generalize Cs base (BC g.by_).1 = s at *
 generalize BC g.by_ = m at *
 unfold AE.d AE.cells at c1 c2
 unfold Bu.d Bu.cells
 by_cases h1 : m.2 = 0
 ·have f1:=Ar h1
  rw [decide_eq_true h1,Bool.true_and] at hT
  subst hT
  have nS:=f1;obtain ⟨lv,st,ns,nc⟩:=wq [0,1,2,3,4,5] [];have c1:=@c1;have d1:=Ds.mk [0,1] (c2);refine wk ?_;clear nc ns st lv d1 c1;repeat' (first|with_reducible constructor|(with_reducible intro hc;try simp only[A1] at hc))
  exact ⟨⟨[(3,.d (.b R))],[.c [.d (A2 nodes),.d (.is gone),.d (.is base),.d (.sl 3 grams),.d (.i .i64 lost)],.c [.fn (.func 37) [] [.ptr 0 0 5]],.c [.fn (.func 39) [] [.ptr 1 0 1]]],_⟩,(A0.ck rfl),Nat.le_refl _,_,_,rfl,rfl,rfl,rfl⟩
 ·have f1:=eq_false' h1
  rw [decide_eq_false h1,Bool.false_and] at hT
  subst hT
  have nS:=f1;obtain ⟨lv,st,ns,nc⟩:=wq [0,1,2,3,4,5] [];have c1:=@c1;refine wk ?_;clear nc ns st lv c1;repeat' (first|with_reducible constructor|(with_reducible intro hc;try simp only[A1] at hc))
  exact ⟨⟨[(3,.d (.b false))],[.c [.d (A2 nodes),.d (.is gone),.d (.is base),.d (.sl 3 grams),.d (.i .i64 lost)],.c [.fn (.func 37) [] [.ptr 0 0 5]],.c [.fn (.func 39) [] [.ptr 1 0 1]]],_⟩,(A0.ck rfl),Nat.le_refl _,_,_,rfl,rfl,rfl,rfl⟩
theorem Vb (nodes : List Node) (gone base : List Int) (grams : List (List D)) (lost : Int) (l : List Node) (hn : l.length ≤ 9223372036854775807) (hc : ∀ x ∈ l,BK Tryz.prog 40 [.d x.d,.ptr 1 0 1,.ptr 2 0 1] [.c [.d (A2 nodes),.d (.is gone),.d (.is base),.d (.sl 3 grams),.d (.i .i64 lost)],.c [.fn (.func 37) [] [.ptr 0 0 5]],.c [.fn (.func 39) [] [.ptr 1 0 1]]] (.d (.b (CG base x))) [.c [.d (A2 nodes),.d (.is gone),.d (.is base),.d (.sl 3 grams),.d (.i .i64 lost)],.c [.fn (.func 37) [] [.ptr 0 0 5]],.c [.fn (.func 39) [] [.ptr 1 0 1]]]) : BK Tryz.prog 81 [.d (A2 l),.fn (.func 40) [] [.ptr 1 0 1,.ptr 2 0 1]] [.c [.d (A2 nodes),.d (.is gone),.d (.is base),.d (.sl 3 grams),.d (.i .i64 lost)],.c [.fn (.func 37) [] [.ptr 0 0 5]],.c [.fn (.func 39) [] [.ptr 1 0 1]]] (.d (.i .i64 (CN (CG base) l))) [.c [.d (A2 nodes),.d (.is gone),.d (.is base),.d (.sl 3 grams),.d (.i .i64 lost)],.c [.fn (.func 37) [] [.ptr 0 0 5]],.c [.fn (.func 39) [] [.ptr 1 0 1]]]:=by
 refine AB A8 Tryz.func81 rfl rfl (Nat.le_of_ble_eq_true rfl) ?_
 obtain ⟨q,hq⟩ : ∃ q,q = CG base:=⟨_,rfl⟩
 rw [← hq]
 replace hc : ∀ x ∈ l,BK Tryz.prog 40 [.d x.d,.ptr 1 0 1,.ptr 2 0 1] [.c [.d (A2 nodes),.d (.is gone),.d (.is base),.d (.sl 3 grams),.d (.i .i64 lost)],.c [.fn (.func 37) [] [.ptr 0 0 5]],.c [.fn (.func 39) [] [.ptr 1 0 1]]] (.d (.b (q x))) [.c [.d (A2 nodes),.d (.is gone),.d (.is base),.d (.sl 3 grams),.d (.i .i64 lost)],.c [.fn (.func 37) [] [.ptr 0 0 5]],.c [.fn (.func 39) [] [.ptr 1 0 1]]]:=fun x hx => by rw [hq];exact hc x hx
 clear hq
 have nS:=True.intro;obtain ⟨lv,st,ns,nc⟩:=wq [0,1,4,5,7,8,9,16] [];refine wk ?_;clear nc ns st lv;repeat' (first|with_reducible constructor|(with_reducible intro hc;try simp only[A1] at hc))
 refine AS (fun k => k ≤ l.length ∧ (l.take k).any q = false) (fun k : Nat => [(8,.d (.i .i64 k))]) (fun k => l.length - k) 0 ⟨Nat.zero_le _,rfl⟩ (fun _ => rfl) ?_ ?_
 ·exact A0.ck rfl
 rintro k ⟨hk,hpre⟩
 by_cases hkl : k < l.length
 ·obtain ⟨x,hx⟩:=AG hkl
  have hA:=BH (p:=q) hx
  rw [hpre,Bool.false_or] at hA
  have c1:=hc x (List.mem_of_getElem? hx)
  unfold Node.d at c1
  cases hb : q x with
  | true =>
   rw [hb] at c1
   have nS:=True.intro;obtain ⟨lv,st,ns,nc⟩:=wq [0,1,4,5,7,8,9,16] [];have ix1:=hx;have d1:=Ds.mk [0,1,2] (c1);refine wk ?_;clear nc ns st lv d1 ix1;repeat' (first|with_reducible constructor|(with_reducible intro hc;try simp only[A1] at hc))
   rw [FH hx hb hpre]
   exact ⟨⟨[(4,.d (.i .i64 k))],[.c [.d (A2 nodes),.d (.is gone),.d (.is base),.d (.sl 3 grams),.d (.i .i64 lost)],.c [.fn (.func 37) [] [.ptr 0 0 5]],.c [.fn (.func 39) [] [.ptr 1 0 1]]],_⟩,(A0.ck rfl),Nat.le_refl _,_,_,rfl,rfl,rfl,rfl⟩
  | false =>
   rw [hb] at c1
   have nS:=True.intro;obtain ⟨lv,st,ns,nc⟩:=wq [0,1,4,5,7,8,9,16] [];have ix1:=hx;have d1:=Ds.mk [0,1,2] (c1);refine wk ?_;clear nc ns st lv d1 ix1;repeat' (first|with_reducible constructor|(with_reducible intro hc;try simp only[A1] at hc))
   refine ⟨k + 1,⟨hkl,by rw [hA,hb]⟩,by omega,Nat.le_refl _,?_⟩
   exact A0.ck rfl
 ·have e : k = l.length:=by omega
  subst e
  rw [List.take_length] at hpre
  have nS:=True.intro;obtain ⟨lv,st,ns,nc⟩:=wq [0,1,4,5,7,8,9,16] [];refine wk ?_;clear nc ns st lv;repeat' (first|with_reducible constructor|(with_reducible intro hc;try simp only[A1] at hc))
  rw [E3 hpre]
  exact ⟨⟨[(4,.d (.i .i64 (-1)))],[.c [.d (A2 nodes),.d (.is gone),.d (.is base),.d (.sl 3 grams),.d (.i .i64 lost)],.c [.fn (.func 37) [] [.ptr 0 0 5]],.c [.fn (.func 39) [] [.ptr 1 0 1]]],_⟩,(A0.ck rfl),Nat.le_refl _,_,_,rfl,rfl,rfl,rfl⟩
theorem W3 (nodes : List Node) (gone base : List Int) (grams : List (List D)) (lost : Int) (l : List Node) (hn : l.length ≤ 9223372036854775807) (hc : ∀ x ∈ l,BK Tryz.prog 40 [.d x.d,.ptr 1 0 1,.ptr 2 0 1] [.c [.d (A2 nodes),.d (.is gone),.d (.is base),.d (.sl 3 grams),.d (.i .i64 lost)],.c [.fn (.func 37) [] [.ptr 0 0 5]],.c [.fn (.func 39) [] [.ptr 1 0 1]]] (.d (.b (CG base x))) [.c [.d (A2 nodes),.d (.is gone),.d (.is base),.d (.sl 3 grams),.d (.i .i64 lost)],.c [.fn (.func 37) [] [.ptr 0 0 5]],.c [.fn (.func 39) [] [.ptr 1 0 1]]]) : BK Tryz.prog 45 [.d (A2 l),.fn (.func 40) [] [.ptr 1 0 1,.ptr 2 0 1]] [.c [.d (A2 nodes),.d (.is gone),.d (.is base),.d (.sl 3 grams),.d (.i .i64 lost)],.c [.fn (.func 37) [] [.ptr 0 0 5]],.c [.fn (.func 39) [] [.ptr 1 0 1]]] (.d (.b (l.any (CG base)))) [.c [.d (A2 nodes),.d (.is gone),.d (.is base),.d (.sl 3 grams),.d (.i .i64 lost)],.c [.fn (.func 37) [] [.ptr 0 0 5]],.c [.fn (.func 39) [] [.ptr 1 0 1]]]:=by
 refine AB A8 Tryz.func45 rfl rfl (Nat.le_of_ble_eq_true rfl) ?_
 have c1:=Vb nodes gone base grams lost l hn hc
 rw [← E8]
 generalize CN (CG base) l = z at *
 have nS:=True.intro;obtain ⟨lv,st,ns,nc⟩:=wq [0,1,4] [];have d1:=Ds.mk [0,1,2] (c1);refine wk ?_;clear nc ns st lv d1;repeat' (first|with_reducible constructor|(with_reducible intro hc;try simp only[A1] at hc))
 exact ⟨⟨[(4,.d (.b (decide (z ≥ 0))))],[.c [.d (A2 nodes),.d (.is gone),.d (.is base),.d (.sl 3 grams),.d (.i .i64 lost)],.c [.fn (.func 37) [] [.ptr 0 0 5]],.c [.fn (.func 39) [] [.ptr 1 0 1]]],_⟩,(A0.ck rfl),Nat.le_refl _,_,_,rfl,rfl,rfl,rfl⟩
theorem Vs (nodes : List Node) (gone base : List Int) (grams : List (List D)) (lost : Int) (l : List Bu) (hn : l.length ≤ 9223372036854775807) (hc : ∀ x ∈ l,BK Tryz.prog 43 [.d x.d,.ptr 2 0 1] [.c [.d (A2 nodes),.d (.is gone),.d (.is base),.d (.sl 3 grams),.d (.i .i64 lost)],.c [.fn (.func 37) [] [.ptr 0 0 5]],.c [.fn (.func 39) [] [.ptr 1 0 1]]] (.d (.b (CH base x))) [.c [.d (A2 nodes),.d (.is gone),.d (.is base),.d (.sl 3 grams),.d (.i .i64 lost)],.c [.fn (.func 37) [] [.ptr 0 0 5]],.c [.fn (.func 39) [] [.ptr 1 0 1]]]) : BK Tryz.prog 82 [.d (.sl 3 (l.map Bu.cells)),.fn (.func 43) [] [.ptr 2 0 1]] [.c [.d (A2 nodes),.d (.is gone),.d (.is base),.d (.sl 3 grams),.d (.i .i64 lost)],.c [.fn (.func 37) [] [.ptr 0 0 5]],.c [.fn (.func 39) [] [.ptr 1 0 1]]] (.d (.i .i64 (CN (CH base) l))) [.c [.d (A2 nodes),.d (.is gone),.d (.is base),.d (.sl 3 grams),.d (.i .i64 lost)],.c [.fn (.func 37) [] [.ptr 0 0 5]],.c [.fn (.func 39) [] [.ptr 1 0 1]]]:=by
 refine AB A8 Tryz.func82 rfl rfl (Nat.le_of_ble_eq_true rfl) ?_
 obtain ⟨q,hq⟩ : ∃ q,q = CH base:=⟨_,rfl⟩
 rw [← hq]
 replace hc : ∀ x ∈ l,BK Tryz.prog 43 [.d x.d,.ptr 2 0 1] [.c [.d (A2 nodes),.d (.is gone),.d (.is base),.d (.sl 3 grams),.d (.i .i64 lost)],.c [.fn (.func 37) [] [.ptr 0 0 5]],.c [.fn (.func 39) [] [.ptr 1 0 1]]] (.d (.b (q x))) [.c [.d (A2 nodes),.d (.is gone),.d (.is base),.d (.sl 3 grams),.d (.i .i64 lost)],.c [.fn (.func 37) [] [.ptr 0 0 5]],.c [.fn (.func 39) [] [.ptr 1 0 1]]]:=fun x hx => by rw [hq];exact hc x hx
 clear hq
 have nS:=True.intro;obtain ⟨lv,st,ns,nc⟩:=wq [0,1,4,5,7,8,9,16] [];refine wk ?_;clear nc ns st lv;repeat' (first|with_reducible constructor|(with_reducible intro hc;try simp only[A1] at hc))
 refine AS (fun k => k ≤ l.length ∧ (l.take k).any q = false) (fun k : Nat => [(8,.d (.i .i64 k))]) (fun k => l.length - k) 0 ⟨Nat.zero_le _,rfl⟩ (fun _ => rfl) ?_ ?_
 ·exact A0.ck rfl
 rintro k ⟨hk,hpre⟩
 by_cases hkl : k < l.length
 ·obtain ⟨x,hx⟩:=AG hkl
  have hA:=BH (p:=q) hx
  rw [hpre,Bool.false_or] at hA
  have c1:=hc x (List.mem_of_getElem? hx)
  unfold Bu.d at c1
  cases hb : q x with
  | true =>
   rw [hb] at c1
   have nS:=True.intro;obtain ⟨lv,st,ns,nc⟩:=wq [0,1,4,5,7,8,9,16] [];have ix1:=hx;have d1:=Ds.mk [0,1,2] (c1);refine wk ?_;clear nc ns st lv d1 ix1;repeat' (first|with_reducible constructor|(with_reducible intro hc;try simp only[A1] at hc))
   rw [FH hx hb hpre]
   exact ⟨⟨[(4,.d (.i .i64 k))],[.c [.d (A2 nodes),.d (.is gone),.d (.is base),.d (.sl 3 grams),.d (.i .i64 lost)],.c [.fn (.func 37) [] [.ptr 0 0 5]],.c [.fn (.func 39) [] [.ptr 1 0 1]]],_⟩,(A0.ck rfl),Nat.le_refl _,_,_,rfl,rfl,rfl,rfl⟩
  | false =>
   rw [hb] at c1
   have nS:=True.intro;obtain ⟨lv,st,ns,nc⟩:=wq [0,1,4,5,7,8,9,16] [];have ix1:=hx;have d1:=Ds.mk [0,1,2] (c1);refine wk ?_;clear nc ns st lv d1 ix1;repeat' (first|with_reducible constructor|(with_reducible intro hc;try simp only[A1] at hc))
   refine ⟨k + 1,⟨hkl,by rw [hA,hb]⟩,by omega,Nat.le_refl _,?_⟩
   exact A0.ck rfl
 ·have e : k = l.length:=by omega
  subst e
  rw [List.take_length] at hpre
  have nS:=True.intro;obtain ⟨lv,st,ns,nc⟩:=wq [0,1,4,5,7,8,9,16] [];refine wk ?_;clear nc ns st lv;repeat' (first|with_reducible constructor|(with_reducible intro hc;try simp only[A1] at hc))
  rw [E3 hpre]
  exact ⟨⟨[(4,.d (.i .i64 (-1)))],[.c [.d (A2 nodes),.d (.is gone),.d (.is base),.d (.sl 3 grams),.d (.i .i64 lost)],.c [.fn (.func 37) [] [.ptr 0 0 5]],.c [.fn (.func 39) [] [.ptr 1 0 1]]],_⟩,(A0.ck rfl),Nat.le_refl _,_,_,rfl,rfl,rfl,rfl⟩
theorem Vv (nodes : List Node) (gone base : List Int) (grams : List (List D)) (lost : Int) (l : List Bu) (hn : l.length ≤ 9223372036854775807) (hc : ∀ x ∈ l,BK Tryz.prog 43 [.d x.d,.ptr 2 0 1] [.c [.d (A2 nodes),.d (.is gone),.d (.is base),.d (.sl 3 grams),.d (.i .i64 lost)],.c [.fn (.func 37) [] [.ptr 0 0 5]],.c [.fn (.func 39) [] [.ptr 1 0 1]]] (.d (.b (CH base x))) [.c [.d (A2 nodes),.d (.is gone),.d (.is base),.d (.sl 3 grams),.d (.i .i64 lost)],.c [.fn (.func 37) [] [.ptr 0 0 5]],.c [.fn (.func 39) [] [.ptr 1 0 1]]]) : BK Tryz.prog 46 [.d (.sl 3 (l.map Bu.cells)),.fn (.func 43) [] [.ptr 2 0 1]] [.c [.d (A2 nodes),.d (.is gone),.d (.is base),.d (.sl 3 grams),.d (.i .i64 lost)],.c [.fn (.func 37) [] [.ptr 0 0 5]],.c [.fn (.func 39) [] [.ptr 1 0 1]]] (.d (.b (l.any (CH base)))) [.c [.d (A2 nodes),.d (.is gone),.d (.is base),.d (.sl 3 grams),.d (.i .i64 lost)],.c [.fn (.func 37) [] [.ptr 0 0 5]],.c [.fn (.func 39) [] [.ptr 1 0 1]]]:=by
 refine AB A8 Tryz.func46 rfl rfl (Nat.le_of_ble_eq_true rfl) ?_
 have c1:=Vs nodes gone base grams lost l hn hc
 rw [← E8]
 generalize CN (CH base) l = z at *
 have nS:=True.intro;obtain ⟨lv,st,ns,nc⟩:=wq [0,1,4] [];have d1:=Ds.mk [0,1,2] (c1);refine wk ?_;clear nc ns st lv d1;repeat' (first|with_reducible constructor|(with_reducible intro hc;try simp only[A1] at hc))
 exact ⟨⟨[(4,.d (.b (decide (z ≥ 0))))],[.c [.d (A2 nodes),.d (.is gone),.d (.is base),.d (.sl 3 grams),.d (.i .i64 lost)],.c [.fn (.func 37) [] [.ptr 0 0 5]],.c [.fn (.func 39) [] [.ptr 1 0 1]]],_⟩,(A0.ck rfl),Nat.le_refl _,_,_,rfl,rfl,rfl,rfl⟩
def Bq (c : AD) (gs : List Bu) : Bool:=AN c && (!(c.nodes.any (CG c.base)) && !(gs.any (CH c.base)))
theorem JV (c : AD) (gs : List Bu) (h : I7 c) (hg : c.grams = gs.map Bu.cells) (hgb : ∀ g ∈ gs,g.by_.length ≤ 1048576) : Go.Gar.Fn Tryz.prog 19 [c.d] (.b (Bq c gs)):=by
 have c1:=Ey c h
 have hgl : gs.length ≤ 1048576:=by have:=h.ll;rw [hg,List.length_map] at this;exact this
 have hT : Bq c gs = (AN c && (!(c.nodes.any (CG c.base)) && !(gs.any (CH c.base)))):=rfl
 generalize Bq c gs = R at *
 obtain ⟨nodes,gone,base,grams,lost⟩:=c
 replace hg : grams = gs.map Bu.cells:=hg
 have hbl : base.length ≤ 9223372036854775807:=by have:=h.bl;simp only at this;omega
 have c2:=W3 nodes gone base grams lost nodes (by have:=h.nl;simp only at this;omega) (fun n hn => Y5 nodes gone base grams lost n (h.nn n hn) hbl)
 have c3:=Vv nodes gone base grams lost gs (by omega) (fun g hq => Y4 nodes gone base grams lost g (hgb g hq) hbl)
 rw [← hg] at c3
 generalize AN (AD.mk nodes gone base grams lost) = RR at *
 simp only at hT
 generalize nodes.any (CG base) = s1 at *
 generalize gs.any (CH base) = s2 at *
 clear h hgb
 refine A3 A8 Tryz.func19 rfl rfl (Nat.le_of_ble_eq_true rfl) ?_
 unfold AD.d AD.cells at *
 cases RR with
 | false =>
  rw [Bool.false_and] at hT
  subst hT
  have nS:=True.intro;obtain ⟨lv,st,ns,nc⟩:=wq [0,1,2,3,4,5,6,9] [];have c1:=@c1;refine wk ?_;clear nc ns st lv c1;repeat' (first|with_reducible constructor|(with_reducible intro hc;try simp only[A1] at hc))
  refine ⟨_,_,rfl,rfl,?_⟩;simp [AH,A6,A5,A4]
 | true =>
 rw [Bool.true_and] at hT
 cases s1 with
 | true =>
  replace hT : R = false:=hT
  subst hT
  have nS:=True.intro;obtain ⟨lv,st,ns,nc⟩:=wq [0,1,2,3,4,5,6,9] [];have c1:=@c1;have d1:=Ds.mk [0,1,2] (c2);refine wk ?_;clear nc ns st lv d1 c1;repeat' (first|with_reducible constructor|(with_reducible intro hc;try simp only[A1] at hc))
  refine ⟨_,_,rfl,rfl,?_⟩;simp [AH,A6,A5,A4]
 | false =>
  replace hT : R = !s2:=hT
  subst hT
  have nS:=True.intro;obtain ⟨lv,st,ns,nc⟩:=wq [0,1,2,3,4,5,6,9] [];have c1:=@c1;have d1:=Ds.mk [0,1,2] (c2);have d2:=Ds.mk [0,1,2] (c3);refine wk ?_;clear nc ns st lv d2 d1 c1;repeat' (first|with_reducible constructor|(with_reducible intro hc;try simp only[A1] at hc))
  refine ⟨_,_,rfl,rfl,?_⟩;simp [AH,A6,A5,A4]
theorem Uo (lost : Int) : Go.Gar.Fn Tryz.prog 62 [.agg [.sl 3 [],.i .i64 lost]] (.agg [.sl 3 [],.i .i64 lost]):=by
 refine A3 A8 Tryz.func62 rfl rfl (Nat.le_of_ble_eq_true rfl) ?_
 have nS:=True.intro;obtain ⟨lv,st,ns,nc⟩:=wq [0,1,2,3,4,9] [];have un : No 1:=trivial;refine wk ?_;clear nc ns st lv un;repeat' (first|with_reducible constructor|(with_reducible intro hc;try simp only[A1] at hc))
 refine ⟨_,_,rfl,rfl,?_⟩;simp [AH,A6,A5,A4]
theorem TK (nodes : List Node) (gone base : List Int) (lost : Int) (h : I7 ⟨nodes,gone,base,[],lost⟩) : BK Tryz.prog 30 [.d (AD.d ⟨nodes,gone,base,[],lost⟩)] [] (.ag [.sl 2 nodes.length 76,.d (.is gone),.d (.is base),.d (.sl 3 []),.d (.i .i64 lost)]) [.gone,.c [.sl 2 nodes.length 76,.d (.is gone),.d (.is base),.d (.sl 3 []),.d (.i .i64 lost)],.a (A2 nodes)]:=by
 have c1:=Uo lost
 obtain ⟨hnl,hnn,hgl,hbl,-⟩:=h
 simp only at *
 refine AB A8 Tryz.func30 rfl rfl (Nat.le_of_ble_eq_true rfl) ?_
 unfold AD.d AD.cells
 simp only
 have nS:=True.intro;obtain ⟨lv,st,ns,nc⟩:=wq [0,1,2,3,4,11] [];have pr : AC []:=trivial;refine wd ?_;clear nc ns st lv pr;repeat' (first|with_reducible constructor|(with_reducible intro hc;try simp only[A1] at hc))
 refine B3 (A0.Mr 0 0 (.sl 76 []) rfl rfl rfl rfl (by simp [A4])) (by simp) ?_
 refine E6 (fun k => k ≤ nodes.length) (fun k : Nat => [(4,.d (.i .i64 k))]) (fun k => [(0,.c [.sl 2 (nodes.take k).length 76,.d (.is gone),.d (.is base),.d (.sl 3 []),.d (.i .i64 lost)]),(2,.a (A2 (nodes.take k)))]) (fun k => nodes.length - k) 0 (Nat.zero_le _) (fun _ => rfl) (fun _ => rfl) ?_ ?_
 ·exact A0.ck rfl
 intro k hk
 have htl : (nodes.take k).length ≤ k:=List.length_take_le _ _
 by_cases hkl : k < nodes.length
 ·obtain ⟨x,hx⟩:=AG hkl
  have c2:=Km x (hnn x (List.mem_of_getElem? hx))
  have hn:=AR hx
  unfold Node.d Node.cells View.cells Calls.cells Job.cells at c2
  simp only [List.cons_append,List.nil_append] at c2
  have nS:=True.intro;obtain ⟨lv,st,ns,nc⟩:=wq [0,1,2,3,4,11] [];have ix1:=hx;have c1:=@c2;have pr : AC [(0,6),(1,6),(0,7),(1,7)]:=trivial;refine wd ?_;clear nc ns st lv pr c1 ix1;repeat' (first|with_reducible constructor|(with_reducible intro hc;try simp only[A1] at hc))
  refine ⟨k + 1,hkl,by omega,Nat.le_refl _,?_⟩
  exact A0.cut rfl (by repeat' (first | exact True.intro | refine And.intro (by (first | rfl | ((with_reducible_and_instances refine congrArg (fun z => some (AV.d (D.i _ z))) ?_);omega) | (refine congrArg (fun z => some (AV.d (D.i _ z))) (?_ : (_ : Int) = _);omega) | (refine congrArg some ?_;simp only [hn,A2,List.map_append,List.map_cons,List.map_nil,Node.cells,View.cells,Calls.cells,Job.cells,List.cons_append,List.nil_append,List.length_append,List.length_cons,List.length_nil,List.length_map];done) | (refine congrArg some ?_;simp [hn,A2,List.map_append,List.map_cons,List.map_nil,Node.cells,View.cells,Calls.cells,Job.cells,List.cons_append,List.nil_append,List.length_append,List.length_cons,List.length_nil,List.length_map];done))) ?_)) (by repeat' (first | exact True.intro | refine And.intro (Or.inr rfl) ?_ | refine And.intro (Or.inl ⟨rfl,rfl⟩) ?_ | refine And.intro (Or.inr (by simp only [hn,A2,List.map_append,List.map_cons,List.map_nil,Node.cells,View.cells,Calls.cells,Job.cells,List.cons_append,List.nil_append,List.length_append,List.length_cons,List.length_nil,List.length_map])) ?_ | refine And.intro (Or.inr (by simp [hn,A2,List.map_append,List.map_cons,List.map_nil,Node.cells,View.cells,Calls.cells,Job.cells,List.cons_append,List.nil_append,List.length_append,List.length_cons,List.length_nil,List.length_map])) ?_)) (by first | rfl | (simp (decide:=true) [AT,A7.ok,AV.oks,AV.ok,hk];done)) rfl
 ·have e : k = nodes.length:=by omega
  subst e
  rw [List.take_length]
  have nS:=True.intro;obtain ⟨lv,st,ns,nc⟩:=wq [0,1,2,3,4,11] [];have c1:=@c1;have pr : AC []:=trivial;refine wd ?_;clear nc ns st lv pr c1;repeat' (first|with_reducible constructor|(with_reducible intro hc;try simp only[A1] at hc))
  exact ⟨⟨[(2,.ptr 1 0 5)],[.gone,.c [.sl 2 nodes.length 76,.d (.is gone),.d (.is base),.d (.sl 3 []),.d (.i .i64 lost)],.a (A2 nodes)],_⟩,(A0.ck rfl),Nat.zero_le _,_,_,rfl,rfl,rfl,rfl⟩
theorem O0 (nodes : List Node) (gone base : List Int) (lost : Int) (h : I7 ⟨nodes,gone,base,[],lost⟩) : BK Tryz.prog 30 [.d (AD.d ⟨nodes,gone,base,[],lost⟩)] [] (.ag [.sl 2 nodes.length 76,.d (.is gone),.d (.is base),.d (.sl 3 []),.d (.i .i64 lost)]) [.gone,.gone,.a (A2 nodes)] :=
 BK.drop [.gone,.gone,.a (A2 nodes)] (TK nodes gone base lost h) ⟨.inl ⟨rfl,rfl⟩,.inl ⟨rfl,rfl⟩,.inr rfl,trivial⟩ rfl rfl rfl
theorem V6 (nodes : List Node) (gone base : List Int) (lost : Int) (h : I7 ⟨nodes,gone,base,[],lost⟩) : Go.Gar.Fn Tryz.prog 30 [AD.d ⟨nodes,gone,base,[],lost⟩] (AD.d ⟨nodes,gone,base,[],lost⟩) :=
 Ee (O0 nodes gone base lost h) (by simp [BQ,Bt,AD.d,AD.cells,A6,A4,Node.cells])
end Nd
end Go.Proofs.YtagnjflbhjmefaaGreat
