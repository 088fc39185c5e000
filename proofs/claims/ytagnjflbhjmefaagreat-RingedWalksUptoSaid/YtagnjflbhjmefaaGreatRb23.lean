/- Part 23 of the texts of this proof, put together by a program and made short.
Conditions: none; what each theorem asks stands in its own hypotheses. -/
import Derived.Test.YtagnjflbhjmefaaGreatRb22
import Derived.Sort.Walk0
import Derived.KernelRfl
import Derived.RangeFuncIn
import Derived.Sort.Grow
import Derived.Laws.Cover3
import Derived.RecoverIn
import Derived.ProofKit
import Derived.OpenShut
import Derived.CallsIn
import Derived.RangeFuncLeaves
import Derived.OrdersIn
import Derived.TacticsIn
import Derived.ChangeKeysEq
import Derived.Laws.AppendOwn
import Derived.Laws.OwnMore
import Derived.Laws.MakeOwn
import Derived.Laws.Rows
import Derived.Laws.Cells
import Derived.Laws.Tables
import Derived.Laws.CopyRow
import Derived.Laws.Strings
import Derived.Laws.IdiomStrings
import Derived.Laws.BytesArg
import Derived.Test.YtagnjflbhjmefaaGreatProg
set_option linter.unusedSimpArgs false
set_option linter.unusedVariables false
set_option linter.unnecessarySimpa false
set_option maxHeartbeats 40000000
namespace Go.Proofs.YtagnjflbhjmefaaGreat
namespace Nd
open Go.Gar
open Wi (AE Az B7)
set_option maxRecDepth 4000
structure LA (n : Node) : Prop where
 id : i64 n.view.id
 li : ∀ y ∈ n.view.list,i64 y
 vb : n.view.base.length ≤ 1000
 vl : n.view.list.length ≤ 1000
 cl : ∀ x ∈ n.calls.op,Cj x.msg
 cn : n.calls.op.length ≤ 1048576
 sl : ∀ x ∈ n.seen,Cj x.told
 sn : n.seen.length ≤ 1048576
 kn : n.keep.length ≤ 1048576
 fl : n.finger.left.length ≤ 1048576
 ml : n.mirror.left.length ≤ 1048576
 tl : n.client.left.length ≤ 1048576
def Pt (n : Node) : Bool:=!(n.seen.any fun p => decide (p.told.src ≠ n.view.id))
def Cb (n : Node) : Bool:=(decide (0 ≤ n.clock) && decide (n.clock ≤ 1099511627776)) && (decide (0 ≤ n.bad) && ((decide (0 ≤ n.next) && decide (n.next < 16)) && (C1 n.view && ((decide (n.calls.id = n.view.id) && CZ n.calls) && (Gu n.phase n.of_ && (FZ n.keep && (F3 n.seen && Pt n)))))))
def CN {α : Type} (q : α → Bool) (l : List α) : Int:=match l.findIdx? q with
 | some n => (n : Int)
 | none => -1
theorem FH {α : Type} {q : α → Bool} {l : List α} {k : Nat} {x : α} (hx : l[k]? = some x) (h : q x = true) (hn : (l.take k).any q = false) : CN q l = k:=by
 unfold CN;rw [Ix hx h hn]
theorem E3 {α : Type} {q : α → Bool} {l : List α} (hn : l.any q = false) : CN q l = -1:=by
 unfold CN
 have : l.findIdx? q = none:=by
  rw [List.findIdx?_eq_none_iff]
  rw [List.any_eq_false] at hn
  intro x hx
  simpa using hn x hx
 rw [this]
theorem E8 {α : Type} (q : α → Bool) (l : List α) : decide (CN q l ≥ 0) = l.any q:=by
 cases h : l.any q with
 | false => rw [E3 h];rfl
 | true =>
  obtain ⟨x,hx,hp⟩:=List.any_eq_true.1 h
  have : l.findIdx? q ≠ none:=by
   rw [Ne,List.findIdx?_eq_none_iff]
   intro hh
   have:=hh x hx
   rw [hp] at this;cases this
  unfold CN
  split
  ·exact decide_eq_true (by omega)
  ·contradiction
theorem Yu (n : Node) : BK Tryz.prog 106 [.ptr 0 0 76] [.c (AL n)] (.d (.b (decide (0 ≤ n.clock) && decide (n.clock ≤ 1099511627776)))) [.c (AL n)]:=by
 refine AB A8 Tryz.func106 rfl rfl (Nat.le_of_ble_eq_true rfl) ?_
 unfold AL
 by_cases h1 : 0 ≤ n.clock
 ·have f1 : decide (n.clock ≥ 0) = true:=decide_eq_true h1
  rw [decide_eq_true h1,Bool.true_and]
  have nS:=f1;obtain ⟨lv,st,ns,nc⟩:=wq [0,1] [];refine wk ?_;clear nc ns st lv;repeat' (first|with_reducible constructor|(with_reducible intro hc;try simp only[A1] at hc))
  exact ⟨⟨[(1,.d (.b (decide (n.clock ≤ 1099511627776))))],[.c (AL n)],_⟩,(A0.ck rfl),Nat.le_refl _,_,_,rfl,rfl,rfl,rfl⟩
 ·have f1 : decide (n.clock ≥ 0) = false:=decide_eq_false h1
  rw [decide_eq_false h1,Bool.false_and]
  have nS:=f1;obtain ⟨lv,st,ns,nc⟩:=wq [0,1] [];refine wk ?_;clear nc ns st lv;repeat' (first|with_reducible constructor|(with_reducible intro hc;try simp only[A1] at hc))
  exact ⟨⟨[(1,.d (.b false))],[.c (AL n)],_⟩,(A0.ck rfl),Nat.le_refl _,_,_,rfl,rfl,rfl,rfl⟩
theorem YP (n : Node) : BK Tryz.prog 107 [.ptr 0 0 76] [.c (AL n)] (.d (.b (decide (0 ≤ n.bad)))) [.c (AL n)]:=by
 refine AB A8 Tryz.func107 rfl rfl (Nat.le_of_ble_eq_true rfl) ?_
 unfold AL
 have nS:=True.intro;obtain ⟨lv,st,ns,nc⟩:=wq [0,1] [];refine wk ?_;clear nc ns st lv;repeat' (first|with_reducible constructor|(with_reducible intro hc;try simp only[A1] at hc))
 exact ⟨⟨[(1,.d (.b (decide (0 ≤ n.bad))))],[.c (AL n)],_⟩,(A0.ck rfl),Nat.le_refl _,_,_,rfl,rfl,rfl,rfl⟩
theorem YA (n : Node) : BK Tryz.prog 108 [.ptr 0 0 76] [.c (AL n)] (.d (.b (decide (0 ≤ n.next) && decide (n.next < 16)))) [.c (AL n)]:=by
 refine AB A8 Tryz.func108 rfl rfl (Nat.le_of_ble_eq_true rfl) ?_
 unfold AL
 by_cases h1 : 0 ≤ n.next
 ·have f1 : decide (n.next ≥ 0) = true:=decide_eq_true h1
  rw [decide_eq_true h1,Bool.true_and]
  have nS:=f1;obtain ⟨lv,st,ns,nc⟩:=wq [0,1] [];refine wk ?_;clear nc ns st lv;repeat' (first|with_reducible constructor|(with_reducible intro hc;try simp only[A1] at hc))
  exact ⟨⟨[(1,.d (.b (decide (n.next < 16))))],[.c (AL n)],_⟩,(A0.ck rfl),Nat.le_refl _,_,_,rfl,rfl,rfl,rfl⟩
 ·have f1 : decide (n.next ≥ 0) = false:=decide_eq_false h1
  rw [decide_eq_false h1,Bool.false_and]
  have nS:=f1;obtain ⟨lv,st,ns,nc⟩:=wq [0,1] [];refine wk ?_;clear nc ns st lv;repeat' (first|with_reducible constructor|(with_reducible intro hc;try simp only[A1] at hc))
  exact ⟨⟨[(1,.d (.b false))],[.c (AL n)],_⟩,(A0.ck rfl),Nat.le_refl _,_,_,rfl,rfl,rfl,rfl⟩
theorem Y7 (n : Node) (h : LA n) : BK Tryz.prog 109 [.ptr 0 0 76] [.c (AL n)] (.d (.b (C1 n.view))) [.c (AL n)]:=by
 have c1:=K8 n.view (by have:=h.vb;omega) (by have:=h.vl;omega)
 refine AB A8 Tryz.func109 rfl rfl (Nat.le_of_ble_eq_true rfl) ?_
 generalize C1 n.view = b at *
 unfold View.d View.cells at c1
 unfold AL
 have nS:=True.intro;obtain ⟨lv,st,ns,nc⟩:=wq [0,1] [];have c1:=@c1;refine wk ?_;clear nc ns st lv c1;repeat' (first|with_reducible constructor|(with_reducible intro hc;try simp only[A1] at hc))
 exact ⟨⟨[(1,.d (.b b))],[.c (AL n)],_⟩,(A0.ck rfl),Nat.le_refl _,_,_,rfl,rfl,rfl,rfl⟩
theorem YV (n : Node) (h : LA n) : BK Tryz.prog 111 [.ptr 0 0 76] [.c (AL n)] (.d (.b (decide (n.calls.id = n.view.id) && CZ n.calls))) [.c (AL n)]:=by
 have c1:=Uk n.calls h.cl
 refine AB A8 Tryz.func111 rfl rfl (Nat.le_of_ble_eq_true rfl) ?_
 generalize CZ n.calls = b at *
 unfold Calls.d Calls.cells at c1
 unfold AL
 by_cases h1 : n.calls.id = n.view.id
 ·have f1:=Ar h1
  rw [decide_eq_true h1,Bool.true_and]
  have nS:=f1;obtain ⟨lv,st,ns,nc⟩:=wq [0,1] [];have c1:=@c1;refine wk ?_;clear nc ns st lv c1;repeat' (first|with_reducible constructor|(with_reducible intro hc;try simp only[A1] at hc))
  exact ⟨⟨[(1,.d (.b b))],[.c (AL n)],_⟩,(A0.ck rfl),Nat.le_refl _,_,_,rfl,rfl,rfl,rfl⟩
 ·have f1:=eq_false' h1
  rw [decide_eq_false h1,Bool.false_and]
  have nS:=f1;obtain ⟨lv,st,ns,nc⟩:=wq [0,1] [];have c1:=@c1;refine wk ?_;clear nc ns st lv c1;repeat' (first|with_reducible constructor|(with_reducible intro hc;try simp only[A1] at hc))
  exact ⟨⟨[(1,.d (.b false))],[.c (AL n)],_⟩,(A0.ck rfl),Nat.le_refl _,_,_,rfl,rfl,rfl,rfl⟩
theorem YN (n : Node) : BK Tryz.prog 113 [.ptr 0 0 76] [.c (AL n)] (.d (.b (Gu n.phase n.of_))) [.c (AL n)]:=by
 have c1:=Vp n.phase n.of_
 refine AB A8 Tryz.func113 rfl rfl (Nat.le_of_ble_eq_true rfl) ?_
 generalize Gu n.phase n.of_ = b at *
 unfold AL
 have nS:=True.intro;obtain ⟨lv,st,ns,nc⟩:=wq [0,1] [];have c1:=@c1;refine wk ?_;clear nc ns st lv c1;repeat' (first|with_reducible constructor|(with_reducible intro hc;try simp only[A1] at hc))
 exact ⟨⟨[(1,.d (.b b))],[.c (AL n)],_⟩,(A0.ck rfl),Nat.le_refl _,_,_,rfl,rfl,rfl,rfl⟩
theorem Yj (n : Node) (h : LA n) : BK Tryz.prog 115 [.ptr 0 0 76] [.c (AL n)] (.d (.b (FZ n.keep))) [.c (AL n)]:=by
 have c1:=VJ n.keep (by have:=h.kn;omega)
 refine AB A8 Tryz.func115 rfl rfl (Nat.le_of_ble_eq_true rfl) ?_
 generalize FZ n.keep = b at *
 unfold AL
 have nS:=True.intro;obtain ⟨lv,st,ns,nc⟩:=wq [0,1] [];have c1:=@c1;refine wk ?_;clear nc ns st lv c1;repeat' (first|with_reducible constructor|(with_reducible intro hc;try simp only[A1] at hc))
 exact ⟨⟨[(1,.d (.b b))],[.c (AL n)],_⟩,(A0.ck rfl),Nat.le_refl _,_,_,rfl,rfl,rfl,rfl⟩
theorem YH (n : Node) (h : LA n) : BK Tryz.prog 117 [.ptr 0 0 76] [.c (AL n)] (.d (.b (F3 n.seen))) [.c (AL n)]:=by
 have c1:=Vu n.seen h.sl (by have:=h.sn;omega)
 refine AB A8 Tryz.func117 rfl rfl (Nat.le_of_ble_eq_true rfl) ?_
 generalize F3 n.seen = b at *
 unfold AL
 have nS:=True.intro;obtain ⟨lv,st,ns,nc⟩:=wq [0,1] [];have c1:=@c1;refine wk ?_;clear nc ns st lv c1;repeat' (first|with_reducible constructor|(with_reducible intro hc;try simp only[A1] at hc))
 exact ⟨⟨[(1,.d (.b b))],[.c (AL n)],_⟩,(A0.ck rfl),Nat.le_refl _,_,_,rfl,rfl,rfl,rfl⟩
theorem Wh (n : Node) (x : Past) : BK Tryz.prog 120 [.d x.d,.ptr 0 0 76] [.c (AL n)] (.d (.b (decide (x.told.src ≠ n.view.id)))) [.c (AL n)]:=by
 refine AB A8 Tryz.func120 rfl rfl (Nat.le_of_ble_eq_true rfl) ?_
 unfold AL Past.d Past.cells
 by_cases h1 : x.told.src = n.view.id
 ·have f1:=Bb h1
  rw [decide_eq_false (fun hh => hh h1)]
  have nS:=f1;obtain ⟨lv,st,ns,nc⟩:=wq [0,1,2,3] [];refine wk ?_;clear nc ns st lv;repeat' (first|with_reducible constructor|(with_reducible intro hc;try simp only[A1] at hc))
  exact ⟨⟨[(3,.d (.b false))],[.c (AL n)],_⟩,(A0.ck rfl),Nat.le_refl _,_,_,rfl,rfl,rfl,rfl⟩
 ·have f1:=Be h1
  rw [decide_eq_true h1]
  have nS:=f1;obtain ⟨lv,st,ns,nc⟩:=wq [0,1,2,3] [];refine wk ?_;clear nc ns st lv;repeat' (first|with_reducible constructor|(with_reducible intro hc;try simp only[A1] at hc))
  exact ⟨⟨[(3,.d (.b true))],[.c (AL n)],_⟩,(A0.ck rfl),Nat.le_refl _,_,_,rfl,rfl,rfl,rfl⟩
theorem Tl (n : Node) (l : List Past) (hn : l.length ≤ 9223372036854775807) : BK Tryz.prog 78 [.d (AW l),.fn (.func 120) [] [.ptr 0 0 76]] [.c (AL n)] (.d (.i .i64 (CN (fun p => decide (p.told.src ≠ n.view.id)) l))) [.c (AL n)]:=by
 refine AB A8 Tryz.func78 rfl rfl (Nat.le_of_ble_eq_true rfl) ?_
 have hC:=Wh n
 generalize hq : (fun p : Past => decide (p.told.src ≠ n.view.id)) = q at *
 have hC' : ∀ x,BK Tryz.prog 120 [.d x.d,.ptr 0 0 76] [.c (AL n)] (.d (.b (q x))) [.c (AL n)]:=fun x => by have:=hC x;rw [← hq];exact this
 clear hC
 have nS:=True.intro;obtain ⟨lv,st,ns,nc⟩:=wq [0,1,4,5,7,8,9,16] [];refine wk ?_;clear nc ns st lv;repeat' (first|with_reducible constructor|(with_reducible intro hc;try simp only[A1] at hc))
 refine AS (fun k => k ≤ l.length ∧ (l.take k).any q = false) (fun k : Nat => [(8,.d (.i .i64 k))]) (fun k => l.length - k) 0 ⟨Nat.zero_le _,rfl⟩ (fun _ => rfl) ?_ ?_
 ·exact A0.ck rfl
 rintro k ⟨hk,hpre⟩
 by_cases hkl : k < l.length
 ·obtain ⟨x,hx⟩:=AG hkl
  have hA:=BH (p:=q) hx
  rw [hpre,Bool.false_or] at hA
  have c1:=hC' x
  unfold Past.d Past.cells at c1
  cases hb : q x with
  | true =>
   rw [hb] at c1
   have nS:=True.intro;obtain ⟨lv,st,ns,nc⟩:=wq [0,1,4,5,7,8,9,16] [];have ix1:=hx;have d1:=Ds.mk [0] (c1);refine wk ?_;clear nc ns st lv d1 ix1;repeat' (first|with_reducible constructor|(with_reducible intro hc;try simp only[A1] at hc))
   rw [FH hx hb hpre]
   exact ⟨⟨[(4,.d (.i .i64 k))],[.c (AL n)],_⟩,(A0.ck rfl),Nat.le_refl _,_,_,rfl,rfl,rfl,rfl⟩
  | false =>
   rw [hb] at c1
   have nS:=True.intro;obtain ⟨lv,st,ns,nc⟩:=wq [0,1,4,5,7,8,9,16] [];have ix1:=hx;have d1:=Ds.mk [0] (c1);refine wk ?_;clear nc ns st lv d1 ix1;repeat' (first|with_reducible constructor|(with_reducible intro hc;try simp only[A1] at hc))
   refine ⟨k + 1,⟨hkl,by rw [hA,hb]⟩,by omega,Nat.le_refl _,?_⟩
   exact A0.ck rfl
 ·have e : k = l.length:=by omega
  subst e
  rw [List.take_length] at hpre
  have nS:=True.intro;obtain ⟨lv,st,ns,nc⟩:=wq [0,1,4,5,7,8,9,16] [];refine wk ?_;clear nc ns st lv;repeat' (first|with_reducible constructor|(with_reducible intro hc;try simp only[A1] at hc))
  rw [E3 hpre]
  exact ⟨⟨[(4,.d (.i .i64 (-1)))],[.c (AL n)],_⟩,(A0.ck rfl),Nat.le_refl _,_,_,rfl,rfl,rfl,rfl⟩
theorem T4 (n : Node) (l : List Past) (hn : l.length ≤ 9223372036854775807) : BK Tryz.prog 41 [.d (AW l),.fn (.func 120) [] [.ptr 0 0 76]] [.c (AL n)] (.d (.b (l.any fun p => decide (p.told.src ≠ n.view.id)))) [.c (AL n)]:=by
 refine AB A8 Tryz.func41 rfl rfl (Nat.le_of_ble_eq_true rfl) ?_
 have c1:=Tl n l hn
 rw [← E8]
 generalize CN (fun p : Past => decide (p.told.src ≠ n.view.id)) l = z at *
 have nS:=True.intro;obtain ⟨lv,st,ns,nc⟩:=wq [0,1,4] [];have d1:=Ds.mk [0] (c1);refine wk ?_;clear nc ns st lv d1;repeat' (first|with_reducible constructor|(with_reducible intro hc;try simp only[A1] at hc))
 exact ⟨⟨[(4,.d (.b (decide (z ≥ 0))))],[.c (AL n)],_⟩,(A0.ck rfl),Nat.le_refl _,_,_,rfl,rfl,rfl,rfl⟩
theorem Yl (n : Node) (h : LA n) : BK Tryz.prog 119 [.ptr 0 0 76] [.c (AL n)] (.d (.b (Pt n))) [.c (AL n)]:=by
 have c1:=T4 n n.seen (by have:=h.sn;omega)
 refine AB A8 Tryz.func119 rfl rfl (Nat.le_of_ble_eq_true rfl) ?_
 unfold Pt
 generalize (n.seen.any fun p => decide (p.told.src ≠ n.view.id)) = b at *
 unfold AL
 have nS:=True.intro;obtain ⟨lv,st,ns,nc⟩:=wq [0,1] [];have d1:=Ds.mk [0] (c1);refine wk ?_;clear nc ns st lv d1;repeat' (first|with_reducible constructor|(with_reducible intro hc;try simp only[A1] at hc))
 exact ⟨⟨[(1,.d (.b !b))],[.c (AL n)],_⟩,(A0.ck rfl),Nat.le_refl _,_,_,rfl,rfl,rfl,rfl⟩
theorem Sl (n : Node) (h : LA n) : Go.Gar.Fn Tryz.prog 66 [n.d] (.b (Cb n)):=by
 refine A3 A8 Tryz.func66 rfl rfl (Nat.le_of_ble_eq_true rfl) ?_
 have c1:=XV n _ _ _ _ _ _ _ _ _ (Yu n) (YP n) (YA n) (Y7 n h) (YV n h) (YN n) (Yj n h) (YH n h) (Yl n h)
 unfold Cb
 generalize ((decide (0 ≤ n.clock) && decide (n.clock ≤ 1099511627776)) && _) = B at *
 have nS:=True.intro;obtain ⟨lv,st,ns,nc⟩:=wq [0,1,2] [];have d1:=Ds.mk [0,1] (c1);refine wk ?_;clear nc ns st lv d1;repeat' (first|with_reducible constructor|(with_reducible intro hc;try simp only[A1] at hc))
 refine ⟨_,_,rfl,rfl,?_⟩;simp [AH,A6,A5,A4]
theorem WC (n : Node) (h : LA n) : Go.Gar.Fn Tryz.prog 97 [n.d] (.b (Pt n)):=by
 refine A3 A8 Tryz.func97 rfl rfl (Nat.le_of_ble_eq_true rfl) ?_
 have hn : n.seen.length ≤ 1048576:=h.sn
 have hT : Pt n = !(n.seen.any fun p => decide (p.told.src ≠ n.view.id)):=rfl
 generalize hq : (fun p : Past => decide (p.told.src ≠ n.view.id)) = q at *
 have hq' : ∀ x : Past,(x.told.src != n.view.id) = q x:=fun x => by rw [← hq];by_cases e : x.told.src = n.view.id <;> simp [e]
 have nS:=True.intro;obtain ⟨lv,st,ns,nc⟩:=wq [0,1,2,3,8,21] [];have pr : AC []:=trivial;refine wd ?_;clear nc ns st lv pr;repeat' (first|with_reducible constructor|(with_reducible intro hc;try simp only[A1] at hc))
 refine AS (fun k => k ≤ n.seen.length ∧ (n.seen.take k).any q = false) (fun k : Nat => [(3,.d (.i .i64 k))]) (fun k => n.seen.length - k) 0 ⟨Nat.zero_le _,rfl⟩ (fun _ => rfl) ?_ ?_
 ·exact A0.ck rfl
 rintro k ⟨hk,hpre⟩
 by_cases hkl : k < n.seen.length
 ·obtain ⟨x,hx⟩:=AG hkl
  have hA:=BH (p:=q) hx
  rw [hpre,Bool.false_or] at hA
  have f1:=hq' x
  cases hb : q x with
  | true =>
   rw [hb] at f1
   have nS:=f1;obtain ⟨lv,st,ns,nc⟩:=wq [0,1,2,3,8,21] [];have ix1:=hx;have pr : AC []:=trivial;refine wd ?_;clear nc ns st lv pr ix1;repeat' (first|with_reducible constructor|(with_reducible intro hc;try simp only[A1] at hc))
   refine ⟨_,_,rfl,rfl,?_⟩
   simp only [Ao];rw [hT,E2 hx hb];rfl
  | false =>
   rw [hb] at f1
   have nS:=f1;obtain ⟨lv,st,ns,nc⟩:=wq [0,1,2,3,8,21] [];have ix1:=hx;have pr : AC []:=trivial;refine wd ?_;clear nc ns st lv pr ix1;repeat' (first|with_reducible constructor|(with_reducible intro hc;try simp only[A1] at hc))
   refine ⟨k + 1,⟨hkl,by rw [hA,hb]⟩,by omega,Nat.le_refl _,?_⟩
   exact A0.ck rfl
 ·have e : k = n.seen.length:=by omega
  subst e
  rw [List.take_length] at hpre
  have nS:=True.intro;obtain ⟨lv,st,ns,nc⟩:=wq [0,1,2,3,8,21] [];have pr : AC []:=trivial;refine wd ?_;clear nc ns st lv pr;repeat' (first|with_reducible constructor|(with_reducible intro hc;try simp only[A1] at hc))
  refine ⟨_,_,rfl,rfl,?_⟩
  simp only [Ao];rw [hT,hpre];rfl
theorem Rb (n : Node) (h : LA n) : Go.Gar.Fn Tryz.prog 58 [n.d] (.b (Cb n)):=by
 have c1:=WC n h
 have c2:=J0 n.view h.id h.li (by have:=h.vb;omega) (by have:=h.vl;omega)
 have c3:=LZ n.calls h.cl (by have:=h.cn;omega)
 have c4:=Ta n.seen h.sl (by have:=h.sn;omega)
 have c5:=Uq n.phase n.of_
 have c6:=T6 n.keep (by have:=h.kn;omega)
 have hT : Cb n = ((decide (0 ≤ n.clock) && decide (n.clock ≤ 1099511627776)) && (decide (0 ≤ n.bad) && ((decide (0 ≤ n.next) && decide (n.next < 16)) && (C1 n.view && ((decide (n.calls.id = n.view.id) && CZ n.calls) && (Gu n.phase n.of_ && (FZ n.keep && (F3 n.seen && Pt n)))))))):=rfl
 unfold View.d View.cells at c2
 unfold Calls.d Calls.cells at c3
 refine A3 A8 Tryz.func58 rfl rfl (Nat.le_of_ble_eq_true rfl) ?_
 generalize Cb n = R at *
 generalize Pt n = g1 at *
 generalize C1 n.view = g2 at *
 generalize CZ n.calls = g3 at *
 generalize F3 n.seen = g4 at *
 generalize Gu n.phase n.of_ = g5 at *
 generalize FZ n.keep = g6 at *
 clear h
 have nS:=True.intro;obtain ⟨lv,st,ns,nc⟩:=wq [0,1,2] [];have c1:=@c1;have c2:=@c2;have c3:=@c3;have c4:=@c4;have c5:=@c5;have c6:=@c6;refine wk ?_;clear nc ns st lv c6 c5 c4 c3 c2 c1;repeat' (first|with_reducible constructor|(with_reducible intro hc;try simp only[A1] at hc))
 all_goals (clear c1 c2 c3 c4 c5 c6;refine ⟨_,_,rfl,rfl,?_⟩;simp only [Ao];refine congrArg D.b ?_;rw [hT];clear hT;grind)
theorem Jf (j : Job) (h : j.left.length ≤ 1048576) : Go.Gar.Fn Tryz.prog 95 [j.d] j.d:=by
 refine A3 A8 Tryz.func95 rfl rfl (Nat.le_of_ble_eq_true rfl) ?_
 unfold Job.d Job.cells
 have nS:=True.intro;obtain ⟨lv,st,ns,nc⟩:=wq [0,1,2] [];refine wk ?_;clear nc ns st lv;repeat' (first|with_reducible constructor|(with_reducible intro hc;try simp only[A1] at hc))
 refine ⟨_,_,rfl,rfl,?_⟩;simp [AH,A6,A5,A4]
theorem Sy (l : List Item) (h : l.length ≤ 1048576) : Go.Gar.Fn Tryz.prog 96 [BB l] (BB l):=by
 refine A3 A8 Tryz.func96 rfl rfl (Nat.le_of_ble_eq_true rfl) ?_
 have nS:=True.intro;obtain ⟨lv,st,ns,nc⟩:=wq [0,2] [];refine wk ?_;clear nc ns st lv;repeat' (first|with_reducible constructor|(with_reducible intro hc;try simp only[A1] at hc))
 refine ⟨_,_,rfl,rfl,?_⟩;simp [AH,A6,A5,A4]
theorem Rh (v : View) (h1 : v.base.length ≤ 1048576) (h2 : v.list.length ≤ 1048576) : Go.Gar.Fn Tryz.prog 92 [v.d] v.d:=by
 obtain ⟨id,base,list,pred,f⟩:=v
 replace h1 : base.length ≤ 1048576:=h1
 replace h2 : list.length ≤ 1048576:=h2
 refine A3 A8 Tryz.func92 rfl rfl (Nat.le_of_ble_eq_true rfl) ?_
 have nS:=True.intro;obtain ⟨lv,st,ns,nc⟩:=wq [0,1,2] [];refine wk ?_;clear nc ns st lv;repeat' (first|with_reducible constructor|(with_reducible intro hc;try simp only[A1] at hc))
 refine ⟨_,_,rfl,rfl,?_⟩;simp [AH,A6,A5,A4,View.d,View.cells]
theorem UL (l : List Past) (hl : ∀ x ∈ l,Cj x.told) (hn : l.length ≤ 1048576) : Go.Gar.Fn Tryz.prog 94 [AW l] (AW l):=by
 refine A3 A8 Tryz.func94 rfl rfl (Nat.le_of_ble_eq_true rfl) ?_
 have nS:=True.intro;obtain ⟨lv,st,ns,nc⟩:=wq [0,2,3,4,5,9] [];refine wk ?_;clear nc ns st lv;repeat' (first|with_reducible constructor|(with_reducible intro hc;try simp only[A1] at hc))
 refine B3 (A0.J1 3 (.sl 17 []) rfl rfl rfl (by simp [A4])) (by simp) ?_
 refine E6 (fun k => k ≤ l.length) (fun k : Nat => [(3,.sl 0 (l.take k).length 17),(4,.d (.i .i64 k))]) (fun k => [(0,.a (AW (l.take k)))]) (fun k => l.length - k) 0 (Nat.zero_le _) (fun _ => rfl) (fun _ => rfl) ?_ ?_
 ·exact A0.ck rfl
 intro k hk
 have htl : (l.take k).length ≤ k:=List.length_take_le _ _
 by_cases hkl : k < l.length
 ·obtain ⟨x,hx⟩:=AG hkl
  have c1:=Hx x.told (hl x (List.mem_of_getElem? hx))
  have hn:=AR hx
  unfold AE.d AE.cells at c1
  have nS:=True.intro;obtain ⟨lv,st,ns,nc⟩:=wq [0,2,3,4,5,9] [];have ix1:=hx;have c1:=@c1;refine wk ?_;clear nc ns st lv c1 ix1;repeat' (first|with_reducible constructor|(with_reducible intro hc;try simp only[A1] at hc))
  refine ⟨k + 1,hkl,by omega,Nat.le_refl _,?_⟩
  exact A0.cut rfl (by repeat' (first | exact True.intro | refine And.intro (by (first | rfl | ((with_reducible_and_instances refine congrArg (fun z => some (AV.d (D.i _ z))) ?_);omega) | (refine congrArg (fun z => some (AV.d (D.i _ z))) (?_ : (_ : Int) = _);omega) | (refine congrArg some ?_;simp only [hn,AW,List.map_append,List.map_cons,List.map_nil,Past.cells,List.length_append,List.length_cons,List.length_nil];done) | (refine congrArg some ?_;simp [hn,AW,List.map_append,List.map_cons,List.map_nil,Past.cells,List.length_append,List.length_cons,List.length_nil];done))) ?_)) (by repeat' (first | exact True.intro | refine And.intro (Or.inr rfl) ?_ | refine And.intro (Or.inl ⟨rfl,rfl⟩) ?_ | refine And.intro (Or.inr (by simp only [hn,AW,List.map_append,List.map_cons,List.map_nil,Past.cells,List.length_append,List.length_cons,List.length_nil])) ?_ | refine And.intro (Or.inr (by simp [hn,AW,List.map_append,List.map_cons,List.map_nil,Past.cells,List.length_append,List.length_cons,List.length_nil])) ?_)) (by first | rfl | (simp (decide:=true) [AT,A7.ok,AV.oks,AV.ok,hk];done)) rfl
 ·have e : k = l.length:=by omega
  subst e
  rw [List.take_length]
  have nS:=True.intro;obtain ⟨lv,st,ns,nc⟩:=wq [0,2,3,4,5,9] [];refine wk ?_;clear nc ns st lv;repeat' (first|with_reducible constructor|(with_reducible intro hc;try simp only[A1] at hc))
  refine ⟨_,_,rfl,rfl,?_⟩;simp [AH,A6,A5,A4]
theorem Tj (c : Calls) (hl : ∀ x ∈ c.op,Cj x.msg) (hn : c.op.length ≤ 1048576) : Go.Gar.Fn Tryz.prog 93 [c.d] c.d:=by
 obtain ⟨id,many,l⟩:=c
 replace hl : ∀ x ∈ l,Cj x.msg:=hl
 replace hn : l.length ≤ 1048576:=hn
 refine A3 A8 Tryz.func93 rfl rfl (Nat.le_of_ble_eq_true rfl) ?_
 unfold Calls.d Calls.cells
 have nS:=True.intro;obtain ⟨lv,st,ns,nc⟩:=wq [0,1,2,3,4,5,10] [];refine wk ?_;clear nc ns st lv;repeat' (first|with_reducible constructor|(with_reducible intro hc;try simp only[A1] at hc))
 refine B3 (A0.J1 3 (.sl 20 []) rfl rfl rfl (by simp [A4])) (by simp) ?_
 refine E6 (fun k => k ≤ l.length) (fun k : Nat => [(3,.sl 2 (l.take k).length 20),(4,.d (.i .i64 k))]) (fun k => [(2,.a (HE (l.take k)))]) (fun k => l.length - k) 0 (Nat.zero_le _) (fun _ => rfl) (fun _ => rfl) ?_ ?_
 ·exact A0.ck rfl
 intro k hk
 have htl : (l.take k).length ≤ k:=List.length_take_le _ _
 by_cases hkl : k < l.length
 ·obtain ⟨x,hx⟩:=AG hkl
  have c1:=Hx x.msg (hl x (List.mem_of_getElem? hx))
  have hn:=AR hx
  unfold AE.d AE.cells at c1
  have nS:=True.intro;obtain ⟨lv,st,ns,nc⟩:=wq [0,1,2,3,4,5,10] [];have ix1:=hx;have c1:=@c1;refine wk ?_;clear nc ns st lv c1 ix1;repeat' (first|with_reducible constructor|(with_reducible intro hc;try simp only[A1] at hc))
  refine ⟨k + 1,hkl,by omega,Nat.le_refl _,?_⟩
  exact A0.cut rfl (by repeat' (first | exact True.intro | refine And.intro (by (first | rfl | ((with_reducible_and_instances refine congrArg (fun z => some (AV.d (D.i _ z))) ?_);omega) | (refine congrArg (fun z => some (AV.d (D.i _ z))) (?_ : (_ : Int) = _);omega) | (refine congrArg some ?_;simp only [hn,HE,List.map_append,List.map_cons,List.map_nil,Call.cells,List.length_append,List.length_cons,List.length_nil];done) | (refine congrArg some ?_;simp [hn,HE,List.map_append,List.map_cons,List.map_nil,Call.cells,List.length_append,List.length_cons,List.length_nil];done))) ?_)) (by repeat' (first | exact True.intro | refine And.intro (Or.inr rfl) ?_ | refine And.intro (Or.inl ⟨rfl,rfl⟩) ?_ | refine And.intro (Or.inr (by simp only [hn,HE,List.map_append,List.map_cons,List.map_nil,Call.cells,List.length_append,List.length_cons,List.length_nil])) ?_ | refine And.intro (Or.inr (by simp [hn,HE,List.map_append,List.map_cons,List.map_nil,Call.cells,List.length_append,List.length_cons,List.length_nil])) ?_)) (by first | rfl | (simp (decide:=true) [AT,A7.ok,AV.oks,AV.ok,hk];done)) rfl
 ·have e : k = l.length:=by omega
  subst e
  rw [List.take_length]
  have nS:=True.intro;obtain ⟨lv,st,ns,nc⟩:=wq [0,1,2,3,4,5,10] [];refine wk ?_;clear nc ns st lv;repeat' (first|with_reducible constructor|(with_reducible intro hc;try simp only[A1] at hc))
  refine ⟨_,_,rfl,rfl,?_⟩;simp [AH,A6,A5,A4]
theorem Km (n : Node) (h : LA n) : Go.Gar.Fn Tryz.prog 55 [n.d] n.d:=by
 have c1:=Rh n.view (by have:=h.vb;omega) (by have:=h.vl;omega)
 have c2:=Tj n.calls h.cl h.cn
 have c3:=UL n.seen h.sl h.sn
 have c4:=Jf n.finger h.fl
 have c5:=Jf n.mirror h.ml
 have c6:=Jf n.client h.tl
 have c7:=Sy n.keep h.kn
 refine A3 A8 Tryz.func55 rfl rfl (Nat.le_of_ble_eq_true rfl) ?_
 unfold View.d View.cells at c1
 unfold Calls.d Calls.cells at c2
 unfold Job.d Job.cells at c4 c5 c6
 have nS:=True.intro;obtain ⟨lv,st,ns,nc⟩:=wq [0,1,2] [];have c1:=@c1;have c2:=@c2;have c3:=@c3;have c4:=@c4;have c5:=@c5;have c6:=@c6;have c7:=@c7;refine wk ?_;clear nc ns st lv c7 c6 c5 c4 c3 c2 c1;repeat' (first|with_reducible constructor|(with_reducible intro hc;try simp only[A1] at hc))
 refine ⟨_,_,rfl,rfl,?_⟩;simp [AH,A6,A5,A4,Node.d,Node.cells,View.cells,Calls.cells,Job.cells]
end Nd
end Go.Proofs.YtagnjflbhjmefaaGreat
