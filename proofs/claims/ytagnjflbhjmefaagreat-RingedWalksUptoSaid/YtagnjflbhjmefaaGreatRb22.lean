/- Part 22 of the texts of this proof, put together by a program and made short.
Conditions: none; what each theorem asks stands in its own hypotheses. -/
import Derived.Test.YtagnjflbhjmefaaGreatRb21
import Derived.Sort.Walk0
import Derived.KernelRfl
import Derived.RangeFuncIn
import Derived.Sort.Grow
import Derived.Laws.Cover3
import Derived.RecoverIn
import Derived.ProofKit
import Derived.OpenShut
import Derived.CallsIn
import Derived.RangeFuncLeaves
import Derived.OrdersIn
import Derived.TacticsIn
import Derived.ChangeKeysEq
import Derived.Laws.AppendOwn
import Derived.Laws.OwnMore
import Derived.Laws.MakeOwn
import Derived.Laws.Rows
import Derived.Laws.Cells
import Derived.Laws.Tables
import Derived.Laws.CopyRow
import Derived.Laws.Strings
import Derived.Laws.IdiomStrings
import Derived.Laws.BytesArg
import Derived.Test.YtagnjflbhjmefaaGreatProg
set_option linter.unusedSimpArgs false
set_option linter.unusedVariables false
set_option linter.unnecessarySimpa false
set_option maxHeartbeats 40000000
namespace Go.Proofs.YtagnjflbhjmefaaGreat
namespace Nd
open Go.Gar
open Wi (AE Az B7)
set_option maxRecDepth 4000
theorem Vu (l : List Past) (hl : ∀ x ∈ l,Cj x.told) (hn : l.length ≤ 9223372036854775807) : Go.Gar.Fn Tryz.prog 118 [AW l] (.b (F3 l)):=by
 refine A3 A8 Tryz.func118 rfl rfl (Nat.le_of_ble_eq_true rfl) ?_
 by_cases h40 : l.length > 40
 ·have f1 : decide ((l.length : Int) > 40) = true:=decide_eq_true (by omega)
  have hT : F3 l = false:=by unfold F3;rw [decide_eq_false (by omega)];rfl
  have nS:=f1;obtain ⟨lv,st,ns,nc⟩:=wq [0,1,2,3,4,7,9,10,11,20,34,44] [];have pr : AC []:=trivial;refine wd ?_;clear nc ns st lv pr;repeat' (first|with_reducible constructor|(with_reducible intro hc;try simp only[A1] at hc))
  refine ⟨_,_,rfl,rfl,?_⟩;simp [AH,A6,A5,A4,hT]
 have f1 : decide ((l.length : Int) > 40) = false:=decide_eq_false (by omega)
 have hT : F3 l = Ba l.length (D6 l):=by unfold F3;rw [decide_eq_true (by omega)];rfl
 have nS:=f1;obtain ⟨lv,st,ns,nc⟩:=wq [0,1,2,3,4,7,9,10,11,20,34,44] [];have d1:=Ds.mk [] (Nu l);have pr : AC []:=trivial;refine wd ?_;clear nc ns st lv pr d1;repeat' (first|with_reducible constructor|(with_reducible intro hc;try simp only[A1] at hc))
 refine Bn (K:=fun r _ H' => (Ba l.length (D6 l) = true ∧ H' = [.c [.d (AW l)],.c [.d (.b false)],.c [.d (AW l)],.lp r]) ∨
  (Ba l.length (D6 l) = false ∧ H' = [.c [.d (AW l)],.c [.d (.b false)],.c [.d (AW l)],.lp (r.left .ret)])) rfl (by first | (simp only [Ai,Ae,Nat.reduceAdd,Int.reduceAdd,Int.reduceSub,Int.reduceMul,Int.reduceToNat];done) | (simp only [Ai,Ae,Nat.reduceAdd,Int.reduceAdd,Int.reduceSub,Int.reduceMul,Int.reduceToNat];rfl) | rfl) (by first | (simp only [Ai,Ae,Nat.reduceAdd,Int.reduceAdd,Int.reduceSub,Int.reduceMul,Int.reduceToNat];done) | (simp only [Ai,Ae,Nat.reduceAdd,Int.reduceAdd,Int.reduceSub,Int.reduceMul,Int.reduceToNat];rfl) | rfl) (fun r => (by first | (simp only [Ai,Ae,Nat.reduceAdd,Int.reduceAdd,Int.reduceSub,Int.reduceMul,Int.reduceToNat];done) | (simp only [Ai,Ae,Nat.reduceAdd,Int.reduceAdd,Int.reduceSub,Int.reduceMul,Int.reduceToNat];rfl) | rfl)) ?_ ?_
 ·intro r hr
  refine BP A8 Tryz.func230 rfl rfl (Nat.le_of_ble_eq_true rfl) ?_
  have nS:=True.intro;obtain ⟨lv,st,ns,nc⟩:=wq [0,1,3,4,5,6,7,8,16] [];refine wk ?_;clear nc ns st lv;repeat' (first|with_reducible constructor|(with_reducible intro hc;try simp only[A1] at hc))
  have hk:=hr.ok (k:=3) rfl
  refine AS (fun k => k ≤ l.length ∧ Ba k (D6 l) = true) (fun k : Nat => [(7,.d (.i .i64 k))]) (fun k => l.length - k) 0 ⟨Nat.zero_le _,rfl⟩ (fun _ => rfl) ?_ ?_
  ·exact A0.ck rfl
  rintro k ⟨hkk,hpre⟩
  by_cases hkl : k < l.length
  ·obtain ⟨x,hx⟩:=AG hkl
   have gx : l.getD k Kj = x:=getD_at hx
   have hlx:=hl x (List.mem_of_getElem? hx)
   have hK : D6 l k = ((x.told.right && (!x.told.asks && (decide (x.told.dst = x.src) && decide (x.told.call = x.call)))) && !(decide (KY (l.take k) x.src x.call ≥ 0))):=by unfold D6 JZ;rw [gx,VT]
   have c1:=Wi.HO x.told (lm hlx)
   have c2:=Wi.KA x.told
   have d1:=Z3 x.src x.call
   have d2:=UP (l.take k) x.src x.call (by rw [List.length_take];omega)
   have e1 : List.take k (List.map Past.cells l) = List.map Past.cells (List.take k l):=(List.map_take ..).symm
   unfold AE.d AE.cells at c1 c2
   generalize KY (l.take k) x.src x.call = fi at *
   have hY : YT Tryz.prog 3 [.d (.i .i64 k),.d (.agg [.i .i64 x.src,.i .i64 x.call,.i .u8 x.told.kind,.i .i64 x.told.call,.i .i64 x.told.src,.i .i64 x.told.dst,.i .i64 x.told.key,.b x.told.slow,.b x.told.done,.i .i64 x.told.place,.i .i64 x.told.pred,.is x.told.list,.s x.told.item.key,.i .i64 x.told.item.value,.i .i64 x.told.item.version,.b x.told.item.gone,.i .i64 x.told.code])] [.c [.d (AW l)],.c [.d (.b false)],.c [.d (AW l)],.lp r,.c [.d (.i .i64 x.src),.d (.i .i64 x.call),.d (.i .u8 x.told.kind),.d (.i .i64 x.told.call),.d (.i .i64 x.told.src),.d (.i .i64 x.told.dst),.d (.i .i64 x.told.key),.d (.b x.told.slow),.d (.b x.told.done),.d (.i .i64 x.told.place),.d (.i .i64 x.told.pred),.d (.is x.told.list),.d (.s x.told.item.key),.d (.i .i64 x.told.item.value),.d (.i .i64 x.told.item.version),.d (.b x.told.item.gone),.d (.i .i64 x.told.code)]] fun v K => v = .d (.b (D6 l k)) ∧ K = if D6 l k then [.c [.d (AW l)],.c [.d (.b false)],.c [.d (AW l)],.lp r,.c [.d (.i .i64 x.src),.d (.i .i64 x.call),.d (.i .u8 x.told.kind),.d (.i .i64 x.told.call),.d (.i .i64 x.told.src),.d (.i .i64 x.told.dst),.d (.i .i64 x.told.key),.d (.b x.told.slow),.d (.b x.told.done),.d (.i .i64 x.told.place),.d (.i .i64 x.told.pred),.d (.is x.told.list),.d (.s x.told.item.key),.d (.i .i64 x.told.item.value),.d (.i .i64 x.told.item.version),.d (.b x.told.item.gone),.d (.i .i64 x.told.code)]] else [.c [.d (AW l)],.c [.d (.b false)],.c [.d (AW l)],.lp (r.left .ret),.c [.d (.i .i64 x.src),.d (.i .i64 x.call),.d (.i .u8 x.told.kind),.d (.i .i64 x.told.call),.d (.i .i64 x.told.src),.d (.i .i64 x.told.dst),.d (.i .i64 x.told.key),.d (.b x.told.slow),.d (.b x.told.done),.d (.i .i64 x.told.place),.d (.i .i64 x.told.pred),.d (.is x.told.list),.d (.s x.told.item.key),.d (.i .i64 x.told.item.value),.d (.i .i64 x.told.item.version),.d (.b x.told.item.gone),.d (.i .i64 x.told.code)]]:=by
    refine B0 hr rfl rfl rfl ?_
    rw [hK]
    generalize x.told.right = rr at *
    generalize x.told.asks = aa at *
    clear hK
    cases rr
    ·have nS:=True.intro;obtain ⟨lv,st,ns,nc⟩:=wq [0,1,2,3,4,7,9,10,11,20,34,44] [];have pr : AC []:=trivial;refine wd ?_;clear nc ns st lv pr;repeat' (first|with_reducible constructor|(with_reducible intro hc;try simp only[A1] at hc))
     refine ⟨rfl,CB (by first | (simp only [Ai,Ae,Nat.reduceAdd,Int.reduceAdd,Int.reduceSub,Int.reduceMul,Int.reduceToNat];done) | (simp only [Ai,Ae,Nat.reduceAdd,Int.reduceAdd,Int.reduceSub,Int.reduceMul,Int.reduceToNat];rfl) | rfl) ?_⟩
     have nS:=True.intro;obtain ⟨lv,st,ns,nc⟩:=wq [0,1,2,3,4,7,9,10,11,20,34,44] [];have c1:=@c1;have pr : AC []:=trivial;refine wd ?_;clear nc ns st lv pr c1;repeat' (first|with_reducible constructor|(with_reducible intro hc;try simp only[A1] at hc))
     exact ⟨⟨[],[.c [.d (AW l)],.c [.d (.b false)],.c [.d (AW l)],.lp r.busy,.c [.d (.i .i64 x.src),.d (.i .i64 x.call),.d (.i .u8 x.told.kind),.d (.i .i64 x.told.call),.d (.i .i64 x.told.src),.d (.i .i64 x.told.dst),.d (.i .i64 x.told.key),.d (.b x.told.slow),.d (.b x.told.done),.d (.i .i64 x.told.place),.d (.i .i64 x.told.pred),.d (.is x.told.list),.d (.s x.told.item.key),.d (.i .i64 x.told.item.value),.d (.i .i64 x.told.item.version),.d (.b x.told.item.gone),.d (.i .i64 x.told.code)]],_⟩,(A0.ck rfl),Nat.le_refl _,rfl,rfl,rfl⟩
    cases aa
    ·by_cases h1 : x.told.dst = x.src
     ·have f2 : (x.told.dst != x.src) = false:=Bb h1
      by_cases h2 : x.told.call = x.call
      ·have f3 : (x.told.call != x.call) = false:=Bb h2
       rw [decide_eq_true h1,decide_eq_true h2]
       by_cases h3 : fi ≥ 0
       ·have f4 : decide (fi ≥ 0) = true:=decide_eq_true h3
        rw [f4]
        have nS:=True.intro;obtain ⟨lv,st,ns,nc⟩:=wq [0,1,2,3,4,7,9,10,11,20,34,44] [];have pr : AC []:=trivial;refine wd ?_;clear nc ns st lv pr;repeat' (first|with_reducible constructor|(with_reducible intro hc;try simp only[A1] at hc))
        refine ⟨rfl,CB (by first | (simp only [Ai,Ae,Nat.reduceAdd,Int.reduceAdd,Int.reduceSub,Int.reduceMul,Int.reduceToNat];done) | (simp only [Ai,Ae,Nat.reduceAdd,Int.reduceAdd,Int.reduceSub,Int.reduceMul,Int.reduceToNat];rfl) | rfl) ?_⟩
        have nS:=And.intro f2 (And.intro f3 (And.intro f4 e1));obtain ⟨lv,st,ns,nc⟩:=wq [0,1,2,3,4,7,9,10,11,20,34,44] [];have c1:=@c1;have c2:=@c2;have d1:=Ds.mk [] (d1);have d2:=Ds.mk [6,7] (d2);have pr : AC [(0,7)]:=trivial;refine wd ?_;clear nc ns st lv pr d2 d1 c2 c1;repeat' (first|with_reducible constructor|(with_reducible intro hc;try simp only[A1] at hc))
        exact ⟨⟨[],[.c [.d (AW l)],.c [.d (.b false)],.c [.d (AW l)],.lp r.busy,.c [.d (.i .i64 x.src),.d (.i .i64 x.call),.d (.i .u8 x.told.kind),.d (.i .i64 x.told.call),.d (.i .i64 x.told.src),.d (.i .i64 x.told.dst),.d (.i .i64 x.told.key),.d (.b x.told.slow),.d (.b x.told.done),.d (.i .i64 x.told.place),.d (.i .i64 x.told.pred),.d (.is x.told.list),.d (.s x.told.item.key),.d (.i .i64 x.told.item.value),.d (.i .i64 x.told.item.version),.d (.b x.told.item.gone),.d (.i .i64 x.told.code)]],_⟩,(A0.ck rfl),Nat.le_refl _,rfl,rfl,rfl⟩
       ·have f4 : decide (fi ≥ 0) = false:=decide_eq_false h3
        rw [f4]
        have nS:=True.intro;obtain ⟨lv,st,ns,nc⟩:=wq [0,1,2,3,4,7,9,10,11,20,34,44] [];have pr : AC []:=trivial;refine wd ?_;clear nc ns st lv pr;repeat' (first|with_reducible constructor|(with_reducible intro hc;try simp only[A1] at hc))
        refine ⟨rfl,CB (by first | (simp only [Ai,Ae,Nat.reduceAdd,Int.reduceAdd,Int.reduceSub,Int.reduceMul,Int.reduceToNat];done) | (simp only [Ai,Ae,Nat.reduceAdd,Int.reduceAdd,Int.reduceSub,Int.reduceMul,Int.reduceToNat];rfl) | rfl) ?_⟩
        have nS:=And.intro f2 (And.intro f3 (And.intro f4 e1));obtain ⟨lv,st,ns,nc⟩:=wq [0,1,2,3,4,7,9,10,11,20,34,44] [];have c1:=@c1;have c2:=@c2;have d1:=Ds.mk [] (d1);have d2:=Ds.mk [6,7] (d2);have pr : AC [(0,7)]:=trivial;refine wd ?_;clear nc ns st lv pr d2 d1 c2 c1;repeat' (first|with_reducible constructor|(with_reducible intro hc;try simp only[A1] at hc))
        exact ⟨⟨[],[.c [.d (AW l)],.c [.d (.b false)],.c [.d (AW l)],.lp r.busy,.c [.d (.i .i64 x.src),.d (.i .i64 x.call),.d (.i .u8 x.told.kind),.d (.i .i64 x.told.call),.d (.i .i64 x.told.src),.d (.i .i64 x.told.dst),.d (.i .i64 x.told.key),.d (.b x.told.slow),.d (.b x.told.done),.d (.i .i64 x.told.place),.d (.i .i64 x.told.pred),.d (.is x.told.list),.d (.s x.told.item.key),.d (.i .i64 x.told.item.value),.d (.i .i64 x.told.item.version),.d (.b x.told.item.gone),.d (.i .i64 x.told.code)]],_⟩,(A0.ck rfl),Nat.le_refl _,rfl,rfl,rfl⟩
      ·have f3 : (x.told.call != x.call) = true:=Be h2
       rw [decide_eq_true h1,decide_eq_false h2]
       have nS:=True.intro;obtain ⟨lv,st,ns,nc⟩:=wq [0,1,2,3,4,7,9,10,11,20,34,44] [];have pr : AC []:=trivial;refine wd ?_;clear nc ns st lv pr;repeat' (first|with_reducible constructor|(with_reducible intro hc;try simp only[A1] at hc))
       refine ⟨rfl,CB (by first | (simp only [Ai,Ae,Nat.reduceAdd,Int.reduceAdd,Int.reduceSub,Int.reduceMul,Int.reduceToNat];done) | (simp only [Ai,Ae,Nat.reduceAdd,Int.reduceAdd,Int.reduceSub,Int.reduceMul,Int.reduceToNat];rfl) | rfl) ?_⟩
       have nS:=And.intro f2 f3;obtain ⟨lv,st,ns,nc⟩:=wq [0,1,2,3,4,7,9,10,11,20,34,44] [];have c1:=@c1;have c2:=@c2;have pr : AC []:=trivial;refine wd ?_;clear nc ns st lv pr c2 c1;repeat' (first|with_reducible constructor|(with_reducible intro hc;try simp only[A1] at hc))
       exact ⟨⟨[],[.c [.d (AW l)],.c [.d (.b false)],.c [.d (AW l)],.lp r.busy,.c [.d (.i .i64 x.src),.d (.i .i64 x.call),.d (.i .u8 x.told.kind),.d (.i .i64 x.told.call),.d (.i .i64 x.told.src),.d (.i .i64 x.told.dst),.d (.i .i64 x.told.key),.d (.b x.told.slow),.d (.b x.told.done),.d (.i .i64 x.told.place),.d (.i .i64 x.told.pred),.d (.is x.told.list),.d (.s x.told.item.key),.d (.i .i64 x.told.item.value),.d (.i .i64 x.told.item.version),.d (.b x.told.item.gone),.d (.i .i64 x.told.code)]],_⟩,(A0.ck rfl),Nat.le_refl _,rfl,rfl,rfl⟩
     ·have f2 : (x.told.dst != x.src) = true:=Be h1
      rw [decide_eq_false h1]
      have nS:=True.intro;obtain ⟨lv,st,ns,nc⟩:=wq [0,1,2,3,4,7,9,10,11,20,34,44] [];have pr : AC []:=trivial;refine wd ?_;clear nc ns st lv pr;repeat' (first|with_reducible constructor|(with_reducible intro hc;try simp only[A1] at hc))
      refine ⟨rfl,CB (by first | (simp only [Ai,Ae,Nat.reduceAdd,Int.reduceAdd,Int.reduceSub,Int.reduceMul,Int.reduceToNat];done) | (simp only [Ai,Ae,Nat.reduceAdd,Int.reduceAdd,Int.reduceSub,Int.reduceMul,Int.reduceToNat];rfl) | rfl) ?_⟩
      have nS:=f2;obtain ⟨lv,st,ns,nc⟩:=wq [0,1,2,3,4,7,9,10,11,20,34,44] [];have c1:=@c1;have c2:=@c2;have pr : AC []:=trivial;refine wd ?_;clear nc ns st lv pr c2 c1;repeat' (first|with_reducible constructor|(with_reducible intro hc;try simp only[A1] at hc))
      exact ⟨⟨[],[.c [.d (AW l)],.c [.d (.b false)],.c [.d (AW l)],.lp r.busy,.c [.d (.i .i64 x.src),.d (.i .i64 x.call),.d (.i .u8 x.told.kind),.d (.i .i64 x.told.call),.d (.i .i64 x.told.src),.d (.i .i64 x.told.dst),.d (.i .i64 x.told.key),.d (.b x.told.slow),.d (.b x.told.done),.d (.i .i64 x.told.place),.d (.i .i64 x.told.pred),.d (.is x.told.list),.d (.s x.told.item.key),.d (.i .i64 x.told.item.value),.d (.i .i64 x.told.item.version),.d (.b x.told.item.gone),.d (.i .i64 x.told.code)]],_⟩,(A0.ck rfl),Nat.le_refl _,rfl,rfl,rfl⟩
    ·have nS:=True.intro;obtain ⟨lv,st,ns,nc⟩:=wq [0,1,2,3,4,7,9,10,11,20,34,44] [];have pr : AC []:=trivial;refine wd ?_;clear nc ns st lv pr;repeat' (first|with_reducible constructor|(with_reducible intro hc;try simp only[A1] at hc))
     refine ⟨rfl,CB (by first | (simp only [Ai,Ae,Nat.reduceAdd,Int.reduceAdd,Int.reduceSub,Int.reduceMul,Int.reduceToNat];done) | (simp only [Ai,Ae,Nat.reduceAdd,Int.reduceAdd,Int.reduceSub,Int.reduceMul,Int.reduceToNat];rfl) | rfl) ?_⟩
     have nS:=True.intro;obtain ⟨lv,st,ns,nc⟩:=wq [0,1,2,3,4,7,9,10,11,20,34,44] [];have c1:=@c1;have c2:=@c2;have pr : AC []:=trivial;refine wd ?_;clear nc ns st lv pr c2 c1;repeat' (first|with_reducible constructor|(with_reducible intro hc;try simp only[A1] at hc))
     exact ⟨⟨[],[.c [.d (AW l)],.c [.d (.b false)],.c [.d (AW l)],.lp r.busy,.c [.d (.i .i64 x.src),.d (.i .i64 x.call),.d (.i .u8 x.told.kind),.d (.i .i64 x.told.call),.d (.i .i64 x.told.src),.d (.i .i64 x.told.dst),.d (.i .i64 x.told.key),.d (.b x.told.slow),.d (.b x.told.done),.d (.i .i64 x.told.place),.d (.i .i64 x.told.pred),.d (.is x.told.list),.d (.s x.told.item.key),.d (.i .i64 x.told.item.value),.d (.i .i64 x.told.item.version),.d (.b x.told.item.gone),.d (.i .i64 x.told.code)]],_⟩,(A0.ck rfl),Nat.le_refl _,rfl,rfl,rfl⟩
   cases hb : D6 l k with
   | true =>
    rw [hb] at hY
    have nS:=True.intro;obtain ⟨lv,st,ns,nc⟩:=wq [0,1,3,4,5,6,7,8,16] [];have ix1:=hx;have q1:=@hY;refine wk ?_;clear nc ns st lv q1 ix1;repeat' (first|with_reducible constructor|(with_reducible intro hc;try simp only[A1] at hc))
    refine ⟨k + 1,⟨hkl,B6 hpre hb⟩,by omega,Nat.le_refl _,?_⟩
    exact A0.ck rfl
   | false =>
    rw [hb] at hY
    have nS:=True.intro;obtain ⟨lv,st,ns,nc⟩:=wq [0,1,3,4,5,6,7,8,16] [];have ix1:=hx;have q1:=@hY;refine wk ?_;clear nc ns st lv q1 ix1;repeat' (first|with_reducible constructor|(with_reducible intro hc;try simp only[A1] at hc))
    exact ⟨⟨[],[.c [.d (AW l)],.c [.d (.b false)],.c [.d (AW l)],.lp (r.left .ret)],_⟩,(A0.ck rfl),Nat.le_refl _,_,_,rfl,rfl,.inr ⟨C4 hkl hb,rfl⟩⟩
  ·have e : k = l.length:=by omega
   subst e
   have nS:=True.intro;obtain ⟨lv,st,ns,nc⟩:=wq [0,1,3,4,5,6,7,8,16] [];refine wk ?_;clear nc ns st lv;repeat' (first|with_reducible constructor|(with_reducible intro hc;try simp only[A1] at hc))
   exact ⟨_,A0.refl _,Nat.le_refl _,_,_,rfl,rfl,.inl ⟨hpre,rfl⟩⟩
 ·rintro r hr y H' (⟨h,rfl⟩ | ⟨h,rfl⟩)
  ·refine .inl ⟨rfl,?_⟩
   rw [h] at hT
   have nS:=True.intro;obtain ⟨lv,st,ns,nc⟩:=wq [0,1,2,3,4,7,9,10,11,20,34,44] [];have pr : AC []:=trivial;refine wd ?_;clear nc ns st lv pr;repeat' (first|with_reducible constructor|(with_reducible intro hc;try simp only[A1] at hc))
   refine ⟨_,_,rfl,rfl,?_⟩;simp [AH,A6,A5,A4,hT]
  ·refine .inr ⟨.ret,rfl,?_⟩
   rw [h] at hT
   have nS:=True.intro;obtain ⟨lv,st,ns,nc⟩:=wq [0,1,2,3,4,7,9,10,11,20,34,44] [];have pr : AC []:=trivial;refine wd ?_;clear nc ns st lv pr;repeat' (first|with_reducible constructor|(with_reducible intro hc;try simp only[A1] at hc))
   refine ⟨_,_,rfl,rfl,?_⟩;simp [AH,A6,A5,A4,hT]
end Nd
end Go.Proofs.YtagnjflbhjmefaaGreat
