/- Part 31 of the texts of this proof, put together by a program and made short.
Conditions: none; what each theorem asks stands in its own hypotheses. -/
import Derived.Test.YtagnjflbhjmefaaGreatRb30
import Derived.Ground.NamesProg
import Derived.Shelf.Slices.In.SortAlone
import Derived.Shelf.Slices.In.SortNone
import Derived.Sort.Walk0
import Derived.KernelRfl
import Derived.RangeFuncIn
import Derived.Sort.Grow
import Derived.Laws.Cover3
import Derived.RecoverIn
import Derived.ProofKit
import Derived.OpenShut
import Derived.CallsIn
import Derived.RangeFuncLeaves
import Derived.OrdersIn
import Derived.TacticsIn
import Derived.ChangeKeysEq
import Derived.Laws.AppendOwn
import Derived.Laws.OwnMore
import Derived.Laws.MakeOwn
import Derived.Laws.Rows
import Derived.Laws.Cells
import Derived.Laws.Tables
import Derived.Laws.CopyRow
import Derived.Laws.Strings
import Derived.Laws.IdiomStrings
import Derived.Laws.BytesArg
import Derived.Test.YtagnjflbhjmefaaGreatProg
set_option linter.unusedSimpArgs false
set_option linter.unusedVariables false
set_option linter.unnecessarySimpa false
set_option maxHeartbeats 40000000
namespace Go.Proofs.YtagnjflbhjmefaaGreat
namespace Nd
open Go.Gar
open Wi (AE Az B7)
set_option maxRecDepth 4000
def HS (l : List Node) (b0 : Int) (n : Nat) : Option Nat:=(List.range n).find? fun j => decide (DD l b0 (j + 1) = b0)
def ET (c : AD) : List Int × Bool:=if AN c then match HS c.nodes (c.base.getD 0 0) c.nodes.length with
 | some j => (wl c.nodes (c.base.getD 0 0) (j + 1),true)
 | none => ([],false) else ([],false)
theorem Er {q : Nat → Bool} {n k : Nat} (hk : k < n) (h : q k = true) (hn : ∀ j,j < k → q j = false) : (List.range n).find? q = some k:=by
 rw [List.find?_range_eq_some]
 exact ⟨h,by simpa using hk,fun j hj => by rw [hn j hj];rfl⟩
theorem Ep {q : Nat → Bool} {n : Nat} (hn : ∀ j,j < n → q j = false) : (List.range n).find? q = none:=by
 rw [List.find?_eq_none]
 intro x hx
 rw [hn x (List.mem_range.1 hx)];decide
theorem Mt (c : AD) (h : I7 c) : Go.Gar.Fn Tryz.prog 12 [c.d] (.tup [.is (ET c).1,.b (ET c).2]):=by
 have c1:=Ey c h
 have hT : ET c = if AN c then match HS c.nodes (c.base.getD 0 0) c.nodes.length with
  | some j => (wl c.nodes (c.base.getD 0 0) (j + 1),true)
  | none => ([],false) else ([],false):=rfl
 have cn:=fun q => JB c q h
 have hhas : AN c = true → ∀ k,AZ c.nodes (DD c.nodes (c.base.getD 0 0) k) = true:=fun hR => Gb hR (CW hR (by
  have:=(Ce hR).2.1
  rw [DZ (show 0 < c.base.length by omega)];exact List.getElem_mem _))
 have hlen:=fun hR : AN c = true => Ce hR
 have dw:=N3 c (c.base.getD 0 0)
 generalize ET c = res at *
 generalize AN c = R at *
 obtain ⟨nodes,gone,base,grams,lost⟩:=c
 simp only at *
 refine A3 A8 Tryz.func12 rfl rfl (Nat.le_of_ble_eq_true rfl) ?_
 unfold AD.d AD.cells at *
 simp only at *
 cases R with
 | false =>
  replace hT : res = ([],false):=hT
  subst hT
  have nS:=True.intro;obtain ⟨lv,st,ns,nc⟩:=wq [0,1,2,3,4,5,6,9,15,16,17,27,32] [];have c1:=@c1;have pr : AC []:=trivial;have sc : No 3:=trivial;refine wd ?_;clear nc ns st lv sc pr c1;repeat' (first|with_reducible constructor|(with_reducible intro hc;try simp only[A1] at hc))
  refine ⟨_,_,rfl,rfl,?_⟩;simp [AH,A6,A5,A4]
 | true =>
 replace hhas:=hhas rfl
 obtain ⟨hl1,hl2,hl3⟩:=hlen rfl
 simp only [if_true] at hT
 obtain ⟨b,hb⟩:=AG (xs:=base) (k:=0) (by omega)
 have gb : base.getD 0 0 = b:=AY hb
 have f0 : M3 0 base.length = true:=CI.2 ⟨Int.le_refl _,by omega⟩
 rw [gb] at hT hhas dw
 have nS:=And.intro gb f0;obtain ⟨lv,st,ns,nc⟩:=wq [0,1,2,3,4,5,6,9,15,16,17,27,32] [];have c1:=@c1;have d1:=Ds.mk [] (dw);have pr : AC [(0,5)]:=trivial;have sc : No 3:=trivial;refine wd ?_;clear nc ns st lv sc pr d1 c1;repeat' (first|with_reducible constructor|(with_reducible intro hc;try simp only[A1] at hc))
 refine B3 (A0.Mr 1 0 (.is []) rfl rfl rfl rfl trivial) (by simp) ?_
 obtain ⟨K0,lab,hK0,hgo,hst⟩ : ∃ (K0 : Nat) (lab : Nat),((lab = 1 ∧ res = (wl nodes b K0,true)) ∨ (lab = 0 ∧ res = ([],false))) ∧ (∀ k,k < K0 → (k = 0 ∨ DD nodes b k ≠ b) ∧ k < nodes.length) ∧ ((lab = 1 ∧ 0 < K0 ∧ DD nodes b K0 = b) ∨ (lab = 0 ∧ (K0 = 0 ∨ DD nodes b K0 ≠ b) ∧ K0 = nodes.length)):=by
  cases hbk : HS nodes b nodes.length with
  | some j =>
   rw [hbk] at hT
   unfold HS at hbk
   rw [List.find?_range_eq_some] at hbk
   obtain ⟨h1,h2,h3⟩:=hbk
   refine ⟨j + 1,1,.inl ⟨rfl,hT⟩,fun k hk => ⟨?_,?_⟩,.inl ⟨rfl,by omega,by simpa using h1⟩⟩
   ·by_cases h0 : k = 0
    ·exact .inl h0
    ·right
     have:=h3 (k - 1) (by omega)
     rw [show k - 1 + 1 = k by omega] at this
     simpa using this
   ·have:=List.mem_range.1 h2;omega
  | none =>
   rw [hbk] at hT
   unfold HS at hbk
   rw [List.find?_eq_none] at hbk
   have hne : ∀ k,0 < k → k ≤ nodes.length → DD nodes b k ≠ b:=fun k hk hkl => by
    have:=hbk (k - 1) (List.mem_range.2 (by omega))
    rw [show k - 1 + 1 = k by omega] at this
    simpa using this
   refine ⟨nodes.length,0,.inr ⟨rfl,hT⟩,fun k hk => ⟨?_,hk⟩,.inr ⟨rfl,?_,rfl⟩⟩
   ·by_cases h0 : k = 0
    ·exact .inl h0
    ·exact .inr (hne k (by omega) (by omega))
   ·by_cases h0 : nodes.length = 0
    ·exact .inl h0
    ·exact .inr (hne _ (by omega) (Nat.le_refl _))
 clear hT
 refine Bn (K:=fun r _ H' => H' = [.c [.d (A2 nodes),.d (.is gone),.d (.is base),.d (.sl 3 grams),.d (.i .i64 lost)],.c [.sl 4 (wl nodes b K0).length 1],.c [.d (A2 nodes),.d (.is gone),.d (.is base),.d (.sl 3 grams),.d (.i .i64 lost)],.c [.d (.i .i64 b)],.a (.is (wl nodes b K0)),.lp (r.left (.goto lab))]) rfl (by first | (simp only [Ai,Ae,Nat.reduceAdd,Int.reduceAdd,Int.reduceSub,Int.reduceMul,Int.reduceToNat];done) | (simp only [Ai,Ae,Nat.reduceAdd,Int.reduceAdd,Int.reduceSub,Int.reduceMul,Int.reduceToNat];rfl) | rfl) (by first | (simp only [Ai,Ae,Nat.reduceAdd,Int.reduceAdd,Int.reduceSub,Int.reduceMul,Int.reduceToNat];done) | (simp only [Ai,Ae,Nat.reduceAdd,Int.reduceAdd,Int.reduceSub,Int.reduceMul,Int.reduceToNat];rfl) | rfl) (fun r => (by first | (simp only [Ai,Ae,Nat.reduceAdd,Int.reduceAdd,Int.reduceSub,Int.reduceMul,Int.reduceToNat];done) | (simp only [Ai,Ae,Nat.reduceAdd,Int.reduceAdd,Int.reduceSub,Int.reduceMul,Int.reduceToNat];rfl) | rfl)) ?_ ?_
 ·intro r hr
  refine BP A8 Tryz.func73 rfl rfl (Nat.le_of_ble_eq_true rfl) ?_
  have hk:=hr.ok (k:=5) rfl
  have nS:=True.intro;obtain ⟨lv,st,ns,nc⟩:=wq [0,1,2,4,5,6,7,23] [];have pr : AC []:=trivial;refine wd ?_;clear nc ns st lv pr;repeat' (first|with_reducible constructor|(with_reducible intro hc;try simp only[A1] at hc))
  refine E6 (fun k => k ≤ K0) (fun k : Nat => [(4,.d (.i .i64 k)),(5,.d (.i .i64 (DD nodes b k)))]) (fun k => [(1,.c [.sl 4 (wl nodes b k).length 1]),(4,.a (.is (wl nodes b k)))]) (fun k => K0 + 1 - k) 0 (Nat.zero_le _) (fun _ => rfl) (fun _ => rfl) ?_ ?_
  ·exact A0.ck rfl
  rintro k hkm
  have c2:=cn (DD nodes b k)
  rw [EH (hhas k)] at c2
  have hw : (B2 nodes (DD nodes b k)).1 = DD nodes b (k + 1):=rfl
  rw [hw] at c2
  have hl:=El nodes b k
  have hs:=JG nodes b k
  by_cases hlt : k < K0
  ·obtain ⟨g1,g2⟩:=hgo k hlt
   have f8 : decide ((k : Int) ≥ nodes.length) = false:=decide_eq_false (by omega)
   have hY : YT Tryz.prog 5 [.d (.i .i64 k),.d (.i .i64 (DD nodes b k))] [.c [.d (A2 nodes),.d (.is gone),.d (.is base),.d (.sl 3 grams),.d (.i .i64 lost)],.c [.sl 4 (wl nodes b k).length 1],.c [.d (A2 nodes),.d (.is gone),.d (.is base),.d (.sl 3 grams),.d (.i .i64 lost)],.c [.d (.i .i64 b)],.a (.is (wl nodes b k)),.lp r] fun v K => v = .d (.b true) ∧ K = [.c [.d (A2 nodes),.d (.is gone),.d (.is base),.d (.sl 3 grams),.d (.i .i64 lost)],.c [.sl 4 (wl nodes b (k + 1)).length 1],.c [.d (A2 nodes),.d (.is gone),.d (.is base),.d (.sl 3 grams),.d (.i .i64 lost)],.c [.d (.i .i64 b)],.a (.is (wl nodes b (k + 1))),.lp r]:=by
    refine B0 hr rfl rfl rfl ?_
    by_cases h0 : k = 0
    ·have f6 : decide ((k : Int) > 0) = false:=decide_eq_false (by omega)
     have nS:=True.intro;obtain ⟨lv,st,ns,nc⟩:=wq [0,1,2,3,4,5,6,9,15,16,17,27,32] [];have pr : AC []:=trivial;have sc : No 3:=trivial;refine wd ?_;clear nc ns st lv sc pr;repeat' (first|with_reducible constructor|(with_reducible intro hc;try simp only[A1] at hc))
     refine ⟨rfl,CB (by first | (simp only [Ai,Ae,Nat.reduceAdd,Int.reduceAdd,Int.reduceSub,Int.reduceMul,Int.reduceToNat];done) | (simp only [Ai,Ae,Nat.reduceAdd,Int.reduceAdd,Int.reduceSub,Int.reduceMul,Int.reduceToNat];rfl) | rfl) ?_⟩
     have nS:=And.intro f6 f8;obtain ⟨lv,st,ns,nc⟩:=wq [0,1,2,3,4,5,6,9,15,16,17,27,32] [];have pr : AC []:=trivial;have sc : No 3:=trivial;refine wd ?_;clear nc ns st lv sc pr;repeat' (first|with_reducible constructor|(with_reducible intro hc;try simp only[A1] at hc))
     exact ⟨⟨[],[.c [.d (A2 nodes),.d (.is gone),.d (.is base),.d (.sl 3 grams),.d (.i .i64 lost)],.c [.sl 4 (wl nodes b (k + 1)).length 1],.c [.d (A2 nodes),.d (.is gone),.d (.is base),.d (.sl 3 grams),.d (.i .i64 lost)],.c [.d (.i .i64 b)],.a (.is (wl nodes b (k + 1))),.lp r.busy],_⟩,(A0.cut rfl (by repeat' (first | exact True.intro | refine And.intro (by (first | rfl | ((with_reducible_and_instances refine congrArg (fun z => some (AV.d (D.i _ z))) ?_);omega) | (refine congrArg (fun z => some (AV.d (D.i _ z))) (?_ : (_ : Int) = _);omega) | (refine congrArg some ?_;simp only [hs,List.length_append,List.length_cons,List.length_nil];done) | (refine congrArg some ?_;simp [hs,List.length_append,List.length_cons,List.length_nil];done))) ?_)) (by repeat' (first | exact True.intro | refine And.intro (Or.inr rfl) ?_ | refine And.intro (Or.inl ⟨rfl,rfl⟩) ?_ | refine And.intro (Or.inr (by simp only [hs,List.length_append,List.length_cons,List.length_nil])) ?_ | refine And.intro (Or.inr (by simp [hs,List.length_append,List.length_cons,List.length_nil])) ?_)) (by first | rfl | (simp (decide:=true) [AT,A7.ok,AV.oks,AV.ok,hk];done)) rfl),Nat.le_refl _,rfl,rfl,rfl⟩
    ·have f6 : decide ((k : Int) > 0) = true:=decide_eq_true (by omega)
     have f7:=eq_false' (g1.resolve_left h0)
     have nS:=True.intro;obtain ⟨lv,st,ns,nc⟩:=wq [0,1,2,3,4,5,6,9,15,16,17,27,32] [];have pr : AC []:=trivial;have sc : No 3:=trivial;refine wd ?_;clear nc ns st lv sc pr;repeat' (first|with_reducible constructor|(with_reducible intro hc;try simp only[A1] at hc))
     refine ⟨rfl,CB (by first | (simp only [Ai,Ae,Nat.reduceAdd,Int.reduceAdd,Int.reduceSub,Int.reduceMul,Int.reduceToNat];done) | (simp only [Ai,Ae,Nat.reduceAdd,Int.reduceAdd,Int.reduceSub,Int.reduceMul,Int.reduceToNat];rfl) | rfl) ?_⟩
     have nS:=And.intro f6 (And.intro f8 (And.intro gb (And.intro f0 f7)));obtain ⟨lv,st,ns,nc⟩:=wq [0,1,2,3,4,5,6,9,15,16,17,27,32] [];have pr : AC []:=trivial;have sc : No 3:=trivial;refine wd ?_;clear nc ns st lv sc pr;repeat' (first|with_reducible constructor|(with_reducible intro hc;try simp only[A1] at hc))
     exact ⟨⟨[],[.c [.d (A2 nodes),.d (.is gone),.d (.is base),.d (.sl 3 grams),.d (.i .i64 lost)],.c [.sl 4 (wl nodes b (k + 1)).length 1],.c [.d (A2 nodes),.d (.is gone),.d (.is base),.d (.sl 3 grams),.d (.i .i64 lost)],.c [.d (.i .i64 b)],.a (.is (wl nodes b (k + 1))),.lp r.busy],_⟩,(A0.cut rfl (by repeat' (first | exact True.intro | refine And.intro (by (first | rfl | ((with_reducible_and_instances refine congrArg (fun z => some (AV.d (D.i _ z))) ?_);omega) | (refine congrArg (fun z => some (AV.d (D.i _ z))) (?_ : (_ : Int) = _);omega) | (refine congrArg some ?_;simp only [hs,List.length_append,List.length_cons,List.length_nil];done) | (refine congrArg some ?_;simp [hs,List.length_append,List.length_cons,List.length_nil];done))) ?_)) (by repeat' (first | exact True.intro | refine And.intro (Or.inr rfl) ?_ | refine And.intro (Or.inl ⟨rfl,rfl⟩) ?_ | refine And.intro (Or.inr (by simp only [hs,List.length_append,List.length_cons,List.length_nil])) ?_ | refine And.intro (Or.inr (by simp [hs,List.length_append,List.length_cons,List.length_nil])) ?_)) (by first | rfl | (simp (decide:=true) [AT,A7.ok,AV.oks,AV.ok,hk];done)) rfl),Nat.le_refl _,rfl,rfl,rfl⟩
   have nS:=True.intro;obtain ⟨lv,st,ns,nc⟩:=wq [0,1,2,4,5,6,7,23] [];have c1:=@c2;have q1:=@hY;have pr : AC []:=trivial;refine wd ?_;clear nc ns st lv pr q1 c1;repeat' (first|with_reducible constructor|(with_reducible intro hc;try simp only[A1] at hc))
   refine ⟨k + 1,by omega,by omega,Nat.le_refl _,?_⟩
   exact A0.ck rfl
  ·have e : k = K0:=by omega
   subst e
   have hY : YT Tryz.prog 5 [.d (.i .i64 k),.d (.i .i64 (DD nodes b k))] [.c [.d (A2 nodes),.d (.is gone),.d (.is base),.d (.sl 3 grams),.d (.i .i64 lost)],.c [.sl 4 (wl nodes b k).length 1],.c [.d (A2 nodes),.d (.is gone),.d (.is base),.d (.sl 3 grams),.d (.i .i64 lost)],.c [.d (.i .i64 b)],.a (.is (wl nodes b k)),.lp r] fun v K => v = .d (.b false) ∧ K = [.c [.d (A2 nodes),.d (.is gone),.d (.is base),.d (.sl 3 grams),.d (.i .i64 lost)],.c [.sl 4 (wl nodes b k).length 1],.c [.d (A2 nodes),.d (.is gone),.d (.is base),.d (.sl 3 grams),.d (.i .i64 lost)],.c [.d (.i .i64 b)],.a (.is (wl nodes b k)),.lp (r.left (.goto lab))]:=by
    refine B0 hr rfl rfl rfl ?_
    rcases hst with ⟨rfl,g1,g2⟩ | ⟨rfl,g1,g2⟩
    ·have f6 : decide ((k : Int) > 0) = true:=decide_eq_true (by omega)
     have f7:=Ar g2
     have nS:=True.intro;obtain ⟨lv,st,ns,nc⟩:=wq [0,1,2,3,4,5,6,9,15,16,17,27,32] [];have pr : AC []:=trivial;have sc : No 3:=trivial;refine wd ?_;clear nc ns st lv sc pr;repeat' (first|with_reducible constructor|(with_reducible intro hc;try simp only[A1] at hc))
     refine ⟨rfl,CB (by first | (simp only [Ai,Ae,Nat.reduceAdd,Int.reduceAdd,Int.reduceSub,Int.reduceMul,Int.reduceToNat];done) | (simp only [Ai,Ae,Nat.reduceAdd,Int.reduceAdd,Int.reduceSub,Int.reduceMul,Int.reduceToNat];rfl) | rfl) ?_⟩
     have nS:=And.intro f6 (And.intro gb (And.intro f0 f7));obtain ⟨lv,st,ns,nc⟩:=wq [0,1,2,3,4,5,6,9,15,16,17,27,32] [];have pr : AC []:=trivial;have sc : No 3:=trivial;refine wd ?_;clear nc ns st lv sc pr;repeat' (first|with_reducible constructor|(with_reducible intro hc;try simp only[A1] at hc))
     exact ⟨⟨[],[.c [.d (A2 nodes),.d (.is gone),.d (.is base),.d (.sl 3 grams),.d (.i .i64 lost)],.c [.sl 4 (wl nodes b k).length 1],.c [.d (A2 nodes),.d (.is gone),.d (.is base),.d (.sl 3 grams),.d (.i .i64 lost)],.c [.d (.i .i64 b)],.a (.is (wl nodes b k)),.lp r.busy],_⟩,(A0.ck rfl),Nat.le_refl _,rfl,rfl,rfl⟩
    ·have f8 : decide ((k : Int) ≥ nodes.length) = true:=decide_eq_true (by omega)
     by_cases h0 : k = 0
     ·have f6 : decide ((k : Int) > 0) = false:=decide_eq_false (by omega)
      have nS:=True.intro;obtain ⟨lv,st,ns,nc⟩:=wq [0,1,2,3,4,5,6,9,15,16,17,27,32] [];have pr : AC []:=trivial;have sc : No 3:=trivial;refine wd ?_;clear nc ns st lv sc pr;repeat' (first|with_reducible constructor|(with_reducible intro hc;try simp only[A1] at hc))
      refine ⟨rfl,CB (by first | (simp only [Ai,Ae,Nat.reduceAdd,Int.reduceAdd,Int.reduceSub,Int.reduceMul,Int.reduceToNat];done) | (simp only [Ai,Ae,Nat.reduceAdd,Int.reduceAdd,Int.reduceSub,Int.reduceMul,Int.reduceToNat];rfl) | rfl) ?_⟩
      have nS:=And.intro f6 f8;obtain ⟨lv,st,ns,nc⟩:=wq [0,1,2,3,4,5,6,9,15,16,17,27,32] [];have pr : AC []:=trivial;have sc : No 3:=trivial;refine wd ?_;clear nc ns st lv sc pr;repeat' (first|with_reducible constructor|(with_reducible intro hc;try simp only[A1] at hc))
      exact ⟨⟨[],[.c [.d (A2 nodes),.d (.is gone),.d (.is base),.d (.sl 3 grams),.d (.i .i64 lost)],.c [.sl 4 (wl nodes b k).length 1],.c [.d (A2 nodes),.d (.is gone),.d (.is base),.d (.sl 3 grams),.d (.i .i64 lost)],.c [.d (.i .i64 b)],.a (.is (wl nodes b k)),.lp r.busy],_⟩,(A0.ck rfl),Nat.le_refl _,rfl,rfl,rfl⟩
     ·have f6 : decide ((k : Int) > 0) = true:=decide_eq_true (by omega)
      have f7:=eq_false' (g1.resolve_left h0)
      have nS:=True.intro;obtain ⟨lv,st,ns,nc⟩:=wq [0,1,2,3,4,5,6,9,15,16,17,27,32] [];have pr : AC []:=trivial;have sc : No 3:=trivial;refine wd ?_;clear nc ns st lv sc pr;repeat' (first|with_reducible constructor|(with_reducible intro hc;try simp only[A1] at hc))
      refine ⟨rfl,CB (by first | (simp only [Ai,Ae,Nat.reduceAdd,Int.reduceAdd,Int.reduceSub,Int.reduceMul,Int.reduceToNat];done) | (simp only [Ai,Ae,Nat.reduceAdd,Int.reduceAdd,Int.reduceSub,Int.reduceMul,Int.reduceToNat];rfl) | rfl) ?_⟩
      have nS:=And.intro f6 (And.intro f8 (And.intro gb (And.intro f0 f7)));obtain ⟨lv,st,ns,nc⟩:=wq [0,1,2,3,4,5,6,9,15,16,17,27,32] [];have pr : AC []:=trivial;have sc : No 3:=trivial;refine wd ?_;clear nc ns st lv sc pr;repeat' (first|with_reducible constructor|(with_reducible intro hc;try simp only[A1] at hc))
      exact ⟨⟨[],[.c [.d (A2 nodes),.d (.is gone),.d (.is base),.d (.sl 3 grams),.d (.i .i64 lost)],.c [.sl 4 (wl nodes b k).length 1],.c [.d (A2 nodes),.d (.is gone),.d (.is base),.d (.sl 3 grams),.d (.i .i64 lost)],.c [.d (.i .i64 b)],.a (.is (wl nodes b k)),.lp r.busy],_⟩,(A0.ck rfl),Nat.le_refl _,rfl,rfl,rfl⟩
   have nS:=True.intro;obtain ⟨lv,st,ns,nc⟩:=wq [0,1,2,4,5,6,7,23] [];have c1:=@c2;have q1:=@hY;have pr : AC []:=trivial;refine wd ?_;clear nc ns st lv pr q1 c1;repeat' (first|with_reducible constructor|(with_reducible intro hc;try simp only[A1] at hc))
   exact ⟨⟨[],[.c [.d (A2 nodes),.d (.is gone),.d (.is base),.d (.sl 3 grams),.d (.i .i64 lost)],.c [.sl 4 (wl nodes b k).length 1],.c [.d (A2 nodes),.d (.is gone),.d (.is base),.d (.sl 3 grams),.d (.i .i64 lost)],.c [.d (.i .i64 b)],.a (.is (wl nodes b k)),.lp (r.left (.goto lab))],_⟩,(A0.ck rfl),Nat.le_refl _,_,_,rfl,rfl,rfl⟩
 ·rintro r hr y H' rfl
  refine .inr ⟨.goto lab,rfl,?_⟩
  rcases hK0 with ⟨rfl,rfl⟩ | ⟨rfl,rfl⟩
  ·have nS:=True.intro;obtain ⟨lv,st,ns,nc⟩:=wq [0,1,2,3,4,5,6,9,15,16,17,27,32] [];have pr : AC []:=trivial;have sc : No 3:=trivial;refine wd ?_;clear nc ns st lv sc pr;repeat' (first|with_reducible constructor|(with_reducible intro hc;try simp only[A1] at hc))
   refine ⟨_,_,rfl,rfl,?_⟩;simp [AH,A6,A5,A4]
  ·have nS:=True.intro;obtain ⟨lv,st,ns,nc⟩:=wq [0,1,2,3,4,5,6,9,15,16,17,27,32] [];have pr : AC []:=trivial;have sc : No 3:=trivial;refine wd ?_;clear nc ns st lv sc pr;repeat' (first|with_reducible constructor|(with_reducible intro hc;try simp only[A1] at hc))
   refine ⟨_,_,rfl,rfl,?_⟩;simp [AH,A6,A5,A4]
def FR (l : List Node) (base : List Int) (p : Int) (n : Nat) : Option Nat:=(List.range n).find? fun j => decide (DD l p j ∈ base)
def DR (c : AD) (p : Int) : Int × Bool:=if AN c && AZ c.nodes p then match FR c.nodes c.base p (c.nodes.length + 1) with
 | some j => ((j : Int),true)
 | none => (0,false) else (0,false)
theorem Ks (c : AD) (p : Int) (h : I7 c) : Go.Gar.Fn Tryz.prog 14 [c.d,.i .i64 p] (.tup [.i .i64 (DR c p).1,.b (DR c p).2]):=by
 have c1:=Ey c h
 have hT : DR c p = if AN c && AZ c.nodes p then match FR c.nodes c.base p (c.nodes.length + 1) with
  | some j => ((j : Int),true)
  | none => (0,false) else (0,false):=rfl
 have cn:=fun q => JB c q h
 have cc:=fun q => Wi.Iv c.base q (by have:=h.bl;omega)
 have hhas:=fun hR : AN c = true => fun hp : AZ c.nodes p = true => Gb hR hp
 have dw:=N3 c p
 have hlen:=fun hR : AN c = true => Ce hR
 generalize DR c p = res at *
 generalize AN c = R at *
 obtain ⟨nodes,gone,base,grams,lost⟩:=c
 simp only at *
 refine A3 A8 Tryz.func14 rfl rfl (Nat.le_of_ble_eq_true rfl) ?_
 unfold AD.d AD.cells at *
 simp only at *
 cases R with
 | false =>
  replace hT : res = (0,false):=hT
  subst hT
  have nS:=True.intro;obtain ⟨lv,st,ns,nc⟩:=wq [0,1,2,4,5,6,7,10,13,14,15,20,24] [];have c1:=@c1;refine wk ?_;clear nc ns st lv c1;repeat' (first|with_reducible constructor|(with_reducible intro hc;try simp only[A1] at hc))
  refine ⟨_,_,rfl,rfl,?_⟩;simp [AH,A6,A5,A4]
 | true =>
 obtain ⟨hl1,_,_⟩:=hlen rfl
 rw [Bool.true_and] at hT
 have nS:=True.intro;obtain ⟨lv,st,ns,nc⟩:=wq [0,1,2,4,5,6,7,10,13,14,15,20,24] [];have c1:=@c1;have d1:=Ds.mk [] (dw);refine wk ?_;clear nc ns st lv d1 c1;repeat' (first|with_reducible constructor|(with_reducible intro hc;try simp only[A1] at hc))
 refine Bn (K:=fun r _ H' => ((AZ nodes p = false ∨ FR nodes base p (nodes.length + 1) = none) ∧ (H' = [.c [.d (A2 nodes),.d (.is gone),.d (.is base),.d (.sl 3 grams),.d (.i .i64 lost)],.c [.d (.i .i64 0)],.c [.d (.b false)],.c [.d (A2 nodes),.d (.is gone),.d (.is base),.d (.sl 3 grams),.d (.i .i64 lost)],.c [.d (.i .i64 p)],.lp r] ∨ H' = [.c [.d (A2 nodes),.d (.is gone),.d (.is base),.d (.sl 3 grams),.d (.i .i64 lost)],.c [.d (.i .i64 0)],.c [.d (.b false)],.c [.d (A2 nodes),.d (.is gone),.d (.is base),.d (.sl 3 grams),.d (.i .i64 lost)],.c [.d (.i .i64 p)],.lp (r.left (.exit 0))])) ∨
  (∃ j : Nat,AZ nodes p = true ∧ FR nodes base p (nodes.length + 1) = some j ∧ H' = [.c [.d (A2 nodes),.d (.is gone),.d (.is base),.d (.sl 3 grams),.d (.i .i64 lost)],.c [.d (.i .i64 j)],.c [.d (.b true)],.c [.d (A2 nodes),.d (.is gone),.d (.is base),.d (.sl 3 grams),.d (.i .i64 lost)],.c [.d (.i .i64 p)],.lp (r.left .ret)])) rfl (by first | (simp only [Ai,Ae,Nat.reduceAdd,Int.reduceAdd,Int.reduceSub,Int.reduceMul,Int.reduceToNat];done) | (simp only [Ai,Ae,Nat.reduceAdd,Int.reduceAdd,Int.reduceSub,Int.reduceMul,Int.reduceToNat];rfl) | rfl) (by first | (simp only [Ai,Ae,Nat.reduceAdd,Int.reduceAdd,Int.reduceSub,Int.reduceMul,Int.reduceToNat];done) | (simp only [Ai,Ae,Nat.reduceAdd,Int.reduceAdd,Int.reduceSub,Int.reduceMul,Int.reduceToNat];rfl) | rfl) (fun r => (by first | (simp only [Ai,Ae,Nat.reduceAdd,Int.reduceAdd,Int.reduceSub,Int.reduceMul,Int.reduceToNat];done) | (simp only [Ai,Ae,Nat.reduceAdd,Int.reduceAdd,Int.reduceSub,Int.reduceMul,Int.reduceToNat];rfl) | rfl)) ?_ ?_
 ·intro r hr
  refine BP A8 Tryz.func73 rfl rfl (Nat.le_of_ble_eq_true rfl) ?_
  have hk:=hr.ok (k:=5) rfl
  cases hb : AZ nodes p with
  | false =>
   have c2:=cn p
   rw [K6 hb] at c2
   have nS:=True.intro;obtain ⟨lv,st,ns,nc⟩:=wq [0,1,2,4,5,6,7,23] [];have c1:=@c2;have un : No 1:=trivial;have pr : AC []:=trivial;refine wd ?_;clear nc ns st lv pr un c1;repeat' (first|with_reducible constructor|(with_reducible intro hc;try simp only[A1] at hc))
   exact ⟨⟨[],[.c [.d (A2 nodes),.d (.is gone),.d (.is base),.d (.sl 3 grams),.d (.i .i64 lost)],.c [.d (.i .i64 0)],.c [.d (.b false)],.c [.d (A2 nodes),.d (.is gone),.d (.is base),.d (.sl 3 grams),.d (.i .i64 lost)],.c [.d (.i .i64 p)],.lp r],_⟩,(A0.ck rfl),Nat.le_refl _,_,_,rfl,rfl,.inl ⟨.inl rfl,.inl rfl⟩⟩
  | true =>
   have nS:=True.intro;obtain ⟨lv,st,ns,nc⟩:=wq [0,1,2,4,5,6,7,23] [];have pr : AC []:=trivial;refine wd ?_;clear nc ns st lv pr;repeat' (first|with_reducible constructor|(with_reducible intro hc;try simp only[A1] at hc))
   refine AS (fun k => k ≤ nodes.length + 1 ∧ ∀ j,j < k → DD nodes p j ∉ base) (fun k : Nat => [(4,.d (.i .i64 k)),(5,.d (.i .i64 (DD nodes p k)))]) (fun k => nodes.length + 2 - k) 0 ⟨Nat.zero_le _,fun j hj => absurd hj (Nat.not_lt_zero _)⟩ (fun _ => rfl) ?_ ?_
   ·exact A0.ck rfl
   rintro k ⟨hkm,hpre⟩
   have c2:=cn (DD nodes p k)
   rw [EH (hhas rfl hb k)] at c2
   have hw : (B2 nodes (DD nodes p k)).1 = DD nodes p (k + 1):=rfl
   rw [hw] at c2
   by_cases hlt : k ≤ nodes.length
   ·have f1 : decide ((k : Int) > nodes.length) = false:=decide_eq_false (by omega)
    have c3:=cc (DD nodes p k)
    by_cases hin : DD nodes p k ∈ base
    ·rw [decide_eq_true hin] at c3
     have hY : YT Tryz.prog 5 [.d (.i .i64 k),.d (.i .i64 (DD nodes p k))] [.c [.d (A2 nodes),.d (.is gone),.d (.is base),.d (.sl 3 grams),.d (.i .i64 lost)],.c [.d (.i .i64 0)],.c [.d (.b false)],.c [.d (A2 nodes),.d (.is gone),.d (.is base),.d (.sl 3 grams),.d (.i .i64 lost)],.c [.d (.i .i64 p)],.lp r] fun v K => v = .d (.b false) ∧ K = [.c [.d (A2 nodes),.d (.is gone),.d (.is base),.d (.sl 3 grams),.d (.i .i64 lost)],.c [.d (.i .i64 k)],.c [.d (.b true)],.c [.d (A2 nodes),.d (.is gone),.d (.is base),.d (.sl 3 grams),.d (.i .i64 lost)],.c [.d (.i .i64 p)],.lp (r.left .ret)]:=by
      refine B0 hr rfl rfl rfl ?_
      have nS:=True.intro;obtain ⟨lv,st,ns,nc⟩:=wq [0,1,2,4,5,6,7,10,13,14,15,20,24] [];refine wk ?_;clear nc ns st lv;repeat' (first|with_reducible constructor|(with_reducible intro hc;try simp only[A1] at hc))
      refine ⟨rfl,CB (by first | (simp only [Ai,Ae,Nat.reduceAdd,Int.reduceAdd,Int.reduceSub,Int.reduceMul,Int.reduceToNat];done) | (simp only [Ai,Ae,Nat.reduceAdd,Int.reduceAdd,Int.reduceSub,Int.reduceMul,Int.reduceToNat];rfl) | rfl) ?_⟩
      have nS:=f1;obtain ⟨lv,st,ns,nc⟩:=wq [0,1,2,4,5,6,7,10,13,14,15,20,24] [];have c1:=@c3;refine wk ?_;clear nc ns st lv c1;repeat' (first|with_reducible constructor|(with_reducible intro hc;try simp only[A1] at hc))
      exact ⟨⟨[],[.c [.d (A2 nodes),.d (.is gone),.d (.is base),.d (.sl 3 grams),.d (.i .i64 lost)],.c [.d (.i .i64 k)],.c [.d (.b true)],.c [.d (A2 nodes),.d (.is gone),.d (.is base),.d (.sl 3 grams),.d (.i .i64 lost)],.c [.d (.i .i64 p)],.lp r.busy],_⟩,(A0.ck rfl),Nat.le_refl _,rfl,rfl,rfl⟩
     have nS:=True.intro;obtain ⟨lv,st,ns,nc⟩:=wq [0,1,2,4,5,6,7,23] [];have c1:=@c2;have q1:=@hY;have pr : AC []:=trivial;refine wd ?_;clear nc ns st lv pr q1 c1;repeat' (first|with_reducible constructor|(with_reducible intro hc;try simp only[A1] at hc))
     have hn : FR nodes base p (nodes.length + 1) = some k:=Er (by omega) (decide_eq_true hin) (fun j hj => decide_eq_false (hpre j hj))
     exact ⟨⟨[],[.c [.d (A2 nodes),.d (.is gone),.d (.is base),.d (.sl 3 grams),.d (.i .i64 lost)],.c [.d (.i .i64 k)],.c [.d (.b true)],.c [.d (A2 nodes),.d (.is gone),.d (.is base),.d (.sl 3 grams),.d (.i .i64 lost)],.c [.d (.i .i64 p)],.lp (r.left .ret)],_⟩,(A0.ck rfl),Nat.le_refl _,_,_,rfl,rfl,.inr ⟨k,rfl,hn,rfl⟩⟩
    ·rw [decide_eq_false hin] at c3
     have hY : YT Tryz.prog 5 [.d (.i .i64 k),.d (.i .i64 (DD nodes p k))] [.c [.d (A2 nodes),.d (.is gone),.d (.is base),.d (.sl 3 grams),.d (.i .i64 lost)],.c [.d (.i .i64 0)],.c [.d (.b false)],.c [.d (A2 nodes),.d (.is gone),.d (.is base),.d (.sl 3 grams),.d (.i .i64 lost)],.c [.d (.i .i64 p)],.lp r] fun v K => v = .d (.b true) ∧ K = [.c [.d (A2 nodes),.d (.is gone),.d (.is base),.d (.sl 3 grams),.d (.i .i64 lost)],.c [.d (.i .i64 0)],.c [.d (.b false)],.c [.d (A2 nodes),.d (.is gone),.d (.is base),.d (.sl 3 grams),.d (.i .i64 lost)],.c [.d (.i .i64 p)],.lp r]:=by
      refine B0 hr rfl rfl rfl ?_
      have nS:=True.intro;obtain ⟨lv,st,ns,nc⟩:=wq [0,1,2,4,5,6,7,10,13,14,15,20,24] [];refine wk ?_;clear nc ns st lv;repeat' (first|with_reducible constructor|(with_reducible intro hc;try simp only[A1] at hc))
      refine ⟨rfl,CB (by first | (simp only [Ai,Ae,Nat.reduceAdd,Int.reduceAdd,Int.reduceSub,Int.reduceMul,Int.reduceToNat];done) | (simp only [Ai,Ae,Nat.reduceAdd,Int.reduceAdd,Int.reduceSub,Int.reduceMul,Int.reduceToNat];rfl) | rfl) ?_⟩
      have nS:=f1;obtain ⟨lv,st,ns,nc⟩:=wq [0,1,2,4,5,6,7,10,13,14,15,20,24] [];have c1:=@c3;refine wk ?_;clear nc ns st lv c1;repeat' (first|with_reducible constructor|(with_reducible intro hc;try simp only[A1] at hc))
      exact ⟨⟨[],[.c [.d (A2 nodes),.d (.is gone),.d (.is base),.d (.sl 3 grams),.d (.i .i64 lost)],.c [.d (.i .i64 0)],.c [.d (.b false)],.c [.d (A2 nodes),.d (.is gone),.d (.is base),.d (.sl 3 grams),.d (.i .i64 lost)],.c [.d (.i .i64 p)],.lp r.busy],_⟩,(A0.ck rfl),Nat.le_refl _,rfl,rfl,rfl⟩
     have nS:=True.intro;obtain ⟨lv,st,ns,nc⟩:=wq [0,1,2,4,5,6,7,23] [];have c1:=@c2;have q1:=@hY;have pr : AC []:=trivial;refine wd ?_;clear nc ns st lv pr q1 c1;repeat' (first|with_reducible constructor|(with_reducible intro hc;try simp only[A1] at hc))
     refine ⟨k + 1,⟨by omega,fun j hj => ?_⟩,by omega,Nat.le_refl _,?_⟩
     ·by_cases e : j = k
      ·subst e;exact hin
      ·exact hpre j (by omega)
     ·exact A0.ck rfl
   ·have f1 : decide ((k : Int) > nodes.length) = true:=decide_eq_true (by omega)
    have e : k = nodes.length + 1:=by omega
    have hY : YT Tryz.prog 5 [.d (.i .i64 k),.d (.i .i64 (DD nodes p k))] [.c [.d (A2 nodes),.d (.is gone),.d (.is base),.d (.sl 3 grams),.d (.i .i64 lost)],.c [.d (.i .i64 0)],.c [.d (.b false)],.c [.d (A2 nodes),.d (.is gone),.d (.is base),.d (.sl 3 grams),.d (.i .i64 lost)],.c [.d (.i .i64 p)],.lp r] fun v K => v = .d (.b false) ∧ K = [.c [.d (A2 nodes),.d (.is gone),.d (.is base),.d (.sl 3 grams),.d (.i .i64 lost)],.c [.d (.i .i64 0)],.c [.d (.b false)],.c [.d (A2 nodes),.d (.is gone),.d (.is base),.d (.sl 3 grams),.d (.i .i64 lost)],.c [.d (.i .i64 p)],.lp (r.left (.exit 0))]:=by
     refine B0 hr rfl rfl rfl ?_
     have nS:=True.intro;obtain ⟨lv,st,ns,nc⟩:=wq [0,1,2,4,5,6,7,10,13,14,15,20,24] [];refine wk ?_;clear nc ns st lv;repeat' (first|with_reducible constructor|(with_reducible intro hc;try simp only[A1] at hc))
     refine ⟨rfl,CB (by first | (simp only [Ai,Ae,Nat.reduceAdd,Int.reduceAdd,Int.reduceSub,Int.reduceMul,Int.reduceToNat];done) | (simp only [Ai,Ae,Nat.reduceAdd,Int.reduceAdd,Int.reduceSub,Int.reduceMul,Int.reduceToNat];rfl) | rfl) ?_⟩
     have nS:=f1;obtain ⟨lv,st,ns,nc⟩:=wq [0,1,2,4,5,6,7,10,13,14,15,20,24] [];refine wk ?_;clear nc ns st lv;repeat' (first|with_reducible constructor|(with_reducible intro hc;try simp only[A1] at hc))
     exact ⟨⟨[],[.c [.d (A2 nodes),.d (.is gone),.d (.is base),.d (.sl 3 grams),.d (.i .i64 lost)],.c [.d (.i .i64 0)],.c [.d (.b false)],.c [.d (A2 nodes),.d (.is gone),.d (.is base),.d (.sl 3 grams),.d (.i .i64 lost)],.c [.d (.i .i64 p)],.lp r.busy],_⟩,(A0.ck rfl),Nat.le_refl _,rfl,rfl,rfl⟩
    have nS:=True.intro;obtain ⟨lv,st,ns,nc⟩:=wq [0,1,2,4,5,6,7,23] [];have c1:=@c2;have q1:=@hY;have pr : AC []:=trivial;refine wd ?_;clear nc ns st lv pr q1 c1;repeat' (first|with_reducible constructor|(with_reducible intro hc;try simp only[A1] at hc))
    have hn : FR nodes base p (nodes.length + 1) = none:=Ep (fun j hj => decide_eq_false (hpre j (by omega)))
    exact ⟨⟨[],[.c [.d (A2 nodes),.d (.is gone),.d (.is base),.d (.sl 3 grams),.d (.i .i64 lost)],.c [.d (.i .i64 0)],.c [.d (.b false)],.c [.d (A2 nodes),.d (.is gone),.d (.is base),.d (.sl 3 grams),.d (.i .i64 lost)],.c [.d (.i .i64 p)],.lp (r.left (.exit 0))],_⟩,(A0.ck rfl),Nat.le_refl _,_,_,rfl,rfl,.inl ⟨.inr hn,.inr rfl⟩⟩
 ·rintro r hr y H' (⟨hb,rfl | rfl⟩ | ⟨j,hb,hn,rfl⟩)
  ·refine .inl ⟨rfl,?_⟩
   have hk:=hr.ok (k:=5) rfl
   have hT' : res = (0,false):=by
    rw [hT]
    rcases hb with hb | hb
    ·rw [hb];rfl
    ·rw [hb];split <;> rfl
   subst hT'
   have nS:=True.intro;obtain ⟨lv,st,ns,nc⟩:=wq [0,1,2,4,5,6,7,10,13,14,15,20,24] [];refine wk ?_;clear nc ns st lv;repeat' (first|with_reducible constructor|(with_reducible intro hc;try simp only[A1] at hc))
   refine ⟨_,_,rfl,rfl,?_⟩;simp [AH,A6,A5,A4]
  ·refine .inr ⟨.exit 0,rfl,?_⟩
   have hT' : res = (0,false):=by
    rw [hT]
    rcases hb with hb | hb
    ·rw [hb];rfl
    ·rw [hb];split <;> rfl
   subst hT'
   have nS:=True.intro;obtain ⟨lv,st,ns,nc⟩:=wq [0,1,2,4,5,6,7,10,13,14,15,20,24] [];refine wk ?_;clear nc ns st lv;repeat' (first|with_reducible constructor|(with_reducible intro hc;try simp only[A1] at hc))
   refine ⟨_,_,rfl,rfl,?_⟩;simp [AH,A6,A5,A4]
  ·refine .inr ⟨.ret,rfl,?_⟩
   have hT' : res = ((j : Int),true):=by rw [hT,hb,hn];rfl
   subst hT'
   have nS:=True.intro;obtain ⟨lv,st,ns,nc⟩:=wq [0,1,2,4,5,6,7,10,13,14,15,20,24] [];refine wk ?_;clear nc ns st lv;repeat' (first|with_reducible constructor|(with_reducible intro hc;try simp only[A1] at hc))
   refine ⟨_,_,rfl,rfl,?_⟩;simp [AH,A6,A5,A4]
end Nd
end Go.Proofs.YtagnjflbhjmefaaGreat
