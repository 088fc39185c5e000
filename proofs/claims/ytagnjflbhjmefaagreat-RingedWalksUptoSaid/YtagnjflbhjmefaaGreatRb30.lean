/- Part 30 of the texts of this proof, put together by a program and made short.
Conditions: none; what each theorem asks stands in its own hypotheses. -/
import Derived.Test.YtagnjflbhjmefaaGreatRb27
import Derived.Test.YtagnjflbhjmefaaGreatRb28
import Derived.Ground.NamesProg
import Derived.Shelf.Slices.In.SortAlone
import Derived.Shelf.Slices.In.SortNone
import Derived.Sort.Walk0
import Derived.KernelRfl
import Derived.RangeFuncIn
import Derived.Sort.Grow
import Derived.Laws.Cover3
import Derived.RecoverIn
import Derived.ProofKit
import Derived.OpenShut
import Derived.CallsIn
import Derived.RangeFuncLeaves
import Derived.OrdersIn
import Derived.TacticsIn
import Derived.ChangeKeysEq
import Derived.Laws.AppendOwn
import Derived.Laws.OwnMore
import Derived.Laws.MakeOwn
import Derived.Laws.Rows
import Derived.Laws.Cells
import Derived.Laws.Tables
import Derived.Laws.CopyRow
import Derived.Laws.Strings
import Derived.Laws.IdiomStrings
import Derived.Laws.BytesArg
import Derived.Test.YtagnjflbhjmefaaGreatProg
set_option linter.unusedSimpArgs false
set_option linter.unusedVariables false
set_option linter.unnecessarySimpa false
set_option maxHeartbeats 40000000
namespace Go.Proofs.YtagnjflbhjmefaaGreat
namespace Nd
open Go.Gar
open Wi (AE Az B7)
set_option maxRecDepth 4000
def DD (l : List Node) (p : Int) : Nat → Int
 | 0 => p
 | k + 1 => (B2 l (DD l p k)).1
def wl (l : List Node) (p : Int) (k : Nat) : List Int:=(List.range k).map (DD l p)
theorem El (l : List Node) (p : Int) (k : Nat) : (wl l p k).length = k:=by simp [wl]
theorem JG (l : List Node) (p : Int) (k : Nat) : wl l p (k + 1) = wl l p k ++ [DD l p k]:=by simp [wl,List.range_succ]
theorem Je {l : List Node} {p : Int} {n k : Nat} (h : k < n) : (wl l p n)[k]? = some (DD l p k):=by simp [wl,h]
theorem OH (id : Int) : ∀ (l : List Int) (b : Int),l.foldl (Dp id) b = b ∨ l.foldl (Dp id) b ∈ l
 | [],b => .inl rfl
 | x :: r,b => by
  rw [List.foldl_cons]
  rcases OH id r (Dp id b x) with h | h
  ·rw [h]
   unfold Dp
   split
   ·exact .inr (List.mem_cons_self ..)
   ·exact .inl rfl
  ·exact .inr (List.mem_cons_of_mem _ h)
theorem HC {c : AD} (h : AN c = true) {n : Node} (hn : n ∈ c.nodes) : Cb n = true ∧ n.view.base = c.base:=by
 simp only [AN,Bool.and_eq_true,List.all_eq_true] at h
 have:=h.2.1 n hn
 simpa [GG] using this
theorem CW {c : AD} (h : AN c = true) {p : Int} (hp : p ∈ c.base) : AZ c.nodes p = true:=by
 simp only [AN,Bool.and_eq_true,List.all_eq_true] at h
 exact h.2.2.1 p hp
theorem Ce {c : AD} (h : AN c = true) : c.nodes.length ≤ 12 ∧ 2 ≤ c.base.length ∧ c.base.length ≤ 4:=by
 simp only [AN,OB,Bool.and_eq_true,decide_eq_true_eq] at h
 exact ⟨h.1.2.2.2.1,h.1.1,h.1.2.1⟩
theorem Nh {c : AD} (h : AN c = true) {p : Int} (hp : AZ c.nodes p = true) : AZ c.nodes (B2 c.nodes p).1 = true:=by
 obtain ⟨k,x,e1,e2,e3,e4⟩:=EC hp
 have hx:=List.mem_of_getElem? e2
 obtain ⟨hR,hB⟩:=HC h hx
 have e : (B2 c.nodes p).1 = EF c.nodes x.view:=by unfold B2;rw [hp,e4];rfl
 rw [e]
 unfold EF
 split
 ·rename_i q hq
  exact List.find?_some hq
 ·have hv : C1 x.view = true:=by
   simp only [Cb,Bool.and_eq_true] at hR
   exact hR.2.2.2.1
  have e5 : P5 x.view = EN x.view.id x.view.base:=if_pos hv
  rw [e5]
  obtain ⟨h1,h2,h3,h4,h5⟩:=Hq hv
  have h6:=KI h1 h2
  have h7:=BN h6.2.1
  refine CW h ?_
  rw [← hB]
  rcases OH x.view.id x.view.base (-1) with h8 | h8
  ·exfalso
   have : EN x.view.id x.view.base = -1:=h8
   omega
  ·exact h8
theorem Gb {c : AD} (h : AN c = true) {p : Int} (hp : AZ c.nodes p = true) : ∀ k,AZ c.nodes (DD c.nodes p k) = true
 | 0 => hp
 | k + 1 => Nh h (Gb h hp k)
theorem EH {l : List Node} {p : Int} (h : AZ l p = true) : (B2 l p).2 = true:=by unfold B2;rw [h];rfl
theorem K6 {l : List Node} {p : Int} (h : AZ l p = false) : B2 l p = (0,false):=by unfold B2;rw [h];rfl
def most (steps : Int) : Nat:=(if 40 < (if steps < 0 then 0 else steps) then 40 else if steps < 0 then 0 else steps).toNat
theorem Qk (steps : Int) : (if 40 < (if steps < 0 then 0 else steps) then 40 else if steps < 0 then 0 else steps) = (most steps : Int):=by unfold most;split <;> split <;> omega
theorem ML (steps : Int) : most steps ≤ 40:=by unfold most;split <;> split <;> omega
def Ci (c : AD) (p steps : Int) : List Int:=if AN c && AZ c.nodes p then wl c.nodes p (most steps + 1) else []
theorem N3 (c : AD) (p : Int) : BK Tryz.prog 34 [.d c.d,.d (.i .i64 p)] [] (.fn (.func 73) [] [.ptr 1 0 1,.ptr 0 0 5]) [.c [.d (A2 c.nodes),.d (.is c.gone),.d (.is c.base),.d (.sl 3 c.grams),.d (.i .i64 c.lost)],.c [.d (.i .i64 p)]]:=by
 refine AB A8 Tryz.func34 rfl rfl (Nat.le_of_ble_eq_true rfl) ?_
 unfold AD.d AD.cells
 have nS:=True.intro;obtain ⟨lv,st,ns,nc⟩:=wq [0,1,2,3,4] [];refine wk ?_;clear nc ns st lv;repeat' (first|with_reducible constructor|(with_reducible intro hc;try simp only[A1] at hc))
 exact ⟨_,(A0.ck rfl),Nat.zero_le _,_,_,rfl,rfl,rfl,rfl⟩
theorem JR (c : AD) (p steps : Int) (h : I7 c) : Go.Gar.Fn Tryz.prog 17 [c.d,.i .i64 p,.i .i64 steps] (.is (Ci c p steps)):=by
 have c1:=Ey c h
 have hT : Ci c p steps = if AN c && AZ c.nodes p then wl c.nodes p (most steps + 1) else []:=rfl
 have cn:=fun q => JB c q h
 have dw:=N3 c p
 have hm:=Qk steps
 have hmle:=ML steps
 have hhas:=fun hR : AN c = true => fun hp : AZ c.nodes p = true => Gb hR hp
 generalize Ci c p steps = res at *
 generalize most steps = m at *
 generalize AN c = R at *
 obtain ⟨nodes,gone,base,grams,lost⟩:=c
 simp only at *
 refine A3 A8 Tryz.func17 rfl rfl (Nat.le_of_ble_eq_true rfl) ?_
 unfold AD.d AD.cells at *
 simp only at *
 cases R with
 | false =>
  rw [Bool.false_and] at hT
  subst hT
  have nS:=True.intro;obtain ⟨lv,st,ns,nc⟩:=wq [0,1,2,3,6,7,8,9,10,13,19,20,21,24] [];have c1:=@c1;refine wk ?_;clear nc ns st lv c1;repeat' (first|with_reducible constructor|(with_reducible intro hc;try simp only[A1] at hc))
  refine ⟨_,_,rfl,rfl,?_⟩;simp [AH,A6,A5,A4]
 | true =>
 have nS:=hm;obtain ⟨lv,st,ns,nc⟩:=wq [0,1,2,3,6,7,8,9,10,13,19,20,21,24] [];have c1:=@c1;have d1:=Ds.mk [] (dw);refine wk ?_;clear nc ns st lv d1 c1;repeat' (first|with_reducible constructor|(with_reducible intro hc;try simp only[A1] at hc))
 refine B3 (A0.Mr 2 0 (.is []) rfl rfl rfl rfl trivial) (by simp) ?_
 refine Bn (K:=fun r _ H' => (AZ nodes p = false ∧ H' = [.c [.d (A2 nodes),.d (.is gone),.d (.is base),.d (.sl 3 grams),.d (.i .i64 lost)],.c [.d (.i .i64 m)],.c [.sl 5 (wl nodes p 0).length 1],.c [.d (A2 nodes),.d (.is gone),.d (.is base),.d (.sl 3 grams),.d (.i .i64 lost)],.c [.d (.i .i64 p)],.a (.is (wl nodes p 0)),.lp r]) ∨
  (AZ nodes p = true ∧ H' = [.c [.d (A2 nodes),.d (.is gone),.d (.is base),.d (.sl 3 grams),.d (.i .i64 lost)],.c [.d (.i .i64 m)],.c [.sl 5 (wl nodes p (m + 1)).length 1],.c [.d (A2 nodes),.d (.is gone),.d (.is base),.d (.sl 3 grams),.d (.i .i64 lost)],.c [.d (.i .i64 p)],.a (.is (wl nodes p (m + 1))),.lp (r.left (.exit 0))])) rfl (by first | (simp only [Ai,Ae,Nat.reduceAdd,Int.reduceAdd,Int.reduceSub,Int.reduceMul,Int.reduceToNat];done) | (simp only [Ai,Ae,Nat.reduceAdd,Int.reduceAdd,Int.reduceSub,Int.reduceMul,Int.reduceToNat];rfl) | rfl) (by first | (simp only [Ai,Ae,Nat.reduceAdd,Int.reduceAdd,Int.reduceSub,Int.reduceMul,Int.reduceToNat];done) | (simp only [Ai,Ae,Nat.reduceAdd,Int.reduceAdd,Int.reduceSub,Int.reduceMul,Int.reduceToNat];rfl) | rfl) (fun r => (by first | (simp only [Ai,Ae,Nat.reduceAdd,Int.reduceAdd,Int.reduceSub,Int.reduceMul,Int.reduceToNat];done) | (simp only [Ai,Ae,Nat.reduceAdd,Int.reduceAdd,Int.reduceSub,Int.reduceMul,Int.reduceToNat];rfl) | rfl)) ?_ ?_
 ·intro r hr
  refine BP A8 Tryz.func73 rfl rfl (Nat.le_of_ble_eq_true rfl) ?_
  have hk:=hr.ok (k:=6) rfl
  cases hb : AZ nodes p with
  | false =>
   have c2:=cn p
   rw [K6 hb] at c2
   have nS:=True.intro;obtain ⟨lv,st,ns,nc⟩:=wq [0,1,2,4,5,6,7,23] [];have c1:=@c2;have un : No 1:=trivial;have pr : AC []:=trivial;refine wd ?_;clear nc ns st lv pr un c1;repeat' (first|with_reducible constructor|(with_reducible intro hc;try simp only[A1] at hc))
   exact ⟨⟨[],[.c [.d (A2 nodes),.d (.is gone),.d (.is base),.d (.sl 3 grams),.d (.i .i64 lost)],.c [.d (.i .i64 m)],.c [.sl 5 (wl nodes p 0).length 1],.c [.d (A2 nodes),.d (.is gone),.d (.is base),.d (.sl 3 grams),.d (.i .i64 lost)],.c [.d (.i .i64 p)],.a (.is (wl nodes p 0)),.lp r],_⟩,(A0.ck rfl),Nat.le_refl _,_,_,rfl,rfl,.inl ⟨rfl,rfl⟩⟩
  | true =>
   have nS:=True.intro;obtain ⟨lv,st,ns,nc⟩:=wq [0,1,2,4,5,6,7,23] [];have pr : AC []:=trivial;refine wd ?_;clear nc ns st lv pr;repeat' (first|with_reducible constructor|(with_reducible intro hc;try simp only[A1] at hc))
   refine E6 (fun k => k ≤ m + 1) (fun k : Nat => [(4,.d (.i .i64 k)),(5,.d (.i .i64 (DD nodes p k)))]) (fun k => [(2,.c [.sl 5 (wl nodes p k).length 1]),(5,.a (.is (wl nodes p k)))]) (fun k => m + 2 - k) 0 (Nat.zero_le _) (fun _ => rfl) (fun _ => rfl) ?_ ?_
   ·exact A0.ck rfl
   rintro k hkm
   have c2:=cn (DD nodes p k)
   rw [EH (hhas rfl hb k)] at c2
   have hw : (B2 nodes (DD nodes p k)).1 = DD nodes p (k + 1):=rfl
   rw [hw] at c2
   have hl:=El nodes p k
   have hs:=JG nodes p k
   by_cases hlt : k ≤ m
   ·have f1 : decide ((k : Int) > m) = false:=decide_eq_false (by omega)
    have hY : YT Tryz.prog 6 [.d (.i .i64 k),.d (.i .i64 (DD nodes p k))] [.c [.d (A2 nodes),.d (.is gone),.d (.is base),.d (.sl 3 grams),.d (.i .i64 lost)],.c [.d (.i .i64 m)],.c [.sl 5 (wl nodes p k).length 1],.c [.d (A2 nodes),.d (.is gone),.d (.is base),.d (.sl 3 grams),.d (.i .i64 lost)],.c [.d (.i .i64 p)],.a (.is (wl nodes p k)),.lp r] fun v K => v = .d (.b true) ∧ K = [.c [.d (A2 nodes),.d (.is gone),.d (.is base),.d (.sl 3 grams),.d (.i .i64 lost)],.c [.d (.i .i64 m)],.c [.sl 5 (wl nodes p (k + 1)).length 1],.c [.d (A2 nodes),.d (.is gone),.d (.is base),.d (.sl 3 grams),.d (.i .i64 lost)],.c [.d (.i .i64 p)],.a (.is (wl nodes p (k + 1))),.lp r]:=by
     refine B0 hr rfl rfl rfl ?_
     have nS:=True.intro;obtain ⟨lv,st,ns,nc⟩:=wq [0,1,2,3,6,7,8,9,10,13,19,20,21,24] [];refine wk ?_;clear nc ns st lv;repeat' (first|with_reducible constructor|(with_reducible intro hc;try simp only[A1] at hc))
     refine ⟨rfl,CB (by first | (simp only [Ai,Ae,Nat.reduceAdd,Int.reduceAdd,Int.reduceSub,Int.reduceMul,Int.reduceToNat];done) | (simp only [Ai,Ae,Nat.reduceAdd,Int.reduceAdd,Int.reduceSub,Int.reduceMul,Int.reduceToNat];rfl) | rfl) ?_⟩
     have nS:=f1;obtain ⟨lv,st,ns,nc⟩:=wq [0,1,2,3,6,7,8,9,10,13,19,20,21,24] [];refine wk ?_;clear nc ns st lv;repeat' (first|with_reducible constructor|(with_reducible intro hc;try simp only[A1] at hc))
     exact ⟨⟨[],[.c [.d (A2 nodes),.d (.is gone),.d (.is base),.d (.sl 3 grams),.d (.i .i64 lost)],.c [.d (.i .i64 m)],.c [.sl 5 (wl nodes p (k + 1)).length 1],.c [.d (A2 nodes),.d (.is gone),.d (.is base),.d (.sl 3 grams),.d (.i .i64 lost)],.c [.d (.i .i64 p)],.a (.is (wl nodes p (k + 1))),.lp r.busy],_⟩,(A0.cut rfl (by repeat' (first | exact True.intro | refine And.intro (by (first | rfl | ((with_reducible_and_instances refine congrArg (fun z => some (AV.d (D.i _ z))) ?_);omega) | (refine congrArg (fun z => some (AV.d (D.i _ z))) (?_ : (_ : Int) = _);omega) | (refine congrArg some ?_;simp only [hs,List.length_append,List.length_cons,List.length_nil];done) | (refine congrArg some ?_;simp [hs,List.length_append,List.length_cons,List.length_nil];done))) ?_)) (by repeat' (first | exact True.intro | refine And.intro (Or.inr rfl) ?_ | refine And.intro (Or.inl ⟨rfl,rfl⟩) ?_ | refine And.intro (Or.inr (by simp only [hs,List.length_append,List.length_cons,List.length_nil])) ?_ | refine And.intro (Or.inr (by simp [hs,List.length_append,List.length_cons,List.length_nil])) ?_)) (by first | rfl | (simp (decide:=true) [AT,A7.ok,AV.oks,AV.ok,hk];done)) rfl),Nat.le_refl _,rfl,rfl,rfl⟩
    have nS:=True.intro;obtain ⟨lv,st,ns,nc⟩:=wq [0,1,2,4,5,6,7,23] [];have c1:=@c2;have q1:=@hY;have pr : AC []:=trivial;refine wd ?_;clear nc ns st lv pr q1 c1;repeat' (first|with_reducible constructor|(with_reducible intro hc;try simp only[A1] at hc))
    refine ⟨k + 1,by omega,by omega,Nat.le_refl _,?_⟩
    exact A0.ck rfl
   ·have e : k = m + 1:=by omega
    have f1 : decide ((k : Int) > m) = true:=decide_eq_true (by omega)
    have hY : YT Tryz.prog 6 [.d (.i .i64 k),.d (.i .i64 (DD nodes p k))] [.c [.d (A2 nodes),.d (.is gone),.d (.is base),.d (.sl 3 grams),.d (.i .i64 lost)],.c [.d (.i .i64 m)],.c [.sl 5 (wl nodes p k).length 1],.c [.d (A2 nodes),.d (.is gone),.d (.is base),.d (.sl 3 grams),.d (.i .i64 lost)],.c [.d (.i .i64 p)],.a (.is (wl nodes p k)),.lp r] fun v K => v = .d (.b false) ∧ K = [.c [.d (A2 nodes),.d (.is gone),.d (.is base),.d (.sl 3 grams),.d (.i .i64 lost)],.c [.d (.i .i64 m)],.c [.sl 5 (wl nodes p k).length 1],.c [.d (A2 nodes),.d (.is gone),.d (.is base),.d (.sl 3 grams),.d (.i .i64 lost)],.c [.d (.i .i64 p)],.a (.is (wl nodes p k)),.lp (r.left (.exit 0))]:=by
     refine B0 hr rfl rfl rfl ?_
     have nS:=True.intro;obtain ⟨lv,st,ns,nc⟩:=wq [0,1,2,3,6,7,8,9,10,13,19,20,21,24] [];refine wk ?_;clear nc ns st lv;repeat' (first|with_reducible constructor|(with_reducible intro hc;try simp only[A1] at hc))
     refine ⟨rfl,CB (by first | (simp only [Ai,Ae,Nat.reduceAdd,Int.reduceAdd,Int.reduceSub,Int.reduceMul,Int.reduceToNat];done) | (simp only [Ai,Ae,Nat.reduceAdd,Int.reduceAdd,Int.reduceSub,Int.reduceMul,Int.reduceToNat];rfl) | rfl) ?_⟩
     have nS:=f1;obtain ⟨lv,st,ns,nc⟩:=wq [0,1,2,3,6,7,8,9,10,13,19,20,21,24] [];refine wk ?_;clear nc ns st lv;repeat' (first|with_reducible constructor|(with_reducible intro hc;try simp only[A1] at hc))
     exact ⟨⟨[],[.c [.d (A2 nodes),.d (.is gone),.d (.is base),.d (.sl 3 grams),.d (.i .i64 lost)],.c [.d (.i .i64 m)],.c [.sl 5 (wl nodes p k).length 1],.c [.d (A2 nodes),.d (.is gone),.d (.is base),.d (.sl 3 grams),.d (.i .i64 lost)],.c [.d (.i .i64 p)],.a (.is (wl nodes p k)),.lp r.busy],_⟩,(A0.ck rfl),Nat.le_refl _,rfl,rfl,rfl⟩
    have nS:=True.intro;obtain ⟨lv,st,ns,nc⟩:=wq [0,1,2,4,5,6,7,23] [];have c1:=@c2;have q1:=@hY;have pr : AC []:=trivial;refine wd ?_;clear nc ns st lv pr q1 c1;repeat' (first|with_reducible constructor|(with_reducible intro hc;try simp only[A1] at hc))
    subst e
    exact ⟨⟨[],[.c [.d (A2 nodes),.d (.is gone),.d (.is base),.d (.sl 3 grams),.d (.i .i64 lost)],.c [.d (.i .i64 m)],.c [.sl 5 (wl nodes p (m + 1)).length 1],.c [.d (A2 nodes),.d (.is gone),.d (.is base),.d (.sl 3 grams),.d (.i .i64 lost)],.c [.d (.i .i64 p)],.a (.is (wl nodes p (m + 1))),.lp (r.left (.exit 0))],_⟩,(A0.ck rfl),Nat.le_refl _,_,_,rfl,rfl,.inr ⟨rfl,rfl⟩⟩
 ·rintro r hr y H' (⟨hb,rfl⟩ | ⟨hb,rfl⟩)
  ·refine .inl ⟨rfl,?_⟩
   rw [hb] at hT
   replace hT : res = []:=hT
   subst hT
   have hl:=El nodes p 0
   have hk:=hr.ok (k:=6) rfl
   have nS:=True.intro;obtain ⟨lv,st,ns,nc⟩:=wq [0,1,2,3,6,7,8,9,10,13,19,20,21,24] [];refine wk ?_;clear nc ns st lv;repeat' (first|with_reducible constructor|(with_reducible intro hc;try simp only[A1] at hc))
   refine ⟨_,_,rfl,rfl,?_⟩;simp [AH,A6,A5,A4,wl]
  ·refine .inr ⟨.exit 0,rfl,?_⟩
   rw [hb] at hT
   replace hT : res = wl nodes p (m + 1):=hT
   subst hT
   have nS:=True.intro;obtain ⟨lv,st,ns,nc⟩:=wq [0,1,2,3,6,7,8,9,10,13,19,20,21,24] [];refine wk ?_;clear nc ns st lv;repeat' (first|with_reducible constructor|(with_reducible intro hc;try simp only[A1] at hc))
   refine ⟨_,_,rfl,rfl,?_⟩;simp [AH,A6,A5,A4]
end Nd
end Go.Proofs.YtagnjflbhjmefaaGreat
