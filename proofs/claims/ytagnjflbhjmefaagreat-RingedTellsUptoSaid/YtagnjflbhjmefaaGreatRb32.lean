/- Part 32 of the texts of this proof, put together by a program and made short.
Conditions: none; what each theorem asks stands in its own hypotheses. -/
import Derived.Test.YtagnjflbhjmefaaGreatRb29
import Derived.Test.YtagnjflbhjmefaaGreatRb31
import Derived.Ground.NamesProg
import Derived.Shelf.Slices.In.SortAlone
import Derived.Shelf.Slices.In.SortNone
import Derived.Sort.Walk0
import Derived.KernelRfl
import Derived.RangeFuncIn
import Derived.Sort.Grow
import Derived.Laws.Cover3
import Derived.RecoverIn
import Derived.ProofKit
import Derived.OpenShut
import Derived.CallsIn
import Derived.RangeFuncLeaves
import Derived.OrdersIn
import Derived.TacticsIn
import Derived.ChangeKeysEq
import Derived.Laws.AppendOwn
import Derived.Laws.OwnMore
import Derived.Laws.MakeOwn
import Derived.Laws.Rows
import Derived.Laws.Cells
import Derived.Laws.Tables
import Derived.Laws.CopyRow
import Derived.Laws.Strings
import Derived.Laws.IdiomStrings
import Derived.Laws.BytesArg
import Derived.Test.YtagnjflbhjmefaaGreatProg
set_option linter.unusedSimpArgs false
set_option linter.unusedVariables false
set_option linter.unnecessarySimpa false
set_option maxHeartbeats 40000000
namespace Go.Proofs.YtagnjflbhjmefaaGreat
namespace Nd
open Go.Gar
open Wi (AE Az B7)
set_option maxRecDepth 4000
theorem VR (steps : Int) (k : Nat) : decide ((k : Int) < if 40 < steps then 40 else steps) = decide (k < most steps):=by
 have e : ((k : Int) < if 40 < steps then 40 else steps) ↔ k < most steps:=by
  unfold most
  split <;> split <;> (try split) <;> omega
 by_cases h : k < most steps
 ·rw [decide_eq_true h,decide_eq_true (e.2 h)]
 ·rw [decide_eq_false h,decide_eq_false (fun h' => h (e.1 h'))]
theorem Kt (c : AD) (p steps : Int) (h : I7 c) : Go.Gar.Fn Tryz.prog 18 [c.d,.i .i64 p,.i .i64 steps] (.is (Ci c p steps)):=by
 have cN:=fun q => Ng c q h
 have hT : Ci c p steps = if AN c && AZ c.nodes p then wl c.nodes p (most steps + 1) else []:=rfl
 have hN : ∀ q,Eg c q = if AN c then B2 c.nodes q else (0,false):=fun _ => rfl
 have hm:=VR steps
 have hmle:=ML steps
 have hhas:=fun hR : AN c = true => fun hp : AZ c.nodes p = true => Gb hR hp
 generalize Ci c p steps = res at *
 generalize most steps = m at *
 have c1:=cN p
 generalize AN c = R at *
 obtain ⟨nodes,gone,base,grams,lost⟩:=c
 simp only at *
 refine A3 A8 Tryz.func18 rfl rfl (Nat.le_of_ble_eq_true rfl) ?_
 unfold AD.d AD.cells at *
 simp only at *
 cases R with
 | false =>
  rw [Bool.false_and] at hT
  rw [hN p] at c1
  simp only [Bool.false_eq_true,if_false] at c1 hT
  subst hT
  have nS:=True.intro;obtain ⟨lv,st,ns,nc⟩:=wq [0,1,2,3,6,8,9,10,11,12,20,26,41] [];have c1:=@c1;have pr : AC []:=trivial;refine wd ?_;clear nc ns st lv pr c1;repeat' (first|with_reducible constructor|(with_reducible intro hc;try simp only[A1] at hc))
  refine ⟨_,_,rfl,rfl,?_⟩;simp [AH,A6,A5,A4]
 | true =>
 rw [Bool.true_and] at hT
 rw [hN p] at c1
 simp only [if_true] at c1 hN
 cases hb : AZ nodes p with
 | false =>
  rw [hb] at hT
  rw [K6 hb] at c1
  simp only [Bool.false_eq_true,if_false] at hT
  subst hT
  have nS:=True.intro;obtain ⟨lv,st,ns,nc⟩:=wq [0,1,2,3,6,8,9,10,11,12,20,26,41] [];have c1:=@c1;have pr : AC []:=trivial;refine wd ?_;clear nc ns st lv pr c1;repeat' (first|with_reducible constructor|(with_reducible intro hc;try simp only[A1] at hc))
  refine ⟨_,_,rfl,rfl,?_⟩;simp [AH,A6,A5,A4]
 | true =>
 rw [hb] at hT
 simp only [if_true] at hT
 rw [EH hb] at c1
 replace hhas:=hhas rfl hb
 subst hT
 have nS:=True.intro;obtain ⟨lv,st,ns,nc⟩:=wq [0,1,2,3,6,8,9,10,11,12,20,26,41] [];have c1:=@c1;have ow : Lv [22]:=trivial;have pr : AC []:=trivial;refine wd ?_;clear nc ns st lv pr ow c1;repeat' (first|with_reducible constructor|(with_reducible intro hc;try simp only[A1] at hc))
 refine E6 (fun k => k ≤ m) (fun k : Nat => [(9,.sl 1 (wl nodes p (k + 1)).length 1),(10,.d (.i .i64 k))]) (fun k => [(1,.a (.is (wl nodes p (k + 1))))]) (fun k => m - k) 0 (Nat.zero_le _) (fun _ => rfl) (fun _ => rfl) ?_ ?_
 ·exact A0.ck rfl
 intro k hkm
 have hl:=El nodes p (k + 1)
 have hs:=JG nodes p (k + 1)
 have f1:=hm k
 by_cases hlt : k < m
 ·rw [decide_eq_true hlt] at f1
  have c2:=cN (DD nodes p k)
  rw [hN,EH (hhas k)] at c2
  have hw : (B2 nodes (DD nodes p k)).1 = DD nodes p (k + 1):=rfl
  rw [hw] at c2
  have e5 : (slc (D.is (wl nodes p (k + 1)))).getD ((((wl nodes p (k + 1)).length : Int) - 1).toNat * 1) D.np = .i .i64 (DD nodes p k):=by
   rw [hl,show (((k + 1 : Nat) : Int) - 1).toNat * 1 = k by omega]
   simp [slc,wl]
  have nS:=And.intro f1 e5;obtain ⟨lv,st,ns,nc⟩:=wq [0,1,2,3,6,8,9,10,11,12,20,26,41] [];have c1:=@c2;have pr : AC []:=trivial;refine wd ?_;clear nc ns st lv pr c1;repeat' (first|with_reducible constructor|(with_reducible intro hc;try simp only[A1] at hc))
  refine ⟨k + 1,by omega,by omega,Nat.le_refl _,?_⟩
  exact A0.cut rfl (by repeat' (first | exact True.intro | refine And.intro (by (first | rfl | ((with_reducible_and_instances refine congrArg (fun z => some (AV.d (D.i _ z))) ?_);omega) | (refine congrArg (fun z => some (AV.d (D.i _ z))) (?_ : (_ : Int) = _);omega) | (refine congrArg some ?_;simp only [hs,List.length_append,List.length_cons,List.length_nil];done) | (refine congrArg some ?_;simp [hs,List.length_append,List.length_cons,List.length_nil];done))) ?_)) (by repeat' (first | exact True.intro | refine And.intro (Or.inr rfl) ?_ | refine And.intro (Or.inl ⟨rfl,rfl⟩) ?_ | refine And.intro (Or.inr (by simp only [hs,List.length_append,List.length_cons,List.length_nil])) ?_ | refine And.intro (Or.inr (by simp [hs,List.length_append,List.length_cons,List.length_nil])) ?_)) (by first | rfl | (simp (decide:=true) [AT,A7.ok,AV.oks,AV.ok,hk];done)) rfl
 ·rw [decide_eq_false hlt] at f1
  have e : k = m:=by omega
  subst e
  have nS:=f1;obtain ⟨lv,st,ns,nc⟩:=wq [0,1,2,3,6,8,9,10,11,12,20,26,41] [];have pr : AC []:=trivial;refine wd ?_;clear nc ns st lv pr;repeat' (first|with_reducible constructor|(with_reducible intro hc;try simp only[A1] at hc))
  refine ⟨_,_,rfl,rfl,?_⟩;simp [AH,A6,A5,A4]
theorem U7 (c : AD) (p : Int) (h : I7 c) : Go.Gar.Fn Tryz.prog 36 [c.d,.i .i64 p] (.b (decide (p ∈ c.base))):=by
 have hbl:=h.bl
 obtain ⟨nodes,gone,l,grams,lost⟩:=c
 simp only at *
 refine A3 A8 Tryz.func36 rfl rfl (Nat.le_of_ble_eq_true rfl) ?_
 unfold AD.d AD.cells
 have nS:=True.intro;obtain ⟨lv,st,ns,nc⟩:=wq [0,1,2,4,5,10,19] [];refine wk ?_;clear nc ns st lv;repeat' (first|with_reducible constructor|(with_reducible intro hc;try simp only[A1] at hc))
 refine AS (fun k => k ≤ l.length ∧ p ∉ l.take k) (fun k : Nat => [(5,.d (.i .i64 k))]) (fun k => l.length - k) 0 ⟨Nat.zero_le _,by simp⟩ (fun _ => rfl) ?_ ?_
 ·exact A0.ck rfl
 rintro k ⟨hk,hpre⟩
 by_cases hkl : k < l.length
 ·obtain ⟨y,hy⟩:=AG hkl
  have gy:=AY hy
  by_cases h : y = p
  ·have f1:=Ar h
   have nS:=And.intro gy f1;obtain ⟨lv,st,ns,nc⟩:=wq [0,1,2,4,5,10,19] [];refine wk ?_;clear nc ns st lv;repeat' (first|with_reducible constructor|(with_reducible intro hc;try simp only[A1] at hc))
   refine ⟨_,_,rfl,rfl,?_⟩
   simp only [Ao];rw [decide_eq_true (h ▸ List.mem_of_getElem? hy)]
  ·have f1:=eq_false' h
   have hn : p ∉ l.take (k + 1):=by rw [AR hy,List.mem_append,List.mem_singleton];exact fun e => e.elim hpre fun e => h e.symm
   have nS:=And.intro gy f1;obtain ⟨lv,st,ns,nc⟩:=wq [0,1,2,4,5,10,19] [];refine wk ?_;clear nc ns st lv;repeat' (first|with_reducible constructor|(with_reducible intro hc;try simp only[A1] at hc))
   refine ⟨k + 1,⟨hkl,hn⟩,by omega,Nat.le_refl _,?_⟩
   exact A0.ck rfl
 ·have e : k = l.length:=by omega
  subst e
  rw [List.take_length] at hpre
  have nS:=True.intro;obtain ⟨lv,st,ns,nc⟩:=wq [0,1,2,4,5,10,19] [];refine wk ?_;clear nc ns st lv;repeat' (first|with_reducible constructor|(with_reducible intro hc;try simp only[A1] at hc))
  refine ⟨_,_,rfl,rfl,?_⟩
  simp only [Ao];rw [decide_eq_false hpre]
theorem Tw (c : AD) (h : I7 c) : Go.Gar.Fn Tryz.prog 13 [c.d] (.tup [.is (ET c).1,.b (ET c).2]):=by
 have c1:=DN c h
 have hT : ET c = if AN c then match HS c.nodes (c.base.getD 0 0) c.nodes.length with
  | some j => (wl c.nodes (c.base.getD 0 0) (j + 1),true)
  | none => ([],false) else ([],false):=rfl
 have c2:=Kt c (c.base.getD 0 0) c.nodes.length h
 have hW : AN c = true → Ci c (c.base.getD 0 0) c.nodes.length = wl c.nodes (c.base.getD 0 0) (c.nodes.length + 1):=fun hR => by
  have hl:=Ce hR
  have hb : AZ c.nodes (c.base.getD 0 0) = true:=CW hR (by rw [DZ (show 0 < c.base.length by omega)];exact List.getElem_mem _)
  have hm : most c.nodes.length = c.nodes.length:=by unfold most;split <;> split <;> omega
  unfold Ci;rw [hR,hb,hm];rfl
 have hlen:=fun hR : AN c = true => Ce hR
 generalize Ci c (c.base.getD 0 0) c.nodes.length = W0 at *
 generalize ET c = res at *
 generalize AN c = R at *
 obtain ⟨nodes,gone,base,grams,lost⟩:=c
 simp only at *
 refine A3 A8 Tryz.func13 rfl rfl (Nat.le_of_ble_eq_true rfl) ?_
 unfold AD.d AD.cells at *
 simp only at *
 cases R with
 | false =>
  replace hT : res = ([],false):=hT
  subst hT
  have nS:=True.intro;obtain ⟨lv,st,ns,nc⟩:=wq [0,1,2,3,4,5,8,21,31] [];have c1:=@c1;have pr : AC []:=trivial;refine wd ?_;clear nc ns st lv pr c1;repeat' (first|with_reducible constructor|(with_reducible intro hc;try simp only[A1] at hc))
  refine ⟨_,_,rfl,rfl,?_⟩;simp [AH,A6,A5,A4]
 | true =>
 obtain ⟨hl1,hl2,hl3⟩:=hlen rfl
 rw [hW rfl] at c2
 simp only [if_true] at hT
 obtain ⟨b,hb⟩:=AG (xs:=base) (k:=0) (by omega)
 have gb : base.getD 0 0 = b:=AY hb
 have f0 : M3 0 base.length = true:=CI.2 ⟨Int.le_refl _,by omega⟩
 rw [gb] at hT c2
 have hwl:=El nodes b (nodes.length + 1)
 have g0 : (wl nodes b (nodes.length + 1)).getD 0 0 = b:=AY (Je (by omega))
 have f9 : M3 0 (wl nodes b (nodes.length + 1)).length = true:=CI.2 ⟨Int.le_refl _,by omega⟩
 have nS:=And.intro gb f0;obtain ⟨lv,st,ns,nc⟩:=wq [0,1,2,3,4,5,8,21,31] [];have c1:=@c1;have c2:=@c2;have pr : AC []:=trivial;refine wd ?_;clear nc ns st lv pr c2 c1;repeat' (first|with_reducible constructor|(with_reducible intro hc;try simp only[A1] at hc))
 refine AS (fun k => 1 ≤ k ∧ k ≤ nodes.length + 1 ∧ ∀ j,j + 1 < k → DD nodes b (j + 1) ≠ b) (fun k : Nat => [(5,.d (.i .i64 k))]) (fun k => nodes.length + 1 - k) 1 ⟨Nat.le_refl _,by omega,fun j hj => absurd hj (by omega)⟩ (fun _ => rfl) ?_ ?_
 ·exact A0.ck rfl
 rintro k ⟨hk1,hk,hpre⟩
 by_cases hkl : k < nodes.length + 1
 ·have gk : (wl nodes b (nodes.length + 1)).getD k 0 = DD nodes b k:=AY (Je hkl)
  by_cases e : DD nodes b k = b
  ·have f1:=Ar e
   have hk' : k - 1 + 1 = k:=by omega
   have hB : HS nodes b nodes.length = some (k - 1):=Er (by omega) (by rw [hk'];exact decide_eq_true e) (fun j hj => decide_eq_false (hpre j (by omega)))
   rw [hB] at hT
   simp only [hk'] at hT
   subst hT
   have e2 : (wl nodes b (nodes.length + 1)).take k = wl nodes b k:=by
    unfold wl;rw [← List.map_take,List.take_range,Nat.min_eq_left (by omega)]
   have nS:=And.intro gk (And.intro g0 (And.intro f1 f9));obtain ⟨lv,st,ns,nc⟩:=wq [0,1,2,3,4,5,8,21,31] [];have pr : AC []:=trivial;refine wd ?_;clear nc ns st lv pr;repeat' (first|with_reducible constructor|(with_reducible intro hc;try simp only[A1] at hc))
   refine ⟨_,_,rfl,rfl,?_⟩;simp [AH,A6,A5,A4,e2]
  ·have f1:=eq_false' e
   have nS:=And.intro gk (And.intro g0 (And.intro f1 f9));obtain ⟨lv,st,ns,nc⟩:=wq [0,1,2,3,4,5,8,21,31] [];have pr : AC []:=trivial;refine wd ?_;clear nc ns st lv pr;repeat' (first|with_reducible constructor|(with_reducible intro hc;try simp only[A1] at hc))
   refine ⟨k + 1,⟨by omega,by omega,fun j hj => ?_⟩,by omega,Nat.le_refl _,?_⟩
   ·by_cases e3 : j + 1 = k
    ·rw [e3];exact e
    ·exact hpre j (by omega)
   ·exact A0.ck rfl
 ·have e : k = nodes.length + 1:=by omega
  have hB : HS nodes b nodes.length = none:=Ep (fun j hj => decide_eq_false (hpre j (by omega)))
  rw [hB] at hT
  subst hT
  have f1 : decide ((k : Int) < (wl nodes b (nodes.length + 1)).length) = false:=decide_eq_false (by omega)
  have nS:=f1;obtain ⟨lv,st,ns,nc⟩:=wq [0,1,2,3,4,5,8,21,31] [];have pr : AC []:=trivial;refine wd ?_;clear nc ns st lv pr;repeat' (first|with_reducible constructor|(with_reducible intro hc;try simp only[A1] at hc))
  refine ⟨_,_,rfl,rfl,?_⟩;simp [AH,A6,A5,A4]
theorem RX (c : AD) (p : Int) (h : I7 c) : Go.Gar.Fn Tryz.prog 15 [c.d,.i .i64 p] (.tup [.i .i64 (DR c p).1,.b (DR c p).2]):=by
 have c1:=DN c h
 have hT : DR c p = if AN c && AZ c.nodes p then match FR c.nodes c.base p (c.nodes.length + 1) with
  | some j => ((j : Int),true)
  | none => (0,false) else (0,false):=rfl
 have c2:=Kt c p c.nodes.length h
 have hW : AN c = true → Ci c p c.nodes.length = if AZ c.nodes p then wl c.nodes p (c.nodes.length + 1) else []:=fun hR => by
  have hl:=Ce hR
  have hm : most c.nodes.length = c.nodes.length:=by unfold most;split <;> split <;> omega
  unfold Ci;rw [hR,hm];rfl
 have hlen:=fun hR : AN c = true => Ce hR
 have cc:=fun q => U7 c q h
 generalize Ci c p c.nodes.length = W0 at *
 generalize DR c p = res at *
 generalize AN c = R at *
 obtain ⟨nodes,gone,base,grams,lost⟩:=c
 simp only at *
 refine A3 A8 Tryz.func15 rfl rfl (Nat.le_of_ble_eq_true rfl) ?_
 unfold AD.d AD.cells at *
 simp only at *
 cases R with
 | false =>
  replace hT : res = (0,false):=hT
  subst hT
  have nS:=True.intro;obtain ⟨lv,st,ns,nc⟩:=wq [0,1,2,4,5,6,7,10,20,28] [];have c1:=@c1;have pr : AC []:=trivial;refine wd ?_;clear nc ns st lv pr c1;repeat' (first|with_reducible constructor|(with_reducible intro hc;try simp only[A1] at hc))
  refine ⟨_,_,rfl,rfl,?_⟩;simp [AH,A6,A5,A4]
 | true =>
 obtain ⟨hl1,hl2,hl3⟩:=hlen rfl
 rw [hW rfl] at c2
 rw [Bool.true_and] at hT
 cases hb : AZ nodes p with
 | false =>
  rw [hb] at hT c2
  simp only [Bool.false_eq_true,if_false] at hT c2
  subst hT
  have nS:=True.intro;obtain ⟨lv,st,ns,nc⟩:=wq [0,1,2,4,5,6,7,10,20,28] [];have c1:=@c1;have c2:=@c2;have un : No 1:=trivial;have pr : AC []:=trivial;refine wd ?_;clear nc ns st lv pr un c2 c1;repeat' (first|with_reducible constructor|(with_reducible intro hc;try simp only[A1] at hc))
  refine ⟨_,_,rfl,rfl,?_⟩;simp [AH,A6,A5,A4]
 | true =>
 rw [hb] at hT c2
 simp only [if_true] at hT c2
 have hwl:=El nodes p (nodes.length + 1)
 have nS:=True.intro;obtain ⟨lv,st,ns,nc⟩:=wq [0,1,2,4,5,6,7,10,20,28] [];have c1:=@c1;have c2:=@c2;have pr : AC []:=trivial;refine wd ?_;clear nc ns st lv pr c2 c1;repeat' (first|with_reducible constructor|(with_reducible intro hc;try simp only[A1] at hc))
 refine AS (fun k => k ≤ nodes.length + 1 ∧ ∀ j,j < k → DD nodes p j ∉ base) (fun k : Nat => [(7,.d (.i .i64 k))]) (fun k => nodes.length + 1 - k) 0 ⟨Nat.zero_le _,fun j hj => absurd hj (Nat.not_lt_zero _)⟩ (fun _ => rfl) ?_ ?_
 ·exact A0.ck rfl
 rintro k ⟨hk,hpre⟩
 by_cases hkl : k < nodes.length + 1
 ·have gk : (wl nodes p (nodes.length + 1)).getD k 0 = DD nodes p k:=AY (Je hkl)
  have c3:=cc (DD nodes p k)
  by_cases e : DD nodes p k ∈ base
  ·rw [decide_eq_true e] at c3
   have hB : FR nodes base p (nodes.length + 1) = some k:=Er hkl (decide_eq_true e) (fun j hj => decide_eq_false (hpre j hj))
   rw [hB] at hT
   subst hT
   have nS:=gk;obtain ⟨lv,st,ns,nc⟩:=wq [0,1,2,4,5,6,7,10,20,28] [];have c1:=@c3;have pr : AC []:=trivial;refine wd ?_;clear nc ns st lv pr c1;repeat' (first|with_reducible constructor|(with_reducible intro hc;try simp only[A1] at hc))
   refine ⟨_,_,rfl,rfl,?_⟩;simp [AH,A6,A5,A4]
  ·rw [decide_eq_false e] at c3
   have nS:=gk;obtain ⟨lv,st,ns,nc⟩:=wq [0,1,2,4,5,6,7,10,20,28] [];have c1:=@c3;have pr : AC []:=trivial;refine wd ?_;clear nc ns st lv pr c1;repeat' (first|with_reducible constructor|(with_reducible intro hc;try simp only[A1] at hc))
   refine ⟨k + 1,⟨by omega,fun j hj => ?_⟩,by omega,Nat.le_refl _,?_⟩
   ·by_cases e3 : j = k
    ·rw [e3];exact e
    ·exact hpre j (by omega)
   ·exact A0.ck rfl
 ·have e : k = nodes.length + 1:=by omega
  have hB : FR nodes base p (nodes.length + 1) = none:=Ep (fun j hj => decide_eq_false (hpre j (by omega)))
  rw [hB] at hT
  subst hT
  have f1 : decide ((k : Int) < (wl nodes p (nodes.length + 1)).length) = false:=decide_eq_false (by omega)
  have nS:=f1;obtain ⟨lv,st,ns,nc⟩:=wq [0,1,2,4,5,6,7,10,20,28] [];have pr : AC []:=trivial;refine wd ?_;clear nc ns st lv pr;repeat' (first|with_reducible constructor|(with_reducible intro hc;try simp only[A1] at hc))
  refine ⟨_,_,rfl,rfl,?_⟩;simp [AH,A6,A5,A4]
end Nd
end Go.Proofs.YtagnjflbhjmefaaGreat
