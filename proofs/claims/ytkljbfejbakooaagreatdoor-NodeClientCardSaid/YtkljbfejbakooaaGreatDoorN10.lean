/- Part 10 of a proof, put together by a program. Conditions: none beyond those that a theorem states. -/
import Derived.Test.YtkljbfejbakooaaGreatDoorN07
import Derived.Test.YtkljbfejbakooaaGreatDoorN09
import Derived.Shelf.SlicesE.DeleteFunc
set_option linter.unusedSimpArgs false
set_option linter.unusedVariables false
set_option linter.unnecessarySimpa false
set_option maxHeartbeats 40000000
namespace Go.Proofs.YtkljbfejbakooaaGreatDoor
open Go.Gar
set_option maxRecDepth 4000
abbrev Lo : List Nat:=[0,1,4,5,6,11,12,13,16,19]
abbrev FY : List Nat:=[0,2,3,5,6,7,8,9,14]
theorem mixed : Tryz.prog.follows .mixedOrders = true:=by kernel_rfl
variable {α : Type}
theorem DK [BEq α] [LawfulBEq α] [DecidableEq α] (a b : α) : (a == b) = decide (a = b):=by
 by_cases h : a = b <;> simp [h]
theorem Aa {xs : List α} {k : Nat} (h : k < xs.length) : ∃ x,xs[k]? = some x:=⟨xs[k],List.getElem?_eq_getElem h⟩
theorem AP {l : List α} {k : Nat} {x : α} (hx : l[k]? = some x) : l.take (k + 1) = l.take k ++ [x]:=by
 rw [List.take_add_one,hx];rfl
variable {a b : Int}
theorem CI (h : a = b) : (a != b) = false:=by rw [bne_eq_false_iff_eq];exact h
theorem CJ (h : a ≠ b) : (a != b) = true:=by rw [bne_iff_ne];exact h
theorem eq_false' (h : a ≠ b) : (a == b) = false:=by rw [beq_eq_false_iff_ne];exact h
theorem AS (h : a = b) : (a == b) = true:=by rw [beq_iff_eq];exact h
structure Item where
 key : List UInt8
 value : Int
 version : Int
 gone : Bool
 deriving DecidableEq
def Item.cells (x : Item) : List D:=[.s x.key,.i .i64 x.value,.i .i64 x.version,.b x.gone]
def Item.d (x : Item) : D:=.agg x.cells
abbrev AW (l : List Item) : D:=.sl 4 (l.map Item.cells)
def AE : Item:=⟨[],0,0,false⟩
def Item.rank (x : Item) : D:=.agg [.i .i64 x.version,.i .i64 x.value,.b x.gone]
theorem Zt (x y : Item) : IB x.cells y.cells = decide (x = y):=by
 obtain ⟨a,b,c,d⟩:=x;obtain ⟨a',b',c',d'⟩:=y;simp [Item.cells,IB,eq1,DK]
theorem Gw (x y : Item) : IB [.s x.key,.i .i64 x.value,.i .i64 x.version,.b x.gone] [.s y.key,.i .i64 y.value,.i .i64 y.version,.b y.gone] = decide (x = y):=Zt x y
theorem fI (x : Item) : Go.Gar.Fn Tryz.prog 351 [x.d] x.rank:=by
 obtain ⟨k,v,n,g⟩:=x;refine zF A6 Tryz.func351 ?_;refine wk [0,1,2] [] A0 A0 ?_;refine ⟨_,_,rfl,rfl,?_⟩;simp [AR,AB,A7,A4,Item.rank]
theorem SD (x : Int) : Go.Gar.Fn Tryz.prog 365 [.i .i64 x] (.b false):=by
 refine zF A6 Tryz.func365 ?_;refine wk [0,2] [] A0 A0 ?_;exact zE
def Fs (x y : Int) : Int:=if x < y then -1 else if y < x then 1 else 0
theorem Mp (x y : Int) : Go.Gar.Fn Tryz.prog 353 [.i .i64 x,.i .i64 y] (.i .i64 (Fs x y)):=by
 have h1:=SD x;have h2:=SD y;refine zF A6 Tryz.func353 ?_;rcases Int.lt_trichotomy x y with h | h | h
 ·have e : Fs x y = -1:=if_pos h;refine wk Lo [] A0 (Aj @h1 @h2) ?_;with_reducible repeat' first|constructor|intro hc;try simp only[AD] at hc
  refine ⟨_,_,rfl,rfl,?_⟩;simp [AR,AB,A7,A4,e]
 ·have e : Fs x y = 0:=by unfold Fs;rw [if_neg (by omega),if_neg (by omega)]
  refine wk Lo [] A0 (Aj @h1 @h2) ?_;with_reducible repeat' first|constructor|intro hc;try simp only[AD] at hc
  refine ⟨_,_,rfl,rfl,?_⟩;simp [AR,AB,A7,A4,e]
 ·have e : Fs x y = 1:=by unfold Fs;rw [if_neg (by omega),if_pos h]
  refine wk Lo [] A0 (Aj @h1 @h2) ?_;with_reducible repeat' first|constructor|intro hc;try simp only[AD] at hc
  refine ⟨_,_,rfl,rfl,?_⟩;simp [AR,AB,A7,A4,e]
def XB (a b : Int) : Int:=if a = 0 then b else a
theorem jh (a b : Int) : Go.Gar.Fn Tryz.prog 352 [.is [a,b]] (.i .i64 (XB a b)):=by
 refine zF A6 Tryz.func352 ?_;refine wk FY [] A0 A0 ?_;refine Ac (fun k : Nat => k ≤ 2 ∧ (1 ≤ k → a = 0) ∧ (2 ≤ k → b = 0)) (fun k : Nat => ⟨[(2,.d (.i .i64 0)),(3,.d (.i .i64 0)),(6,.d (.is [a,b])),(7,.d (.i .i64 2)),(8,.d (.i .i64 k))],[],18⟩) (fun k => 2 - k) 0 ⟨Nat.zero_le _,by omega,by omega⟩ ?_ (Nat.le_refl _) ?_
 ·exact A3.ck rfl
 rintro k ⟨hk,h1,h2⟩
 by_cases k0 : k = 0
 ·subst k0
  by_cases ha : a = 0
  ·refine wk FY [] (AF (CI ha)) A0 ?_;refine ⟨1,⟨by omega,fun _ => ha,by omega⟩,by omega,Nat.le_refl _,?_⟩;exact A3.ck rfl
  ·have e : XB a b = a:=if_neg ha;refine wk FY [] (AF (CJ ha)) A0 ?_;refine ⟨_,_,rfl,rfl,?_⟩;simp [AR,AB,A7,A4,e]
 ·have ha:=h1 (by omega);have e : XB a b = b:=if_pos ha
  by_cases k1 : k = 1
  ·subst k1
   by_cases hb : b = 0
   ·refine wk FY [] (AF (CI hb)) A0 ?_;refine ⟨2,⟨by omega,fun _ => ha,fun _ => hb⟩,by omega,Nat.le_refl _,?_⟩;exact A3.ck rfl
   ·refine wk FY [] (AF (CJ hb)) A0 ?_;refine ⟨_,_,rfl,rfl,?_⟩;simp [AR,AB,A7,A4,e]
  ·have k2 : k = 2:=by omega
   subst k2;have hb : b = 0:=h2 (Nat.le_refl 2);subst hb;refine wk FY [] A0 A0 ?_;refine ⟨_,_,rfl,rfl,?_⟩;simp [AR,AB,A7,A4,e]
abbrev Cx : List Nat:=[0,1,2,3,4,5,6,7,14,32,34]
def HM (x y : Item) : Int :=
 if x.version < y.version then -1 else if y.version < x.version then 1 else if x.value < y.value then -1 else if y.value < x.value then 1 else
 if x.gone = y.gone then 0 else if x.gone then 1 else -1
theorem ff (x y : Item) : Go.Gar.Fn Tryz.prog 318 [x.d,y.d] (.i .i64 (HM x y)):=by
 have c1:=fI x;have c2:=fI y;obtain ⟨k,v,n,g⟩:=x;obtain ⟨k',v',n',g'⟩:=y;have c3:=Mp n n';have c4:=Mp v v';have c5:=jh (Fs n n') (Fs v v');refine zF A6 Tryz.func318 ?_;refine wd Cx [1] [] A0 A0 ?_;refine TF T.get 4 5 2 3 ⟨[(0,.d (Item.d ⟨k,v,n,g⟩)),(1,.d (Item.d ⟨k',v',n',g'⟩)),(2,.ptr 0 0 4),(3,.ptr 1 0 4),(4,.d (.i .i64 0)),(5,.ptr 2 0 3),(6,.ptr 3 0 3)],[.c [.d (.s k),.d (.i .i64 v),.d (.i .i64 n),.d (.b g)],.c [.d (.s k'),.d (.i .i64 v'),.d (.i .i64 n'),.d (.b g')],.c [.d (.i .i64 n),.d (.i .i64 v),.d (.b g)],.c [.d (.i .i64 n'),.d (.i .i64 v'),.d (.b g')]],36⟩ mixed rfl rfl rfl ?_ ?_ ?_
 ·refine wd Cx [] [(0,4),(0,5),(0,6),(0,7),(2,4),(2,5),(2,6),(2,7)] A0 (Aj @c1 @c2) ?_;exact ⟨rfl,.inl rfl⟩
 ·refine wd Cx [] [(0,4),(0,5),(0,6),(0,7),(2,4),(2,5),(2,6),(2,7)] A0 (Aj @c1 @c2) ?_;exact ⟨rfl,.inr rfl⟩
 by_cases hs : n = n' ∧ v = v' ∧ g = g'
 ·obtain ⟨rfl,rfl,rfl⟩:=hs;have e : IB [.i .i64 n,.i .i64 v,.b g] [.i .i64 n,.i .i64 v,.b g] = true:=by simp [IB,eq1]
  have eT : HM ⟨k,v,n,g⟩ ⟨k',v,n,g⟩ = 0:=by simp [HM]
  refine wd Cx [] [] (AF e) A0 ?_;refine ⟨_,_,rfl,rfl,?_⟩;simp [AR,AB,A7,A4,eT]
 have e : IB [.i .i64 n,.i .i64 v,.b g] [.i .i64 n',.i .i64 v',.b g'] = false:=by
  cases h : IB [.i .i64 n,.i .i64 v,.b g] [.i .i64 n',.i .i64 v',.b g'] with
  | false => rfl
  | true => simp [IB,eq1] at h;exact absurd h hs
 rcases Int.lt_trichotomy n n' with h | h | h
 ·have hO : XB (Fs n n') (Fs v v') = -1:=by simp [XB,Fs,h]
  have eT : HM ⟨k,v,n,g⟩ ⟨k',v',n',g'⟩ = -1:=by simp [HM,h]
  rw [hO] at c5;refine wd Cx [] [] (AF e) (Dl @c3 @c4 @c5) ?_;refine ⟨_,_,rfl,rfl,?_⟩;simp [AR,AB,A7,A4,eT]
 ·subst h;rcases Int.lt_trichotomy v v' with h | h | h
  ·have hO : XB (Fs n n) (Fs v v') = -1:=by simp [XB,Fs,h]
   have eT : HM ⟨k,v,n,g⟩ ⟨k',v',n,g'⟩ = -1:=by simp [HM,h]
   rw [hO] at c5;refine wd Cx [] [] (AF e) (Dl @c3 @c4 @c5) ?_;refine ⟨_,_,rfl,rfl,?_⟩;simp [AR,AB,A7,A4,eT]
  ·subst h;have hg : ¬ g = g':=fun hg => hs ⟨rfl,rfl,hg⟩
   have hO : XB (Fs n n) (Fs v v) = 0:=by simp [XB,Fs]
   rw [hO] at c5
   cases g with
   | true =>
    have eT : HM ⟨k,v,n,true⟩ ⟨k',v,n,g'⟩ = 1:=by simp [HM,hg]
    refine wd Cx [] [] (AF e) (Dl @c3 @c4 @c5) ?_;refine ⟨_,_,rfl,rfl,?_⟩;simp [AR,AB,A7,A4,eT]
   | false =>
    have eT : HM ⟨k,v,n,false⟩ ⟨k',v,n,g'⟩ = -1:=by simp [HM,hg]
    refine wd Cx [] [] (AF e) (Dl @c3 @c4 @c5) ?_;refine ⟨_,_,rfl,rfl,?_⟩;simp [AR,AB,A7,A4,eT]
  ·have hO : XB (Fs n n) (Fs v v') = 1:=by simp [XB,Fs,h,show ¬ v < v' by omega]
   have eT : HM ⟨k,v,n,g⟩ ⟨k',v',n,g'⟩ = 1:=by simp [HM,h,show ¬ v < v' by omega]
   rw [hO] at c5;refine wd Cx [] [] (AF e) (Dl @c3 @c4 @c5) ?_;refine ⟨_,_,rfl,rfl,?_⟩;simp [AR,AB,A7,A4,eT]
 ·have hO : XB (Fs n n') (Fs v v') = 1:=by simp [XB,Fs,h,show ¬ n < n' by omega]
  have eT : HM ⟨k,v,n,g⟩ ⟨k',v',n',g'⟩ = 1:=by simp [HM,h,show ¬ n < n' by omega]
  rw [hO] at c5;refine wd Cx [] [] (AF e) (Dl @c3 @c4 @c5) ?_;refine ⟨_,_,rfl,rfl,?_⟩;simp [AR,AB,A7,A4,eT]
theorem YC (x y : Item) : Go.Gar.Fn Tryz.prog 275 [x.d,y.d] (.b (decide (HM x y > 0))):=by
 have c:=ff x y;refine zF A6 Tryz.func275 ?_;refine wk [0,1,2,3,4] [] A0 (AF @c) ?_;exact zE
def Item.may (x : Item) : Bool:=decide (1 ≤ x.key.length) && decide (x.key.length ≤ 20) && decide (0 ≤ x.value) && decide (x.value ≤ 1048576) && decide (0 ≤ x.version) && decide (x.version ≤ 1048576)
theorem dl (x : Item) : x.may = true ↔ (1 ≤ x.key.length ∧ x.key.length ≤ 20) ∧ (0 ≤ x.value ∧ x.value ≤ 1048576) ∧ (0 ≤ x.version ∧ x.version ≤ 1048576):=by
 simp only [Item.may,Bool.and_eq_true,decide_eq_true_eq];constructor
 ·rintro ⟨⟨⟨⟨⟨h1,h2⟩,h3⟩,h4⟩,h5⟩,h6⟩;exact ⟨⟨h1,h2⟩,⟨h3,h4⟩,h5,h6⟩
 ·rintro ⟨⟨h1,h2⟩,⟨h3,h4⟩,h5,h6⟩;exact ⟨⟨⟨⟨⟨h1,h2⟩,h3⟩,h4⟩,h5⟩,h6⟩
theorem Kb (s : List UInt8) : Go.Gar.Fn Tryz.prog 134 [.s s] (.b (decide (1 ≤ s.length ∧ s.length ≤ 20))):=by
 refine zF A6 Tryz.func134 ?_
 by_cases h1 : 1 ≤ s.length
 ·have f1 : decide ((s.length : Int) ≥ 1) = true:=decide_eq_true (by omega)
  by_cases h2 : s.length ≤ 20
  ·have f2 : decide ((s.length : Int) ≤ 20) = true:=decide_eq_true (by omega);rw [decide_eq_true (show 1 ≤ s.length ∧ s.length ≤ 20 from ⟨h1,h2⟩)];refine wk [0,2] [] (Aj f1 f2) A0 ?_;exact zE
  ·have f2 : decide ((s.length : Int) ≤ 20) = false:=decide_eq_false (by omega);rw [decide_eq_false (show ¬ (1 ≤ s.length ∧ s.length ≤ 20) from fun h => h2 h.2)];refine wk [0,2] [] (Aj f1 f2) A0 ?_;exact zE
 ·have f1 : decide ((s.length : Int) ≥ 1) = false:=decide_eq_false (by omega);rw [decide_eq_false (show ¬ (1 ≤ s.length ∧ s.length ≤ 20) from fun h => h1 h.1)];refine wk [0,2] [] (AF f1) A0 ?_;exact zE
theorem Fw (n : Int) : Go.Gar.Fn Tryz.prog 135 [.i .i64 n] (.b (decide (0 ≤ n ∧ n ≤ 1048576))):=by
 refine zF A6 Tryz.func135 ?_;refine wk [0,2] [] A0 A0 ?_;with_reducible repeat' first|constructor|intro hc;try simp only[AD] at hc
 all_goals (refine ⟨_,_,rfl,rfl,?_⟩;simp_all [BN] <;> omega)
theorem Iq (x : Item) : Go.Gar.Fn Tryz.prog 50 [x.d] (.b x.may):=by
 obtain ⟨k,v,n,g⟩:=x;have c1:=Kb k;have c2:=Fw v;have c3:=Fw n;have hm:=dl ⟨k,v,n,g⟩;refine zF A6 Tryz.func50 ?_;refine wk [0,1,2] [] A0 (Dl @c1 @c2 @c3) ?_;with_reducible repeat' first|constructor|intro hc;try simp only[AD] at hc
 all_goals (refine ⟨_,_,rfl,rfl,?_⟩;simp_all [BN,Item.may] <;> omega)
theorem IY (x : Item) : Go.Gar.Fn Tryz.prog 26 [x.d] (.b x.may):=by
 obtain ⟨k,v,n,g⟩:=x;refine zF A6 Tryz.func26 ?_;refine wk [0,1,2] [] A0 A0 ?_;with_reducible repeat' first|constructor|intro hc;try simp only[AD] at hc
 all_goals (refine ⟨_,_,rfl,rfl,?_⟩;simp_all [BN,Item.may] <;> omega)
end Go.Proofs.YtkljbfejbakooaaGreatDoor
namespace Go.Proofs.YtkljbfejbakooaaGreatDoor
namespace Wi
open Go.Gar
set_option maxRecDepth 4000
structure A8 where
 kind : Int
 call : Int
 src : Int
 dst : Int
 key : Int
 slow : Bool
 done : Bool
 place : Int
 pred : Int
 list : List Int
 item : Item
 code : Int
 deriving DecidableEq
def A8.cells (m : A8) : List D:=[.i .u8 m.kind,.i .i64 m.call,.i .i64 m.src,.i .i64 m.dst,.i .i64 m.key,.b m.slow,.b m.done,.i .i64 m.place,.i .i64 m.pred,.is m.list,.s m.item.key,.i .i64 m.item.value,.i .i64 m.item.version,.b m.item.gone,.i .i64 m.code]
def A8.d (m : A8) : D:=.agg m.cells
def AC : A8:=⟨0,0,0,0,0,false,false,0,0,[],AE,0⟩
def B7 (n : Int) : Bool:=decide (0 ≤ n) && decide (n < 65536)
theorem Cb (n : Int) : Go.Gar.Fn Tryz.prog 63 [.i .i64 n] (.b (B7 n)):=by
 refine zF A6 Tryz.func63 ?_;refine wk [0,2] [] A0 A0 ?_;with_reducible repeat' first|constructor|intro hc;try simp only[AD] at hc
 all_goals (refine ⟨_,_,rfl,rfl,?_⟩;simp_all [BN,B7] <;> omega)
theorem LV (n : Int) : Go.Gar.Fn Tryz.prog 140 [.i .i64 n] (.b (B7 n)):=by
 refine zF A6 Tryz.func140 ?_;refine wk [0,2] [] A0 A0 ?_;with_reducible repeat' first|constructor|intro hc;try simp only[AD] at hc
 all_goals (refine ⟨_,_,rfl,rfl,?_⟩;simp_all [BN,B7] <;> omega)
def A8.asks (m : A8) : Bool:=decide (1 ≤ m.kind) && decide (m.kind ≤ 6)
theorem Nv (m : A8) : Go.Gar.Fn Tryz.prog 20 [m.d] (.b m.asks):=by
 obtain ⟨k,c,s,d,ky,sl,dn,pl,pr,l,⟨ik,iv,ir,ig⟩,co⟩:=m;refine zF A6 Tryz.func20 ?_;refine wk [0,1,2] [] A0 A0 ?_;with_reducible repeat' first|constructor|intro hc;try simp only[AD] at hc
 all_goals (refine ⟨_,_,rfl,rfl,?_⟩;simp_all [BN,A8.asks] <;> omega)
theorem Ki (m : A8) : Go.Gar.Fn Tryz.prog 44 [m.d] (.b m.asks):=by
 obtain ⟨k,c,s,d,ky,sl,dn,pl,pr,l,⟨ik,iv,ir,ig⟩,co⟩:=m;refine zF A6 Tryz.func44 ?_;refine wk [0,1,2] [] A0 A0 ?_;with_reducible repeat' first|constructor|intro hc;try simp only[AD] at hc
 all_goals (refine ⟨_,_,rfl,rfl,?_⟩;simp_all [BN,A8.asks] <;> omega)
def A8.asker (m : A8) : Int:=if m.asks then m.src else m.dst
theorem XM (m : A8) : Go.Gar.Fn Tryz.prog 64 [m.d] (.i .i64 m.asker):=by
 have h:=Nv m
 by_cases e : m.asks = true
 ·rw [e] at h;have e2 : m.asker = m.src:=if_pos e;obtain ⟨k,c,s,d,ky,sl,dn,pl,pr,l,⟨ik,iv,ir,ig⟩,co⟩:=m;refine zF A6 Tryz.func64 ?_;refine wk [0,1,2,4] [] A0 (AF @h) ?_;refine ⟨_,_,rfl,rfl,?_⟩;simp [AR,AB,A7,A4,e2]
 ·have e : m.asks = false:=by simpa using e
  rw [e] at h;have e2 : m.asker = m.dst:=if_neg (by simp [e]);obtain ⟨k,c,s,d,ky,sl,dn,pl,pr,l,⟨ik,iv,ir,ig⟩,co⟩:=m;refine zF A6 Tryz.func64 ?_;refine wk [0,1,2,4] [] A0 (AF @h) ?_;refine ⟨_,_,rfl,rfl,?_⟩;simp [AR,AB,A7,A4,e2]
theorem Wz (m : A8) : Go.Gar.Fn Tryz.prog 200 [m.d] (.i .i64 m.asker):=by
 have h:=Ki m
 by_cases e : m.asks = true
 ·rw [e] at h;have e2 : m.asker = m.src:=if_pos e;obtain ⟨k,c,s,d,ky,sl,dn,pl,pr,l,⟨ik,iv,ir,ig⟩,co⟩:=m;refine zF A6 Tryz.func200 ?_;refine wk [0,1,2,4] [] A0 (AF @h) ?_;refine ⟨_,_,rfl,rfl,?_⟩;simp [AR,AB,A7,A4,e2]
 ·have e : m.asks = false:=by simpa using e
  rw [e] at h;have e2 : m.asker = m.dst:=if_neg (by simp [e]);obtain ⟨k,c,s,d,ky,sl,dn,pl,pr,l,⟨ik,iv,ir,ig⟩,co⟩:=m;refine zF A6 Tryz.func200 ?_;refine wk [0,1,2,4] [] A0 (AF @h) ?_;refine ⟨_,_,rfl,rfl,?_⟩;simp [AR,AB,A7,A4,e2]
def B2 (s : List UInt8) : Bool:=decide ((s.length : Int) ≥ 1) && decide ((s.length : Int) ≤ 20)
def isVal (n : Int) : Bool:=decide (0 ≤ n) && decide (n ≤ 1048576)
def AU (x : Item) : Bool:=B2 x.key && isVal x.value && isVal x.version
theorem Kb (s : List UInt8) : Go.Gar.Fn Tryz.prog 134 [.s s] (.b (B2 s)):=by
 refine zF A6 Tryz.func134 ?_
 by_cases h : (s.length : Int) ≥ 1
 ·refine wk [0,2] [] A0 A0 ?_;with_reducible repeat' first|constructor|intro hc;try simp only[AD] at hc
  all_goals (refine ⟨_,_,rfl,rfl,?_⟩;simp only [BN,B2,h,decide_true,Bool.true_and])
 ·refine wk [0,2] [] A0 A0 ?_;with_reducible repeat' first|constructor|intro hc;try simp only[AD] at hc
  all_goals (refine ⟨_,_,rfl,rfl,?_⟩;simp only [BN,B2,h,decide_false,Bool.false_and])
theorem Fw (n : Int) : Go.Gar.Fn Tryz.prog 135 [.i .i64 n] (.b (isVal n)):=by
 refine zF A6 Tryz.func135 ?_;refine wk [0,2] [] A0 A0 ?_;with_reducible repeat' first|constructor|intro hc;try simp only[AD] at hc
 all_goals (refine ⟨_,_,rfl,rfl,?_⟩;simp_all [BN,isVal] <;> omega)
abbrev JW : List Nat:=[0,1,2,3,4,5,12,17,30]
abbrev JX : List Nat:=[0,1,4,5,10,12,13,14,24]
variable {k : Nat}
theorem Sl {a b : List Int} (hka : k < a.length) (h2 : k < b.length) (hpre : a.take k = b.take k) : (a.getD k 0 = b.getD k 0) ↔ a.take (k + 1) = b.take (k + 1):=by
 rw [List.take_succ_eq_append_getElem hka,List.take_succ_eq_append_getElem h2,hpre,List.getD_eq_getElem?_getD,List.getD_eq_getElem?_getD,List.getElem?_eq_getElem hka,List.getElem?_eq_getElem h2];exact ⟨fun e => congrArg (fun z => List.take k b ++ [z]) e,fun e => (List.cons.inj (List.append_cancel_left e)).1⟩
theorem bE (a b : A8) (ha : a.list.length ≤ 9223372036854775807) : Go.Gar.Fn Tryz.prog 65 [a.d,b.d] (.b (decide (a = b))):=by
 obtain ⟨k,c,s,d,ky,sl,dn,pl,pr,l,⟨ik,iv,ir,ig⟩,co⟩:=a;obtain ⟨k',c',s',d',ky',sl',dn',pl',pr',l',⟨ik',iv',ir',ig'⟩,co'⟩:=b;have ha : l.length ≤ 9223372036854775807:=ha;have hI:=Gw ⟨ik,iv,ir,ig⟩ ⟨ik',iv',ir',ig'⟩;refine zF A6 Tryz.func65 ?_
 by_cases hl : l.length = l'.length
 ·refine wd JW [] [] A0 A0 ?_;with_reducible repeat' first|constructor|intro hc;try simp only[AD] at hc
  refine Ac (fun k => k ≤ l.length ∧ l.take k = l'.take k) (fun j : Nat => ⟨[(2,.ptr 0 0 15),(3,.ptr 1 0 15),(5,.d (.i .i64 j))],[.c ((A8.mk k c s d ky sl dn pl pr l ⟨ik,iv,ir,ig⟩ co).cells.map .d),.c ((A8.mk k' c' s' d' ky' sl' dn' pl' pr' l' ⟨ik',iv',ir',ig'⟩ co').cells.map .d)],106⟩) (fun k => l.length - k) 0 ⟨Nat.zero_le _,by simp⟩ ?_ (Nat.le_refl _) ?_
  ·exact A3.ck rfl
  rintro j ⟨hk,hpre⟩;simp only [A8.cells,List.map_cons,List.map_nil]
  by_cases hka : j < l.length
  ·have hab:=Sl hka (by omega) hpre;refine wd JW [] [] A0 A0 ?_;with_reducible repeat' first|constructor|intro hc;try simp only[AD] at hc
   ·have : l ≠ l':=fun e => by subst e;exact hc rfl
    refine ⟨_,_,rfl,rfl,?_⟩;simp [AR,AB,A7,A4,this]
   ·refine ⟨j + 1,⟨hka,hab.1 hc⟩,by omega,Nat.le_refl _,?_⟩;simp only [A8.cells,List.map_cons,List.map_nil];exact A3.ck rfl
  ·have : l = l':=by
    have e : j = l.length:=by omega
    subst e;rwa [List.take_length,hl,List.take_length] at hpre
   subst this;refine wd JW [] [] (AF hI) A0 ?_;with_reducible repeat' first|constructor|intro hc;try simp only[AD] at hc
   all_goals (clear ha hl hk hpre hka;refine ⟨_,_,rfl,rfl,?_⟩;simp_all [BN,DK])
 ·have : l ≠ l':=fun e => hl (by rw [e]);refine wd JW [] [] A0 A0 ?_;with_reducible repeat' first|constructor|intro hc;try simp only[AD] at hc
  refine ⟨_,_,rfl,rfl,?_⟩;simp [AR,AB,A7,A4,this]
theorem WW (a b : List Int) (ha : a.length < 9223372036854775807) : Go.Gar.Fn Tryz.prog 281 [.is a,.is b] (.b (decide (a = b))):=by
 refine zF A6 Tryz.func281 ?_
 by_cases hl : a.length = b.length
 ·refine wd JX [] [] A0 A0 ?_;with_reducible repeat' first|constructor|intro hc;try simp only[AD] at hc
  refine Ac (fun k => k ≤ a.length ∧ a.take k = b.take k) (fun k : Nat => ⟨[(0,.d (.is a)),(1,.d (.is b)),(12,.d (.i .i64 a.length)),(13,.d (.i .i64 k))],[],26⟩) (fun k => a.length - k) 0 ⟨Nat.zero_le _,by simp⟩ ?_ (Nat.le_refl _) ?_
  ·exact A3.ck rfl
  rintro k ⟨hk,hpre⟩
  by_cases hka : k < a.length
  ·have hab:=Sl hka (by omega) hpre;refine wd JX [] [] A0 A0 ?_;with_reducible repeat' first|constructor|intro hc;try simp only[AD] at hc
   ·have : a ≠ b:=fun e => by subst e;exact hc rfl
    refine ⟨_,_,rfl,rfl,?_⟩;simp [AR,AB,A7,A4,this]
   ·refine ⟨k + 1,⟨hka,hab.1 hc⟩,by omega,Nat.le_refl _,?_⟩;exact A3.ck rfl
  ·have : a = b:=by
    have e : k = a.length:=by omega
    subst e;rwa [List.take_length,hl,List.take_length] at hpre
   refine wd JX [] [] A0 A0 ?_;with_reducible repeat' first|constructor|intro hc;try simp only[AD] at hc
   refine ⟨_,_,rfl,rfl,?_⟩;simp [AR,AB,A7,A4,this]
 ·have : a ≠ b:=fun e => hl (by rw [e]);refine wd JX [] [] A0 A0 ?_;with_reducible repeat' first|constructor|intro hc;try simp only[AD] at hc
  refine ⟨_,_,rfl,rfl,?_⟩;simp [AR,AB,A7,A4,this]
def Tp (l : List Int) (x : Int) : Int:=if x ∈ l then (l.idxOf x : Nat) else -1
variable {l : List Int}
theorem Za {x : Int} (hk : k < l.length) (hpre : x ∉ l.take k) (h : x = l.getD k 0) : x ∈ l ∧ l.idxOf x = k:=by
 rw [List.getD_eq_getElem?_getD,List.getElem?_eq_getElem hk] at h;simp only [Option.getD_some] at h;have hm : x ∈ l:=by rw [h];exact List.getElem_mem hk
 refine ⟨hm,?_⟩;have e : l = l.take k ++ (l[k] :: l.drop (k + 1)):=by rw [← List.drop_eq_getElem_cons hk,List.take_append_drop]
 have hi : l.idxOf x = (l.take k ++ (l[k] :: l.drop (k + 1))).idxOf x:=by rw [← e]
 rw [hi,List.idxOf_append,if_neg hpre,← h,List.idxOf_cons_self,List.length_take];omega
theorem ab {x : Int} (hk : k < l.length) (hpre : x ∉ l.take k) (h : ¬ x = l.getD k 0) : x ∉ l.take (k + 1):=by
 rw [List.take_succ_eq_append_getElem hk,List.mem_append];rw [List.getD_eq_getElem?_getD,List.getElem?_eq_getElem hk] at h;simp at h;rintro (h1 | h1)
 ·exact hpre h1
 ·simp at h1;exact h h1
theorem Zp (l : List Int) (x : Int) (hl : l.length < 9223372036854775807) : Go.Gar.Fn Tryz.prog 346 [.is l,.i .i64 x] (.i .i64 (Tp l x)):=by
 refine zF A6 Tryz.func346 ?_;refine wk [0,1,4,5,7,8,9,16] [] A0 A0 ?_;refine Ac (fun k => k ≤ l.length ∧ x ∉ l.take k) (fun k : Nat => ⟨[(0,.d (.is l)),(1,.d (.i .i64 x)),(7,.d (.i .i64 l.length)),(8,.d (.i .i64 k))],[],19⟩) (fun k => l.length - k) 0 ⟨Nat.zero_le _,by simp⟩ ?_ (Nat.le_refl _) ?_
 ·exact A3.ck rfl
 rintro k ⟨hk,hpre⟩
 by_cases hkl : k < l.length
 ·refine wk [0,1,4,5,7,8,9,16] [] A0 A0 ?_;with_reducible repeat' first|constructor|intro hc;try simp only[AD] at hc
  ·obtain ⟨h1,h2⟩:=Za hkl hpre hc;have e : Tp l x = (k : Nat):=by unfold Tp;rw [if_pos h1,h2]
   refine ⟨_,_,rfl,rfl,?_⟩;simp [AR,AB,A7,A4,e]
  ·refine ⟨k + 1,⟨hkl,ab hkl hpre hc⟩,by omega,Nat.le_refl _,?_⟩;exact A3.ck rfl
 ·have e : k = l.length:=by omega
  have e2 : Tp l x = -1:=by unfold Tp;rw [if_neg];rwa [e,List.take_length] at hpre
  refine wk [0,1,4,5,7,8,9,16] [] A0 A0 ?_;with_reducible repeat' first|constructor|intro hc;try simp only[AD] at hc
  refine ⟨_,_,rfl,rfl,?_⟩;simp [AR,AB,A7,A4,e2]
theorem RX (l : List Int) (x : Int) (hl : l.length < 9223372036854775807) : Go.Gar.Fn Tryz.prog 303 [.is l,.i .i64 x] (.b (decide (x ∈ l))):=by
 have hi:=Zp l x hl;refine zF A6 Tryz.func303 ?_;refine wk [0,1,4] [] A0 (AF @hi) ?_
 have e : decide (Tp l x ≥ 0) = decide (x ∈ l):=by
  unfold Tp
  by_cases h : x ∈ l <;> simp [h]
 refine ⟨_,_,rfl,rfl,?_⟩;simp [AR,AB,A7,A4,e]
end Wi
end Go.Proofs.YtkljbfejbakooaaGreatDoor
