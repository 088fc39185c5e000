/- Part 18 of the texts of this proof, put together by a program and made short.
Conditions: none; what each theorem asks stands in its own hypotheses. -/
import Derived.Test.YtagnjflbhjmefaaGreatRb17
import Derived.KernelRfl
import Derived.RangeFuncIn
import Derived.Sort.Grow
import Derived.Laws.Cover3
import Derived.RecoverIn
import Derived.ProofKit
import Derived.OpenShut
import Derived.CallsIn
import Derived.RangeFuncLeaves
import Derived.OrdersIn
import Derived.TacticsIn
import Derived.ChangeKeysEq
import Derived.Laws.AppendOwn
import Derived.Laws.OwnMore
import Derived.Laws.MakeOwn
import Derived.Laws.Rows
import Derived.Laws.Cells
import Derived.Laws.Tables
import Derived.Laws.CopyRow
import Derived.Laws.Strings
import Derived.Laws.IdiomStrings
import Derived.Laws.BytesArg
import Derived.Test.YtagnjflbhjmefaaGreatProg
set_option linter.unusedSimpArgs false
set_option linter.unusedVariables false
set_option linter.unnecessarySimpa false
set_option maxHeartbeats 40000000
namespace Go.Proofs.YtagnjflbhjmefaaGreat
open Go.Gar
set_option maxRecDepth 4000
def Dp (id best b : Int) : Int:=if b ≠ id ∧ (best < 0 ∨ AK id b < AK id best) then b else best
def EN (id : Int) (l : List Int) : Int:=l.foldl (Dp id) (-1)
def IB (key out b : Int) : Int:=if AK key b < AK key out then Bm b else out
def TW (key : Int) : List Int → Int
 | [] => 0
 | a :: l => (a :: l).foldl (IB key) (Bm a)
theorem Kr {α : Type} (g : α → Int → α) (s : α) {l : List Int} {k : Nat} {p : Int} (hp : l[k]? = some p) : (l.take (k + 1)).foldl g s = g ((l.take k).foldl g s) p:=by
 rw [AR hp,List.foldl_append];rfl
theorem Sa (v : View) (hb : v.base.length ≤ 100000) : Go.Gar.Fn Tryz.prog 124 [v.d] (.i .i64 (EN v.id v.base)):=by
 obtain ⟨id,base,list,pred,f⟩:=v
 replace hb : base.length ≤ 100000:=hb
 show Go.Gar.Fn _ _ _ (.i .i64 (EN id base))
 refine A3 A8 Tryz.func124 rfl rfl (Nat.le_of_ble_eq_true rfl) ?_
 have nS:=True.intro;obtain ⟨lv,st,ns,nc⟩:=wq [0,1,2,3,5,7,8,9,10,31] [];have pr : AC []:=trivial;refine wd ?_;clear nc ns st lv pr;repeat' (first|with_reducible constructor|(with_reducible intro hc;try simp only[A1] at hc))
 refine Aq (fun k => k ≤ base.length) (fun k : Nat => ⟨[(1,.ptr 0 0 20),(3,.d (.i .i64 ((base.take k).foldl (Dp id) (-1)))),(7,.d (.is base)),(8,.d (.i .i64 base.length)),(9,.d (.i .i64 k))],[.c (vC id base list pred f)],35⟩) (fun k => base.length - k) 0 (Nat.zero_le _) ?_ (Nat.le_refl _) ?_
 ·exact A0.ck rfl
 intro k hk
 unfold vC
 by_cases hkl : k < base.length
 ·obtain ⟨p,hp⟩:=AG hkl
  have gp:=AY hp
  have hs:=Kr (Dp id) (-1) hp
  generalize hB : (base.take k).foldl (Dp id) (-1) = best at *
  have c1:=IV id p
  have c2:=IV id best
  by_cases h1 : p = id
  ·have f1:=Bb h1
   have hs' : (base.take (k + 1)).foldl (Dp id) (-1) = best:=by rw [hs];simp [Dp,h1]
   have nS:=And.intro gp f1;obtain ⟨lv,st,ns,nc⟩:=wq [0,1,2,3,5,7,8,9,10,31] [];have c1:=@c1;have c2:=@c2;have pr : AC []:=trivial;refine wd ?_;clear nc ns st lv pr c2 c1;repeat' (first|with_reducible constructor|(with_reducible intro hc;try simp only[A1] at hc))
   refine ⟨k + 1,hkl,by omega,Nat.le_refl _,?_⟩
   exact A0.cut rfl (by repeat' (first | exact True.intro | refine And.intro (by (first | rfl | ((with_reducible_and_instances refine congrArg (fun z => some (AV.d (D.i _ z))) ?_);omega) | (refine congrArg (fun z => some (AV.d (D.i _ z))) (?_ : (_ : Int) = _);omega) | (refine congrArg some ?_;simp only [hs'];done) | (refine congrArg some ?_;simp [hs'];done))) ?_)) (by repeat' (first | exact True.intro | refine And.intro (Or.inr rfl) ?_ | refine And.intro (Or.inl ⟨rfl,rfl⟩) ?_ | refine And.intro (Or.inr (by simp only [hs'])) ?_ | refine And.intro (Or.inr (by simp [hs'])) ?_)) (by first | rfl | (simp (decide:=true) [AT,A7.ok,AV.oks,AV.ok,hk];done)) rfl
  have f1:=Be h1
  by_cases h2 : best < 0
  ·have f2 : decide (best < 0) = true:=decide_eq_true h2
   have hs' : (base.take (k + 1)).foldl (Dp id) (-1) = p:=by rw [hs];simp [Dp,h1,h2]
   have nS:=And.intro gp (And.intro f1 f2);obtain ⟨lv,st,ns,nc⟩:=wq [0,1,2,3,5,7,8,9,10,31] [];have c1:=@c1;have c2:=@c2;have pr : AC []:=trivial;refine wd ?_;clear nc ns st lv pr c2 c1;repeat' (first|with_reducible constructor|(with_reducible intro hc;try simp only[A1] at hc))
   refine ⟨k + 1,hkl,by omega,Nat.le_refl _,?_⟩
   exact A0.cut rfl (by repeat' (first | exact True.intro | refine And.intro (by (first | rfl | ((with_reducible_and_instances refine congrArg (fun z => some (AV.d (D.i _ z))) ?_);omega) | (refine congrArg (fun z => some (AV.d (D.i _ z))) (?_ : (_ : Int) = _);omega) | (refine congrArg some ?_;simp only [hs'];done) | (refine congrArg some ?_;simp [hs'];done))) ?_)) (by repeat' (first | exact True.intro | refine And.intro (Or.inr rfl) ?_ | refine And.intro (Or.inl ⟨rfl,rfl⟩) ?_ | refine And.intro (Or.inr (by simp only [hs'])) ?_ | refine And.intro (Or.inr (by simp [hs'])) ?_)) (by first | rfl | (simp (decide:=true) [AT,A7.ok,AV.oks,AV.ok,hk];done)) rfl
  have f2 : decide (best < 0) = false:=decide_eq_false h2
  by_cases h3 : AK id p < AK id best
  ·have f3 : decide (AK id p < AK id best) = true:=decide_eq_true h3
   have hs' : (base.take (k + 1)).foldl (Dp id) (-1) = p:=by rw [hs];simp [Dp,h1,h3]
   have nS:=And.intro gp (And.intro f1 (And.intro f2 f3));obtain ⟨lv,st,ns,nc⟩:=wq [0,1,2,3,5,7,8,9,10,31] [];have c1:=@c1;have c2:=@c2;have pr : AC []:=trivial;refine wd ?_;clear nc ns st lv pr c2 c1;repeat' (first|with_reducible constructor|(with_reducible intro hc;try simp only[A1] at hc))
   refine ⟨k + 1,hkl,by omega,Nat.le_refl _,?_⟩
   exact A0.cut rfl (by repeat' (first | exact True.intro | refine And.intro (by (first | rfl | ((with_reducible_and_instances refine congrArg (fun z => some (AV.d (D.i _ z))) ?_);omega) | (refine congrArg (fun z => some (AV.d (D.i _ z))) (?_ : (_ : Int) = _);omega) | (refine congrArg some ?_;simp only [hs'];done) | (refine congrArg some ?_;simp [hs'];done))) ?_)) (by repeat' (first | exact True.intro | refine And.intro (Or.inr rfl) ?_ | refine And.intro (Or.inl ⟨rfl,rfl⟩) ?_ | refine And.intro (Or.inr (by simp only [hs'])) ?_ | refine And.intro (Or.inr (by simp [hs'])) ?_)) (by first | rfl | (simp (decide:=true) [AT,A7.ok,AV.oks,AV.ok,hk];done)) rfl
  ·have f3 : decide (AK id p < AK id best) = false:=decide_eq_false h3
   have hs' : (base.take (k + 1)).foldl (Dp id) (-1) = best:=by rw [hs];simp [Dp,h2,h3]
   have nS:=And.intro gp (And.intro f1 (And.intro f2 f3));obtain ⟨lv,st,ns,nc⟩:=wq [0,1,2,3,5,7,8,9,10,31] [];have c1:=@c1;have c2:=@c2;have pr : AC []:=trivial;refine wd ?_;clear nc ns st lv pr c2 c1;repeat' (first|with_reducible constructor|(with_reducible intro hc;try simp only[A1] at hc))
   refine ⟨k + 1,hkl,by omega,Nat.le_refl _,?_⟩
   exact A0.cut rfl (by repeat' (first | exact True.intro | refine And.intro (by (first | rfl | ((with_reducible_and_instances refine congrArg (fun z => some (AV.d (D.i _ z))) ?_);omega) | (refine congrArg (fun z => some (AV.d (D.i _ z))) (?_ : (_ : Int) = _);omega) | (refine congrArg some ?_;simp only [hs'];done) | (refine congrArg some ?_;simp [hs'];done))) ?_)) (by repeat' (first | exact True.intro | refine And.intro (Or.inr rfl) ?_ | refine And.intro (Or.inl ⟨rfl,rfl⟩) ?_ | refine And.intro (Or.inr (by simp only [hs'])) ?_ | refine And.intro (Or.inr (by simp [hs'])) ?_)) (by first | rfl | (simp (decide:=true) [AT,A7.ok,AV.oks,AV.ok,hk];done)) rfl
 ·have e : k = base.length:=by omega
  subst e
  rw [List.take_length]
  have nS:=True.intro;obtain ⟨lv,st,ns,nc⟩:=wq [0,1,2,3,5,7,8,9,10,31] [];have pr : AC []:=trivial;refine wd ?_;clear nc ns st lv pr;repeat' (first|with_reducible constructor|(with_reducible intro hc;try simp only[A1] at hc))
  refine ⟨_,_,rfl,rfl,?_⟩;simp [AH,A6,A5,A4,EN]
theorem UY (l : List Int) (key : Int) (hk : i64 key) (hl : ∀ y ∈ l,i64 y) (hn : l.length ≤ 100000) : Go.Gar.Fn Tryz.prog 72 [.is l,.i .i64 key] (.tup [.i .i64 (TW key l),.b (decide (l ≠ []))]):=by
 refine A3 A8 Tryz.func72 rfl rfl (Nat.le_of_ble_eq_true rfl) ?_
 cases l with
 | nil =>
  have nS:=True.intro;obtain ⟨lv,st,ns,nc⟩:=wq [0,1,4,5,6,7,10,18,30] [];refine wk ?_;clear nc ns st lv;repeat' (first|with_reducible constructor|(with_reducible intro hc;try simp only[A1] at hc))
  refine ⟨_,_,rfl,rfl,?_⟩;simp [AH,A6,A5,A4,TW]
 | cons a l =>
 have fa : decide (((a :: l).length : Int) = 0) = false:=decide_eq_false (by simp only [List.length_cons];omega)
 have gA : (a :: l).getD 0 0 = a:=rfl
 have ca:=BM a (hl a (List.mem_cons_self ..))
 have hO : TW key (a :: l) = (a :: l).foldl (IB key) (Bm a):=rfl
 have hd : decide ((a :: l) ≠ []) = true:=rfl
 rw [hO,hd]
 have hla : (a :: l).length = l.length + 1:=rfl
 generalize hL : a :: l = m at *
 have h0 : (0 : Int) < m.length:=by omega
 have nS:=And.intro fa gA;obtain ⟨lv,st,ns,nc⟩:=wq [0,1,4,5,6,7,10,18,30] [];have c1:=@ca;refine wk ?_;clear nc ns st lv c1;repeat' (first|with_reducible constructor|(with_reducible intro hc;try simp only[A1] at hc))
 refine Aq (fun k => k ≤ m.length ∧ i64 ((m.take k).foldl (IB key) (Bm a))) (fun k : Nat => ⟨[(0,.d (.is m)),(1,.d (.i .i64 key)),(6,.d (.i .i64 ((m.take k).foldl (IB key) (Bm a)))),(7,.d (.i .i64 k))],[],37⟩) (fun k => m.length - k) 0 ⟨Nat.zero_le _,by have:=IX a;unfold i64;simp only [List.take_zero,List.foldl_nil];omega⟩ ?_ (Nat.le_refl _) ?_
 ·exact A0.ck rfl
 rintro k ⟨hk',hi⟩
 by_cases hkl : k < m.length
 ·obtain ⟨p,hp⟩:=AG hkl
  have gp:=AY hp
  have hs:=Kr (IB key) (Bm a) hp
  have hip:=hl p (List.mem_of_getElem? hp)
  generalize hB : (m.take k).foldl (IB key) (Bm a) = out at *
  have c1:=GT key p hk hip
  have c2:=GT key out hk hi
  have c3:=BM p hip
  by_cases h3 : AK key p < AK key out
  ·have f3 : decide (AK key p < AK key out) = true:=decide_eq_true h3
   have hs' : (m.take (k + 1)).foldl (IB key) (Bm a) = Bm p:=by rw [hs];simp [IB,h3]
   have nS:=And.intro gp f3;obtain ⟨lv,st,ns,nc⟩:=wq [0,1,4,5,6,7,10,18,30] [];have c1:=@c1;have c2:=@c2;have c3:=@c3;refine wk ?_;clear nc ns st lv c3 c2 c1;repeat' (first|with_reducible constructor|(with_reducible intro hc;try simp only[A1] at hc))
   refine ⟨k + 1,⟨hkl,by rw [hs'];have:=IX p;unfold i64;omega⟩,by omega,Nat.le_refl _,?_⟩
   exact A0.cut rfl (by repeat' (first | exact True.intro | refine And.intro (by (first | rfl | ((with_reducible_and_instances refine congrArg (fun z => some (AV.d (D.i _ z))) ?_);omega) | (refine congrArg (fun z => some (AV.d (D.i _ z))) (?_ : (_ : Int) = _);omega) | (refine congrArg some ?_;simp only [hs'];done) | (refine congrArg some ?_;simp [hs'];done))) ?_)) (by repeat' (first | exact True.intro | refine And.intro (Or.inr rfl) ?_ | refine And.intro (Or.inl ⟨rfl,rfl⟩) ?_ | refine And.intro (Or.inr (by simp only [hs'])) ?_ | refine And.intro (Or.inr (by simp [hs'])) ?_)) (by first | rfl | (simp (decide:=true) [AT,A7.ok,AV.oks,AV.ok,hk];done)) rfl
  ·have f3 : decide (AK key p < AK key out) = false:=decide_eq_false h3
   have hs' : (m.take (k + 1)).foldl (IB key) (Bm a) = out:=by rw [hs];simp [IB,h3]
   have nS:=And.intro gp f3;obtain ⟨lv,st,ns,nc⟩:=wq [0,1,4,5,6,7,10,18,30] [];have c1:=@c1;have c2:=@c2;refine wk ?_;clear nc ns st lv c2 c1;repeat' (first|with_reducible constructor|(with_reducible intro hc;try simp only[A1] at hc))
   refine ⟨k + 1,⟨hkl,by rw [hs'];exact hi⟩,by omega,Nat.le_refl _,?_⟩
   exact A0.cut rfl (by repeat' (first | exact True.intro | refine And.intro (by (first | rfl | ((with_reducible_and_instances refine congrArg (fun z => some (AV.d (D.i _ z))) ?_);omega) | (refine congrArg (fun z => some (AV.d (D.i _ z))) (?_ : (_ : Int) = _);omega) | (refine congrArg some ?_;simp only [hs'];done) | (refine congrArg some ?_;simp [hs'];done))) ?_)) (by repeat' (first | exact True.intro | refine And.intro (Or.inr rfl) ?_ | refine And.intro (Or.inl ⟨rfl,rfl⟩) ?_ | refine And.intro (Or.inr (by simp only [hs'])) ?_ | refine And.intro (Or.inr (by simp [hs'])) ?_)) (by first | rfl | (simp (decide:=true) [AT,A7.ok,AV.oks,AV.ok,hk];done)) rfl
 ·have e : k = m.length:=by omega
  subst e
  rw [List.take_length]
  have nS:=True.intro;obtain ⟨lv,st,ns,nc⟩:=wq [0,1,4,5,6,7,10,18,30] [];refine wk ?_;clear nc ns st lv;repeat' (first|with_reducible constructor|(with_reducible intro hc;try simp only[A1] at hc))
  refine ⟨_,_,rfl,rfl,?_⟩;simp [AH,A6,A5,A4]
theorem Pu {id best out b : Int} (hid : Ay id = true) (hb : Ay b = true) (h : (best = -1 ∧ out = id) ∨ (best = out ∧ best ≠ id ∧ Ay best = true)) :
  (Dp id best b = -1 ∧ IB (id + 1) out b = id) ∨ (Dp id best b = IB (id + 1) out b ∧ Dp id best b ≠ id ∧ Ay (Dp id best b) = true):=by
 have h1:=BN hid
 have h2:=BN hb
 rcases h with ⟨rfl,rfl⟩ | ⟨rfl,h3,h4⟩
 ·by_cases e : b = out
  ·subst e
   left
   refine ⟨by simp [Dp],?_⟩
   simp [IB]
  ·right
   have ea : Dp out (-1) b = b:=by simp [Dp,e]
   have eo : IB (out + 1) out b = b:=by
    unfold IB
    rw [if_pos (show AK (out + 1) b < AK (out + 1) out by unfold AK;omega)]
    unfold Bm;omega
   rw [ea,eo]
   exact ⟨rfl,e,hb⟩
 ·have h5:=BN h4
  right
  by_cases e : b = id
  ·subst e
   have ea : Dp b best b = best:=by simp [Dp]
   have eo : IB (b + 1) best b = best:=by
    unfold IB
    rw [if_neg (show ¬ AK (b + 1) b < AK (b + 1) best by unfold AK;omega)]
   rw [ea,eo]
   exact ⟨rfl,h3,h4⟩
  ·by_cases e2 : AK id b < AK id best
   ·have ea : Dp id best b = b:=by simp [Dp,e,e2]
    have eo : IB (id + 1) best b = b:=by
     unfold IB
     rw [if_pos (show AK (id + 1) b < AK (id + 1) best by unfold AK at *;omega)]
     unfold Bm;omega
    rw [ea,eo]
    exact ⟨rfl,e,hb⟩
   ·have hn : ¬ best < 0:=by omega
    have ea : Dp id best b = best:=by simp [Dp,e2,hn]
    have eo : IB (id + 1) best b = best:=by
     unfold IB
     rw [if_neg (show ¬ AK (id + 1) b < AK (id + 1) best by unfold AK at *;omega)]
    rw [ea,eo]
    exact ⟨rfl,h3,h4⟩
theorem WZ {id : Int} (hid : Ay id = true) : ∀ (l : List Int) (best out : Int),(∀ y ∈ l,Ay y = true) → ((best = -1 ∧ out = id) ∨ (best = out ∧ best ≠ id ∧ Ay best = true)) →
  ((l.foldl (Dp id) best = -1 ∧ l.foldl (IB (id + 1)) out = id) ∨ (l.foldl (Dp id) best = l.foldl (IB (id + 1)) out ∧ l.foldl (Dp id) best ≠ id ∧ Ay (l.foldl (Dp id) best) = true))
 | [],best,out,_,h => h
 | b :: l,best,out,hl,h => by
  simp only [List.foldl_cons]
  exact WZ hid l _ _ (fun y hy => hl y (List.mem_cons_of_mem _ hy)) (Pu hid (hl b (List.mem_cons_self ..)) h)
theorem WP {id : Int} (hid : Ay id = true) : ∀ (l : List Int) (best : Int),(∀ y ∈ l,Ay y = true) → best ≠ -1 → l.foldl (Dp id) best ≠ -1
 | [],best,_,h => h
 | b :: l,best,hl,h => by
  simp only [List.foldl_cons]
  refine WP hid l _ (fun y hy => hl y (List.mem_cons_of_mem _ hy)) ?_
  have:=BN (hl b (List.mem_cons_self ..))
  unfold Dp
  split <;> omega
theorem Mx {id : Int} (hid : Ay id = true) : ∀ (l : List Int) (best : Int),(∀ y ∈ l,Ay y = true) → (∃ y ∈ l,y ≠ id) → l.foldl (Dp id) best ≠ -1
 | [],best,_,⟨y,hy,_⟩ => by cases hy
 | b :: l,best,hl,⟨y,hy,hne⟩ => by
  simp only [List.foldl_cons]
  have hb:=BN (hl b (List.mem_cons_self ..))
  by_cases e : b = id
  ·rcases List.mem_cons.mp hy with rfl | hy
   ·exact absurd e hne
   ·exact Mx hid l _ (fun y hy => hl y (List.mem_cons_of_mem _ hy)) ⟨y,hy,hne⟩
  ·refine WP hid l _ (fun y hy => hl y (List.mem_cons_of_mem _ hy)) ?_
   unfold Dp
   split
   ·omega
   ·intro h
    rename_i h1
    exact h1 ⟨e,.inl (by omega)⟩
theorem Mu : ∀ (l : List Int) (f : Int),bT f l = true → ∀ y ∈ l,Ay y = true ∧ y > f
 | [],f,_,y,hy => by cases hy
 | a :: r,f,h,y,hy => by
  simp only [bT,Bool.and_eq_true,decide_eq_true_eq] at h
  rcases List.mem_cons.mp hy with rfl | hy
  ·exact h.1
  ·have:=Mu r a h.2 y hy
   exact ⟨this.1,by omega⟩
theorem GN {l : List Int} (h : BO l = true) : ∀ y ∈ l,Ay y = true:=by
 simp only [BO,Bool.and_eq_true] at h
 exact fun y hy => (Mu l _ h.2 y hy).1
theorem Ji {l : List Int} (h : BO l = true) (id : Int) : ∃ y ∈ l,y ≠ id:=by
 simp only [BO,Bool.and_eq_true,decide_eq_true_eq] at h
 match l,h with
 | a :: b :: r,h =>
  have h1:=Mu _ _ h.2
  have h2 : bT a (b :: r) = true:=by
   have:=h.2
   simp only [bT,Bool.and_eq_true] at this ⊢
   exact this.2
  have h3:=(Mu _ _ h2 b (List.mem_cons_self ..)).2
  by_cases e : a = id
  ·exact ⟨b,by simp,by omega⟩
  ·exact ⟨a,by simp,e⟩
 | [a],h => exact absurd h.1.1 (show ¬ 2 ≤ 1 by decide)
 | [],h => exact absurd h.1.1 (by decide)
theorem KI {id : Int} {l : List Int} (hid : Ay id = true) (h : BO l = true) : EN id l = TW (id + 1) l ∧ Ay (EN id l) = true ∧ EN id l ≠ id:=by
 have hp:=GN h
 have hs:=Mx hid l (-1) hp (Ji h id)
 match l with
 | [] => exact absurd rfl hs
 | a :: r =>
  have ha:=BN (hp a (List.mem_cons_self ..))
  have e : Bm a = a:=by unfold Bm;omega
  have h0 : IB (id + 1) a a = a:=by simp [IB,e]
  have hS : TW (id + 1) (a :: r) = r.foldl (IB (id + 1)) a:=by
   show (a :: r).foldl (IB (id + 1)) (Bm a) = _
   rw [e,List.foldl_cons,h0]
  have hA : EN id (a :: r) = r.foldl (Dp id) (Dp id (-1) a):=rfl
  rw [hS,hA]
  have hR : (Dp id (-1) a = -1 ∧ a = id) ∨ (Dp id (-1) a = a ∧ Dp id (-1) a ≠ id ∧ Ay (Dp id (-1) a) = true):=by
   by_cases e2 : a = id
   ·left;exact ⟨by simp [Dp,e2],e2⟩
   ·right
    have e3 : Dp id (-1) a = a:=by simp [Dp,e2]
    rw [e3]
    exact ⟨rfl,e2,hp a (List.mem_cons_self ..)⟩
  rcases WZ hid r _ _ (fun y hy => hp y (List.mem_cons_of_mem _ hy)) hR with h1 | h1
  ·exact absurd h1.1 hs
  ·exact ⟨h1.1,h1.2.2,h1.2.1⟩
def P5 (v : View) : Int:=if C1 v then EN v.id v.base else -1
theorem Hq {v : View} (h : C1 v = true) : Ay v.id = true ∧ BO v.base = true ∧ Bz v.id v.list = true ∧ EX v.id v.pred = true ∧ (Pb v.f).all (EX v.id) = true:=by
 simp only [C1,Bool.and_eq_true] at h
 exact ⟨h.1.1.1,h.1.1.2,h.1.2,h.2.1,h.2.2⟩
theorem RU (v : View) (hb : v.base.length ≤ 1000) (hl : v.list.length ≤ 1000) : Go.Gar.Fn Tryz.prog 70 [v.d] (.i .i64 (P5 v)):=by
 obtain ⟨id,base,list,pred,f⟩:=v
 have c1:=Re ⟨id,base,list,pred,f⟩ hb hl
 have c2:=Sa ⟨id,base,list,pred,f⟩ (by omega)
 refine A3 A8 Tryz.func70 rfl rfl (Nat.le_of_ble_eq_true rfl) ?_
 cases h : C1 ⟨id,base,list,pred,f⟩ with
 | false =>
  have hT : P5 ⟨id,base,list,pred,f⟩ = -1:=by unfold P5;rw [h];rfl
  rw [h] at c1
  have nS:=True.intro;obtain ⟨lv,st,ns,nc⟩:=wq [0,1,2,5] [];have c1:=@c1;refine wk ?_;clear nc ns st lv c1;repeat' (first|with_reducible constructor|(with_reducible intro hc;try simp only[A1] at hc))
  refine ⟨_,_,rfl,rfl,?_⟩;simp [AH,A6,A5,A4,hT]
 | true =>
  have hT : P5 ⟨id,base,list,pred,f⟩ = EN id base:=by unfold P5;rw [h];rfl
  rw [h] at c1
  rw [hT]
  have nS:=True.intro;obtain ⟨lv,st,ns,nc⟩:=wq [0,1,2,5] [];have c1:=@c1;have c2:=@c2;refine wk ?_;clear nc ns st lv c2 c1;repeat' (first|with_reducible constructor|(with_reducible intro hc;try simp only[A1] at hc))
  refine ⟨_,_,rfl,rfl,?_⟩;simp [AH,A6,A5,A4]
theorem PS (v : View) (hid : i64 v.id) (hli : ∀ y ∈ v.list,i64 y) (hb : v.base.length ≤ 1000) (hl : v.list.length ≤ 1000) : Go.Gar.Fn Tryz.prog 33 [v.d] (.i .i64 (P5 v)):=by
 obtain ⟨id,base,list,pred,f⟩:=v
 have c1:=Ki ⟨id,base,list,pred,f⟩ hid hli hb hl
 refine A3 A8 Tryz.func33 rfl rfl (Nat.le_of_ble_eq_true rfl) ?_
 cases h : C1 ⟨id,base,list,pred,f⟩ with
 | false =>
  have hT : P5 ⟨id,base,list,pred,f⟩ = -1:=by unfold P5;rw [h];rfl
  rw [h] at c1
  have nS:=True.intro;obtain ⟨lv,st,ns,nc⟩:=wq [0,1,2,3,7] [];have c1:=@c1;refine wk ?_;clear nc ns st lv c1;repeat' (first|with_reducible constructor|(with_reducible intro hc;try simp only[A1] at hc))
  refine ⟨_,_,rfl,rfl,?_⟩;simp [AH,A6,A5,A4,hT]
 | true =>
  have hT : P5 ⟨id,base,list,pred,f⟩ = EN id base:=by unfold P5;rw [h];rfl
  obtain ⟨r1,r2,-⟩:=Hq h
  replace r1 : Ay id = true:=r1
  replace r2 : BO base = true:=r2
  have r3:=BN r1
  have c2:=UY base (id + 1) (by unfold i64;omega) (fun y hy => by have:=BN (GN r2 y hy);unfold i64;omega) (by have : base.length ≤ 1000:=hb;omega)
  rw [← (KI r1 r2).1] at c2
  rw [h] at c1
  rw [hT]
  have nS:=True.intro;obtain ⟨lv,st,ns,nc⟩:=wq [0,1,2,3,7] [];have c1:=@c1;have c2:=@c2;refine wk ?_;clear nc ns st lv c2 c1;repeat' (first|with_reducible constructor|(with_reducible intro hc;try simp only[A1] at hc))
  refine ⟨_,_,rfl,rfl,?_⟩;simp [AH,A6,A5,A4]
theorem Up {id : Int} (hid : Ay id = true) : ∀ (l : List Int) (best : Int),(∀ y ∈ l,Ay y = true) → (best = -1 ∨ (Ay best = true ∧ best ≠ id)) →
  (∀ b,(b ∈ l ∨ (b = best ∧ best ≠ -1)) → b ≠ id → AK id (l.foldl (Dp id) best) ≤ AK id b) ∧ (l.foldl (Dp id) best = best ∨ l.foldl (Dp id) best ∈ l)
 | [],best,_,h => by
  refine ⟨fun b hb _ => ?_,.inl rfl⟩
  rcases hb with hb | hb
  ·cases hb
  ·rw [hb.1];exact Int.le_refl _
 | a :: l,best,hl,h => by
  simp only [List.foldl_cons]
  have ha:=hl a (List.mem_cons_self ..)
  have ha':=BN ha
  by_cases hc : a ≠ id ∧ (best < 0 ∨ AK id a < AK id best)
  ·have e : Dp id best a = a:=if_pos hc
   rw [e]
   obtain ⟨g1,g2⟩:=Up hid l a (fun y hy => hl y (List.mem_cons_of_mem _ hy)) (.inr ⟨ha,hc.1⟩)
   have g3:=g1 a (.inr ⟨rfl,by omega⟩) hc.1
   refine ⟨fun b hb hne => ?_,.inr (g2.elim (fun h => by rw [h];exact List.mem_cons_self ..) (List.mem_cons_of_mem _))⟩
   rcases hb with hb | ⟨rfl,hb⟩
   ·rcases List.mem_cons.1 hb with rfl | hb
    ·exact g3
    ·exact g1 b (.inl hb) hne
   ·rcases hc.2 with h3 | h3
    ·rcases h with h | h
     ·exact absurd h hb
     ·have:=BN h.1;omega
    ·omega
  ·have e : Dp id best a = best:=if_neg hc
   rw [e]
   obtain ⟨g1,g2⟩:=Up hid l best (fun y hy => hl y (List.mem_cons_of_mem _ hy)) h
   refine ⟨fun b hb hne => ?_,g2.elim .inl fun h => .inr (List.mem_cons_of_mem _ h)⟩
   rcases hb with hb | hb
   ·rcases List.mem_cons.1 hb with rfl | hb
    ·have h3 : ¬ (best < 0):=fun h4 => hc ⟨hne,.inl h4⟩
     have h5 : ¬ (AK id b < AK id best):=fun h4 => hc ⟨hne,.inr h4⟩
     have hbest : best ≠ -1:=by omega
     have h6:=h.resolve_left hbest
     have:=g1 best (.inr ⟨rfl,hbest⟩) h6.2
     omega
    ·exact g1 b (.inl hb) hne
   ·exact g1 b (.inr hb) hne
theorem SQ {id : Int} {l : List Int} (hid : Ay id = true) (h : BO l = true) : (∀ b ∈ l,b ≠ id → AK id (EN id l) ≤ AK id b) ∧ EN id l ∈ l:=by
 have hp:=GN h
 have hs:=Mx hid l (-1) hp (Ji h id)
 obtain ⟨h1,h2⟩:=Up hid l (-1) hp (.inl rfl)
 exact ⟨fun b hb hne => h1 b (.inl hb) hne,h2.resolve_left hs⟩
end Go.Proofs.YtagnjflbhjmefaaGreat
