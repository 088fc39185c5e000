/- Part 19 of the texts of this proof, put together by a program and made short.
Conditions: none; what each theorem asks stands in its own hypotheses. -/
import Derived.Test.YtnahkfkljohjaaaGreatDoorH15
import Derived.Test.YtnahkfkljohjaaaGreatDoorH18
import Derived.KernelRfl
import Derived.RangeFuncIn
import Derived.OpenShut
import Derived.ProofKit
import Derived.CallsIn
import Derived.RangeFuncLeaves
import Derived.OrdersIn
import Derived.TacticsIn
import Derived.ChangeKeysEq
import Derived.Laws.AppendOwn
import Derived.Laws.OwnMore
import Derived.Laws.MakeOwn
import Derived.Laws.Rows
import Derived.Laws.Cells
import Derived.Laws.Tables
import Derived.Laws.CopyRow
import Derived.Laws.Strings
import Derived.Laws.IdiomStrings
import Derived.Laws.BytesArg
import Derived.Sort.Grow
import Derived.Laws.Cover3
import Derived.RecoverIn
import Derived.Test.YtnahkfkljohjaaaGreatDoorProg
set_option linter.unusedSimpArgs false
set_option linter.unusedVariables false
set_option linter.unnecessarySimpa false
set_option maxHeartbeats 40000000
namespace Go.Proofs.YtnahkfkljohjaaaGreatDoor
open Go.Gar
set_option maxRecDepth 4000
abbrev CP : List Nat:=[0,1,2,4,5,6,7,18,27,30,31,32,37]
def Ad (v : View) (d : Int) : View:=if AF v && !(decide (d ∈ v.base)) then ⟨v.id,v.base,Au v.list d,if v.pred = d then -1 else v.pred,fun i => if v.f i = d then -1 else v.f i⟩ else v
def J2 (f : Nat → Int) (d : Int) (x : Nat × (Nat → Int)) : Prop:=x.1 ≤ 16 ∧ ∀ i,x.2 i = if i < x.1 then (if f i = d then -1 else f i) else f i
theorem YU {f : Nat → Int} {d : Int} : J2 f d (0,f):=⟨Nat.zero_le _,fun i => rfl⟩
theorem J2.at {f : Nat → Int} {d : Int} {k : Nat} {h : Nat → Int} (hi : J2 f d (k,h)) : h k = f k:=by
 have:=hi.2 k
 simpa using this
theorem J2.yes {f : Nat → Int} {d : Int} {k : Nat} {h : Nat → Int} (hi : J2 f d (k,h)) (hk : k < 16) (e : f k = d) : J2 f d (k + 1,fun i => if i = k then -1 else h i):=by
 refine ⟨hk,fun i => ?_⟩
 have:=hi.2 i
 dsimp only at this ⊢
 by_cases e1 : i = k
 ·subst e1;simp [e]
 ·rw [if_neg e1,this]
  by_cases e2 : i < k
  ·rw [if_pos e2,if_pos (show i < k + 1 by omega)]
  ·rw [if_neg e2,if_neg (show ¬ i < k + 1 by omega)]
theorem J2.no {f : Nat → Int} {d : Int} {k : Nat} {h : Nat → Int} (hi : J2 f d (k,h)) (hk : k < 16) (e : f k ≠ d) : J2 f d (k + 1,h):=by
 refine ⟨hk,fun i => ?_⟩
 have:=hi.2 i
 dsimp only at this ⊢
 rw [this]
 by_cases e1 : i = k
 ·subst e1;simp [e]
 ·by_cases e2 : i < k
  ·rw [if_pos e2,if_pos (show i < k + 1 by omega)]
  ·rw [if_neg e2,if_neg (show ¬ i < k + 1 by omega)]
theorem J2.end {f : Nat → Int} {d : Int} {h : Nat → Int} (hi : J2 f d (16,h)) (i : Nat) (hk : i < 16) : h i = if f i = d then -1 else f i:=by
 have:=hi.2 i
 rwa [if_pos (show i < 16 from hk)] at this
theorem Li {k : Nat} (h : k < 16) : k = 0 ∨ k = 1 ∨ k = 2 ∨ k = 3 ∨ k = 4 ∨ k = 5 ∨ k = 6 ∨ k = 7 ∨ k = 8 ∨ k = 9 ∨ k = 10 ∨ k = 11 ∨ k = 12 ∨ k = 13 ∨ k = 14 ∨ k = 15:=by omega
theorem F0 (v : View) (d : Int) (hb : v.base.length ≤ 1000) (hl : v.list.length ≤ 1000) : Go.Gar.Fn Tryz.prog 47 [v.d,.i .i64 d] (Ad v d).d:=by
 obtain ⟨id,base,list,pred,f⟩:=v
 replace hb : base.length ≤ 1000:=hb
 replace hl : list.length ≤ 1000:=hl
 have c1:=Fw ⟨id,base,list,pred,f⟩ (by show base.length ≤ 100000;omega) (by show list.length ≤ 100000;omega)
 have c2:=Am ⟨id,base,list,pred,f⟩ hb hl
 have c3:=Ey base d (by omega)
 have c4:=Wv list d hl
 have hR : Ad ⟨id,base,list,pred,f⟩ d = if AF ⟨id,base,list,pred,f⟩ && !(decide (d ∈ base)) then ⟨id,base,Au list d,if pred = d then -1 else pred,fun i => if f i = d then -1 else f i⟩ else ⟨id,base,list,pred,f⟩:=rfl
 refine A0 AB Tryz.func47 rfl rfl (Nat.le_of_ble_eq_true rfl) ?_
 cases h : AF ⟨id,base,list,pred,f⟩ with
 | false =>
  rw [h] at c2 hR
  rw [hR]
  have sc : No 3:=trivial;refine wk CP [] A1 (Ao @c1 @c2) ?_;clear sc;with_reducible repeat' first|constructor|intro hc;try simp only[A3] at hc
  refine ⟨_,_,rfl,rfl,?_⟩;simp [AE,A6,A5,A4,View.d,View.cells]
 | true =>
 rw [h] at c2 hR
 cases h2 : decide (d ∈ base) with
 | true =>
  rw [h2] at c3 hR
  rw [hR]
  have sc : No 3:=trivial;refine wk CP [] A1 (Bo @c1 @c2 @c3) ?_;clear sc;with_reducible repeat' first|constructor|intro hc;try simp only[A3] at hc
  refine ⟨_,_,rfl,rfl,?_⟩;simp [AE,A6,A5,A4,View.d,View.cells]
 | false =>
 rw [h2] at c3 hR
 by_cases h3 : pred = d
 ·have f3:=AA h3
  rw [if_pos h3] at hR
  have sc : No 3:=trivial;refine wk CP [] (AD f3) (GD @c1 @c2 @c3 @c4) ?_;clear sc;with_reducible repeat' first|constructor|intro hc;try simp only[A3] at hc
  refine BF (J2 f d) (fun x => ⟨[(1,.d (.i .i64 d)),(4,.ptr 1 0 20),(5,.ptr 2 0 20),(30,.d (.agg [.i .i64 (f 0),.i .i64 (f 1),.i .i64 (f 2),.i .i64 (f 3),.i .i64 (f 4),.i .i64 (f 5),.i .i64 (f 6),.i .i64 (f 7),.i .i64 (f 8),.i .i64 (f 9),.i .i64 (f 10),.i .i64 (f 11),.i .i64 (f 12),.i .i64 (f 13),.i .i64 (f 14),.i .i64 (f 15)])),(31,.d (.i .i64 x.1))],[.c [.d (.i .i64 id),.d (.is base),.d (.is list),.d (.i .i64 pred),.d (.i .i64 (f 0)),.d (.i .i64 (f 1)),.d (.i .i64 (f 2)),.d (.i .i64 (f 3)),.d (.i .i64 (f 4)),.d (.i .i64 (f 5)),.d (.i .i64 (f 6)),.d (.i .i64 (f 7)),.d (.i .i64 (f 8)),.d (.i .i64 (f 9)),.d (.i .i64 (f 10)),.d (.i .i64 (f 11)),.d (.i .i64 (f 12)),.d (.i .i64 (f 13)),.d (.i .i64 (f 14)),.d (.i .i64 (f 15))],.c [.d (.i .i64 0),.e0,.e0,.d (.i .i64 0),.d (.i .i64 0),.d (.i .i64 0),.d (.i .i64 0),.d (.i .i64 0),.d (.i .i64 0),.d (.i .i64 0),.d (.i .i64 0),.d (.i .i64 0),.d (.i .i64 0),.d (.i .i64 0),.d (.i .i64 0),.d (.i .i64 0),.d (.i .i64 0),.d (.i .i64 0),.d (.i .i64 0),.d (.i .i64 0)],.c [.d (.i .i64 id),.d (.is base),.d (.is (Au list d)),.d (.i .i64 (-1)),.d (.i .i64 (x.2 0)),.d (.i .i64 (x.2 1)),.d (.i .i64 (x.2 2)),.d (.i .i64 (x.2 3)),.d (.i .i64 (x.2 4)),.d (.i .i64 (x.2 5)),.d (.i .i64 (x.2 6)),.d (.i .i64 (x.2 7)),.d (.i .i64 (x.2 8)),.d (.i .i64 (x.2 9)),.d (.i .i64 (x.2 10)),.d (.i .i64 (x.2 11)),.d (.i .i64 (x.2 12)),.d (.i .i64 (x.2 13)),.d (.i .i64 (x.2 14)),.d (.i .i64 (x.2 15))]],43⟩) (fun x => 16 - x.1) (0,f) YU ?_ (Nat.le_refl _) ?_
  ·exact A2.ck rfl
  rintro ⟨k,h⟩ hi
  have hk : k ≤ 16:=hi.1
  by_cases hk2 : k < 16
  ·have e3:=hi.at
   by_cases e : f k = d
   ·have g:=AA e
    have hn:=hi.yes hk2 e
    rcases Li hk2 with rfl | rfl | rfl | rfl | rfl | rfl | rfl | rfl | rfl | rfl | rfl | rfl | rfl | rfl | rfl | rfl
    all_goals
     have sc : No 3:=trivial;refine wk CP [] (Ao g e3) A1 ?_;clear sc;with_reducible repeat' first|constructor|intro hc;try simp only[A3] at hc
     refine ⟨_,hn,(by dsimp only;omega),Nat.le_refl _,?_⟩
     exact A2.ck rfl
   ·have g:=eq_false' e
    have hn:=hi.no hk2 e
    rcases Li hk2 with rfl | rfl | rfl | rfl | rfl | rfl | rfl | rfl | rfl | rfl | rfl | rfl | rfl | rfl | rfl | rfl
    all_goals
     have sc : No 3:=trivial;refine wk CP [] (Ao g e3) A1 ?_;clear sc;with_reducible repeat' first|constructor|intro hc;try simp only[A3] at hc
     refine ⟨_,hn,(by dsimp only;omega),Nat.le_refl _,?_⟩
     exact A2.ck rfl
  ·have e16 : k = 16:=by omega
   subst e16
   have sc : No 3:=trivial;refine wk CP [] A1 A1 ?_;clear sc;with_reducible repeat' first|constructor|intro hc;try simp only[A3] at hc
   refine ⟨_,_,rfl,rfl,?_⟩;simp [AE,A6,A5,A4,hR,View.d,View.cells,hi.end 0 (by decide),hi.end 1 (by decide),hi.end 2 (by decide),hi.end 3 (by decide),hi.end 4 (by decide),hi.end 5 (by decide),hi.end 6 (by decide),hi.end 7 (by decide),hi.end 8 (by decide),hi.end 9 (by decide),hi.end 10 (by decide),hi.end 11 (by decide),hi.end 12 (by decide),hi.end 13 (by decide),hi.end 14 (by decide),hi.end 15 (by decide)]
 ·have f3:=eq_false' h3
  rw [if_neg h3] at hR
  have sc : No 3:=trivial;refine wk CP [] (AD f3) (GD @c1 @c2 @c3 @c4) ?_;clear sc;with_reducible repeat' first|constructor|intro hc;try simp only[A3] at hc
  refine BF (J2 f d) (fun x => ⟨[(1,.d (.i .i64 d)),(4,.ptr 1 0 20),(5,.ptr 2 0 20),(30,.d (.agg [.i .i64 (f 0),.i .i64 (f 1),.i .i64 (f 2),.i .i64 (f 3),.i .i64 (f 4),.i .i64 (f 5),.i .i64 (f 6),.i .i64 (f 7),.i .i64 (f 8),.i .i64 (f 9),.i .i64 (f 10),.i .i64 (f 11),.i .i64 (f 12),.i .i64 (f 13),.i .i64 (f 14),.i .i64 (f 15)])),(31,.d (.i .i64 x.1))],[.c [.d (.i .i64 id),.d (.is base),.d (.is list),.d (.i .i64 pred),.d (.i .i64 (f 0)),.d (.i .i64 (f 1)),.d (.i .i64 (f 2)),.d (.i .i64 (f 3)),.d (.i .i64 (f 4)),.d (.i .i64 (f 5)),.d (.i .i64 (f 6)),.d (.i .i64 (f 7)),.d (.i .i64 (f 8)),.d (.i .i64 (f 9)),.d (.i .i64 (f 10)),.d (.i .i64 (f 11)),.d (.i .i64 (f 12)),.d (.i .i64 (f 13)),.d (.i .i64 (f 14)),.d (.i .i64 (f 15))],.c [.d (.i .i64 0),.e0,.e0,.d (.i .i64 0),.d (.i .i64 0),.d (.i .i64 0),.d (.i .i64 0),.d (.i .i64 0),.d (.i .i64 0),.d (.i .i64 0),.d (.i .i64 0),.d (.i .i64 0),.d (.i .i64 0),.d (.i .i64 0),.d (.i .i64 0),.d (.i .i64 0),.d (.i .i64 0),.d (.i .i64 0),.d (.i .i64 0),.d (.i .i64 0)],.c [.d (.i .i64 id),.d (.is base),.d (.is (Au list d)),.d (.i .i64 pred),.d (.i .i64 (x.2 0)),.d (.i .i64 (x.2 1)),.d (.i .i64 (x.2 2)),.d (.i .i64 (x.2 3)),.d (.i .i64 (x.2 4)),.d (.i .i64 (x.2 5)),.d (.i .i64 (x.2 6)),.d (.i .i64 (x.2 7)),.d (.i .i64 (x.2 8)),.d (.i .i64 (x.2 9)),.d (.i .i64 (x.2 10)),.d (.i .i64 (x.2 11)),.d (.i .i64 (x.2 12)),.d (.i .i64 (x.2 13)),.d (.i .i64 (x.2 14)),.d (.i .i64 (x.2 15))]],43⟩) (fun x => 16 - x.1) (0,f) YU ?_ (Nat.le_refl _) ?_
  ·exact A2.ck rfl
  rintro ⟨k,h⟩ hi
  have hk : k ≤ 16:=hi.1
  by_cases hk2 : k < 16
  ·have e3:=hi.at
   by_cases e : f k = d
   ·have g:=AA e
    have hn:=hi.yes hk2 e
    rcases Li hk2 with rfl | rfl | rfl | rfl | rfl | rfl | rfl | rfl | rfl | rfl | rfl | rfl | rfl | rfl | rfl | rfl
    all_goals
     have sc : No 3:=trivial;refine wk CP [] (Ao g e3) A1 ?_;clear sc;with_reducible repeat' first|constructor|intro hc;try simp only[A3] at hc
     refine ⟨_,hn,(by dsimp only;omega),Nat.le_refl _,?_⟩
     exact A2.ck rfl
   ·have g:=eq_false' e
    have hn:=hi.no hk2 e
    rcases Li hk2 with rfl | rfl | rfl | rfl | rfl | rfl | rfl | rfl | rfl | rfl | rfl | rfl | rfl | rfl | rfl | rfl
    all_goals
     have sc : No 3:=trivial;refine wk CP [] (Ao g e3) A1 ?_;clear sc;with_reducible repeat' first|constructor|intro hc;try simp only[A3] at hc
     refine ⟨_,hn,(by dsimp only;omega),Nat.le_refl _,?_⟩
     exact A2.ck rfl
  ·have e16 : k = 16:=by omega
   subst e16
   have sc : No 3:=trivial;refine wk CP [] A1 A1 ?_;clear sc;with_reducible repeat' first|constructor|intro hc;try simp only[A3] at hc
   refine ⟨_,_,rfl,rfl,?_⟩;simp [AE,A6,A5,A4,hR,View.d,View.cells,hi.end 0 (by decide),hi.end 1 (by decide),hi.end 2 (by decide),hi.end 3 (by decide),hi.end 4 (by decide),hi.end 5 (by decide),hi.end 6 (by decide),hi.end 7 (by decide),hi.end 8 (by decide),hi.end 9 (by decide),hi.end 10 (by decide),hi.end 11 (by decide),hi.end 12 (by decide),hi.end 13 (by decide),hi.end 14 (by decide),hi.end 15 (by decide)]
abbrev ES : List Nat:=[0,1,2,3,5,7,8,9,10,31]
def FG (id best b : Int) : Int:=if b ≠ id ∧ (best < 0 ∨ AU id b < AU id best) then b else best
def Ho (id : Int) (l : List Int) : Int:=l.foldl (FG id) (-1)
def O0 (key out b : Int) : Int:=if AU key b < AU key out then Ba b else out
def bJ (key : Int) : List Int → Int
 | [] => 0
 | a :: l => (a :: l).foldl (O0 key) (Ba a)
theorem Q2 {α : Type} (g : α → Int → α) (s : α) {l : List Int} {k : Nat} {p : Int} (hp : l[k]? = some p) : (l.take (k + 1)).foldl g s = g ((l.take k).foldl g s) p:=by
 rw [AT hp,List.foldl_append];rfl
theorem T5 (v : View) (hb : v.base.length ≤ 100000) : Go.Gar.Fn Tryz.prog 158 [v.d] (.i .i64 (Ho v.id v.base)):=by
 obtain ⟨id,base,list,pred,f⟩:=v
 replace hb : base.length ≤ 100000:=hb
 show Go.Gar.Fn _ _ _ (.i .i64 (Ho id base))
 refine A0 AB Tryz.func158 rfl rfl (Nat.le_of_ble_eq_true rfl) ?_
 refine wd ES [] [] A1 A1 ?_;with_reducible repeat' first|constructor|intro hc;try simp only[A3] at hc
 refine BF (fun k => k ≤ base.length) (fun k : Nat => ⟨[(1,.ptr 0 0 20),(3,.d (.i .i64 ((base.take k).foldl (FG id) (-1)))),(7,.d (.is base)),(8,.d (.i .i64 base.length)),(9,.d (.i .i64 k))],[.c (vC id base list pred f)],35⟩) (fun k => base.length - k) 0 (Nat.zero_le _) ?_ (Nat.le_refl _) ?_
 ·exact A2.ck rfl
 intro k hk
 unfold vC
 by_cases hkl : k < base.length
 ·obtain ⟨p,hp⟩:=AR hkl
  have gp:=Bv hp
  have hs:=Q2 (FG id) (-1) hp
  generalize hB : (base.take k).foldl (FG id) (-1) = best at *
  have c1:=FE id p
  have c2:=FE id best
  by_cases h1 : p = id
  ·have f1:=AO h1
   have hs' : (base.take (k + 1)).foldl (FG id) (-1) = best:=by rw [hs];simp [FG,h1]
   refine wd ES [] [] (Ao gp f1) (Ao @c1 @c2) ?_;with_reducible repeat' first|constructor|intro hc;try simp only[A3] at hc
   refine ⟨k + 1,hkl,by omega,Nat.le_refl _,?_⟩
   exact A2.cut rfl (by repeat' (first | exact True.intro | refine And.intro (by (first | rfl | ((with_reducible_and_instances refine congrArg (fun z => some (AV.d (D.i _ z))) ?_);omega) | (refine congrArg (fun z => some (AV.d (D.i _ z))) (?_ : (_ : Int) = _);omega) | (refine congrArg some ?_;simp only [hs'];done) | (refine congrArg some ?_;simp [hs'];done))) ?_)) (by repeat' (first | exact True.intro | refine And.intro (Or.inr rfl) ?_ | refine And.intro (Or.inl ⟨rfl,rfl⟩) ?_ | refine And.intro (Or.inr (by simp only [hs'])) ?_ | refine And.intro (Or.inr (by simp [hs'])) ?_)) (by first | rfl | (simp (decide:=true) [Ae,AC.ok,AV.oks,AV.ok,hk];done)) rfl
  have f1:=BJ h1
  by_cases h2 : best < 0
  ·have f2 : decide (best < 0) = true:=decide_eq_true h2
   have hs' : (base.take (k + 1)).foldl (FG id) (-1) = p:=by rw [hs];simp [FG,h1,h2]
   refine wd ES [] [] (Bo gp f1 f2) (Ao @c1 @c2) ?_;with_reducible repeat' first|constructor|intro hc;try simp only[A3] at hc
   refine ⟨k + 1,hkl,by omega,Nat.le_refl _,?_⟩
   exact A2.cut rfl (by repeat' (first | exact True.intro | refine And.intro (by (first | rfl | ((with_reducible_and_instances refine congrArg (fun z => some (AV.d (D.i _ z))) ?_);omega) | (refine congrArg (fun z => some (AV.d (D.i _ z))) (?_ : (_ : Int) = _);omega) | (refine congrArg some ?_;simp only [hs'];done) | (refine congrArg some ?_;simp [hs'];done))) ?_)) (by repeat' (first | exact True.intro | refine And.intro (Or.inr rfl) ?_ | refine And.intro (Or.inl ⟨rfl,rfl⟩) ?_ | refine And.intro (Or.inr (by simp only [hs'])) ?_ | refine And.intro (Or.inr (by simp [hs'])) ?_)) (by first | rfl | (simp (decide:=true) [Ae,AC.ok,AV.oks,AV.ok,hk];done)) rfl
  have f2 : decide (best < 0) = false:=decide_eq_false h2
  by_cases h3 : AU id p < AU id best
  ·have f3 : decide (AU id p < AU id best) = true:=decide_eq_true h3
   have hs' : (base.take (k + 1)).foldl (FG id) (-1) = p:=by rw [hs];simp [FG,h1,h3]
   refine wd ES [] [] (GD gp f1 f2 f3) (Ao @c1 @c2) ?_;with_reducible repeat' first|constructor|intro hc;try simp only[A3] at hc
   refine ⟨k + 1,hkl,by omega,Nat.le_refl _,?_⟩
   exact A2.cut rfl (by repeat' (first | exact True.intro | refine And.intro (by (first | rfl | ((with_reducible_and_instances refine congrArg (fun z => some (AV.d (D.i _ z))) ?_);omega) | (refine congrArg (fun z => some (AV.d (D.i _ z))) (?_ : (_ : Int) = _);omega) | (refine congrArg some ?_;simp only [hs'];done) | (refine congrArg some ?_;simp [hs'];done))) ?_)) (by repeat' (first | exact True.intro | refine And.intro (Or.inr rfl) ?_ | refine And.intro (Or.inl ⟨rfl,rfl⟩) ?_ | refine And.intro (Or.inr (by simp only [hs'])) ?_ | refine And.intro (Or.inr (by simp [hs'])) ?_)) (by first | rfl | (simp (decide:=true) [Ae,AC.ok,AV.oks,AV.ok,hk];done)) rfl
  ·have f3 : decide (AU id p < AU id best) = false:=decide_eq_false h3
   have hs' : (base.take (k + 1)).foldl (FG id) (-1) = best:=by rw [hs];simp [FG,h2,h3]
   refine wd ES [] [] (GD gp f1 f2 f3) (Ao @c1 @c2) ?_;with_reducible repeat' first|constructor|intro hc;try simp only[A3] at hc
   refine ⟨k + 1,hkl,by omega,Nat.le_refl _,?_⟩
   exact A2.cut rfl (by repeat' (first | exact True.intro | refine And.intro (by (first | rfl | ((with_reducible_and_instances refine congrArg (fun z => some (AV.d (D.i _ z))) ?_);omega) | (refine congrArg (fun z => some (AV.d (D.i _ z))) (?_ : (_ : Int) = _);omega) | (refine congrArg some ?_;simp only [hs'];done) | (refine congrArg some ?_;simp [hs'];done))) ?_)) (by repeat' (first | exact True.intro | refine And.intro (Or.inr rfl) ?_ | refine And.intro (Or.inl ⟨rfl,rfl⟩) ?_ | refine And.intro (Or.inr (by simp only [hs'])) ?_ | refine And.intro (Or.inr (by simp [hs'])) ?_)) (by first | rfl | (simp (decide:=true) [Ae,AC.ok,AV.oks,AV.ok,hk];done)) rfl
 ·have e : k = base.length:=by omega
  subst e
  rw [List.take_length]
  refine wd ES [] [] A1 A1 ?_;with_reducible repeat' first|constructor|intro hc;try simp only[A3] at hc
  refine ⟨_,_,rfl,rfl,?_⟩;simp [AE,A6,A5,A4,Ho]
theorem Qo {id best out b : Int} (hid : Ag id = true) (hb : Ag b = true) (h : (best = -1 ∧ out = id) ∨ (best = out ∧ best ≠ id ∧ Ag best = true)) :
  (FG id best b = -1 ∧ O0 (id + 1) out b = id) ∨ (FG id best b = O0 (id + 1) out b ∧ FG id best b ≠ id ∧ Ag (FG id best b) = true):=by
 have h1:=EG hid
 have h2:=EG hb
 rcases h with ⟨rfl,rfl⟩ | ⟨rfl,h3,h4⟩
 ·by_cases e : b = out
  ·subst e
   left
   refine ⟨by simp [FG],?_⟩
   simp [O0]
  ·right
   have ea : FG out (-1) b = b:=by simp [FG,e]
   have eo : O0 (out + 1) out b = b:=by
    unfold O0
    rw [if_pos (show AU (out + 1) b < AU (out + 1) out by unfold AU;omega)]
    unfold Ba;omega
   rw [ea,eo]
   exact ⟨rfl,e,hb⟩
 ·have h5:=EG h4
  right
  by_cases e : b = id
  ·subst e
   have ea : FG b best b = best:=by simp [FG]
   have eo : O0 (b + 1) best b = best:=by
    unfold O0
    rw [if_neg (show ¬ AU (b + 1) b < AU (b + 1) best by unfold AU;omega)]
   rw [ea,eo]
   exact ⟨rfl,h3,h4⟩
  ·by_cases e2 : AU id b < AU id best
   ·have ea : FG id best b = b:=by simp [FG,e,e2]
    have eo : O0 (id + 1) best b = b:=by
     unfold O0
     rw [if_pos (show AU (id + 1) b < AU (id + 1) best by unfold AU at *;omega)]
     unfold Ba;omega
    rw [ea,eo]
    exact ⟨rfl,e,hb⟩
   ·have hn : ¬ best < 0:=by omega
    have ea : FG id best b = best:=by simp [FG,e2,hn]
    have eo : O0 (id + 1) best b = best:=by
     unfold O0
     rw [if_neg (show ¬ AU (id + 1) b < AU (id + 1) best by unfold AU at *;omega)]
    rw [ea,eo]
    exact ⟨rfl,h3,h4⟩
theorem Yx {id : Int} (hid : Ag id = true) : ∀ (l : List Int) (best out : Int),(∀ y ∈ l,Ag y = true) → ((best = -1 ∧ out = id) ∨ (best = out ∧ best ≠ id ∧ Ag best = true)) →
  ((l.foldl (FG id) best = -1 ∧ l.foldl (O0 (id + 1)) out = id) ∨ (l.foldl (FG id) best = l.foldl (O0 (id + 1)) out ∧ l.foldl (FG id) best ≠ id ∧ Ag (l.foldl (FG id) best) = true))
 | [],best,out,_,h => h
 | b :: l,best,out,hl,h => by
  simp only [List.foldl_cons]
  exact Yx hid l _ _ (fun y hy => hl y (List.mem_cons_of_mem _ hy)) (Qo hid (hl b (List.mem_cons_self ..)) h)
theorem Yh {id : Int} (hid : Ag id = true) : ∀ (l : List Int) (best : Int),(∀ y ∈ l,Ag y = true) → best ≠ -1 → l.foldl (FG id) best ≠ -1
 | [],best,_,h => h
 | b :: l,best,hl,h => by
  simp only [List.foldl_cons]
  refine Yh hid l _ (fun y hy => hl y (List.mem_cons_of_mem _ hy)) ?_
  have:=EG (hl b (List.mem_cons_self ..))
  unfold FG
  split <;> omega
theorem RJ {id : Int} (hid : Ag id = true) : ∀ (l : List Int) (best : Int),(∀ y ∈ l,Ag y = true) → (∃ y ∈ l,y ≠ id) → l.foldl (FG id) best ≠ -1
 | [],best,_,⟨y,hy,_⟩ => by cases hy
 | b :: l,best,hl,⟨y,hy,hne⟩ => by
  simp only [List.foldl_cons]
  have hb:=EG (hl b (List.mem_cons_self ..))
  by_cases e : b = id
  ·rcases List.mem_cons.mp hy with rfl | hy
   ·exact absurd e hne
   ·exact RJ hid l _ (fun y hy => hl y (List.mem_cons_of_mem _ hy)) ⟨y,hy,hne⟩
  ·refine Yh hid l _ (fun y hy => hl y (List.mem_cons_of_mem _ hy)) ?_
   unfold FG
   split
   ·omega
   ·intro h
    rename_i h1
    exact h1 ⟨e,.inl (by omega)⟩
theorem Mz : ∀ (l : List Int) (f : Int),bT f l = true → ∀ y ∈ l,Ag y = true ∧ y > f
 | [],f,_,y,hy => by cases hy
 | a :: r,f,h,y,hy => by
  simp only [bT,Bool.and_eq_true,decide_eq_true_eq] at h
  rcases List.mem_cons.mp hy with rfl | hy
  ·exact h.1
  ·have:=Mz r a h.2 y hy
   exact ⟨this.1,by omega⟩
theorem J0 {l : List Int} (h : Bm l = true) : ∀ y ∈ l,Ag y = true:=by
 simp only [Bm,Bool.and_eq_true] at h
 exact fun y hy => (Mz l _ h.2 y hy).1
theorem QV {l : List Int} (h : Bm l = true) (id : Int) : ∃ y ∈ l,y ≠ id:=by
 simp only [Bm,Bool.and_eq_true,decide_eq_true_eq] at h
 match l,h with
 | a :: b :: r,h =>
  have h1:=Mz _ _ h.2
  have h2 : bT a (b :: r) = true:=by
   have:=h.2
   simp only [bT,Bool.and_eq_true] at this ⊢
   exact this.2
  have h3:=(Mz _ _ h2 b (List.mem_cons_self ..)).2
  by_cases e : a = id
  ·exact ⟨b,by simp,by omega⟩
  ·exact ⟨a,by simp,e⟩
 | [a],h => exact absurd h.1.1 (show ¬ 2 ≤ 1 by decide)
 | [],h => exact absurd h.1.1 (by decide)
theorem Od {id : Int} {l : List Int} (hid : Ag id = true) (h : Bm l = true) : Ho id l = bJ (id + 1) l ∧ Ag (Ho id l) = true ∧ Ho id l ≠ id:=by
 have hp:=J0 h
 have hs:=RJ hid l (-1) hp (QV h id)
 match l with
 | [] => exact absurd rfl hs
 | a :: r =>
  have ha:=EG (hp a (List.mem_cons_self ..))
  have e : Ba a = a:=by unfold Ba;omega
  have h0 : O0 (id + 1) a a = a:=by simp [O0,e]
  have hS : bJ (id + 1) (a :: r) = r.foldl (O0 (id + 1)) a:=by
   show (a :: r).foldl (O0 (id + 1)) (Ba a) = _
   rw [e,List.foldl_cons,h0]
  have hA : Ho id (a :: r) = r.foldl (FG id) (FG id (-1) a):=rfl
  rw [hS,hA]
  have hR : (FG id (-1) a = -1 ∧ a = id) ∨ (FG id (-1) a = a ∧ FG id (-1) a ≠ id ∧ Ag (FG id (-1) a) = true):=by
   by_cases e2 : a = id
   ·left;exact ⟨by simp [FG,e2],e2⟩
   ·right
    have e3 : FG id (-1) a = a:=by simp [FG,e2]
    rw [e3]
    exact ⟨rfl,e2,hp a (List.mem_cons_self ..)⟩
  rcases Yx hid r _ _ (fun y hy => hp y (List.mem_cons_of_mem _ hy)) hR with h1 | h1
  ·exact absurd h1.1 hs
  ·exact ⟨h1.1,h1.2.2,h1.2.1⟩
def bc (a : Int) : List Int → Int
 | [] => a
 | b :: _ => b
def Hd (v : View) : Int:=if AF v then bc (Ho v.id v.base) v.list else -1
theorem Cv {v : View} (h : AF v = true) : Ag v.id = true ∧ Bm v.base = true ∧ BD v.id v.list = true ∧ Df v.id v.pred = true ∧ (CL v.f).all (Df v.id) = true:=by
 simp only [AF,Bool.and_eq_true] at h
 exact ⟨h.1.1.1,h.1.1.2,h.1.2,h.2.1,h.2.2⟩
theorem M9 (v : View) (hb : v.base.length ≤ 1000) (hl : v.list.length ≤ 1000) : Go.Gar.Fn Tryz.prog 103 [v.d] (.i .i64 (Hd v)):=by
 obtain ⟨id,base,list,pred,f⟩:=v
 have c1:=Am ⟨id,base,list,pred,f⟩ hb hl
 have c2:=T5 ⟨id,base,list,pred,f⟩ (by omega)
 have c3:=Vp list (by have : list.length ≤ 1000:=hl;omega)
 refine A0 AB Tryz.func103 rfl rfl (Nat.le_of_ble_eq_true rfl) ?_
 cases h : AF ⟨id,base,list,pred,f⟩ with
 | false =>
  have hT : Hd ⟨id,base,list,pred,f⟩ = -1:=by unfold Hd;rw [h];rfl
  rw [h] at c1
  refine wk [0,1,2,3,4,7,14] [] A1 (AD @c1) ?_;with_reducible repeat' first|constructor|intro hc;try simp only[A3] at hc
  refine ⟨_,_,rfl,rfl,?_⟩;simp [AE,A6,A5,A4,hT]
 | true =>
  have hT : Hd ⟨id,base,list,pred,f⟩ = bc (Ho id base) list:=by unfold Hd;rw [h];rfl
  rw [h] at c1
  rw [hT]
  cases list with
  | nil =>
   refine wk [0,1,2,3,4,7,14] [] A1 (Bo @c1 @c2 @c3) ?_;with_reducible repeat' first|constructor|intro hc;try simp only[A3] at hc
   refine ⟨_,_,rfl,rfl,?_⟩;simp [AE,A6,A5,A4,bc]
  | cons a t =>
   refine wk [0,1,2,3,4,7,14] [] A1 (Bo @c1 @c2 @c3) ?_;with_reducible repeat' first|constructor|intro hc;try simp only[A3] at hc
   refine ⟨_,_,rfl,rfl,?_⟩;simp [AE,A6,A5,A4,bc,firstT]
end Go.Proofs.YtnahkfkljohjaaaGreatDoor
namespace Go.Proofs.YtnahkfkljohjaaaGreatDoor
namespace Nd
open Go.Gar
open Wi (A8 B0 Ak)
set_option maxRecDepth 4000
theorem Nh (a x b : Int) : Go.Gar.Fn Tryz.prog 102 [.i .i64 a,.i .i64 x,.i .i64 b] (.b (D6 a x b)):=by
 have c1:=FE a x
 have c2:=FE a b
 refine A0 AB Tryz.func102 rfl rfl (Nat.le_of_ble_eq_true rfl) ?_
 have h1 : AU a b = 0 ↔ Ba a = Ba b:=by unfold AU Ba;omega
 have h2 : AU a x > 0 ↔ Ba x ≠ Ba a:=by unfold AU Ba;omega
 have hT : D6 a x b = if AU a b = 0 then decide (AU a x > 0) else decide (AU a x > 0 ∧ AU a x < AU a b):=by
  unfold D6
  by_cases h : AU a b = 0
  ·rw [if_pos h,if_pos (h1.1 h)]
   by_cases h3 : AU a x > 0
   ·rw [decide_eq_true h3,decide_eq_true (h2.1 h3)]
   ·rw [decide_eq_false h3,decide_eq_false (fun h4 => h3 (h2.2 h4))]
  ·rw [if_neg h,if_neg (fun h4 => h (h1.2 h4))]
 generalize D6 a x b = R at *
 clear h1 h2
 generalize AU a x = u at *
 generalize AU a b = w at *
 refine wk [0,1,2,6,7,8,16] [] A1 (Ao @c1 @c2) ?_;with_reducible repeat' first|constructor|intro hc;try simp only[A3] at hc
 all_goals (clear c1 c2;refine ⟨_,_,rfl,rfl,?_⟩;simp only [C0];refine congrArg D.b ?_;rw [hT];clear hT;grind)
end Nd
end Go.Proofs.YtnahkfkljohjaaaGreatDoor
