/- Part 21 of the texts of this proof, put together by a program and made short.
Conditions: none; what each theorem asks stands in its own hypotheses. -/
import Derived.Test.YtagnjflbhjmefaaGreatRb20
import Derived.Sort.Walk0
import Derived.KernelRfl
import Derived.RangeFuncIn
import Derived.Sort.Grow
import Derived.Laws.Cover3
import Derived.RecoverIn
import Derived.ProofKit
import Derived.OpenShut
import Derived.CallsIn
import Derived.RangeFuncLeaves
import Derived.OrdersIn
import Derived.TacticsIn
import Derived.ChangeKeysEq
import Derived.Laws.AppendOwn
import Derived.Laws.OwnMore
import Derived.Laws.MakeOwn
import Derived.Laws.Rows
import Derived.Laws.Cells
import Derived.Laws.Tables
import Derived.Laws.CopyRow
import Derived.Laws.Strings
import Derived.Laws.IdiomStrings
import Derived.Laws.BytesArg
import Derived.Test.YtagnjflbhjmefaaGreatProg
set_option linter.unusedSimpArgs false
set_option linter.unusedVariables false
set_option linter.unnecessarySimpa false
set_option maxHeartbeats 40000000
namespace Go.Proofs.YtagnjflbhjmefaaGreat
namespace Nd
open Go.Gar
open Wi (AE Az B7)
set_option maxRecDepth 4000
abbrev Kj : Past:=⟨0,0,Wi.Ab⟩
def HK (s c : Int) (p : Past) : Bool:=decide (p.src = s) && decide (p.call = c)
def JZ (p : Past) : Bool:=p.told.right && (!p.told.asks && (decide (p.told.dst = p.src) && decide (p.told.call = p.call)))
def D6 (l : List Past) (k : Nat) : Bool:=JZ (l.getD k Kj) && !((l.take k).any (HK (l.getD k Kj).src (l.getD k Kj).call))
def F3 (l : List Past) : Bool:=decide (l.length ≤ 40) && Ba l.length (D6 l)
theorem Hx (m : AE) (h : Cj m) : Go.Gar.Fn Tryz.prog 150 [m.d] m.d:=by
 obtain ⟨k,c,s,d,ky,sl,dn,pl,pr,l,⟨ik,iv,ir,ig⟩,co⟩:=m
 replace h : l.length ≤ 1048576:=h
 refine A3 A8 Tryz.func150 rfl rfl (Nat.le_of_ble_eq_true rfl) ?_
 unfold AE.d AE.cells
 have nS:=True.intro;obtain ⟨lv,st,ns,nc⟩:=wq [0,1,2] [];refine wk ?_;clear nc ns st lv;repeat' (first|with_reducible constructor|(with_reducible intro hc;try simp only[A1] at hc))
 refine ⟨_,_,rfl,rfl,?_⟩;simp [AH,A6,A5,A4]
theorem XQ (m : AE) (h : Cj m) : Go.Gar.Fn Tryz.prog 154 [m.d] (.tup [(if m.right && !m.asks then Past.d ⟨m.dst,m.call,m⟩ else Kj.d),.i .i64 (if m.right && !m.asks then 0 else 2)]):=by
 have c1:=Wi.GX m (lm h)
 have c2:=Wi.Jr m
 have c3:=Hx m h
 unfold Past.d Past.cells
 unfold AE.d AE.cells at *
 generalize m.right = rr at *
 generalize m.asks = aa at *
 obtain ⟨k,c,s,d,ky,sl,dn,pl,pr,l,⟨ik,iv,ir,ig⟩,co⟩:=m
 refine A3 A8 Tryz.func154 rfl rfl (Nat.le_of_ble_eq_true rfl) ?_
 simp only at *
 cases rr <;> cases aa
 all_goals
  have nS:=True.intro;obtain ⟨lv,st,ns,nc⟩:=wq [0,1,2,3,10] [];have c1:=@c1;have c2:=@c2;have c3:=@c3;have pr : AC []:=trivial;refine wd ?_;clear nc ns st lv pr c3 c2 c1;repeat' (first|with_reducible constructor|(with_reducible intro hc;try simp only[A1] at hc))
  refine ⟨_,_,rfl,rfl,?_⟩;simp [AH,A6,A5,A4,Wi.Ab,AP]
theorem BH {α : Type} {p : α → Bool} {l : List α} {k : Nat} {x : α} (hx : l[k]? = some x) : (l.take (k + 1)).any p = ((l.take k).any p || p x):=by
 rw [AR hx,List.any_append];simp
theorem E2 {α : Type} {p : α → Bool} {l : List α} {k : Nat} {x : α} (hx : l[k]? = some x) (h : p x = true) : l.any p = true:=List.any_eq_true.2 ⟨x,List.mem_of_getElem? hx,h⟩
def Lg (l : List Past) (s c : Int) : AE:=match l.find? (HK s c) with
 | some p => p.told
 | none => Wi.Ab
theorem U8 {l : List Past} {s c : Int} {k : Nat} {x : Past} (hx : l[k]? = some x) (h : HK s c x = true) (hn : (l.take k).any (HK s c) = false) : Lg l s c = x.told:=by
 have e : l = l.take k ++ x :: l.drop (k + 1):=by
  have hk:=(List.getElem?_eq_some_iff.1 hx).1
  have hv:=(List.getElem?_eq_some_iff.1 hx).2
  rw [← hv,← List.drop_eq_getElem_cons hk,List.take_append_drop]
 unfold Lg
 rw [e,List.find?_append]
 have : (l.take k).find? (HK s c) = none:=by
  rw [List.find?_eq_none]
  intro y hy
  rw [List.any_eq_false] at hn
  simpa using hn y hy
 rw [this]
 simp [List.find?_cons,h]
theorem RQ (l : List Past) (s c : Int) (hl : ∀ x ∈ l,Cj x.told) (hn : l.length ≤ 9223372036854775807) : Go.Gar.Fn Tryz.prog 155 [AW l,.i .i64 s,.i .i64 c] (.tup [(Lg l s c).d,.b (l.any (HK s c))]):=by
 refine A3 A8 Tryz.func155 rfl rfl (Nat.le_of_ble_eq_true rfl) ?_
 have nS:=True.intro;obtain ⟨lv,st,ns,nc⟩:=wq [0,1,2,6,7,8,12,30] [];refine wk ?_;clear nc ns st lv;repeat' (first|with_reducible constructor|(with_reducible intro hc;try simp only[A1] at hc))
 refine AS (fun k => k ≤ l.length ∧ (l.take k).any (HK s c) = false) (fun k : Nat => [(8,.d (.i .i64 k))]) (fun k => l.length - k) 0 ⟨Nat.zero_le _,rfl⟩ (fun _ => rfl) ?_ ?_
 ·exact A0.ck rfl
 rintro k ⟨hk,hpre⟩
 by_cases hkl : k < l.length
 ·obtain ⟨x,hx⟩:=AG hkl
  have c1:=Hx x.told (hl x (List.mem_of_getElem? hx))
  have hA:=BH (p:=HK s c) hx
  rw [hpre,Bool.false_or] at hA
  unfold AE.d AE.cells at c1
  cases hi : HK s c x with
  | true =>
   have h1 : x.src = s ∧ x.call = c:=by simpa [HK] using hi
   have f1 : (x.src == s) = true:=by simp [h1.1]
   have f2 : (x.call == c) = true:=by simp [h1.2]
   have hF:=U8 hx hi hpre
   have hT:=E2 hx hi
   have nS:=And.intro f1 f2;obtain ⟨lv,st,ns,nc⟩:=wq [0,1,2,6,7,8,12,30] [];have ix1:=hx;have c1:=@c1;refine wk ?_;clear nc ns st lv c1 ix1;repeat' (first|with_reducible constructor|(with_reducible intro hc;try simp only[A1] at hc))
   all_goals (clear c1;refine ⟨_,_,rfl,rfl,?_⟩;rw [hT,hF];simp [FO,CC,Co,Ao,II,AE.d,AE.cells])
  | false =>
   have h1 : ¬ (x.src = s ∧ x.call = c):=by simpa [HK] using hi
   have nS:=True.intro;obtain ⟨lv,st,ns,nc⟩:=wq [0,1,2,6,7,8,12,30] [];have ix1:=hx;have c1:=@c1;refine wk ?_;clear nc ns st lv c1 ix1;repeat' (first|with_reducible constructor|(with_reducible intro hc;try simp only[A1] at hc))
   all_goals first
    | (exfalso;exact h1 ⟨by assumption,by assumption⟩)
    | (refine ⟨k + 1,⟨hkl,by rw [hA,hi]⟩,by omega,Nat.le_refl _,?_⟩
       exact A0.ck rfl)
 ·have e : k = l.length:=by omega
  subst e
  rw [List.take_length] at hpre
  have hF : Lg l s c = Wi.Ab:=by
   unfold Lg
   have : l.find? (HK s c) = none:=by
    rw [List.find?_eq_none]
    intro y hy
    rw [List.any_eq_false] at hpre
    simpa using hpre y hy
   rw [this]
  have nS:=True.intro;obtain ⟨lv,st,ns,nc⟩:=wq [0,1,2,6,7,8,12,30] [];refine wk ?_;clear nc ns st lv;repeat' (first|with_reducible constructor|(with_reducible intro hc;try simp only[A1] at hc))
  all_goals (refine ⟨_,_,rfl,rfl,?_⟩;rw [hpre,hF];simp [FO,CC,Co,Ao,II,Jq,A5,A6,A4,AE.d,AE.cells,Wi.Ab,AP])
theorem Ta (l : List Past) (hl : ∀ x ∈ l,Cj x.told) (hn : l.length ≤ 9223372036854775807) : Go.Gar.Fn Tryz.prog 99 [AW l] (.b (F3 l)):=by
 refine A3 A8 Tryz.func99 rfl rfl (Nat.le_of_ble_eq_true rfl) ?_
 have hT : F3 l = (decide (l.length ≤ 40) && Ba l.length (D6 l)):=rfl
 have nS:=True.intro;obtain ⟨lv,st,ns,nc⟩:=wq [0,2,3,4,5,7,11,44,56] [];have pr : AC []:=trivial;refine wd ?_;clear nc ns st lv pr;repeat' (first|with_reducible constructor|(with_reducible intro hc;try simp only[A1] at hc))
 refine AS (fun k => k ≤ l.length ∧ Ba k (D6 l) = true) (fun k : Nat => [(3,.d (.i .i64 k))]) (fun k => l.length - k) 0 ⟨Nat.zero_le _,rfl⟩ (fun _ => rfl) ?_ ?_
 ·exact A0.ck rfl
 rintro k ⟨hk,hpre⟩
 by_cases hkl : k < l.length
 ·obtain ⟨x,hx⟩:=AG hkl
  have gx : l.getD k Kj = x:=getD_at hx
  have hlx:=hl x (List.mem_of_getElem? hx)
  have hK : D6 l k = (JZ x && !((l.take k).any (HK x.src x.call))):=by unfold D6;rw [gx]
  have c1:=XQ x.told hlx
  have hO : JZ x = (x.told.right && (!x.told.asks && (decide (x.told.dst = x.src) && decide (x.told.call = x.call)))):=rfl
  have c2:=RQ (l.take k) x.told.dst x.told.call (fun y hy => hl y (List.mem_of_mem_take hy)) (by rw [List.length_take];omega)
  unfold Past.d Past.cells at c1
  unfold AE.d AE.cells at c1 c2
  have e1 : List.take k (List.map Past.cells l) = List.map Past.cells (List.take k l):=(List.map_take ..).symm
  generalize Lg (l.take k) x.told.dst x.told.call = fm at *
  cases hb : x.told.right && !x.told.asks with
  | false =>
   rw [hb] at c1
   simp only [Bool.false_eq_true,if_false] at c1
   have hN : D6 l k = false:=by rw [hK,hO];revert hb;cases x.told.right <;> cases x.told.asks <;> simp
   have nS:=True.intro;obtain ⟨lv,st,ns,nc⟩:=wq [0,2,3,4,5,7,11,44,56] [];have ix1:=hx;have c1:=@c1;have pr : AC []:=trivial;refine wd ?_;clear nc ns st lv pr c1 ix1;repeat' (first|with_reducible constructor|(with_reducible intro hc;try simp only[A1] at hc))
   all_goals (clear c1 c2;refine ⟨_,_,rfl,rfl,?_⟩;simp only [Ao];rw [hT,C4 hkl hN,Bool.and_false])
  | true =>
   rw [hb] at c1
   simp only [if_true] at c1
   rw [Bool.and_eq_true] at hb
   rw [hb.1,hb.2,Bool.true_and,Bool.true_and] at hO
   by_cases h1 : x.told.dst = x.src
   ·by_cases h2 : x.told.call = x.call
    ·have f1 : (x.told.dst != x.src) = false:=Bb h1
     have f2 : (x.told.call != x.call) = false:=Bb h2
     have hN : D6 l k = !((l.take k).any (HK x.told.dst x.told.call)):=by rw [hK,hO,h1,h2];simp
     generalize (l.take k).any (HK x.told.dst x.told.call) = tw at *
     have nS:=And.intro f1 (And.intro f2 e1);obtain ⟨lv,st,ns,nc⟩:=wq [0,2,3,4,5,7,11,44,56] [];have ix1:=hx;have c1:=@c1;have c2:=@c2;have pr : AC [(3,11),(4,11),(5,11),(6,11)]:=trivial;refine wd ?_;clear nc ns st lv pr c2 c1 ix1;repeat' (first|with_reducible constructor|(with_reducible intro hc;try simp only[A1] at hc))
     all_goals clear c1 c2
     all_goals first
      | (refine ⟨k + 1,⟨hkl,B6 hpre (by rw [hN];grind)⟩,by omega,Nat.le_refl _,?_⟩
         exact A0.ck rfl)
      | (refine ⟨_,_,rfl,rfl,?_⟩;simp only [Ao];rw [hT,C4 hkl (by rw [hN];grind),Bool.and_false])
    ·have f1 : (x.told.dst != x.src) = false:=Bb h1
     have f2 : (x.told.call != x.call) = true:=Be h2
     have hN : D6 l k = false:=by rw [hK,hO];simp [h2]
     have nS:=And.intro f1 f2;obtain ⟨lv,st,ns,nc⟩:=wq [0,2,3,4,5,7,11,44,56] [];have ix1:=hx;have c1:=@c1;have pr : AC []:=trivial;refine wd ?_;clear nc ns st lv pr c1 ix1;repeat' (first|with_reducible constructor|(with_reducible intro hc;try simp only[A1] at hc))
     all_goals (clear c1 c2;refine ⟨_,_,rfl,rfl,?_⟩;simp only [Ao];rw [hT,C4 hkl hN,Bool.and_false])
   ·have f1 : (x.told.dst != x.src) = true:=Be h1
    have hN : D6 l k = false:=by rw [hK,hO];simp [h1]
    have nS:=f1;obtain ⟨lv,st,ns,nc⟩:=wq [0,2,3,4,5,7,11,44,56] [];have ix1:=hx;have c1:=@c1;have pr : AC []:=trivial;refine wd ?_;clear nc ns st lv pr c1 ix1;repeat' (first|with_reducible constructor|(with_reducible intro hc;try simp only[A1] at hc))
    all_goals (clear c1 c2;refine ⟨_,_,rfl,rfl,?_⟩;simp only [Ao];rw [hT,C4 hkl hN,Bool.and_false])
 ·have e : k = l.length:=by omega
  subst e
  rw [hpre] at hT
  have nS:=True.intro;obtain ⟨lv,st,ns,nc⟩:=wq [0,2,3,4,5,7,11,44,56] [];have pr : AC []:=trivial;refine wd ?_;clear nc ns st lv pr;repeat' (first|with_reducible constructor|(with_reducible intro hc;try simp only[A1] at hc))
  all_goals (refine ⟨_,_,rfl,rfl,?_⟩;simp only [Ao];rw [hT];simp;try omega)
theorem Nu (l : List Past) : BK Tryz.prog 165 [.d (AW l)] [] (.fn (.func 230) [] [.ptr 0 0 1]) [.c [.d (AW l)]]:=by
 refine AB A8 Tryz.func165 rfl rfl (Nat.le_of_ble_eq_true rfl) ?_
 have nS:=True.intro;obtain ⟨lv,st,ns,nc⟩:=wq [0,1,2] [];refine wk ?_;clear nc ns st lv;repeat' (first|with_reducible constructor|(with_reducible intro hc;try simp only[A1] at hc))
 exact ⟨_,(A0.ck rfl),Nat.zero_le _,_,_,rfl,rfl,rfl,rfl⟩
theorem Z3 (s c : Int) : BK Tryz.prog 168 [.d (.i .i64 s),.d (.i .i64 c)] [] (.fn (.func 231) [] [.ptr 0 0 1,.ptr 1 0 1]) [.c [.d (.i .i64 s)],.c [.d (.i .i64 c)]]:=by
 refine AB A8 Tryz.func168 rfl rfl (Nat.le_of_ble_eq_true rfl) ?_
 have nS:=True.intro;obtain ⟨lv,st,ns,nc⟩:=wq [0,1,2,3,4] [];refine wk ?_;clear nc ns st lv;repeat' (first|with_reducible constructor|(with_reducible intro hc;try simp only[A1] at hc))
 exact ⟨_,(A0.ck rfl),Nat.zero_le _,_,_,rfl,rfl,rfl,rfl⟩
theorem Wn (p : Past) (s c : Int) : BK Tryz.prog 231 [.d p.d,.ptr 0 0 1,.ptr 1 0 1] [.c [.d (.i .i64 s)],.c [.d (.i .i64 c)]] (.d (.b (HK s c p))) [.c [.d (.i .i64 s)],.c [.d (.i .i64 c)]]:=by
 refine AB A8 Tryz.func231 rfl rfl (Nat.le_of_ble_eq_true rfl) ?_
 unfold Past.d Past.cells
 have hI : HK s c p = (decide (p.src = s) && decide (p.call = c)):=rfl
 generalize HK s c p = q at *
 by_cases h1 : p.src = s
 ·have f1 : (p.src == s) = true:=by simp [h1]
  by_cases h2 : p.call = c
  ·have f2 : (p.call == c) = true:=by simp [h2]
   have e : q = true:=by rw [hI];simp [h1,h2]
   subst e
   have nS:=And.intro f1 f2;obtain ⟨lv,st,ns,nc⟩:=wq [0,1,2,3,4] [];refine wk ?_;clear nc ns st lv;repeat' (first|with_reducible constructor|(with_reducible intro hc;try simp only[A1] at hc))
   exact ⟨⟨[(4,.d (.b true))],[.c [.d (.i .i64 s)],.c [.d (.i .i64 c)]],_⟩,(A0.ck rfl),Nat.le_refl _,_,_,rfl,rfl,rfl,rfl⟩
  ·have f2 : (p.call == c) = false:=by simp [h2]
   have e : q = false:=by rw [hI];simp [h2]
   subst e
   have nS:=And.intro f1 f2;obtain ⟨lv,st,ns,nc⟩:=wq [0,1,2,3,4] [];refine wk ?_;clear nc ns st lv;repeat' (first|with_reducible constructor|(with_reducible intro hc;try simp only[A1] at hc))
   exact ⟨⟨[(4,.d (.b false))],[.c [.d (.i .i64 s)],.c [.d (.i .i64 c)]],_⟩,(A0.ck rfl),Nat.le_refl _,_,_,rfl,rfl,rfl,rfl⟩
 ·have f1 : (p.src == s) = false:=by simp [h1]
  have e : q = false:=by rw [hI];simp [h1]
  subst e
  have nS:=f1;obtain ⟨lv,st,ns,nc⟩:=wq [0,1,2,3,4] [];refine wk ?_;clear nc ns st lv;repeat' (first|with_reducible constructor|(with_reducible intro hc;try simp only[A1] at hc))
  exact ⟨⟨[(4,.d (.b false))],[.c [.d (.i .i64 s)],.c [.d (.i .i64 c)]],_⟩,(A0.ck rfl),Nat.le_refl _,_,_,rfl,rfl,rfl,rfl⟩
def KY (l : List Past) (s c : Int) : Int:=match l.findIdx? (HK s c) with
 | some n => (n : Int)
 | none => -1
theorem Ix {α : Type} {p : α → Bool} {l : List α} {k : Nat} {x : α} (hx : l[k]? = some x) (h : p x = true) (hn : (l.take k).any p = false) : l.findIdx? p = some k:=by
 rw [List.findIdx?_eq_some_iff_getElem]
 obtain ⟨hk,hv⟩:=List.getElem?_eq_some_iff.1 hx
 refine ⟨hk,by rw [hv];exact h,fun j hj => ?_⟩
 rw [List.any_eq_false] at hn
 exact hn _ (List.mem_iff_getElem?.2 ⟨j,by rw [List.getElem?_take,if_pos hj];exact List.getElem?_eq_getElem _⟩)
theorem VG {l : List Past} {s c : Int} {k : Nat} {x : Past} (hx : l[k]? = some x) (h : HK s c x = true) (hn : (l.take k).any (HK s c) = false) : KY l s c = k:=by
 unfold KY;rw [Ix hx h hn]
theorem QV {l : List Past} {s c : Int} (hn : l.any (HK s c) = false) : KY l s c = -1:=by
 unfold KY
 have : l.findIdx? (HK s c) = none:=by
  rw [List.findIdx?_eq_none_iff]
  rw [List.any_eq_false] at hn
  intro x hx
  simpa using hn x hx
 rw [this]
theorem VT (l : List Past) (s c : Int) : decide (KY l s c ≥ 0) = l.any (HK s c):=by
 cases h : l.any (HK s c) with
 | false => rw [QV h];rfl
 | true =>
  obtain ⟨x,hx,hp⟩:=List.any_eq_true.1 h
  have : l.findIdx? (HK s c) ≠ none:=by
   rw [Ne,List.findIdx?_eq_none_iff]
   intro hh
   have:=hh x hx
   rw [hp] at this;cases this
  unfold KY
  split
  ·exact decide_eq_true (by omega)
  ·contradiction
theorem UP (l : List Past) (s c : Int) (hn : l.length ≤ 9223372036854775807) : BK Tryz.prog 167 [.d (AW l),.fn (.func 231) [] [.ptr 0 0 1,.ptr 1 0 1]] [.c [.d (.i .i64 s)],.c [.d (.i .i64 c)]] (.d (.i .i64 (KY l s c))) [.c [.d (.i .i64 s)],.c [.d (.i .i64 c)]]:=by
 refine BK.drop (K:=[.c [.d (.i .i64 s)],.c [.d (.i .i64 c)],.gone,.c [.d (.i .i64 (KY l s c))]]) _ ?_ ⟨.inr rfl,.inr rfl,trivial⟩ rfl rfl rfl
 refine AB A8 Tryz.func167 rfl rfl (Nat.le_of_ble_eq_true rfl) ?_
 have nS:=True.intro;obtain ⟨lv,st,ns,nc⟩:=wq [0,1,3,4,5,6,8,9,10,13] [];have d1:=Ds.mk [] (Nu l);refine wk ?_;clear nc ns st lv d1;repeat' (first|with_reducible constructor|(with_reducible intro hc;try simp only[A1] at hc))
 refine Bn (K:=fun r _ H' => (l.any (HK s c) = false ∧ H' = [.c [.d (.i .i64 s)],.c [.d (.i .i64 c)],.c [.fn (.func 231) [] [.ptr 0 0 1,.ptr 1 0 1]],.c [.d (.i .i64 0)],.c [.d (AW l)],.lp r]) ∨
  (∃ k : Nat,KY l s c = k ∧ H' = [.c [.d (.i .i64 s)],.c [.d (.i .i64 c)],.c [.fn (.func 231) [] [.ptr 0 0 1,.ptr 1 0 1]],.c [.d (.i .i64 k)],.c [.d (AW l)],.lp (r.left .ret)])) rfl (by first | (simp only [Ai,Ae,Nat.reduceAdd,Int.reduceAdd,Int.reduceSub,Int.reduceMul,Int.reduceToNat];done) | (simp only [Ai,Ae,Nat.reduceAdd,Int.reduceAdd,Int.reduceSub,Int.reduceMul,Int.reduceToNat];rfl) | rfl) (by first | (simp only [Ai,Ae,Nat.reduceAdd,Int.reduceAdd,Int.reduceSub,Int.reduceMul,Int.reduceToNat];done) | (simp only [Ai,Ae,Nat.reduceAdd,Int.reduceAdd,Int.reduceSub,Int.reduceMul,Int.reduceToNat];rfl) | rfl) (fun r => (by first | (simp only [Ai,Ae,Nat.reduceAdd,Int.reduceAdd,Int.reduceSub,Int.reduceMul,Int.reduceToNat];done) | (simp only [Ai,Ae,Nat.reduceAdd,Int.reduceAdd,Int.reduceSub,Int.reduceMul,Int.reduceToNat];rfl) | rfl)) ?_ ?_
 ·intro r hr
  refine BP A8 Tryz.func230 rfl rfl (Nat.le_of_ble_eq_true rfl) ?_
  have nS:=True.intro;obtain ⟨lv,st,ns,nc⟩:=wq [0,1,3,4,5,6,7,8,16] [];refine wk ?_;clear nc ns st lv;repeat' (first|with_reducible constructor|(with_reducible intro hc;try simp only[A1] at hc))
  have hk:=hr.ok (k:=5) rfl
  refine AS (fun k => k ≤ l.length ∧ (l.take k).any (HK s c) = false) (fun k : Nat => [(7,.d (.i .i64 k))]) (fun k => l.length - k) 0 ⟨Nat.zero_le _,rfl⟩ (fun _ => rfl) ?_ ?_
  ·exact A0.ck rfl
  rintro k ⟨hkk,hpre⟩
  by_cases hkl : k < l.length
  ·obtain ⟨x,hx⟩:=AG hkl
   have c1:=Wn x s c
   have hA:=BH (p:=HK s c) hx
   rw [hpre,Bool.false_or] at hA
   unfold Past.d Past.cells at c1
   cases hb : HK s c x with
   | true =>
    rw [hb] at c1
    have hY : YT Tryz.prog 5 [.d (.i .i64 k),.d (.agg [.i .i64 x.src,.i .i64 x.call,.i .u8 x.told.kind,.i .i64 x.told.call,.i .i64 x.told.src,.i .i64 x.told.dst,.i .i64 x.told.key,.b x.told.slow,.b x.told.done,.i .i64 x.told.place,.i .i64 x.told.pred,.is x.told.list,.s x.told.item.key,.i .i64 x.told.item.value,.i .i64 x.told.item.version,.b x.told.item.gone,.i .i64 x.told.code])] [.c [.d (.i .i64 s)],.c [.d (.i .i64 c)],.c [.fn (.func 231) [] [.ptr 0 0 1,.ptr 1 0 1]],.c [.d (.i .i64 0)],.c [.d (AW l)],.lp r,.c [.d (.i .i64 x.src),.d (.i .i64 x.call),.d (.i .u8 x.told.kind),.d (.i .i64 x.told.call),.d (.i .i64 x.told.src),.d (.i .i64 x.told.dst),.d (.i .i64 x.told.key),.d (.b x.told.slow),.d (.b x.told.done),.d (.i .i64 x.told.place),.d (.i .i64 x.told.pred),.d (.is x.told.list),.d (.s x.told.item.key),.d (.i .i64 x.told.item.value),.d (.i .i64 x.told.item.version),.d (.b x.told.item.gone),.d (.i .i64 x.told.code)]] fun v K => v = .d (.b false) ∧ K = [.c [.d (.i .i64 s)],.c [.d (.i .i64 c)],.c [.fn (.func 231) [] [.ptr 0 0 1,.ptr 1 0 1]],.c [.d (.i .i64 k)],.c [.d (AW l)],.lp (r.left .ret),.c [.d (.i .i64 x.src),.d (.i .i64 x.call),.d (.i .u8 x.told.kind),.d (.i .i64 x.told.call),.d (.i .i64 x.told.src),.d (.i .i64 x.told.dst),.d (.i .i64 x.told.key),.d (.b x.told.slow),.d (.b x.told.done),.d (.i .i64 x.told.place),.d (.i .i64 x.told.pred),.d (.is x.told.list),.d (.s x.told.item.key),.d (.i .i64 x.told.item.value),.d (.i .i64 x.told.item.version),.d (.b x.told.item.gone),.d (.i .i64 x.told.code)]]:=by
     refine B0 hr rfl rfl rfl ?_
     have nS:=True.intro;obtain ⟨lv,st,ns,nc⟩:=wq [0,1,3,4,5,6,8,9,10,13] [];refine wk ?_;clear nc ns st lv;repeat' (first|with_reducible constructor|(with_reducible intro hc;try simp only[A1] at hc))
     refine ⟨rfl,CB (by first | (simp only [Ai,Ae,Nat.reduceAdd,Int.reduceAdd,Int.reduceSub,Int.reduceMul,Int.reduceToNat];done) | (simp only [Ai,Ae,Nat.reduceAdd,Int.reduceAdd,Int.reduceSub,Int.reduceMul,Int.reduceToNat];rfl) | rfl) ?_⟩
     have nS:=True.intro;obtain ⟨lv,st,ns,nc⟩:=wq [0,1,3,4,5,6,8,9,10,13] [];have d1:=Ds.mk [0,1] (c1);refine wk ?_;clear nc ns st lv d1;repeat' (first|with_reducible constructor|(with_reducible intro hc;try simp only[A1] at hc))
     exact ⟨⟨[],[.c [.d (.i .i64 s)],.c [.d (.i .i64 c)],.c [.fn (.func 231) [] [.ptr 0 0 1,.ptr 1 0 1]],.c [.d (.i .i64 k)],.c [.d (AW l)],.lp r.busy,.c [.d (.i .i64 x.src),.d (.i .i64 x.call),.d (.i .u8 x.told.kind),.d (.i .i64 x.told.call),.d (.i .i64 x.told.src),.d (.i .i64 x.told.dst),.d (.i .i64 x.told.key),.d (.b x.told.slow),.d (.b x.told.done),.d (.i .i64 x.told.place),.d (.i .i64 x.told.pred),.d (.is x.told.list),.d (.s x.told.item.key),.d (.i .i64 x.told.item.value),.d (.i .i64 x.told.item.version),.d (.b x.told.item.gone),.d (.i .i64 x.told.code)]],_⟩,(A0.ck rfl),Nat.le_refl _,rfl,rfl,rfl⟩
    have nS:=True.intro;obtain ⟨lv,st,ns,nc⟩:=wq [0,1,3,4,5,6,7,8,16] [];have ix1:=hx;have q1:=@hY;refine wk ?_;clear nc ns st lv q1 ix1;repeat' (first|with_reducible constructor|(with_reducible intro hc;try simp only[A1] at hc))
    exact ⟨⟨[],[.c [.d (.i .i64 s)],.c [.d (.i .i64 c)],.c [.fn (.func 231) [] [.ptr 0 0 1,.ptr 1 0 1]],.c [.d (.i .i64 k)],.c [.d (AW l)],.lp (r.left .ret)],_⟩,(A0.ck rfl),Nat.le_refl _,_,_,rfl,rfl,.inr ⟨k,VG hx hb hpre,rfl⟩⟩
   | false =>
    rw [hb] at c1
    have hY : YT Tryz.prog 5 [.d (.i .i64 k),.d (.agg [.i .i64 x.src,.i .i64 x.call,.i .u8 x.told.kind,.i .i64 x.told.call,.i .i64 x.told.src,.i .i64 x.told.dst,.i .i64 x.told.key,.b x.told.slow,.b x.told.done,.i .i64 x.told.place,.i .i64 x.told.pred,.is x.told.list,.s x.told.item.key,.i .i64 x.told.item.value,.i .i64 x.told.item.version,.b x.told.item.gone,.i .i64 x.told.code])] [.c [.d (.i .i64 s)],.c [.d (.i .i64 c)],.c [.fn (.func 231) [] [.ptr 0 0 1,.ptr 1 0 1]],.c [.d (.i .i64 0)],.c [.d (AW l)],.lp r,.c [.d (.i .i64 x.src),.d (.i .i64 x.call),.d (.i .u8 x.told.kind),.d (.i .i64 x.told.call),.d (.i .i64 x.told.src),.d (.i .i64 x.told.dst),.d (.i .i64 x.told.key),.d (.b x.told.slow),.d (.b x.told.done),.d (.i .i64 x.told.place),.d (.i .i64 x.told.pred),.d (.is x.told.list),.d (.s x.told.item.key),.d (.i .i64 x.told.item.value),.d (.i .i64 x.told.item.version),.d (.b x.told.item.gone),.d (.i .i64 x.told.code)]] fun v K => v = .d (.b true) ∧ K = [.c [.d (.i .i64 s)],.c [.d (.i .i64 c)],.c [.fn (.func 231) [] [.ptr 0 0 1,.ptr 1 0 1]],.c [.d (.i .i64 0)],.c [.d (AW l)],.lp r,.c [.d (.i .i64 x.src),.d (.i .i64 x.call),.d (.i .u8 x.told.kind),.d (.i .i64 x.told.call),.d (.i .i64 x.told.src),.d (.i .i64 x.told.dst),.d (.i .i64 x.told.key),.d (.b x.told.slow),.d (.b x.told.done),.d (.i .i64 x.told.place),.d (.i .i64 x.told.pred),.d (.is x.told.list),.d (.s x.told.item.key),.d (.i .i64 x.told.item.value),.d (.i .i64 x.told.item.version),.d (.b x.told.item.gone),.d (.i .i64 x.told.code)]]:=by
     refine B0 hr rfl rfl rfl ?_
     have nS:=True.intro;obtain ⟨lv,st,ns,nc⟩:=wq [0,1,3,4,5,6,8,9,10,13] [];refine wk ?_;clear nc ns st lv;repeat' (first|with_reducible constructor|(with_reducible intro hc;try simp only[A1] at hc))
     refine ⟨rfl,CB (by first | (simp only [Ai,Ae,Nat.reduceAdd,Int.reduceAdd,Int.reduceSub,Int.reduceMul,Int.reduceToNat];done) | (simp only [Ai,Ae,Nat.reduceAdd,Int.reduceAdd,Int.reduceSub,Int.reduceMul,Int.reduceToNat];rfl) | rfl) ?_⟩
     have nS:=True.intro;obtain ⟨lv,st,ns,nc⟩:=wq [0,1,3,4,5,6,8,9,10,13] [];have d1:=Ds.mk [0,1] (c1);refine wk ?_;clear nc ns st lv d1;repeat' (first|with_reducible constructor|(with_reducible intro hc;try simp only[A1] at hc))
     exact ⟨⟨[],[.c [.d (.i .i64 s)],.c [.d (.i .i64 c)],.c [.fn (.func 231) [] [.ptr 0 0 1,.ptr 1 0 1]],.c [.d (.i .i64 0)],.c [.d (AW l)],.lp r.busy,.c [.d (.i .i64 x.src),.d (.i .i64 x.call),.d (.i .u8 x.told.kind),.d (.i .i64 x.told.call),.d (.i .i64 x.told.src),.d (.i .i64 x.told.dst),.d (.i .i64 x.told.key),.d (.b x.told.slow),.d (.b x.told.done),.d (.i .i64 x.told.place),.d (.i .i64 x.told.pred),.d (.is x.told.list),.d (.s x.told.item.key),.d (.i .i64 x.told.item.value),.d (.i .i64 x.told.item.version),.d (.b x.told.item.gone),.d (.i .i64 x.told.code)]],_⟩,(A0.ck rfl),Nat.le_refl _,rfl,rfl,rfl⟩
    have nS:=True.intro;obtain ⟨lv,st,ns,nc⟩:=wq [0,1,3,4,5,6,7,8,16] [];have ix1:=hx;have q1:=@hY;refine wk ?_;clear nc ns st lv q1 ix1;repeat' (first|with_reducible constructor|(with_reducible intro hc;try simp only[A1] at hc))
    refine ⟨k + 1,⟨hkl,by rw [hA,hb]⟩,by omega,Nat.le_refl _,?_⟩
    exact A0.ck rfl
  ·have e : k = l.length:=by omega
   subst e
   rw [List.take_length] at hpre
   have nS:=True.intro;obtain ⟨lv,st,ns,nc⟩:=wq [0,1,3,4,5,6,7,8,16] [];refine wk ?_;clear nc ns st lv;repeat' (first|with_reducible constructor|(with_reducible intro hc;try simp only[A1] at hc))
   exact ⟨_,A0.refl _,Nat.le_refl _,_,_,rfl,rfl,.inl ⟨hpre,rfl⟩⟩
 ·rintro r hr y H' (⟨h,rfl⟩ | ⟨k,h,rfl⟩)
  ·refine .inl ⟨rfl,?_⟩
   rw [QV h]
   have nS:=True.intro;obtain ⟨lv,st,ns,nc⟩:=wq [0,1,3,4,5,6,8,9,10,13] [];refine wk ?_;clear nc ns st lv;repeat' (first|with_reducible constructor|(with_reducible intro hc;try simp only[A1] at hc))
   exact ⟨⟨[(4,.ptr 3 0 1)],[.c [.d (.i .i64 s)],.c [.d (.i .i64 c)],.gone,.c [.d (.i .i64 (-1))]],_⟩,(A0.ck rfl),Nat.le_of_ble_eq_true rfl,_,_,rfl,rfl,rfl,rfl⟩
  ·refine .inr ⟨.ret,rfl,?_⟩
   rw [h]
   have nS:=True.intro;obtain ⟨lv,st,ns,nc⟩:=wq [0,1,3,4,5,6,8,9,10,13] [];refine wk ?_;clear nc ns st lv;repeat' (first|with_reducible constructor|(with_reducible intro hc;try simp only[A1] at hc))
   exact ⟨⟨[(4,.ptr 3 0 1)],[.c [.d (.i .i64 s)],.c [.d (.i .i64 c)],.gone,.c [.d (.i .i64 k)]],_⟩,(A0.ck rfl),Nat.le_of_ble_eq_true rfl,_,_,rfl,rfl,rfl,rfl⟩
end Nd
end Go.Proofs.YtagnjflbhjmefaaGreat
