/- Part 24 of the texts of this proof, put together by a program and made short.
Conditions: none; what each theorem asks stands in its own hypotheses. -/
import Derived.Test.YtagnjflbhjmefaaGreatRb23
import Derived.Sort.Walk0
import Derived.KernelRfl
import Derived.RangeFuncIn
import Derived.Sort.Grow
import Derived.Laws.Cover3
import Derived.RecoverIn
import Derived.ProofKit
import Derived.OpenShut
import Derived.CallsIn
import Derived.RangeFuncLeaves
import Derived.OrdersIn
import Derived.TacticsIn
import Derived.ChangeKeysEq
import Derived.Laws.AppendOwn
import Derived.Laws.OwnMore
import Derived.Laws.MakeOwn
import Derived.Laws.Rows
import Derived.Laws.Cells
import Derived.Laws.Tables
import Derived.Laws.CopyRow
import Derived.Laws.Strings
import Derived.Laws.IdiomStrings
import Derived.Laws.BytesArg
import Derived.Test.YtagnjflbhjmefaaGreatProg
set_option linter.unusedSimpArgs false
set_option linter.unusedVariables false
set_option linter.unnecessarySimpa false
set_option maxHeartbeats 40000000
namespace Go.Proofs.YtagnjflbhjmefaaGreat
namespace Nd
open Go.Gar
open Wi (AE Az B7)
set_option maxRecDepth 4000
theorem FF (n : Int) : Go.Gar.Fn Tryz.prog 60 [.i .i64 n] (.b (Az n)):=by
 refine A3 A8 Tryz.func60 rfl rfl (Nat.le_of_ble_eq_true rfl) ?_
 have nS:=True.intro;obtain ⟨lv,st,ns,nc⟩:=wq [0,2] [];refine wk ?_;clear nc ns st lv;repeat' (first|with_reducible constructor|(with_reducible intro hc;try simp only[A1] at hc))
 all_goals (refine ⟨_,_,rfl,rfl,?_⟩;simp [BQ,Az, *];try omega)
def Kx (l : List Int) (k : Nat) : Bool:=Az (l.getD k 0) && decide (k = 0 ∨ l.getD (k - 1) 0 < l.getD k 0)
def En (l : List Int) : Bool:=Ba l.length (Kx l)
theorem IU (l : List Int) (hn : l.length ≤ 9223372036854775807) : Go.Gar.Fn Tryz.prog 50 [.is l] (.b (En l)):=by
 refine A3 A8 Tryz.func50 rfl rfl (Nat.le_of_ble_eq_true rfl) ?_
 have hT : En l = Ba l.length (Kx l):=rfl
 have c1:=FF
 have nS:=True.intro;obtain ⟨lv,st,ns,nc⟩:=wq [0,2,3,7,31] [];have pr : AC []:=trivial;refine wd ?_;clear nc ns st lv pr;repeat' (first|with_reducible constructor|(with_reducible intro hc;try simp only[A1] at hc))
 refine AS (fun k => k ≤ l.length ∧ Ba k (Kx l) = true) (fun k : Nat => [(3,.d (.i .i64 k))]) (fun k => l.length - k) 0 ⟨Nat.zero_le _,rfl⟩ (fun _ => rfl) ?_ ?_
 ·exact A0.ck rfl
 rintro k ⟨hk,hpre⟩
 by_cases hkl : k < l.length
 ·obtain ⟨x,hx⟩:=AG hkl
  have gx:=AY hx
  have c1:=FF x
  have hK : Kx l k = (Az x && decide (k = 0 ∨ l.getD (k - 1) 0 < x)):=by unfold Kx;rw [gx]
  generalize Az x = ok at *
  by_cases h0 : k = 0
  ·have f6 : decide ((k : Int) > 0) = false:=decide_eq_false (by omega)
   have nS:=And.intro gx f6;obtain ⟨lv,st,ns,nc⟩:=wq [0,2,3,7,31] [];have c1:=@c1;have pr : AC []:=trivial;refine wd ?_;clear nc ns st lv pr c1;repeat' (first|with_reducible constructor|(with_reducible intro hc;try simp only[A1] at hc))
   all_goals clear c1
   all_goals first
    | (refine ⟨k + 1,⟨hkl,B6 hpre (by rw [hK];grind)⟩,by omega,Nat.le_refl _,?_⟩
       exact A0.ck rfl)
    | (refine ⟨_,_,rfl,rfl,?_⟩;simp only [Ao];rw [hT,C4 hkl (by rw [hK];grind)])
  ·have f6 : decide ((k : Int) > 0) = true:=decide_eq_true (by omega)
   have e1 : (k : Int) - 1 = ((k - 1 : Nat) : Int):=by omega
   obtain ⟨y,hy⟩:=AG (xs:=l) (k:=k - 1) (by omega)
   have gy:=AY hy
   rw [gy] at hK
   have nS:=And.intro gx (And.intro gy (And.intro f6 e1));obtain ⟨lv,st,ns,nc⟩:=wq [0,2,3,7,31] [];have c1:=@c1;have pr : AC []:=trivial;refine wd ?_;clear nc ns st lv pr c1;repeat' (first|with_reducible constructor|(with_reducible intro hc;try simp only[A1] at hc))
   all_goals clear c1
   all_goals first
    | (refine ⟨k + 1,⟨hkl,B6 hpre (by rw [hK];grind)⟩,by omega,Nat.le_refl _,?_⟩
       exact A0.ck rfl)
    | (refine ⟨_,_,rfl,rfl,?_⟩;simp only [Ao];rw [hT,C4 hkl (by rw [hK];grind)])
 ·have e : k = l.length:=by omega
  subst e
  rw [hpre] at hT
  have nS:=True.intro;obtain ⟨lv,st,ns,nc⟩:=wq [0,2,3,7,31] [];have pr : AC []:=trivial;refine wd ?_;clear nc ns st lv pr;repeat' (first|with_reducible constructor|(with_reducible intro hc;try simp only[A1] at hc))
  refine ⟨_,_,rfl,rfl,?_⟩;simp [AH,A6,A5,A4,hT]
theorem O8 (l : List Int) (x : Int) (hn : l.length ≤ 9223372036854775807) : Go.Gar.Fn Tryz.prog 61 [.is l,.i .i64 x] (.b (decide (x ∈ l))):=by
 refine A3 A8 Tryz.func61 rfl rfl (Nat.le_of_ble_eq_true rfl) ?_
 have nS:=True.intro;obtain ⟨lv,st,ns,nc⟩:=wq [0,1,4,5,9,17] [];refine wk ?_;clear nc ns st lv;repeat' (first|with_reducible constructor|(with_reducible intro hc;try simp only[A1] at hc))
 refine AS (fun k => k ≤ l.length ∧ x ∉ l.take k) (fun k : Nat => [(5,.d (.i .i64 k))]) (fun k => l.length - k) 0 ⟨Nat.zero_le _,by simp⟩ (fun _ => rfl) ?_ ?_
 ·exact A0.ck rfl
 rintro k ⟨hk,hpre⟩
 by_cases hkl : k < l.length
 ·obtain ⟨y,hy⟩:=AG hkl
  have gy:=AY hy
  by_cases h : y = x
  ·have f1:=Ar h
   have nS:=And.intro gy f1;obtain ⟨lv,st,ns,nc⟩:=wq [0,1,4,5,9,17] [];refine wk ?_;clear nc ns st lv;repeat' (first|with_reducible constructor|(with_reducible intro hc;try simp only[A1] at hc))
   refine ⟨_,_,rfl,rfl,?_⟩
   simp only [Ao];rw [decide_eq_true (h ▸ List.mem_of_getElem? hy)]
  ·have f1:=eq_false' h
   have hn : x ∉ l.take (k + 1):=by rw [AR hy,List.mem_append,List.mem_singleton];exact fun e => e.elim hpre fun e => h e.symm
   have nS:=And.intro gy f1;obtain ⟨lv,st,ns,nc⟩:=wq [0,1,4,5,9,17] [];refine wk ?_;clear nc ns st lv;repeat' (first|with_reducible constructor|(with_reducible intro hc;try simp only[A1] at hc))
   refine ⟨k + 1,⟨hkl,hn⟩,by omega,Nat.le_refl _,?_⟩
   exact A0.ck rfl
 ·have e : k = l.length:=by omega
  subst e
  rw [List.take_length] at hpre
  have nS:=True.intro;obtain ⟨lv,st,ns,nc⟩:=wq [0,1,4,5,9,17] [];refine wk ?_;clear nc ns st lv;repeat' (first|with_reducible constructor|(with_reducible intro hc;try simp only[A1] at hc))
  refine ⟨_,_,rfl,rfl,?_⟩
  simp only [Ao];rw [decide_eq_false hpre]
theorem pre_eq {a b : List Int} {k : Nat} {x y : Int} (hx : a[k]? = some x) (hy : b[k]? = some y) (hp : a.take k = b.take k) : a.take (k + 1) = b.take (k + 1) ↔ x = y:=by
 rw [AR hx,AR hy,hp]
 simp
theorem SP (a b : List Int) (hn : a.length ≤ 9223372036854775807) : Go.Gar.Fn Tryz.prog 59 [.is a,.is b] (.b (decide (a = b))):=by
 refine A3 A8 Tryz.func59 rfl rfl (Nat.le_of_ble_eq_true rfl) ?_
 by_cases hl : a.length = b.length
 ·have f1 : ((a.length : Int) != b.length) = false:=Bb (by omega)
  have nS:=f1;obtain ⟨lv,st,ns,nc⟩:=wq [0,1,4,5,10,14,25] [];have pr : AC []:=trivial;refine wd ?_;clear nc ns st lv pr;repeat' (first|with_reducible constructor|(with_reducible intro hc;try simp only[A1] at hc))
  refine AS (fun k => k ≤ a.length ∧ a.take k = b.take k) (fun k : Nat => [(5,.d (.i .i64 k))]) (fun k => a.length - k) 0 ⟨Nat.zero_le _,rfl⟩ (fun _ => rfl) ?_ ?_
  ·exact A0.ck rfl
  rintro k ⟨hk,hpre⟩
  by_cases hkl : k < a.length
  ·obtain ⟨x,hx⟩:=AG hkl
   obtain ⟨y,hy⟩:=AG (xs:=b) (k:=k) (by omega)
   have gx:=AY hx
   have gy:=AY hy
   have hE:=pre_eq hx hy hpre
   by_cases h : x = y
   ·have f2:=Bb h
    have nS:=And.intro gx (And.intro gy f2);obtain ⟨lv,st,ns,nc⟩:=wq [0,1,4,5,10,14,25] [];have pr : AC []:=trivial;refine wd ?_;clear nc ns st lv pr;repeat' (first|with_reducible constructor|(with_reducible intro hc;try simp only[A1] at hc))
    refine ⟨k + 1,⟨hkl,hE.2 h⟩,by omega,Nat.le_refl _,?_⟩
    exact A0.ck rfl
   ·have f2:=Be h
    have hN : a ≠ b:=by intro e;subst e;exact h (by rw [hx] at hy;exact Option.some.inj hy)
    have nS:=And.intro gx (And.intro gy f2);obtain ⟨lv,st,ns,nc⟩:=wq [0,1,4,5,10,14,25] [];have pr : AC []:=trivial;refine wd ?_;clear nc ns st lv pr;repeat' (first|with_reducible constructor|(with_reducible intro hc;try simp only[A1] at hc))
    refine ⟨_,_,rfl,rfl,?_⟩
    simp only [Ao];rw [decide_eq_false hN]
  ·have e : k = a.length:=by omega
   subst e
   rw [List.take_length,hl,List.take_length] at hpre
   have nS:=True.intro;obtain ⟨lv,st,ns,nc⟩:=wq [0,1,4,5,10,14,25] [];have pr : AC []:=trivial;refine wd ?_;clear nc ns st lv pr;repeat' (first|with_reducible constructor|(with_reducible intro hc;try simp only[A1] at hc))
   refine ⟨_,_,rfl,rfl,?_⟩
   simp only [Ao];rw [decide_eq_true hpre]
 ·have f1 : ((a.length : Int) != b.length) = true:=Be (by omega)
  have hN : a ≠ b:=fun e => hl (by rw [e])
  have nS:=f1;obtain ⟨lv,st,ns,nc⟩:=wq [0,1,4,5,10,14,25] [];have pr : AC []:=trivial;refine wd ?_;clear nc ns st lv pr;repeat' (first|with_reducible constructor|(with_reducible intro hc;try simp only[A1] at hc))
  refine ⟨_,_,rfl,rfl,?_⟩
  simp only [Ao];rw [decide_eq_false hN]
def Do (p : Int) (n : Node) : Bool:=decide (n.view.id = p)
def ids (l : List Node) : List Int:=l.map fun n => n.view.id
theorem KQ (c : AD) (p : Int) (hn : c.nodes.length ≤ 9223372036854775807) : Go.Gar.Fn Tryz.prog 54 [c.d,.i .i64 p] (.i .i64 (CN (Do p) c.nodes)):=by
 obtain ⟨l,gone,base,grams,lost⟩:=c
 replace hn : l.length ≤ 9223372036854775807:=hn
 refine A3 A8 Tryz.func54 rfl rfl (Nat.le_of_ble_eq_true rfl) ?_
 have nS:=True.intro;obtain ⟨lv,st,ns,nc⟩:=wq [0,1,2,4,5,10,21] [];refine wk ?_;clear nc ns st lv;repeat' (first|with_reducible constructor|(with_reducible intro hc;try simp only[A1] at hc))
 refine AS (fun k => k ≤ l.length ∧ (l.take k).any (Do p) = false) (fun k : Nat => [(5,.d (.i .i64 k))]) (fun k => l.length - k) 0 ⟨Nat.zero_le _,rfl⟩ (fun _ => rfl) ?_ ?_
 ·exact A0.ck rfl
 rintro k ⟨hk,hpre⟩
 by_cases hkl : k < l.length
 ·obtain ⟨x,hx⟩:=AG hkl
  have hA:=BH (p:=Do p) hx
  rw [hpre,Bool.false_or] at hA
  have hE : Do p x = decide (x.view.id = p):=rfl
  by_cases h : x.view.id = p
  ·have f1:=Ar h
   rw [decide_eq_true h] at hE
   have nS:=f1;obtain ⟨lv,st,ns,nc⟩:=wq [0,1,2,4,5,10,21] [];have ix1:=hx;refine wk ?_;clear nc ns st lv ix1;repeat' (first|with_reducible constructor|(with_reducible intro hc;try simp only[A1] at hc))
   refine ⟨_,_,rfl,rfl,?_⟩
   simp only [Ao];rw [FH hx hE hpre]
  ·have f1:=eq_false' h
   rw [decide_eq_false h] at hE
   have nS:=f1;obtain ⟨lv,st,ns,nc⟩:=wq [0,1,2,4,5,10,21] [];have ix1:=hx;refine wk ?_;clear nc ns st lv ix1;repeat' (first|with_reducible constructor|(with_reducible intro hc;try simp only[A1] at hc))
   refine ⟨k + 1,⟨hkl,by rw [hA,hE]⟩,by omega,Nat.le_refl _,?_⟩
   exact A0.ck rfl
 ·have e : k = l.length:=by omega
  subst e
  rw [List.take_length] at hpre
  have nS:=True.intro;obtain ⟨lv,st,ns,nc⟩:=wq [0,1,2,4,5,10,21] [];refine wk ?_;clear nc ns st lv;repeat' (first|with_reducible constructor|(with_reducible intro hc;try simp only[A1] at hc))
  refine ⟨_,_,rfl,rfl,?_⟩
  simp only [Ao];rw [E3 hpre]
theorem RI (c : AD) (hn : c.nodes.length ≤ 1048576) : Go.Gar.Fn Tryz.prog 57 [c.d] (.is (ids c.nodes)):=by
 obtain ⟨l,gone,base,grams,lost⟩:=c
 replace hn : l.length ≤ 1048576:=hn
 refine A3 A8 Tryz.func57 rfl rfl (Nat.le_of_ble_eq_true rfl) ?_
 have nS:=True.intro;obtain ⟨lv,st,ns,nc⟩:=wq [0,1,2,3,4,9] [];refine wk ?_;clear nc ns st lv;repeat' (first|with_reducible constructor|(with_reducible intro hc;try simp only[A1] at hc))
 refine B3 (A0.J1 3 (.is []) rfl rfl rfl trivial) (by simp) ?_
 refine E6 (fun k => k ≤ l.length) (fun k : Nat => [(3,.sl 1 (ids (l.take k)).length 1),(4,.d (.i .i64 k))]) (fun k => [(1,.a (.is (ids (l.take k))))]) (fun k => l.length - k) 0 (Nat.zero_le _) (fun _ => rfl) (fun _ => rfl) ?_ ?_
 ·exact A0.ck rfl
 intro k hk
 have htl : (ids (l.take k)).length ≤ k:=by unfold ids;rw [List.length_map];exact List.length_take_le _ _
 by_cases hkl : k < l.length
 ·obtain ⟨x,hx⟩:=AG hkl
  have hn : ids (l.take (k + 1)) = ids (l.take k) ++ [x.view.id]:=by unfold ids;rw [AR hx];simp
  have nS:=True.intro;obtain ⟨lv,st,ns,nc⟩:=wq [0,1,2,3,4,9] [];have ix1:=hx;refine wk ?_;clear nc ns st lv ix1;repeat' (first|with_reducible constructor|(with_reducible intro hc;try simp only[A1] at hc))
  refine ⟨k + 1,hkl,by omega,Nat.le_refl _,?_⟩
  exact A0.cut rfl (by repeat' (first | exact True.intro | refine And.intro (by (first | rfl | ((with_reducible_and_instances refine congrArg (fun z => some (AV.d (D.i _ z))) ?_);omega) | (refine congrArg (fun z => some (AV.d (D.i _ z))) (?_ : (_ : Int) = _);omega) | (refine congrArg some ?_;simp only [hn,List.length_append,List.length_cons,List.length_nil];done) | (refine congrArg some ?_;simp [hn,List.length_append,List.length_cons,List.length_nil];done))) ?_)) (by repeat' (first | exact True.intro | refine And.intro (Or.inr rfl) ?_ | refine And.intro (Or.inl ⟨rfl,rfl⟩) ?_ | refine And.intro (Or.inr (by simp only [hn,List.length_append,List.length_cons,List.length_nil])) ?_ | refine And.intro (Or.inr (by simp [hn,List.length_append,List.length_cons,List.length_nil])) ?_)) (by first | rfl | (simp (decide:=true) [AT,A7.ok,AV.oks,AV.ok,hk];done)) rfl
 ·have e : k = l.length:=by omega
  subst e
  rw [List.take_length]
  have nS:=True.intro;obtain ⟨lv,st,ns,nc⟩:=wq [0,1,2,3,4,9] [];refine wk ?_;clear nc ns st lv;repeat' (first|with_reducible constructor|(with_reducible intro hc;try simp only[A1] at hc))
  refine ⟨_,_,rfl,rfl,?_⟩;simp [AH,A6,A5,A4]
def AZ (l : List Node) (p : Int) : Bool:=l.any (Do p)
def GG (c : AD) (n : Node) : Bool:=Cb n && decide (n.view.base = c.base)
def Nf (c : AD) (k : Nat) : Bool:=Az (c.gone.getD k 0) && (!(AZ c.nodes (c.gone.getD k 0)) && !(decide (c.gone.getD k 0 ∈ c.gone.take k)))
def OB (c : AD) : Bool:=decide (2 ≤ c.base.length) && (decide (c.base.length ≤ 4) && (En c.base && (decide (c.nodes.length ≤ 12) && (En (ids c.nodes) && (decide (c.gone.length ≤ 1000) && decide (c.grams.length ≤ 400))))))
def AN (c : AD) : Bool:=OB c && (c.nodes.all (GG c) && (c.base.all (AZ c.nodes) && Ba c.gone.length (Nf c)))
structure I7 (c : AD) : Prop where
 nl : c.nodes.length ≤ 1048576
 nn : ∀ n ∈ c.nodes,LA n
 gl : c.gone.length ≤ 1048576
 bl : c.base.length ≤ 1048576
 ll : c.grams.length ≤ 1048576
abbrev FX : Job:=⟨0,0,⟨0,0,0,false,false,0⟩,AP,0,[],0⟩
abbrev Di : Node:=⟨zeroV,0,⟨0,0,[]⟩,[],0,0,FX,FX,FX,0,[],[],0⟩
def nodeAt (l : List Node) (p : Int) : Node:=match l.find? (Do p) with
 | some n => n
 | none => Di
theorem SV {l : List Node} {p : Int} {k : Nat} {x : Node} (hx : l[k]? = some x) (h : Do p x = true) (hn : (l.take k).any (Do p) = false) : nodeAt l p = x:=by
 have e : l = l.take k ++ x :: l.drop (k + 1):=by
  have hk:=(List.getElem?_eq_some_iff.1 hx).1
  have hv:=(List.getElem?_eq_some_iff.1 hx).2
  rw [← hv,← List.drop_eq_getElem_cons hk,List.take_append_drop]
 unfold nodeAt
 rw [e,List.find?_append]
 have : (l.take k).find? (Do p) = none:=by
  rw [List.find?_eq_none]
  intro y hy
  rw [List.any_eq_false] at hn
  simpa using hn y hy
 rw [this]
 simp [List.find?_cons,h]
theorem EC {l : List Node} {p : Int} (h : AZ l p = true) : ∃ (k : Nat) (x : Node),CN (Do p) l = k ∧ l[k]? = some x ∧ Do p x = true ∧ nodeAt l p = x:=by
 obtain ⟨x,hx,hp⟩:=List.any_eq_true.1 h
 cases hf : l.findIdx? (Do p) with
 | none => rw [List.findIdx?_eq_none_iff] at hf;rw [hf x hx] at hp;cases hp
 | some k =>
  obtain ⟨hk,h1,h2⟩:=List.findIdx?_eq_some_iff_getElem.1 hf
  refine ⟨k,l[k],by unfold CN;rw [hf],List.getElem?_eq_getElem hk,h1,SV (List.getElem?_eq_getElem hk) h1 ?_⟩
  rw [List.any_eq_false]
  intro y hy
  obtain ⟨j,hj⟩:=List.mem_iff_getElem?.1 hy
  rw [List.getElem?_take] at hj
  split at hj
  ·rename_i hjk
   obtain ⟨hj1,hj2⟩:=List.getElem?_eq_some_iff.1 hj
   rw [← hj2];simpa using h2 j hjk
  ·cases hj
theorem LQ {l : List Node} {p : Int} (h : AZ l p = false) : CN (Do p) l = -1 ∧ nodeAt l p = Di:=by
 refine ⟨E3 h,?_⟩
 unfold nodeAt
 have : l.find? (Do p) = none:=by
  rw [List.find?_eq_none]
  intro y hy
  have:=List.any_eq_false.1 h y hy
  simpa using this
 rw [this]
theorem Td (c : AD) (p : Int) (h : I7 c) : Go.Gar.Fn Tryz.prog 26 [c.d,.i .i64 p] (.tup [(nodeAt c.nodes p).d,.b (AZ c.nodes p)]):=by
 have c1:=KQ c p (by have:=h.nl;omega)
 refine A3 A8 Tryz.func26 rfl rfl (Nat.le_of_ble_eq_true rfl) ?_
 unfold AD.d AD.cells at *
 cases hb : AZ c.nodes p with
 | false =>
  obtain ⟨e1,e2⟩:=LQ hb
  rw [e1] at c1
  rw [e2]
  have nS:=True.intro;obtain ⟨lv,st,ns,nc⟩:=wq [0,1,2,4,5,6,11] [];have c1:=@c1;refine wk ?_;clear nc ns st lv c1;repeat' (first|with_reducible constructor|(with_reducible intro hc;try simp only[A1] at hc))
  refine ⟨_,_,rfl,rfl,?_⟩;simp [AH,A6,A5,A4,Node.d,Node.cells,View.cells,Calls.cells,Job.cells,zeroV,AP]
 | true =>
  obtain ⟨k,x,e1,e2,e3,e4⟩:=EC hb
  rw [e1] at c1
  rw [e4]
  have c2:=Km x (h.nn x (List.mem_of_getElem? e2))
  have f1 : decide ((k : Int) < 0) = false:=decide_eq_false (by omega)
  have nS:=f1;obtain ⟨lv,st,ns,nc⟩:=wq [0,1,2,4,5,6,11] [];have c1:=@c1;have c2:=@c2;have ix1:=e2;refine wk ?_;clear nc ns st lv ix1 c2 c1;repeat' (first|with_reducible constructor|(with_reducible intro hc;try simp only[A1] at hc))
  refine ⟨_,_,rfl,rfl,?_⟩;simp [AH,A6,A5,A4,Node.d,Node.cells,View.cells,Calls.cells,Job.cells]
theorem It (n : Int) : Go.Gar.Fn Tryz.prog 103 [.i .i64 n] (.b (Az n)):=by
 refine A3 A8 Tryz.func103 rfl rfl (Nat.le_of_ble_eq_true rfl) ?_
 have nS:=True.intro;obtain ⟨lv,st,ns,nc⟩:=wq [0,2] [];refine wk ?_;clear nc ns st lv;repeat' (first|with_reducible constructor|(with_reducible intro hc;try simp only[A1] at hc))
 all_goals (refine ⟨_,_,rfl,rfl,?_⟩;simp [BQ,Az, *];try omega)
theorem LJ (l : List Int) (hn : l.length ≤ 9223372036854775807) : Go.Gar.Fn Tryz.prog 63 [.is l] (.b (decide (2 ≤ l.length) && (decide (l.length ≤ 4) && En l))):=by
 refine A3 A8 Tryz.func63 rfl rfl (Nat.le_of_ble_eq_true rfl) ?_
 by_cases h2 : l.length < 2
 ·have f1 : decide ((l.length : Int) < 2) = true:=decide_eq_true (by omega)
  rw [decide_eq_false (show ¬ 2 ≤ l.length by omega),Bool.false_and]
  have nS:=f1;obtain ⟨lv,st,ns,nc⟩:=wq [0,2,3,4,12,13,14,15,16,35] [];refine wk ?_;clear nc ns st lv;repeat' (first|with_reducible constructor|(with_reducible intro hc;try simp only[A1] at hc))
  refine ⟨_,_,rfl,rfl,?_⟩;simp [AH,A6,A5,A4]
 have f1 : decide ((l.length : Int) < 2) = false:=decide_eq_false (by omega)
 by_cases h4 : l.length > 4
 ·have f2 : decide ((l.length : Int) > 4) = true:=decide_eq_true (by omega)
  rw [decide_eq_false (show ¬ l.length ≤ 4 by omega),Bool.false_and,Bool.and_false]
  have nS:=And.intro f1 f2;obtain ⟨lv,st,ns,nc⟩:=wq [0,2,3,4,12,13,14,15,16,35] [];refine wk ?_;clear nc ns st lv;repeat' (first|with_reducible constructor|(with_reducible intro hc;try simp only[A1] at hc))
  refine ⟨_,_,rfl,rfl,?_⟩;simp [AH,A6,A5,A4]
 have f2 : decide ((l.length : Int) > 4) = false:=decide_eq_false (by omega)
 rw [decide_eq_true (show 2 ≤ l.length by omega),decide_eq_true (show l.length ≤ 4 by omega),Bool.true_and,Bool.true_and]
 have hT : En l = Ba l.length (Kx l):=rfl
 have nS:=And.intro f1 f2;obtain ⟨lv,st,ns,nc⟩:=wq [0,2,3,4,12,13,14,15,16,35] [];refine wk ?_;clear nc ns st lv;repeat' (first|with_reducible constructor|(with_reducible intro hc;try simp only[A1] at hc))
 refine AS (fun k => k ≤ l.length ∧ Ba k (Kx l) = true) (fun k : Nat => [(15,.d (.i .i64 k))]) (fun k => l.length - k) 0 ⟨Nat.zero_le _,rfl⟩ (fun _ => rfl) ?_ ?_
 ·exact A0.ck rfl
 rintro k ⟨hk,hpre⟩
 by_cases hkl : k < l.length
 ·obtain ⟨x,hx⟩:=AG hkl
  have gx:=AY hx
  have c1:=It x
  have hK : Kx l k = (Az x && decide (k = 0 ∨ l.getD (k - 1) 0 < x)):=by unfold Kx;rw [gx]
  generalize Az x = ok at *
  by_cases h0 : k = 0
  ·have f6 : decide ((k : Int) > 0) = false:=decide_eq_false (by omega)
   have nS:=And.intro gx f6;obtain ⟨lv,st,ns,nc⟩:=wq [0,2,3,4,12,13,14,15,16,35] [];have c1:=@c1;refine wk ?_;clear nc ns st lv c1;repeat' (first|with_reducible constructor|(with_reducible intro hc;try simp only[A1] at hc))
   all_goals clear c1
   all_goals first
    | (refine ⟨k + 1,⟨hkl,B6 hpre (by rw [hK];grind)⟩,by omega,Nat.le_refl _,?_⟩
       exact A0.ck rfl)
    | (refine ⟨_,_,rfl,rfl,?_⟩;simp only [Ao];rw [hT,C4 hkl (by rw [hK];grind)])
  ·have f6 : decide ((k : Int) > 0) = true:=decide_eq_true (by omega)
   have e1 : (k : Int) - 1 = ((k - 1 : Nat) : Int):=by omega
   obtain ⟨y,hy⟩:=AG (xs:=l) (k:=k - 1) (by omega)
   have gy:=AY hy
   rw [gy] at hK
   have nS:=And.intro gx (And.intro gy (And.intro f6 e1));obtain ⟨lv,st,ns,nc⟩:=wq [0,2,3,4,12,13,14,15,16,35] [];have c1:=@c1;refine wk ?_;clear nc ns st lv c1;repeat' (first|with_reducible constructor|(with_reducible intro hc;try simp only[A1] at hc))
   all_goals clear c1
   all_goals first
    | (refine ⟨k + 1,⟨hkl,B6 hpre (by rw [hK];grind)⟩,by omega,Nat.le_refl _,?_⟩
       exact A0.ck rfl)
    | (refine ⟨_,_,rfl,rfl,?_⟩;simp only [Ao];rw [hT,C4 hkl (by rw [hK];grind)])
 ·have e : k = l.length:=by omega
  subst e
  rw [hpre] at hT
  have nS:=True.intro;obtain ⟨lv,st,ns,nc⟩:=wq [0,2,3,4,12,13,14,15,16,35] [];refine wk ?_;clear nc ns st lv;repeat' (first|with_reducible constructor|(with_reducible intro hc;try simp only[A1] at hc))
  refine ⟨_,_,rfl,rfl,?_⟩;simp [AH,A6,A5,A4,hT]
theorem Oa (l : List Node) : BK Tryz.prog 64 [.d (A2 l)] [] (.fn (.func 104) [] [.ptr 0 0 1]) [.c [.d (A2 l)]]:=by
 refine AB A8 Tryz.func64 rfl rfl (Nat.le_of_ble_eq_true rfl) ?_
 have nS:=True.intro;obtain ⟨lv,st,ns,nc⟩:=wq [0,1,2] [];refine wk ?_;clear nc ns st lv;repeat' (first|with_reducible constructor|(with_reducible intro hc;try simp only[A1] at hc))
 exact ⟨_,(A0.ck rfl),Nat.zero_le _,_,_,rfl,rfl,rfl,rfl⟩
theorem Nx (l : List Node) (p : Int) (hn : l.length ≤ 9223372036854775807) : Go.Gar.Fn Tryz.prog 67 [A2 l,.i .i64 p] (.i .i64 (CN (Do p) l)):=by
 refine A3 A8 Tryz.func67 rfl rfl (Nat.le_of_ble_eq_true rfl) ?_
 have nS:=True.intro;obtain ⟨lv,st,ns,nc⟩:=wq [0,1,3,4,5,6,8,9,10,17] [];have d1:=Ds.mk [] (Oa l);have pr : AC []:=trivial;refine wd ?_;clear nc ns st lv pr d1;repeat' (first|with_reducible constructor|(with_reducible intro hc;try simp only[A1] at hc))
 refine Bn (K:=fun r _ H' => (l.any (Do p) = false ∧ H' = [.c [.d (.i .i64 p)],.c [.d (.i .i64 0)],.c [.d (A2 l)],.lp r]) ∨
  (∃ k : Nat,CN (Do p) l = k ∧ H' = [.c [.d (.i .i64 p)],.c [.d (.i .i64 k)],.c [.d (A2 l)],.lp (r.left .ret)])) rfl (by first | (simp only [Ai,Ae,Nat.reduceAdd,Int.reduceAdd,Int.reduceSub,Int.reduceMul,Int.reduceToNat];done) | (simp only [Ai,Ae,Nat.reduceAdd,Int.reduceAdd,Int.reduceSub,Int.reduceMul,Int.reduceToNat];rfl) | rfl) (by first | (simp only [Ai,Ae,Nat.reduceAdd,Int.reduceAdd,Int.reduceSub,Int.reduceMul,Int.reduceToNat];done) | (simp only [Ai,Ae,Nat.reduceAdd,Int.reduceAdd,Int.reduceSub,Int.reduceMul,Int.reduceToNat];rfl) | rfl) (fun r => (by first | (simp only [Ai,Ae,Nat.reduceAdd,Int.reduceAdd,Int.reduceSub,Int.reduceMul,Int.reduceToNat];done) | (simp only [Ai,Ae,Nat.reduceAdd,Int.reduceAdd,Int.reduceSub,Int.reduceMul,Int.reduceToNat];rfl) | rfl)) ?_ ?_
 ·intro r hr
  refine BP A8 Tryz.func104 rfl rfl (Nat.le_of_ble_eq_true rfl) ?_
  have nS:=True.intro;obtain ⟨lv,st,ns,nc⟩:=wq [0,1,3,5,6,7,15] [];refine wk ?_;clear nc ns st lv;repeat' (first|with_reducible constructor|(with_reducible intro hc;try simp only[A1] at hc))
  have hk:=hr.ok (k:=3) rfl
  refine AS (fun k => k ≤ l.length ∧ (l.take k).any (Do p) = false) (fun k : Nat => [(6,.d (.i .i64 k))]) (fun k => l.length - k) 0 ⟨Nat.zero_le _,rfl⟩ (fun _ => rfl) ?_ ?_
  ·exact A0.ck rfl
  rintro k ⟨hkk,hpre⟩
  by_cases hkl : k < l.length
  ·obtain ⟨x,hx⟩:=AG hkl
   have hA:=BH (p:=Do p) hx
   rw [hpre,Bool.false_or] at hA
   have hE : Do p x = decide (x.view.id = p):=rfl
   by_cases h : x.view.id = p
   ·have f1:=Ar h
    rw [decide_eq_true h] at hE
    have hY : YT Tryz.prog 3 [.d (.i .i64 k),.dp x.cells] [.c [.d (.i .i64 p)],.c [.d (.i .i64 0)],.c [.d (A2 l)],.lp r] fun v K => v = .d (.b false) ∧ K = [.c [.d (.i .i64 p)],.c [.d (.i .i64 k)],.c [.d (A2 l)],.lp (r.left .ret)]:=by
     refine B0 hr rfl rfl rfl ?_
     have nS:=True.intro;obtain ⟨lv,st,ns,nc⟩:=wq [0,1,3,4,5,6,8,9,10,17] [];have pr : AC []:=trivial;refine wd ?_;clear nc ns st lv pr;repeat' (first|with_reducible constructor|(with_reducible intro hc;try simp only[A1] at hc))
     refine ⟨rfl,CB (by first | (simp only [Ai,Ae,Nat.reduceAdd,Int.reduceAdd,Int.reduceSub,Int.reduceMul,Int.reduceToNat];done) | (simp only [Ai,Ae,Nat.reduceAdd,Int.reduceAdd,Int.reduceSub,Int.reduceMul,Int.reduceToNat];rfl) | rfl) ?_⟩
     have nS:=f1;obtain ⟨lv,st,ns,nc⟩:=wq [0,1,3,4,5,6,8,9,10,17] [];have pr : AC []:=trivial;refine wd ?_;clear nc ns st lv pr;repeat' (first|with_reducible constructor|(with_reducible intro hc;try simp only[A1] at hc))
     exact ⟨⟨[],[.c [.d (.i .i64 p)],.c [.d (.i .i64 k)],.c [.d (A2 l)],.lp r.busy],_⟩,(A0.ck rfl),Nat.le_refl _,rfl,rfl,rfl⟩
    have nS:=True.intro;obtain ⟨lv,st,ns,nc⟩:=wq [0,1,3,5,6,7,15] [];have ix1:=hx;have q1:=@hY;refine wk ?_;clear nc ns st lv q1 ix1;repeat' (first|with_reducible constructor|(with_reducible intro hc;try simp only[A1] at hc))
    exact ⟨⟨[],[.c [.d (.i .i64 p)],.c [.d (.i .i64 k)],.c [.d (A2 l)],.lp (r.left .ret)],_⟩,(A0.ck rfl),Nat.le_refl _,_,_,rfl,rfl,.inr ⟨k,FH hx hE hpre,rfl⟩⟩
   ·have f1:=eq_false' h
    rw [decide_eq_false h] at hE
    have hY : YT Tryz.prog 3 [.d (.i .i64 k),.dp x.cells] [.c [.d (.i .i64 p)],.c [.d (.i .i64 0)],.c [.d (A2 l)],.lp r] fun v K => v = .d (.b true) ∧ K = [.c [.d (.i .i64 p)],.c [.d (.i .i64 0)],.c [.d (A2 l)],.lp r]:=by
     refine B0 hr rfl rfl rfl ?_
     have nS:=True.intro;obtain ⟨lv,st,ns,nc⟩:=wq [0,1,3,4,5,6,8,9,10,17] [];have pr : AC []:=trivial;refine wd ?_;clear nc ns st lv pr;repeat' (first|with_reducible constructor|(with_reducible intro hc;try simp only[A1] at hc))
     refine ⟨rfl,CB (by first | (simp only [Ai,Ae,Nat.reduceAdd,Int.reduceAdd,Int.reduceSub,Int.reduceMul,Int.reduceToNat];done) | (simp only [Ai,Ae,Nat.reduceAdd,Int.reduceAdd,Int.reduceSub,Int.reduceMul,Int.reduceToNat];rfl) | rfl) ?_⟩
     have nS:=f1;obtain ⟨lv,st,ns,nc⟩:=wq [0,1,3,4,5,6,8,9,10,17] [];have pr : AC []:=trivial;refine wd ?_;clear nc ns st lv pr;repeat' (first|with_reducible constructor|(with_reducible intro hc;try simp only[A1] at hc))
     exact ⟨⟨[],[.c [.d (.i .i64 p)],.c [.d (.i .i64 0)],.c [.d (A2 l)],.lp r.busy],_⟩,(A0.ck rfl),Nat.le_refl _,rfl,rfl,rfl⟩
    have nS:=True.intro;obtain ⟨lv,st,ns,nc⟩:=wq [0,1,3,5,6,7,15] [];have ix1:=hx;have q1:=@hY;refine wk ?_;clear nc ns st lv q1 ix1;repeat' (first|with_reducible constructor|(with_reducible intro hc;try simp only[A1] at hc))
    refine ⟨k + 1,⟨hkl,by rw [hA,hE]⟩,by omega,Nat.le_refl _,?_⟩
    exact A0.ck rfl
  ·have e : k = l.length:=by omega
   subst e
   rw [List.take_length] at hpre
   have nS:=True.intro;obtain ⟨lv,st,ns,nc⟩:=wq [0,1,3,5,6,7,15] [];refine wk ?_;clear nc ns st lv;repeat' (first|with_reducible constructor|(with_reducible intro hc;try simp only[A1] at hc))
   exact ⟨_,A0.refl _,Nat.le_refl _,_,_,rfl,rfl,.inl ⟨hpre,rfl⟩⟩
 ·rintro r hr y H' (⟨h,rfl⟩ | ⟨k,h,rfl⟩)
  ·refine .inl ⟨rfl,?_⟩
   rw [E3 h]
   have nS:=True.intro;obtain ⟨lv,st,ns,nc⟩:=wq [0,1,3,4,5,6,8,9,10,17] [];have pr : AC []:=trivial;refine wd ?_;clear nc ns st lv pr;repeat' (first|with_reducible constructor|(with_reducible intro hc;try simp only[A1] at hc))
   refine ⟨_,_,rfl,rfl,?_⟩;simp [AH,A6,A5,A4]
  ·refine .inr ⟨.ret,rfl,?_⟩
   rw [h]
   have nS:=True.intro;obtain ⟨lv,st,ns,nc⟩:=wq [0,1,3,4,5,6,8,9,10,17] [];have pr : AC []:=trivial;refine wd ?_;clear nc ns st lv pr;repeat' (first|with_reducible constructor|(with_reducible intro hc;try simp only[A1] at hc))
   refine ⟨_,_,rfl,rfl,?_⟩;simp [AH,A6,A5,A4]
end Nd
end Go.Proofs.YtagnjflbhjmefaaGreat
