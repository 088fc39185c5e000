/- Part 38 of the texts of this proof, put together by a program and made short.
Conditions: none; what each theorem asks stands in its own hypotheses. -/
import Derived.Test.YtagnjflbhjmefaaGreatRb19
import Derived.KernelRfl
import Derived.RangeFuncIn
import Derived.Sort.Grow
import Derived.Laws.Cover3
import Derived.RecoverIn
import Derived.ProofKit
import Derived.OpenShut
import Derived.CallsIn
import Derived.RangeFuncLeaves
import Derived.OrdersIn
import Derived.TacticsIn
import Derived.ChangeKeysEq
import Derived.Laws.AppendOwn
import Derived.Laws.OwnMore
import Derived.Laws.MakeOwn
import Derived.Laws.Rows
import Derived.Laws.Cells
import Derived.Laws.Tables
import Derived.Laws.CopyRow
import Derived.Laws.Strings
import Derived.Laws.IdiomStrings
import Derived.Laws.BytesArg
import Derived.Test.YtagnjflbhjmefaaGreatProg
set_option linter.unusedSimpArgs false
set_option linter.unusedVariables false
set_option linter.unnecessarySimpa false
set_option maxHeartbeats 40000000
namespace Go.Proofs.YtagnjflbhjmefaaGreat
namespace Wi
open Go.Gar
set_option maxRecDepth 4000
def Aw : Nat → List UInt8 → Option (List Int × List UInt8)
 | 0,b => some ([],b)
 | k + 1,b => match BY b with
  | none => none
  | some (n,r) => match Aw k r with
   | none => none
   | some (l,r') => some ((n : Int) :: l,r')
def CL : Option (List Int × List UInt8) → D
 | some (l,r) => .tup [.is l,.by r,.b true]
 | none => .tup [.is [],.by [],.b false]
def Hi (acc : List Int) (k : Nat) (b : List UInt8) : Option (List Int × List UInt8):=match Aw k b with
 | none => none
 | some (l,r) => some (acc ++ l,r)
theorem On {acc : List Int} {k : Nat} {b r : List UInt8} {n : Nat} (h : BY b = some (n,r)) : Hi acc (k + 1) b = Hi (acc ++ [(n : Int)]) k r:=by
 unfold Hi
 rw [Aw,h]
 simp only
 cases Aw k r with
 | none => rfl
 | some p => obtain ⟨l,q⟩:=p;simp
theorem Oq {acc : List Int} {k : Nat} {b : List UInt8} (h : BY b = none) : Hi acc (k + 1) b = none:=by
 unfold Hi
 rw [Aw,h]
theorem Qu {k : Nat} {b : List UInt8} : Hi [] k b = Aw k b:=by
 unfold Hi
 cases Aw k b with
 | none => rfl
 | some p => rfl
theorem BW (b : List UInt8) (many : Nat) (hb : b.length < 70368744177664) (hm : many ≤ 100) : Go.Gar.Fn Tryz.prog 138 [.by b,.i .i64 many] (CL (Aw many b)):=by
 refine A3 A8 Tryz.func138 rfl rfl (Nat.le_of_ble_eq_true rfl) ?_
 have nS:=True.intro;obtain ⟨lv,st,ns,nc⟩:=wq [0,1,4,5,6,7,8,9,10,11,14,24] [];refine wk ?_;clear nc ns st lv;repeat' (first|with_reducible constructor|(with_reducible intro hc;try simp only[A1] at hc))
 refine B3 (A0.J1 7 (.is []) rfl rfl rfl trivial) (by simp) ?_
 refine Aq (α:=Nat × List UInt8 × List Int) (fun x => x.1 ≤ many ∧ x.2.1.length ≤ b.length ∧ x.2.2.length = x.1 ∧ Hi x.2.2 (many - x.1) x.2.1 = Aw many b)
  (fun x => ⟨[(0,.d (.by x.2.1)),(1,.d (.i .i64 many)),(4,.e0),(5,.e0),(6,.d (.b false)),(7,.sl 0 x.2.2.length 1),(8,.d (.i .i64 x.1))],[.a (.is x.2.2)],32⟩) (fun x => many - x.1) (0,b,[]) ⟨Nat.zero_le _,Nat.le_refl _,rfl,Qu⟩ ?_ (Nat.le_refl _) ?_
 ·exact A0.ck rfl
 rintro ⟨k,r,acc⟩ ⟨h1,h2,h3,h4⟩
 simp only at h1 h2 h3 h4 ⊢
 by_cases hk : k < many
 ·have ht:=L3 r (by omega)
  obtain ⟨j,hj⟩ : ∃ j,many - k = j + 1:=⟨many - k - 1,by omega⟩
  rw [hj] at h4
  cases hp : BY r with
  | none =>
   have hne:=Lq hp
   rw [Oq hp] at h4
   rw [← h4]
   have f:=Be hne
   unfold Bg at ht
   have nS:=f;obtain ⟨lv,st,ns,nc⟩:=wq [0,1,4,5,6,7,8,9,10,11,14,24] [];have c1:=@ht;refine wk ?_;clear nc ns st lv c1;repeat' (first|with_reducible constructor|(with_reducible intro hc;try simp only[A1] at hc))
   refine ⟨_,_,rfl,rfl,?_⟩;simp [AH,A6,A5,A4,CL]
  | some p =>
   obtain ⟨n,r'⟩:=p
   have hle:=Aa hp
   rw [F7 hp] at ht
   rw [On hp] at h4
   unfold Bg at ht
   have nS:=True.intro;obtain ⟨lv,st,ns,nc⟩:=wq [0,1,4,5,6,7,8,9,10,11,14,24] [];have c1:=@ht;refine wk ?_;clear nc ns st lv c1;repeat' (first|with_reducible constructor|(with_reducible intro hc;try simp only[A1] at hc))
   refine ⟨(k + 1,r',acc ++ [(n : Int)]),⟨hk,by simp only;omega,by simp only [List.length_append,List.length_cons,List.length_nil];omega,by rw [show many - (k + 1) = j by omega];exact h4⟩,(show many - (k + 1) < many - k by omega),Nat.le_refl _,?_⟩
   exact A0.ck rfl
 ·have e : k = many:=by omega
  rw [e,Nat.sub_self] at h4
  have e2 : Aw many b = some (acc,r):=by rw [← h4];simp [Hi,Aw]
  rw [e2]
  have nS:=True.intro;obtain ⟨lv,st,ns,nc⟩:=wq [0,1,4,5,6,7,8,9,10,11,14,24] [];refine wk ?_;clear nc ns st lv;repeat' (first|with_reducible constructor|(with_reducible intro hc;try simp only[A1] at hc))
  refine ⟨_,_,rfl,rfl,?_⟩;simp [AH,A6,A5,A4,CL]
theorem CE : ∀ {k : Nat} {b r : List UInt8} {l : List Int},Aw k b = some (l,r) → l.length = k ∧ r.length ≤ b.length
 | 0,b,r,l,h => by simp only [Aw,Option.some.injEq,Prod.mk.injEq] at h;obtain ⟨rfl,rfl⟩:=h;exact ⟨rfl,Nat.le_refl _⟩
 | k + 1,b,r,l,h => by
  rw [Aw] at h
  split at h
  ·cases h
  ·rename_i n r1 h1
   split at h
   ·cases h
   ·rename_i l1 r2 h2
    simp only [Option.some.injEq,Prod.mk.injEq] at h
    obtain ⟨rfl,rfl⟩:=h
    have:=CE h2
    have:=Aa h1
    simp;omega
def Cf (b : List UInt8) : Item × Bool:=match Aw 3 (AQ b).2.1 with
 | some ([v,n,g],_) => if (AQ b).2.2 = 0 then (⟨(AQ b).1,v,n,g == 1⟩,true) else (AP,false)
 | _ => (AP,false)
theorem UI (b : List UInt8) : (AQ b).2.1.length ≤ b.length:=by
 rcases FU b with ⟨s,r,h1,h2,h3⟩ | h1
 ·rw [h1,h2];simp;omega
 ·rw [h1];simp
theorem Lk (b : List UInt8) (hb : b.length < 70368744177664) : Go.Gar.Fn Tryz.prog 198 [.by b] (.tup [(Cf b).1.d,.b (Cf b).2]):=by
 have ht:=Hg b hb
 have hn:=BW (AQ b).2.1 3 (by have:=UI b;omega) (by decide)
 have hlen:=@CE 3 (AQ b).2.1
 unfold Dq at ht
 unfold Cf
 generalize (AQ b).1 = s at *
 generalize (AQ b).2.1 = r at *
 generalize (AQ b).2.2 = e at *
 refine A3 A8 Tryz.func198 rfl rfl (Nat.le_of_ble_eq_true rfl) ?_
 by_cases he : e = 0
 ·subst he
  cases hp : Aw 3 r with
  | none =>
   rw [hp] at hn
   unfold CL at hn
   have nS:=True.intro;obtain ⟨lv,st,ns,nc⟩:=wq [0,2,3,4,5,6,7,9,27] [];have c1:=@ht;have c2:=@hn;have pr : AC []:=trivial;refine wd ?_;clear nc ns st lv pr c2 c1;repeat' (first|with_reducible constructor|(with_reducible intro hc;try simp only[A1] at hc))
   refine ⟨_,_,rfl,rfl,?_⟩;simp [AH,A6,A5,A4,AP,Item.d,Item.cells]
  | some p =>
   obtain ⟨l,r2⟩:=p
   obtain ⟨hl,_⟩:=hlen hp
   obtain ⟨v,n,g,rfl⟩ : ∃ v n g,l = [v,n,g]:=by
    rcases l with _ | ⟨v,_ | ⟨n,_ | ⟨g,_ | ⟨x,t⟩⟩⟩⟩ <;> first | exact ⟨_,_,_,rfl⟩ | (simp at hl)
   rw [hp] at hn
   unfold CL at hn
   have nS:=True.intro;obtain ⟨lv,st,ns,nc⟩:=wq [0,2,3,4,5,6,7,9,27] [];have c1:=@ht;have c2:=@hn;have pr : AC []:=trivial;refine wd ?_;clear nc ns st lv pr c2 c1;repeat' (first|with_reducible constructor|(with_reducible intro hc;try simp only[A1] at hc))
   refine ⟨_,_,rfl,rfl,?_⟩;simp [AH,A6,A5,A4,Item.d,Item.cells]
 ·have f:=Be he
  have e2 : (match Aw 3 r with | some ([v,n,g],_) => if e = 0 then ((⟨s,v,n,g == 1⟩,true) : Item × Bool) else (AP,false) | _ => (AP,false)) = (AP,false):=by
   split
   ·rw [if_neg he]
   ·rfl
  rw [e2]
  cases hp : Aw 3 r with
  | none =>
   rw [hp] at hn
   unfold CL at hn
   have nS:=f;obtain ⟨lv,st,ns,nc⟩:=wq [0,2,3,4,5,6,7,9,27] [];have c1:=@ht;have c2:=@hn;have pr : AC []:=trivial;refine wd ?_;clear nc ns st lv pr c2 c1;repeat' (first|with_reducible constructor|(with_reducible intro hc;try simp only[A1] at hc))
   refine ⟨_,_,rfl,rfl,?_⟩;simp [AH,A6,A5,A4,AP,Item.d,Item.cells]
  | some p =>
   obtain ⟨l,r2⟩:=p
   rw [hp] at hn
   unfold CL at hn
   have nS:=f;obtain ⟨lv,st,ns,nc⟩:=wq [0,2,3,4,5,6,7,9,27] [];have c1:=@ht;have c2:=@hn;have pr : AC []:=trivial;refine wd ?_;clear nc ns st lv pr c2 c1;repeat' (first|with_reducible constructor|(with_reducible intro hc;try simp only[A1] at hc))
   refine ⟨_,_,rfl,rfl,?_⟩;simp [AH,A6,A5,A4,AP,Item.d,Item.cells]
end Wi
end Go.Proofs.YtagnjflbhjmefaaGreat
