/- Part 41 of the texts of this proof, put together by a program and made short.
Conditions: none; what each theorem asks stands in its own hypotheses. -/
import Derived.Test.YtagnjflbhjmefaaGreatRb36
import Derived.Test.YtagnjflbhjmefaaGreatRb37
import Derived.Test.YtagnjflbhjmefaaGreatRb40
import Derived.KernelRfl
import Derived.RangeFuncIn
import Derived.Sort.Grow
import Derived.Laws.Cover3
import Derived.RecoverIn
import Derived.ProofKit
import Derived.OpenShut
import Derived.CallsIn
import Derived.RangeFuncLeaves
import Derived.OrdersIn
import Derived.TacticsIn
import Derived.ChangeKeysEq
import Derived.Laws.AppendOwn
import Derived.Laws.OwnMore
import Derived.Laws.MakeOwn
import Derived.Laws.Rows
import Derived.Laws.Cells
import Derived.Laws.Tables
import Derived.Laws.CopyRow
import Derived.Laws.Strings
import Derived.Laws.IdiomStrings
import Derived.Laws.BytesArg
import Derived.Test.YtagnjflbhjmefaaGreatProg
set_option linter.unusedSimpArgs false
set_option linter.unusedVariables false
set_option linter.unnecessarySimpa false
set_option maxHeartbeats 40000000
namespace Go.Proofs.YtagnjflbhjmefaaGreat
namespace Wi
open Go.Gar
set_option maxRecDepth 4000
theorem UQ (b : List UInt8) (hb : b.length < 70368744177664) : Go.Gar.Fn Tryz.prog 83 [.by b] (.tup [.by (Bf b).1,.i .i64 (Bf b).2]):=by
 rw [← TT]
 refine A3 A8 Tryz.func83 rfl rfl (Nat.le_of_ble_eq_true rfl) ?_
 by_cases h8 : b.length < 8
 ·have e : Kl b = ([],11):=if_pos h8
  have nS:=True.intro;obtain ⟨lv,st,ns,nc⟩:=wq [0,2,3,4,5,6,9,30] [];refine wk ?_;clear nc ns st lv;repeat' (first|with_reducible constructor|(with_reducible intro hc;try simp only[A1] at hc))
  refine ⟨_,_,rfl,rfl,?_⟩;simp [AH,A6,A5,A4,e]
 have e1 : ((b.length : Int) - 4).toNat = b.length - 4:=by omega
 have hc:=SH ((b.take (b.length - 4)).drop 4)
 have e0 : Kl b = if (CV ((b.take (b.length - 4)).drop 4)).2 = 0 ∧ (CV ((b.take (b.length - 4)).drop 4)).1 = b then ((b.take (b.length - 4)).drop 4,0) else ([],12):=if_neg h8
 have nS:=e1;obtain ⟨lv,st,ns,nc⟩:=wq [0,2,3,4,5,6,9,30] [];refine wk ?_;clear nc ns st lv;repeat' (first|with_reducible constructor|(with_reducible intro hc;try simp only[A1] at hc))
 generalize hp : (b.take (b.length - 4)).drop 4 = p at *
 by_cases hz : (CV p).2 = 0
 ·have f:=Bb hz
  by_cases hq : (CV p).1 = b
  ·have e : Kl b = (p,0):=by rw [e0,if_pos ⟨hz,hq⟩]
   have f2 : ((CV p).1 == b) = true:=by simp [hq]
   have nS:=And.intro f f2;obtain ⟨lv,st,ns,nc⟩:=wq [0,2,3,4,5,6,9,30] [];have c1:=@hc;refine wk ?_;clear nc ns st lv c1;repeat' (first|with_reducible constructor|(with_reducible intro hc;try simp only[A1] at hc))
   refine ⟨_,_,rfl,rfl,?_⟩;simp [AH,A6,A5,A4,e]
  ·have e : Kl b = ([],12):=by rw [e0,if_neg (fun h => hq h.2)]
   have f2 : ((CV p).1 == b) = false:=by simp [hq]
   have nS:=And.intro f f2;obtain ⟨lv,st,ns,nc⟩:=wq [0,2,3,4,5,6,9,30] [];have c1:=@hc;refine wk ?_;clear nc ns st lv c1;repeat' (first|with_reducible constructor|(with_reducible intro hc;try simp only[A1] at hc))
   refine ⟨_,_,rfl,rfl,?_⟩;simp [AH,A6,A5,A4,e]
 ·have e : Kl b = ([],12):=by rw [e0,if_neg (fun h => hz h.1)]
  have f:=Be hz
  have nS:=f;obtain ⟨lv,st,ns,nc⟩:=wq [0,2,3,4,5,6,9,30] [];have c1:=@hc;refine wk ?_;clear nc ns st lv c1;repeat' (first|with_reducible constructor|(with_reducible intro hc;try simp only[A1] at hc))
  refine ⟨_,_,rfl,rfl,?_⟩;simp [AH,A6,A5,A4,e]
theorem T7 (b : List UInt8) (hb : b.length < 70368744177664) : Go.Gar.Fn Tryz.prog 84 [.by b] (.tup [(CK b).1.d,.i .i64 (CK b).2]):=by
 rw [← OA]
 have hn:=BW b 4 hb (by decide)
 have hg:=@Dk 4 b
 have hln:=@CE 4 b
 refine A3 A8 Tryz.func84 rfl rfl (Nat.le_of_ble_eq_true rfl) ?_
 cases hp : Aw 4 b with
 | none =>
  have e : Df b = (Ab,12):=by unfold Df;rw [hp]
  rw [hp] at hn
  unfold CL at hn
  unfold AE.d AE.cells
  have nS:=True.intro;obtain ⟨lv,st,ns,nc⟩:=wq [0,2,3,4,5,6,7,8,9,10,24,46,61] [];have c1:=@hn;have pr : AC []:=trivial;refine wd ?_;clear nc ns st lv pr c1;repeat' (first|with_reducible constructor|(with_reducible intro hc;try simp only[A1] at hc))
  refine ⟨_,_,rfl,rfl,?_⟩;simp [AH,A6,A5,A4,e,Ab,AP]
 | some p =>
  obtain ⟨l,r⟩:=p
  obtain ⟨hl1,hl2⟩:=hln hp
  have hg:=hg hp
  obtain ⟨k,c,s,d,rfl⟩ : ∃ k c s d,l = [k,c,s,d]:=by
   rcases l with _ | ⟨k,_ | ⟨c,_ | ⟨s,_ | ⟨d,_ | ⟨x,t⟩⟩⟩⟩⟩ <;> first | exact ⟨_,_,_,_,rfl⟩ | (simp at hl1)
  have hk:=hg k (by simp)
  rw [hp] at hn
  unfold CL at hn
  by_cases h13 : k ≥ 13
  ·have e : Df b = (Ab,12):=by unfold Df;rw [hp];exact if_pos h13
   unfold AE.d AE.cells
   have nS:=True.intro;obtain ⟨lv,st,ns,nc⟩:=wq [0,2,3,4,5,6,7,8,9,10,24,46,61] [];have c1:=@hn;have pr : AC []:=trivial;refine wd ?_;clear nc ns st lv pr c1;repeat' (first|with_reducible constructor|(with_reducible intro hc;try simp only[A1] at hc))
   refine ⟨_,_,rfl,rfl,?_⟩;simp [AH,A6,A5,A4,e,Ab,AP]
  have ek : k % 256 = k:=by omega
  have hm:=UF ⟨k,c,s,d,0,false,false,0,0,[],AP,0⟩ r (by omega)
  have hl:=KH ⟨k,c,s,d,0,false,false,0,0,[],AP,0⟩ r (Nat.zero_le _)
  have e0 : Df b = if (Au ⟨k,c,s,d,0,false,false,0,0,[],AP,0⟩ r).2 = true ∧ (Au ⟨k,c,s,d,0,false,false,0,0,[],AP,0⟩ r).1.right = true ∧ D5 (Au ⟨k,c,s,d,0,false,false,0,0,[],AP,0⟩ r).1 = b then ((Au ⟨k,c,s,d,0,false,false,0,0,[],AP,0⟩ r).1,0) else (Ab,12):=by
   unfold Df;rw [hp];exact if_neg h13
  rcases hM : Au ⟨k,c,s,d,0,false,false,0,0,[],AP,0⟩ r with ⟨m,is⟩
  rw [hM] at hm hl e0
  simp only at hl e0
  have hP:=OQ m (by omega)
  unfold PR at hP
  cases is with
  | false =>
   have e : Df b = (Ab,12):=by rw [e0,if_neg (fun h => Bool.noConfusion h.1)]
   unfold AE.d AE.cells at *
   simp only [AP] at hm
   have nS:=ek;obtain ⟨lv,st,ns,nc⟩:=wq [0,2,3,4,5,6,7,8,9,10,24,46,61] [];have c1:=@hn;have z1:=@hm;have pr : AC []:=trivial;refine wd ?_;clear nc ns st lv pr z1 c1;repeat' (first|with_reducible constructor|(with_reducible intro hc;try simp only[A1] at hc))
   refine ⟨_,_,rfl,rfl,?_⟩;simp [AH,A6,A5,A4,e,Ab,AP]
  | true =>
   cases hr : m.right with
   | false =>
    have e : Df b = (Ab,12):=by rw [e0,if_neg (fun h => by rw [hr] at h;exact Bool.noConfusion h.2.1)]
    rw [hr,if_neg (by decide)] at hP
    unfold AE.d AE.cells at *
    simp only [AP] at hm
    have nS:=ek;obtain ⟨lv,st,ns,nc⟩:=wq [0,2,3,4,5,6,7,8,9,10,24,46,61] [];have c1:=@hn;have z1:=@hm;have c2:=@hP;have pr : AC []:=trivial;refine wd ?_;clear nc ns st lv pr c2 z1 c1;repeat' (first|with_reducible constructor|(with_reducible intro hc;try simp only[A1] at hc))
    refine ⟨_,_,rfl,rfl,?_⟩;simp [AH,A6,A5,A4,e,Ab,AP]
   | true =>
    rw [hr,if_pos rfl] at hP
    by_cases hq : D5 m = b
    ·have e : Df b = (m,0):=by rw [e0,if_pos ⟨rfl,hr,hq⟩]
     have f2 : (D5 m == b) = true:=by simp [hq]
     unfold AE.d AE.cells at *
     simp only [AP] at hm
     have nS:=And.intro ek f2;obtain ⟨lv,st,ns,nc⟩:=wq [0,2,3,4,5,6,7,8,9,10,24,46,61] [];have c1:=@hn;have z1:=@hm;have c2:=@hP;have pr : AC []:=trivial;refine wd ?_;clear nc ns st lv pr c2 z1 c1;repeat' (first|with_reducible constructor|(with_reducible intro hc;try simp only[A1] at hc))
     refine ⟨_,_,rfl,rfl,?_⟩;simp [AH,A6,A5,A4,e]
    ·have e : Df b = (Ab,12):=by rw [e0,if_neg (fun h => hq h.2.2)]
     have f2 : (D5 m == b) = false:=by simp [hq]
     unfold AE.d AE.cells at *
     simp only [AP] at hm
     have nS:=And.intro ek f2;obtain ⟨lv,st,ns,nc⟩:=wq [0,2,3,4,5,6,7,8,9,10,24,46,61] [];have c1:=@hn;have z1:=@hm;have c2:=@hP;have pr : AC []:=trivial;refine wd ?_;clear nc ns st lv pr c2 z1 c1;repeat' (first|with_reducible constructor|(with_reducible intro hc;try simp only[A1] at hc))
     refine ⟨_,_,rfl,rfl,?_⟩;simp [AH,A6,A5,A4,e,Ab,AP]
theorem Qv (b : List UInt8) : (Bf b).1.length ≤ 112:=by
 obtain ⟨p,e,h⟩ : ∃ p e,Bf b = (p,e):=⟨_,_,rfl⟩
 rw [h]
 rcases Nn h with ⟨_,h2,_⟩ | ⟨_,_,h3⟩ | ⟨_,_,h3⟩
 ·exact h2
 ·rw [h3];exact Nat.zero_le _
 ·rw [h3];exact Nat.zero_le _
theorem RA (b : List UInt8) (hb : b.length < 70368744177664) : Go.Gar.Fn Tryz.prog 49 [.by b] (.tup [(BC b).1.d,.i .i64 (BC b).2]):=by
 have hO:=UQ b hb
 have hol:=Qv b
 refine A3 A8 Tryz.func49 rfl rfl (Nat.le_of_ble_eq_true rfl) ?_
 by_cases h : (Bf b).2 = 0
 ·have e : BC b = CK (Bf b).1:=if_pos h
  have hR:=T7 (Bf b).1 (by omega)
  have f:=Bb h
  unfold AE.d AE.cells at *
  have nS:=f;obtain ⟨lv,st,ns,nc⟩:=wq [0,2,3,4,5,12] [];have c1:=@hO;have c2:=@hR;refine wk ?_;clear nc ns st lv c2 c1;repeat' (first|with_reducible constructor|(with_reducible intro hc;try simp only[A1] at hc))
  refine ⟨_,_,rfl,rfl,?_⟩;simp [AH,A6,A5,A4,e]
 ·have e : BC b = (Ab,(Bf b).2):=if_neg h
  have f:=Be h
  unfold AE.d AE.cells
  have nS:=f;obtain ⟨lv,st,ns,nc⟩:=wq [0,2,3,4,5,12] [];have c1:=@hO;refine wk ?_;clear nc ns st lv c1;repeat' (first|with_reducible constructor|(with_reducible intro hc;try simp only[A1] at hc))
  refine ⟨_,_,rfl,rfl,?_⟩;simp [AH,A6,A5,A4,e,Ab,AP]
end Wi
end Go.Proofs.YtagnjflbhjmefaaGreat
