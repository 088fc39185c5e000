/- Part 39 of the texts of this proof, put together by a program and made short.
Conditions: none; what each theorem asks stands in its own hypotheses. -/
import Derived.Test.YtagnjflbhjmefaaGreatRb33
import Derived.Test.YtagnjflbhjmefaaGreatRb38
import Derived.KernelRfl
import Derived.RangeFuncIn
import Derived.Sort.Grow
import Derived.Laws.Cover3
import Derived.RecoverIn
import Derived.ProofKit
import Derived.OpenShut
import Derived.CallsIn
import Derived.RangeFuncLeaves
import Derived.OrdersIn
import Derived.TacticsIn
import Derived.ChangeKeysEq
import Derived.Laws.AppendOwn
import Derived.Laws.OwnMore
import Derived.Laws.MakeOwn
import Derived.Laws.Rows
import Derived.Laws.Cells
import Derived.Laws.Tables
import Derived.Laws.CopyRow
import Derived.Laws.Strings
import Derived.Laws.IdiomStrings
import Derived.Laws.BytesArg
import Derived.Test.YtagnjflbhjmefaaGreatProg
set_option linter.unusedSimpArgs false
set_option linter.unusedVariables false
set_option linter.unnecessarySimpa false
set_option maxHeartbeats 40000000
namespace Go.Proofs.YtagnjflbhjmefaaGreat
namespace Wi
open Go.Gar
set_option maxRecDepth 4000
def C3 (k : Int) : Nat:=if k = 4 then 2 else if k = 10 then 2 else if k = 7 then 1 else if k = 11 then 1 else if k = 12 then 1 else 0
def Au (m : AE) (b : List UInt8) : AE × Bool:=match Aw (C3 m.kind) b with
 | none => (m,false)
 | some (l,r) =>
  if m.kind = 4 then ({ m with key:=l.getD 0 0,slow:=l.getD 1 0 == 1 },true) else
  if m.kind = 10 then ({ m with place:=l.getD 0 0,done:=l.getD 1 0 == 1 },true) else
  if m.kind = 11 then ({ m with code:=l.getD 0 0 },true) else
  if m.kind = 7 then ({ m with pred:=l.getD 0 0 - 1,list:=(AX r).1 },(AX r).2.2 == 0) else
  if m.kind = 5 then ({ m with item:=(Cf r).1 },(Cf r).2) else
  if m.kind = 6 then ({ m with item:=⟨(AQ r).1,m.item.value,m.item.version,m.item.gone⟩ },(AQ r).2.2 == 0) else
  if m.kind = 12 then (if l.getD 0 0 = 0 then ({ m with code:=0,item:=(Cf r).1 },(Cf r).2) else ({ m with code:=l.getD 0 0 },true)) else (m,true)
theorem Dk {k : Nat} {b r : List UInt8} {l : List Int} (h : Aw k b = some (l,r)) : ∀ x ∈ l,0 ≤ x ∧ x ≤ 1099511627776:=by
 induction k generalizing b r l with
 | zero => simp only [Aw,Option.some.injEq,Prod.mk.injEq] at h;obtain ⟨rfl,rfl⟩:=h;intro x hx;cases hx
 | succ k ih =>
  rw [Aw] at h
  split at h
  ·cases h
  ·rename_i n r1 h1
   split at h
   ·cases h
   ·rename_i l1 r2 h2
    simp only [Option.some.injEq,Prod.mk.injEq] at h
    obtain ⟨rfl,rfl⟩:=h
    intro x hx
    rcases List.mem_cons.1 hx with rfl | hx
    ·have:=Mn h1;omega
    ·exact ih h2 x hx
theorem UF (m : AE) (b : List UInt8) (hb : b.length < 70368744177664) : Go.Gar.Fn Tryz.prog 139 [m.d,.by b] (.tup [(Au m b).1.d,.b (Au m b).2]):=by
 obtain ⟨k,c,s,d,ky,sl,dn,pl,pr,l,⟨ik,iv,ir,ig⟩,co⟩:=m
 refine A3 A8 Tryz.func139 rfl rfl (Nat.le_of_ble_eq_true rfl) ?_
 unfold AE.d AE.cells
 by_cases h4 : k = 4
 ·subst h4
  have hn:=BW b 2 hb (by decide)
  have hgt:=@Dk 2 b
  have hln:=@CE 2 b
  cases hp : Aw 2 b with
  | none =>
   have e : Au ⟨4,c,s,d,ky,sl,dn,pl,pr,l,⟨ik,iv,ir,ig⟩,co⟩ b = (⟨4,c,s,d,ky,sl,dn,pl,pr,l,⟨ik,iv,ir,ig⟩,co⟩,false):=by unfold Au;simp only [C3,Int.reduceEq,if_true,if_false,hp]
   rw [e]
   rw [hp] at hn
   unfold CL at hn
   have nS:=True.intro;obtain ⟨lv,st,ns,nc⟩:=wq [0,1,2,4,5,6,7,8,9,10,12,13,14,15,17,18,19,21,22,25,37,40,41,52,63,69,87,98,112,120] [];have c1:=@hn;have pr : AC []:=trivial;refine wd ?_;clear nc ns st lv pr c1;repeat' (first|with_reducible constructor|(with_reducible intro hc;try simp only[A1] at hc))
   refine ⟨_,_,rfl,rfl,?_⟩;simp [AH,A6,A5,A4]
  | some p =>
   obtain ⟨q,r⟩:=p
   have hg:=hgt hp
   obtain ⟨hl1,hl2⟩:=hln hp
   obtain ⟨x,y,rfl⟩ : ∃ x y,q = [x,y]:=by
    rcases q with _ | ⟨x,_ | ⟨y,_ | ⟨z,t⟩⟩⟩ <;> first | exact ⟨_,_,rfl⟩ | (simp at hl1)
   have hx:=hg x (by simp)
   have hy:=hg y (by simp)
   rw [hp] at hn
   unfold CL at hn
   have e : Au ⟨4,c,s,d,ky,sl,dn,pl,pr,l,⟨ik,iv,ir,ig⟩,co⟩ b = (⟨4,c,s,d,x,y == 1,dn,pl,pr,l,⟨ik,iv,ir,ig⟩,co⟩,true):=by unfold Au;simp only [C3,Int.reduceEq,if_true,if_false,hp] <;> rfl
   rw [e]
   have nS:=True.intro;obtain ⟨lv,st,ns,nc⟩:=wq [0,1,2,4,5,6,7,8,9,10,12,13,14,15,17,18,19,21,22,25,37,40,41,52,63,69,87,98,112,120] [];have c1:=@hn;have pr : AC []:=trivial;refine wd ?_;clear nc ns st lv pr c1;repeat' (first|with_reducible constructor|(with_reducible intro hc;try simp only[A1] at hc))
   refine ⟨_,_,rfl,rfl,?_⟩;simp [AH,A6,A5,A4]
 by_cases h10 : k = 10
 ·subst h10
  have hn:=BW b 2 hb (by decide)
  have hgt:=@Dk 2 b
  have hln:=@CE 2 b
  cases hp : Aw 2 b with
  | none =>
   have e : Au ⟨10,c,s,d,ky,sl,dn,pl,pr,l,⟨ik,iv,ir,ig⟩,co⟩ b = (⟨10,c,s,d,ky,sl,dn,pl,pr,l,⟨ik,iv,ir,ig⟩,co⟩,false):=by unfold Au;simp only [C3,Int.reduceEq,if_true,if_false,hp]
   rw [e]
   rw [hp] at hn
   unfold CL at hn
   have nS:=True.intro;obtain ⟨lv,st,ns,nc⟩:=wq [0,1,2,4,5,6,7,8,9,10,12,13,14,15,17,18,19,21,22,25,37,40,41,52,63,69,87,98,112,120] [];have c1:=@hn;have pr : AC []:=trivial;refine wd ?_;clear nc ns st lv pr c1;repeat' (first|with_reducible constructor|(with_reducible intro hc;try simp only[A1] at hc))
   refine ⟨_,_,rfl,rfl,?_⟩;simp [AH,A6,A5,A4]
  | some p =>
   obtain ⟨q,r⟩:=p
   have hg:=hgt hp
   obtain ⟨hl1,hl2⟩:=hln hp
   obtain ⟨x,y,rfl⟩ : ∃ x y,q = [x,y]:=by
    rcases q with _ | ⟨x,_ | ⟨y,_ | ⟨z,t⟩⟩⟩ <;> first | exact ⟨_,_,rfl⟩ | (simp at hl1)
   have hx:=hg x (by simp)
   have hy:=hg y (by simp)
   rw [hp] at hn
   unfold CL at hn
   have e : Au ⟨10,c,s,d,ky,sl,dn,pl,pr,l,⟨ik,iv,ir,ig⟩,co⟩ b = (⟨10,c,s,d,ky,sl,y == 1,x,pr,l,⟨ik,iv,ir,ig⟩,co⟩,true):=by unfold Au;simp only [C3,Int.reduceEq,if_true,if_false,hp] <;> rfl
   rw [e]
   have nS:=True.intro;obtain ⟨lv,st,ns,nc⟩:=wq [0,1,2,4,5,6,7,8,9,10,12,13,14,15,17,18,19,21,22,25,37,40,41,52,63,69,87,98,112,120] [];have c1:=@hn;have pr : AC []:=trivial;refine wd ?_;clear nc ns st lv pr c1;repeat' (first|with_reducible constructor|(with_reducible intro hc;try simp only[A1] at hc))
   refine ⟨_,_,rfl,rfl,?_⟩;simp [AH,A6,A5,A4]
 by_cases h11 : k = 11
 ·subst h11
  have hn:=BW b 1 hb (by decide)
  have hgt:=@Dk 1 b
  have hln:=@CE 1 b
  cases hp : Aw 1 b with
  | none =>
   have e : Au ⟨11,c,s,d,ky,sl,dn,pl,pr,l,⟨ik,iv,ir,ig⟩,co⟩ b = (⟨11,c,s,d,ky,sl,dn,pl,pr,l,⟨ik,iv,ir,ig⟩,co⟩,false):=by unfold Au;simp only [C3,Int.reduceEq,if_true,if_false,hp]
   rw [e]
   rw [hp] at hn
   unfold CL at hn
   have nS:=True.intro;obtain ⟨lv,st,ns,nc⟩:=wq [0,1,2,4,5,6,7,8,9,10,12,13,14,15,17,18,19,21,22,25,37,40,41,52,63,69,87,98,112,120] [];have c1:=@hn;have pr : AC []:=trivial;refine wd ?_;clear nc ns st lv pr c1;repeat' (first|with_reducible constructor|(with_reducible intro hc;try simp only[A1] at hc))
   refine ⟨_,_,rfl,rfl,?_⟩;simp [AH,A6,A5,A4]
  | some p =>
   obtain ⟨q,r⟩:=p
   have hg:=hgt hp
   obtain ⟨hl1,hl2⟩:=hln hp
   obtain ⟨x,rfl⟩ : ∃ x,q = [x]:=by
    rcases q with _ | ⟨x,_ | ⟨z,t⟩⟩ <;> first | exact ⟨_,rfl⟩ | (simp at hl1)
   have hx:=hg x (by simp)
   rw [hp] at hn
   unfold CL at hn
   have e : Au ⟨11,c,s,d,ky,sl,dn,pl,pr,l,⟨ik,iv,ir,ig⟩,co⟩ b = (⟨11,c,s,d,ky,sl,dn,pl,pr,l,⟨ik,iv,ir,ig⟩,x⟩,true):=by unfold Au;simp only [C3,Int.reduceEq,if_true,if_false,hp] <;> rfl
   rw [e]
   have nS:=True.intro;obtain ⟨lv,st,ns,nc⟩:=wq [0,1,2,4,5,6,7,8,9,10,12,13,14,15,17,18,19,21,22,25,37,40,41,52,63,69,87,98,112,120] [];have c1:=@hn;have pr : AC []:=trivial;refine wd ?_;clear nc ns st lv pr c1;repeat' (first|with_reducible constructor|(with_reducible intro hc;try simp only[A1] at hc))
   refine ⟨_,_,rfl,rfl,?_⟩;simp [AH,A6,A5,A4]
 by_cases h7 : k = 7
 ·subst h7
  have hn:=BW b 1 hb (by decide)
  have hgt:=@Dk 1 b
  have hln:=@CE 1 b
  cases hp : Aw 1 b with
  | none =>
   have e : Au ⟨7,c,s,d,ky,sl,dn,pl,pr,l,⟨ik,iv,ir,ig⟩,co⟩ b = (⟨7,c,s,d,ky,sl,dn,pl,pr,l,⟨ik,iv,ir,ig⟩,co⟩,false):=by unfold Au;simp only [C3,Int.reduceEq,if_true,if_false,hp]
   rw [e]
   rw [hp] at hn
   unfold CL at hn
   have nS:=True.intro;obtain ⟨lv,st,ns,nc⟩:=wq [0,1,2,4,5,6,7,8,9,10,12,13,14,15,17,18,19,21,22,25,37,40,41,52,63,69,87,98,112,120] [];have c1:=@hn;have pr : AC []:=trivial;refine wd ?_;clear nc ns st lv pr c1;repeat' (first|with_reducible constructor|(with_reducible intro hc;try simp only[A1] at hc))
   refine ⟨_,_,rfl,rfl,?_⟩;simp [AH,A6,A5,A4]
  | some p =>
   obtain ⟨q,r⟩:=p
   have hg:=hgt hp
   obtain ⟨hl1,hl2⟩:=hln hp
   obtain ⟨x,rfl⟩ : ∃ x,q = [x]:=by
    rcases q with _ | ⟨x,_ | ⟨z,t⟩⟩ <;> first | exact ⟨_,rfl⟩ | (simp at hl1)
   have hx:=hg x (by simp)
   rw [hp] at hn
   unfold CL at hn
   have ht:=MZ r (by omega)
   unfold EM at ht
   have e : Au ⟨7,c,s,d,ky,sl,dn,pl,pr,l,⟨ik,iv,ir,ig⟩,co⟩ b = (⟨7,c,s,d,ky,sl,dn,pl,(x - 1),(AX r).1,⟨ik,iv,ir,ig⟩,co⟩,(AX r).2.2 == 0):=by unfold Au;simp only [C3,Int.reduceEq,if_true,if_false,hp] <;> rfl
   rw [e]
   have nS:=True.intro;obtain ⟨lv,st,ns,nc⟩:=wq [0,1,2,4,5,6,7,8,9,10,12,13,14,15,17,18,19,21,22,25,37,40,41,52,63,69,87,98,112,120] [];have c1:=@hn;have c2:=@ht;have pr : AC []:=trivial;refine wd ?_;clear nc ns st lv pr c2 c1;repeat' (first|with_reducible constructor|(with_reducible intro hc;try simp only[A1] at hc))
   refine ⟨_,_,rfl,rfl,?_⟩;simp [AH,A6,A5,A4]
 by_cases h5 : k = 5
 ·subst h5
  have hn:=BW b 0 hb (by decide)
  have hgt:=@Dk 0 b
  have hln:=@CE 0 b
  cases hp : Aw 0 b with
  | none =>
   have e : Au ⟨5,c,s,d,ky,sl,dn,pl,pr,l,⟨ik,iv,ir,ig⟩,co⟩ b = (⟨5,c,s,d,ky,sl,dn,pl,pr,l,⟨ik,iv,ir,ig⟩,co⟩,false):=by unfold Au;simp only [C3,Int.reduceEq,if_true,if_false,hp]
   rw [e]
   rw [hp] at hn
   unfold CL at hn
   have nS:=True.intro;obtain ⟨lv,st,ns,nc⟩:=wq [0,1,2,4,5,6,7,8,9,10,12,13,14,15,17,18,19,21,22,25,37,40,41,52,63,69,87,98,112,120] [];have c1:=@hn;have pr : AC []:=trivial;refine wd ?_;clear nc ns st lv pr c1;repeat' (first|with_reducible constructor|(with_reducible intro hc;try simp only[A1] at hc))
   refine ⟨_,_,rfl,rfl,?_⟩;simp [AH,A6,A5,A4]
  | some p =>
   obtain ⟨q,r⟩:=p
   have hg:=hgt hp
   obtain ⟨hl1,hl2⟩:=hln hp
   obtain rfl : q = []:=List.length_eq_zero_iff.1 hl1
   rw [hp] at hn
   unfold CL at hn
   have ht:=Lk r (by omega)
   have hD : ∀ z : Item,z.d = .agg [.s z.key,.i .i64 z.value,.i .i64 z.version,.b z.gone]:=fun _ => rfl
   rw [hD] at ht
   have e : Au ⟨5,c,s,d,ky,sl,dn,pl,pr,l,⟨ik,iv,ir,ig⟩,co⟩ b = (⟨5,c,s,d,ky,sl,dn,pl,pr,l,(Cf r).1,co⟩,(Cf r).2):=by unfold Au;simp only [C3,Int.reduceEq,if_true,if_false,hp] <;> rfl
   rw [e]
   have nS:=True.intro;obtain ⟨lv,st,ns,nc⟩:=wq [0,1,2,4,5,6,7,8,9,10,12,13,14,15,17,18,19,21,22,25,37,40,41,52,63,69,87,98,112,120] [];have c1:=@hn;have c2:=@ht;have pr : AC []:=trivial;refine wd ?_;clear nc ns st lv pr c2 c1;repeat' (first|with_reducible constructor|(with_reducible intro hc;try simp only[A1] at hc))
   refine ⟨_,_,rfl,rfl,?_⟩;simp [AH,A6,A5,A4]
 by_cases h6 : k = 6
 ·subst h6
  have hn:=BW b 0 hb (by decide)
  have hgt:=@Dk 0 b
  have hln:=@CE 0 b
  cases hp : Aw 0 b with
  | none =>
   have e : Au ⟨6,c,s,d,ky,sl,dn,pl,pr,l,⟨ik,iv,ir,ig⟩,co⟩ b = (⟨6,c,s,d,ky,sl,dn,pl,pr,l,⟨ik,iv,ir,ig⟩,co⟩,false):=by unfold Au;simp only [C3,Int.reduceEq,if_true,if_false,hp]
   rw [e]
   rw [hp] at hn
   unfold CL at hn
   have nS:=True.intro;obtain ⟨lv,st,ns,nc⟩:=wq [0,1,2,4,5,6,7,8,9,10,12,13,14,15,17,18,19,21,22,25,37,40,41,52,63,69,87,98,112,120] [];have c1:=@hn;have pr : AC []:=trivial;refine wd ?_;clear nc ns st lv pr c1;repeat' (first|with_reducible constructor|(with_reducible intro hc;try simp only[A1] at hc))
   refine ⟨_,_,rfl,rfl,?_⟩;simp [AH,A6,A5,A4]
  | some p =>
   obtain ⟨q,r⟩:=p
   have hg:=hgt hp
   obtain ⟨hl1,hl2⟩:=hln hp
   obtain rfl : q = []:=List.length_eq_zero_iff.1 hl1
   rw [hp] at hn
   unfold CL at hn
   have ht:=Hg r (by omega)
   unfold Dq at ht
   have e : Au ⟨6,c,s,d,ky,sl,dn,pl,pr,l,⟨ik,iv,ir,ig⟩,co⟩ b = (⟨6,c,s,d,ky,sl,dn,pl,pr,l,⟨(AQ r).1,iv,ir,ig⟩,co⟩,(AQ r).2.2 == 0):=by unfold Au;simp only [C3,Int.reduceEq,if_true,if_false,hp] <;> rfl
   rw [e]
   have nS:=True.intro;obtain ⟨lv,st,ns,nc⟩:=wq [0,1,2,4,5,6,7,8,9,10,12,13,14,15,17,18,19,21,22,25,37,40,41,52,63,69,87,98,112,120] [];have c1:=@hn;have c2:=@ht;have pr : AC []:=trivial;refine wd ?_;clear nc ns st lv pr c2 c1;repeat' (first|with_reducible constructor|(with_reducible intro hc;try simp only[A1] at hc))
   refine ⟨_,_,rfl,rfl,?_⟩;simp [AH,A6,A5,A4]
 by_cases h12 : k = 12
 ·subst h12
  have hn:=BW b 1 hb (by decide)
  have hgt:=@Dk 1 b
  have hln:=@CE 1 b
  cases hp : Aw 1 b with
  | none =>
   have e : Au ⟨12,c,s,d,ky,sl,dn,pl,pr,l,⟨ik,iv,ir,ig⟩,co⟩ b = (⟨12,c,s,d,ky,sl,dn,pl,pr,l,⟨ik,iv,ir,ig⟩,co⟩,false):=by unfold Au;simp only [C3,Int.reduceEq,if_true,if_false,hp]
   rw [e]
   rw [hp] at hn
   unfold CL at hn
   have nS:=True.intro;obtain ⟨lv,st,ns,nc⟩:=wq [0,1,2,4,5,6,7,8,9,10,12,13,14,15,17,18,19,21,22,25,37,40,41,52,63,69,87,98,112,120] [];have c1:=@hn;have pr : AC []:=trivial;refine wd ?_;clear nc ns st lv pr c1;repeat' (first|with_reducible constructor|(with_reducible intro hc;try simp only[A1] at hc))
   refine ⟨_,_,rfl,rfl,?_⟩;simp [AH,A6,A5,A4]
  | some p =>
   obtain ⟨q,r⟩:=p
   have hg:=hgt hp
   obtain ⟨hl1,hl2⟩:=hln hp
   obtain ⟨x,rfl⟩ : ∃ x,q = [x]:=by
    rcases q with _ | ⟨x,_ | ⟨z,t⟩⟩ <;> first | exact ⟨_,rfl⟩ | (simp at hl1)
   have hx:=hg x (by simp)
   rw [hp] at hn
   unfold CL at hn
   by_cases h0 : x = 0
   ·subst h0
    have ht:=Lk r (by omega)
    have hD : ∀ z : Item,z.d = .agg [.s z.key,.i .i64 z.value,.i .i64 z.version,.b z.gone]:=fun _ => rfl
    rw [hD] at ht
    have e : Au ⟨12,c,s,d,ky,sl,dn,pl,pr,l,⟨ik,iv,ir,ig⟩,co⟩ b = (⟨12,c,s,d,ky,sl,dn,pl,pr,l,(Cf r).1,0⟩,(Cf r).2):=by unfold Au;simp only [C3,Int.reduceEq,if_true,if_false,hp] <;> rfl
    rw [e]
    have nS:=True.intro;obtain ⟨lv,st,ns,nc⟩:=wq [0,1,2,4,5,6,7,8,9,10,12,13,14,15,17,18,19,21,22,25,37,40,41,52,63,69,87,98,112,120] [];have c1:=@hn;have c2:=@ht;have pr : AC []:=trivial;refine wd ?_;clear nc ns st lv pr c2 c1;repeat' (first|with_reducible constructor|(with_reducible intro hc;try simp only[A1] at hc))
    refine ⟨_,_,rfl,rfl,?_⟩;simp [AH,A6,A5,A4]
   ·have f:=eq_false' h0
    have e : Au ⟨12,c,s,d,ky,sl,dn,pl,pr,l,⟨ik,iv,ir,ig⟩,co⟩ b = (⟨12,c,s,d,ky,sl,dn,pl,pr,l,⟨ik,iv,ir,ig⟩,x⟩,true):=by unfold Au;simp only [C3,Int.reduceEq,if_true,if_false,hp,List.getD_cons_zero,h0]
    rw [e]
    have nS:=f;obtain ⟨lv,st,ns,nc⟩:=wq [0,1,2,4,5,6,7,8,9,10,12,13,14,15,17,18,19,21,22,25,37,40,41,52,63,69,87,98,112,120] [];have c1:=@hn;have pr : AC []:=trivial;refine wd ?_;clear nc ns st lv pr c1;repeat' (first|with_reducible constructor|(with_reducible intro hc;try simp only[A1] at hc))
    refine ⟨_,_,rfl,rfl,?_⟩;simp [AH,A6,A5,A4]
 have hn:=BW b 0 hb (by decide)
 have e : Au ⟨k,c,s,d,ky,sl,dn,pl,pr,l,⟨ik,iv,ir,ig⟩,co⟩ b = (⟨k,c,s,d,ky,sl,dn,pl,pr,l,⟨ik,iv,ir,ig⟩,co⟩,true):=by
  unfold Au;simp only [C3,h4,h10,h11,h7,h5,h6,h12,if_false,Aw]
 rw [e]
 have hp : Aw 0 b = some ([],b):=rfl
 rw [hp] at hn
 unfold CL at hn
 have f4:=eq_false' h4
 have f5:=eq_false' h5
 have f6:=eq_false' h6
 have f7:=eq_false' h7
 have f10:=eq_false' h10
 have f11:=eq_false' h11
 have f12:=eq_false' h12
 have nS:=And.intro f4 (And.intro f5 (And.intro f6 (And.intro f7 (And.intro f10 (And.intro f11 f12)))));obtain ⟨lv,st,ns,nc⟩:=wq [0,1,2,4,5,6,7,8,9,10,12,13,14,15,17,18,19,21,22,25,37,40,41,52,63,69,87,98,112,120] [];have c1:=@hn;have pr : AC []:=trivial;refine wd ?_;clear nc ns st lv pr c1;repeat' (first|with_reducible constructor|(with_reducible intro hc;try simp only[A1] at hc))
 refine ⟨_,_,rfl,rfl,?_⟩;simp [AH,A6,A5,A4]
end Wi
end Go.Proofs.YtagnjflbhjmefaaGreat
