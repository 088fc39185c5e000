/- Part 48 of a proof, put together by a program. Conditions: none beyond those that a theorem states. -/
import Derived.Test.YtkljbfejbakooaaGreatDoorB28
import Derived.Test.YtkljbfejbakooaaGreatDoorB46
import Derived.Test.YtkljbfejbakooaaGreatDoorB47
set_option linter.unusedSimpArgs false
set_option linter.unusedVariables false
set_option linter.unnecessarySimpa false
set_option maxHeartbeats 40000000
namespace Go.Proofs.YtkljbfejbakooaaGreatDoor
namespace Wi
open Go.Gar
set_option maxRecDepth 4000
abbrev FB : List Nat:=[0,2,3,4,5,6,9,30]
abbrev Dw : List Nat:=[0,2,3,4,5,6,7,8,9,10,24,46,61]
theorem XP (b : List UInt8) (hb : b.length < 70368744177664) : Go.Gar.Fn Tryz.prog 59 [.by b] (.tup [.by (Bd b).1,.i .i64 (Bd b).2]):=by
 rw [← XC];refine zF A6 Tryz.func59 ?_
 by_cases h8 : b.length < 8
 ·have e : M1 b = ([],11):=if_pos h8;refine wk FB [] A0 A0 ?_;with_reducible repeat' first|constructor|intro hc;try simp only[AB] at hc
  refine ⟨_,_,rfl,rfl,?_⟩;simp [Ab,A9,A4,A3,e]
 have e1 : ((b.length : Int) - 4).toNat = b.length - 4:=by omega
 have hc:=Hn ((b.take (b.length - 4)).drop 4);have e0 : M1 b = if (BH ((b.take (b.length - 4)).drop 4)).2 = 0 ∧ (BH ((b.take (b.length - 4)).drop 4)).1 = b then ((b.take (b.length - 4)).drop 4,0) else ([],12):=if_neg h8
 refine wk FB [] (AG e1) A0 ?_;with_reducible repeat' first|constructor|intro hc;try simp only[AB] at hc
 generalize hp : (b.take (b.length - 4)).drop 4 = p at *
 by_cases hz : (BH p).2 = 0
 ·have f:=C7 hz
  by_cases hq : (BH p).1 = b
  ·have e : M1 b = (p,0):=by rw [e0,if_pos ⟨hz,hq⟩]
   have f2 : ((BH p).1 == b) = true:=by simp [hq]
   refine wk FB [] (BM f f2) (AG @hc) ?_;refine ⟨_,_,rfl,rfl,?_⟩;simp [Ab,A9,A4,A3,e]
  ·have e : M1 b = ([],12):=by rw [e0,if_neg (fun h => hq h.2)]
   have f2 : ((BH p).1 == b) = false:=by simp [hq]
   refine wk FB [] (BM f f2) (AG @hc) ?_;refine ⟨_,_,rfl,rfl,?_⟩;simp [Ab,A9,A4,A3,e]
 ·have e : M1 b = ([],12):=by rw [e0,if_neg (fun h => hz h.1)]
  have f:=C2 hz;refine wk FB [] (AG f) (AG @hc) ?_;refine ⟨_,_,rfl,rfl,?_⟩;simp [Ab,A9,A4,A3,e]
theorem XQ (b : List UInt8) (hb : b.length < 70368744177664) : Go.Gar.Fn Tryz.prog 60 [.by b] (.tup [(Ci b).1.d,.i .i64 (Ci b).2]):=by
 rw [← QP];have hn:=BP b 4 hb (by decide);have hg:=@EL 4 b;have hln:=@CR 4 b;refine zF A6 Tryz.func60 ?_
 cases hp : Aq 4 b with
 | none =>
  have e : EN b = (AA,12):=by unfold EN;rw [hp]
  rw [hp] at hn;unfold Ca at hn;unfold A8.d A8.cells;refine wd Dw [] [] A0 (AG @hn) ?_;refine ⟨_,_,rfl,rfl,?_⟩;simp [Ab,A9,A4,A3,e,AA,AF]
 | some p =>
  obtain ⟨l,r⟩:=p;obtain ⟨hl1,hl2⟩:=hln hp;have hg:=hg hp
  obtain ⟨k,c,s,d,rfl⟩ : ∃ k c s d,l = [k,c,s,d]:=by
   rcases l with _ | ⟨k,_ | ⟨c,_ | ⟨s,_ | ⟨d,_ | ⟨x,t⟩⟩⟩⟩⟩ <;> first | exact ⟨_,_,_,_,rfl⟩ | (simp at hl1)
  have hk:=hg k (by simp);rw [hp] at hn;unfold Ca at hn
  by_cases h13 : k ≥ 13
  ·have e : EN b = (AA,12):=by unfold EN;rw [hp];exact if_pos h13
   unfold A8.d A8.cells;refine wd Dw [] [] A0 (AG @hn) ?_;with_reducible repeat' first|constructor|intro hc;try simp only[AB] at hc
   refine ⟨_,_,rfl,rfl,?_⟩;simp [Ab,A9,A4,A3,e,AA,AF]
  have ek : k % 256 = k:=by omega
  have hm:=X2 ⟨k,c,s,d,0,false,false,0,0,[],AF,0⟩ r (by omega);have hl:=Lq ⟨k,c,s,d,0,false,false,0,0,[],AF,0⟩ r (Nat.zero_le _)
  have e0 : EN b = if (Ap ⟨k,c,s,d,0,false,false,0,0,[],AF,0⟩ r).2 = true ∧ (Ap ⟨k,c,s,d,0,false,false,0,0,[],AF,0⟩ r).1.right = true ∧ Ag (Ap ⟨k,c,s,d,0,false,false,0,0,[],AF,0⟩ r).1 = b then ((Ap ⟨k,c,s,d,0,false,false,0,0,[],AF,0⟩ r).1,0) else (AA,12):=by
   unfold EN;rw [hp];exact if_neg h13
  rcases hM : Ap ⟨k,c,s,d,0,false,false,0,0,[],AF,0⟩ r with ⟨m,is⟩;rw [hM] at hm hl e0;simp only at hl e0;have hP:=KQ m (by omega);unfold GT at hP
  cases is with
  | false =>
   have e : EN b = (AA,12):=by rw [e0,if_neg (fun h => Bool.noConfusion h.1)]
   unfold A8.d A8.cells at *;simp only [AF] at hm;have z1:=@hm;refine wd Dw [] [] (AG ek) (AG @hn) ?_;clear z1;with_reducible repeat' first|constructor|intro hc;try simp only[AB] at hc
   refine ⟨_,_,rfl,rfl,?_⟩;simp [Ab,A9,A4,A3,e,AA,AF]
  | true =>
   cases hr : m.right with
   | false =>
    have e : EN b = (AA,12):=by rw [e0,if_neg (fun h => by rw [hr] at h;exact Bool.noConfusion h.2.1)]
    rw [hr,if_neg (by decide)] at hP;unfold A8.d A8.cells at *;simp only [AF] at hm;have z1:=@hm;refine wd Dw [] [] (AG ek) (BM @hn @hP) ?_;clear z1;with_reducible repeat' first|constructor|intro hc;try simp only[AB] at hc
    refine ⟨_,_,rfl,rfl,?_⟩;simp [Ab,A9,A4,A3,e,AA,AF]
   | true =>
    rw [hr,if_pos rfl] at hP
    by_cases hq : Ag m = b
    ·have e : EN b = (m,0):=by rw [e0,if_pos ⟨rfl,hr,hq⟩]
     have f2 : (Ag m == b) = true:=by simp [hq]
     unfold A8.d A8.cells at *;simp only [AF] at hm;have z1:=@hm;refine wd Dw [] [] (BM ek f2) (BM @hn @hP) ?_;clear z1;with_reducible repeat' first|constructor|intro hc;try simp only[AB] at hc
     refine ⟨_,_,rfl,rfl,?_⟩;simp [Ab,A9,A4,A3,e]
    ·have e : EN b = (AA,12):=by rw [e0,if_neg (fun h => hq h.2.2)]
     have f2 : (Ag m == b) = false:=by simp [hq]
     unfold A8.d A8.cells at *;simp only [AF] at hm;have z1:=@hm;refine wd Dw [] [] (BM ek f2) (BM @hn @hP) ?_;clear z1;with_reducible repeat' first|constructor|intro hc;try simp only[AB] at hc
     refine ⟨_,_,rfl,rfl,?_⟩;simp [Ab,A9,A4,A3,e,AA,AF]
theorem QI (m : A8) (hl : m.list.length < 9223372036854775807) : Go.Gar.Fn Tryz.prog 68 [m.d] (.tup [.by (Bs m).1,.i .i64 (Bs m).2]):=by
 have hP:=KQ m hl
 cases h : m.right with
 | false =>
  have e : Bs m = ([],2):=by unfold Bs;rw [h];rfl
  have e2 : GT m = ([],2):=by unfold GT;rw [h];rfl
  rw [e2] at hP;unfold A8.d A8.cells at *;refine zF A6 Tryz.func68 ?_;refine wk [0,1,2,3,4,5,12] [] A0 (AG @hP) ?_;refine ⟨_,_,rfl,rfl,?_⟩;simp [Ab,A9,A4,A3,e]
 | true =>
  have e : Bs m = BH (Ag m):=by unfold Bs;rw [h];rfl
  have e2 : GT m = (Ag m,0):=by unfold GT;rw [h];rfl
  have hC:=Hn (Ag m);rw [e2] at hP;unfold A8.d A8.cells at *;refine zF A6 Tryz.func68 ?_;refine wk [0,1,2,3,4,5,12] [] A0 (BM @hP @hC) ?_;refine ⟨_,_,rfl,rfl,?_⟩;simp [Ab,A9,A4,A3,e]
theorem UZ (b : List UInt8) : (Bd b).1.length ≤ 112:=by
 obtain ⟨p,e,h⟩ : ∃ p e,Bd b = (p,e):=⟨_,_,rfl⟩;rw [h];rcases Q6 h with ⟨_,h2,_⟩ | ⟨_,_,h3⟩ | ⟨_,_,h3⟩
 ·exact h2
 ·rw [h3];exact Nat.zero_le _
 ·rw [h3];exact Nat.zero_le _
theorem NJ (b : List UInt8) (hb : b.length < 70368744177664) : Go.Gar.Fn Tryz.prog 17 [.by b] (.tup [(Ar b).1.d,.i .i64 (Ar b).2]):=by
 have hO:=XP b hb;have hol:=UZ b;refine zF A6 Tryz.func17 ?_
 by_cases h : (Bd b).2 = 0
 ·have e : Ar b = Ci (Bd b).1:=if_pos h;have hR:=XQ (Bd b).1 (by omega);have f:=C7 h;unfold A8.d A8.cells at *;refine wk [0,2,3,4,5,12] [] (AG f) (BM @hO @hR) ?_;refine ⟨_,_,rfl,rfl,?_⟩;simp [Ab,A9,A4,A3,e]
 ·have e : Ar b = (AA,(Bd b).2):=if_neg h;have f:=C2 h;unfold A8.d A8.cells;refine wk [0,2,3,4,5,12] [] (AG f) (AG @hO) ?_;refine ⟨_,_,rfl,rfl,?_⟩;simp [Ab,A9,A4,A3,e,AA,AF]
end Wi
end Go.Proofs.YtkljbfejbakooaaGreatDoor
namespace Go.Proofs.YtkljbfejbakooaaGreatDoor
namespace Nd
open Go.Gar
open Wi (A8 B2 Ai AA BN mC Bs Ar)
set_option maxRecDepth 4000
theorem ZK (m : A8) (hm : m.list.length < 9223372036854775807) : Go.Gar.Fn Tryz.prog 21 [m.d] (.by (Bs m).1):=by
 have c1:=Wi.QI m hm;refine zF A6 Tryz.func21 ?_;unfold Wi.A8.d Wi.A8.cells at *;refine wk [0,1,2,3] [] A0 (AG @c1) ?_;exact zE
theorem Uh {m : A8} (h : m.right = true) : (Bs m).1.length < 70368744177664:=by
 have:=Wi.HJ h;rw [Wi.TQ h,Wi.Eo (by omega)];simp only [List.length_append];have h1 : (Wi.hdr (Wi.Ag m).length).length ≤ 100:=by unfold Wi.hdr;simp
 have h2 : ∀ n,(Wi.be4 n).length ≤ 100:=fun n => by unfold Wi.be4;simp
 have:=h2 (Wi.Gq (Wi.hdr (Wi.Ag m).length ++ Wi.Ag m));omega
end Nd
end Go.Proofs.YtkljbfejbakooaaGreatDoor
