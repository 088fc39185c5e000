/- Part 28 of a proof, put together by a program. Conditions: none beyond those that a theorem states. -/
import Derived.Test.YtkljbfejbakooaaGreatDoorB23
import Derived.Test.YtkljbfejbakooaaGreatDoorB24
import Derived.Test.YtkljbfejbakooaaGreatDoorB27
set_option linter.unusedSimpArgs false
set_option linter.unusedVariables false
set_option linter.unnecessarySimpa false
set_option maxHeartbeats 40000000
namespace Go.Proofs.YtkljbfejbakooaaGreatDoor
namespace Wi
open Go.Gar
set_option maxRecDepth 4000
theorem Cq : ∀ (l : List Int) (r : List UInt8),l.all fits = true → Aq l.length (A5 l ++ r) = some (l,r)
 | [],r,_ => rfl
 | n :: l,r,h => by
  simp only [List.all_cons,Bool.and_eq_true] at h;have e : A5 (n :: l) ++ r = A5 [n] ++ (A5 l ++ r):=by simp [A5]
  rw [List.length_cons,Aq,e,C8 h.1];simp only;rw [Cq l r h.2];simp only [(Ac h.1).1]
theorem LJ (g : Bool) : (Bq g == 1) = g:=by cases g <;> rfl
theorem KO (x : Item) (hk : x.key.length ≤ 255) (hv : fits x.value = true) (hn : fits x.version = true) : Cr (Ax x) = (x,true):=by
 obtain ⟨k,v,n,g⟩:=x
 have ht : AM (Ax ⟨k,v,n,g⟩) = (k,A5 [v,n,Bq g],0):=by
  rw [show Ax ⟨k,v,n,g⟩ = UInt8.ofNat k.length :: k ++ A5 [v,n,Bq g] by simp [M7,B7,A5]];exact K6 k _ hk
 have hp : Aq 3 (A5 [v,n,Bq g]) = some ([v,n,Bq g],[]):=by
  have:=Cq [v,n,Bq g] [] (by simp only [List.all_cons,List.all_nil,hv,hn,CQ,Bool.and_self]);rw [List.append_nil] at this;exact this
 unfold Cr;rw [ht];simp only [hp,if_true,LJ]
theorem UR (m : A8) (h : m.right = true) : Ap m.empty (Av m) = (m,true):=by
 obtain ⟨_,_,_,_,hb,hh⟩:=Ej h;clear h;obtain ⟨k,c,s,d,ky,sl,dn,pl,pr,l,⟨ik,iv,ir,ig⟩,co⟩:=m;unfold Ap Av;simp only [A8.empty] at hb ⊢;unfold A8.bare A8.has at *;simp only at hb hh
 by_cases h4 : k = 4
 ·subst h4;simp only [if_true,A8.mk.injEq,AF,Item.mk.injEq] at hb hh ⊢
  have hp : Aq 2 (A5 [ky,Bq sl]) = some ([ky,Bq sl],[]):=by
   have:=Cq [ky,Bq sl] [] (by simp only [List.all_cons,List.all_nil,Az hh,CQ,Bool.and_self]);rw [List.append_nil] at this;exact this
  simp only [CG,if_true,hp,List.getD_cons_zero,List.getD_cons_succ,LJ]
  simp_all
 by_cases h5 : k = 5
 ·subst h5;simp only [Int.reduceEq,if_false,if_true,A8.mk.injEq,AF,Item.mk.injEq] at hb hh ⊢;obtain ⟨a1,a2,a3⟩:=ES hh;simp only [CG,Int.reduceEq,if_false,Aq,KO _ a1 a2 a3]
  simp_all
 by_cases h6 : k = 6
 ·subst h6;simp only [Int.reduceEq,if_false,if_true,A8.mk.injEq,AF,Item.mk.injEq,Bool.and_eq_true,decide_eq_true_eq] at hb hh ⊢;obtain ⟨a1,a2,a3⟩:=ES hh.1
  have ht : AM (B7 ik) = (ik,[],0):=by
   have:=K6 ik [] a1;rw [List.append_nil] at this;exact this
  simp only [CG,Int.reduceEq,if_false,Aq,ht]
  simp_all
 by_cases h7 : k = 7
 ·subst h7;simp only [Int.reduceEq,if_false,if_true,A8.mk.injEq,AF,Item.mk.injEq,Bool.and_eq_true,Bool.or_eq_true,decide_eq_true_eq] at hb hh ⊢;obtain ⟨b1,b2⟩:=HF hh.2
  have hf : fits (pr + 1) = true:=by
   rcases hh.1 with h | h
   ·subst h;rfl
   ·exact C1 (by have:=DG h;omega)
  have hp : Aq 1 (A5 [pr + 1] ++ UInt8.ofNat l.length :: A5 l) = some ([pr + 1],UInt8.ofNat l.length :: A5 l):=Cq [pr + 1] _ (by simp only [List.all_cons,List.all_nil,hf,Bool.and_self])
  have ht : AP (UInt8.ofNat l.length :: A5 l) = (l,[],0):=by
   have:=N4 l [] (by omega) b2;rw [List.append_nil] at this;exact this
  have e1 : pr + 1 - 1 = pr:=by omega
  simp only [CG,Int.reduceEq,if_false,if_true,hp,ht,List.getD_cons_zero,e1]
  simp_all
 by_cases h10 : k = 10
 ·subst h10;simp only [Int.reduceEq,if_false,if_true,A8.mk.injEq,AF,Item.mk.injEq] at hb hh ⊢
  have hp : Aq 2 (A5 [pl,Bq dn]) = some ([pl,Bq dn],[]):=by
   have:=Cq [pl,Bq dn] [] (by simp only [List.all_cons,List.all_nil,Az hh,CQ,Bool.and_self]);rw [List.append_nil] at this;exact this
  simp only [CG,Int.reduceEq,if_false,if_true,hp,List.getD_cons_zero,List.getD_cons_succ,LJ]
  simp_all
 by_cases h11 : k = 11
 ·subst h11;simp only [Int.reduceEq,if_false,if_true,A8.mk.injEq,AF,Item.mk.injEq,Bool.or_eq_true,decide_eq_true_eq] at hb hh ⊢;have hf : fits co = true:=by rcases hh with h | h <;> rw [h] <;> rfl
  have hp : Aq 1 (A5 [co]) = some ([co],[]):=by
   have:=Cq [co] [] (by simp only [List.all_cons,List.all_nil,hf,Bool.and_self]);rw [List.append_nil] at this;exact this
  simp only [CG,Int.reduceEq,if_false,if_true,hp,List.getD_cons_zero]
  simp_all
 by_cases h12 : k = 12
 ·subst h12;simp only [Int.reduceEq,if_false,if_true,A8.mk.injEq,AF,Item.mk.injEq,Bool.or_eq_true,Bool.and_eq_true,decide_eq_true_eq] at hb hh ⊢;rcases hh with ⟨h0,h1⟩ | ⟨h0,h1⟩
  ·subst h0;obtain ⟨a1,a2,a3⟩:=ES h1;have hp : Aq 1 (A5 [0] ++ Ax ⟨ik,iv,ir,ig⟩) = some ([0],Ax ⟨ik,iv,ir,ig⟩):=Cq [0] _ rfl;simp only [CG,Int.reduceEq,if_false,if_true,hp,List.getD_cons_zero,KO _ a1 a2 a3]
   simp_all
  ·subst h0;have hp : Aq 1 (A5 [201]) = some ([201],[]):=Cq [201] [] rfl;simp only [CG,Int.reduceEq,if_false,if_true,hp,List.getD_cons_zero,List.append_nil]
   simp_all
 simp only [h4,h5,h6,h7,h10,h11,h12,if_false,A8.mk.injEq,CG,Aq] at hb ⊢
 simp_all
theorem Lq (m : A8) (b : List UInt8) (h : m.list.length ≤ 255) : (Ap m b).1.list.length ≤ 255:=by
 unfold Ap;split
 ·exact h
 ·repeat' split
  all_goals first | exact h | exact Mc _
def EN (b : List UInt8) : A8 × Int:=match Aq 4 b with
 | some ([k,c,s,d],r) => if k ≥ 13 then (AA,12) else
  if (Ap ⟨k,c,s,d,0,false,false,0,0,[],AF,0⟩ r).2 = true ∧ (Ap ⟨k,c,s,d,0,false,false,0,0,[],AF,0⟩ r).1.right = true ∧ Ag (Ap ⟨k,c,s,d,0,false,false,0,0,[],AF,0⟩ r).1 = b
  then ((Ap ⟨k,c,s,d,0,false,false,0,0,[],AF,0⟩ r).1,0) else (AA,12)
 | _ => (AA,12)
theorem QO (b : List UInt8) : (∃ m,EN b = (m,0) ∧ m.right = true ∧ Ag m = b) ∨ EN b = (AA,12):=by
 unfold EN;split
 ·split
  ·exact .inr rfl
  ·split
   ·rename_i h;exact .inl ⟨_,rfl,h.2.1,h.2.2⟩
   ·exact .inr rfl
 ·exact .inr rfl
theorem Uo {m : A8} (h : m.right = true) : EN (Ag m) = (m,0):=by
 obtain ⟨⟨k1,k2⟩,⟨p1,p2⟩,_,⟨c1,c2⟩,hb,hh⟩:=Ej h;have ha:=Im h;have fk : fits m.kind = true:=C1 (by omega);have fc : fits m.call = true:=C1 (by omega);have hp : Aq 4 (Ag m) = some ([m.kind,m.call,m.src,m.dst],Av m):=Cq [m.kind,m.call,m.src,m.dst] (Av m) (by simp only [List.all_cons,List.all_nil,fk,fc,Az p1,Az p2,Bool.and_self]);have hm:=UR m h;unfold A8.empty at hm;unfold EN;rw [hp];simp only [hm];rw [if_neg (by omega),if_pos (And.intro trivial (And.intro h trivial))]
theorem QP (b : List UInt8) : EN b = Ci b:=by
 rcases QO b with ⟨m,h1,h2,h3⟩ | h1
 ·rw [h1,← h3,QQ h2]
 ·obtain ⟨m,e,h⟩ : ∃ m e,Ci b = (m,e):=⟨_,_,rfl⟩;rcases XY h with ⟨h2,h3,h4⟩ | ⟨h2,h3⟩
  ·have:=Uo h3;rw [h4,h1] at this;simp at this
  ·rw [h1,h,h2,h3]
def M1 (b : List UInt8) : List UInt8 × Int:=if b.length < 8 then ([],11) else
 if (BH ((b.take (b.length - 4)).drop 4)).2 = 0 ∧ (BH ((b.take (b.length - 4)).drop 4)).1 = b then ((b.take (b.length - 4)).drop 4,0) else ([],12)
theorem U2 {p : List UInt8} (h : (BH p).2 = 0) : p.length ≤ 112:=by
 unfold BH at h;split at h
 ·simp at h
 ·omega
theorem XC (b : List UInt8) : M1 b = Bd b:=by
 obtain ⟨p,e,h⟩ : ∃ p e,Bd b = (p,e):=⟨_,_,rfl⟩;unfold M1;rcases Q6 h with ⟨h1,h2,h3⟩ | ⟨h1,h2,h3⟩ | ⟨h1,h2,h3⟩
 ·subst h1;have hb:=h3;rw [Eo h2] at hb;simp only at hb;have hl : b.length = p.length + 8:=by rw [← hb];simp [FP,Nm];omega
  have e : (b.take (b.length - 4)).drop 4 = p:=by
   rw [hl,← hb,List.append_assoc,show p.length + 8 - 4 = (hdr p.length).length + p.length by rw [FP];omega,List.take_append,List.drop_append];simp [FP]
  rw [if_neg (by omega),e,if_pos ⟨by rw [Eo h2],h3⟩,h]
 ·rw [if_pos h2,h,h1,h3]
 ·rw [if_neg (by omega),if_neg,h,h1,h3];rintro ⟨a,c⟩;have:=M2 (U2 a);rw [c,h,h1] at this;simp at this
end Wi
end Go.Proofs.YtkljbfejbakooaaGreatDoor
