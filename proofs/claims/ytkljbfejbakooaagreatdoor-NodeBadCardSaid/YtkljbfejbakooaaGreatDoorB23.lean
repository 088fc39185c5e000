/- Part 23 of a proof, put together by a program. Conditions: none beyond those that a theorem states. -/
import Derived.Test.YtkljbfejbakooaaGreatDoorB22
set_option linter.unusedSimpArgs false
set_option linter.unusedVariables false
set_option linter.unnecessarySimpa false
set_option maxHeartbeats 40000000
namespace Go.Proofs.YtkljbfejbakooaaGreatDoor
namespace Wi
open Go.Gar
set_option maxRecDepth 4000
variable {b r : List UInt8}
theorem Be {n : Nat} : BV b = some (n,r) ↔ b = B0 n ++ r ∧ n ≤ 1099511627776:=by
 constructor
 ·intro h;exact N9 (Fv h)
 ·rintro ⟨rfl,hn⟩;unfold BV;rw [NU n r hn];simp
theorem Hk {s : List UInt8} : FU b = some (s,r) ↔ b = B7 s ++ r ∧ s.length ≤ 255:=by
 constructor
 ·intro h;have e:=IT h;rcases Gk b with ⟨s',r',h1,h2,h3⟩ | h1
  ·rw [h1] at e;simp only [Prod.mk.injEq,and_true] at e;obtain ⟨rfl,rfl⟩:=e;exact ⟨h2,h3⟩
  ·rw [h1] at e;simp at e
 ·rintro ⟨rfl,hs⟩;unfold FU B7;rw [K6 s r hs];simp
theorem NC {l : List Int} : Gi b = some (l,r) ↔ b = (UInt8.ofNat l.length :: A5 l) ++ r ∧ l.length ≤ 255 ∧ l.all fits = true:=by
 constructor
 ·intro h;have e:=IS h;rcases Kc b with ⟨l',r',h1,h2,h3,h4⟩ | ⟨e',h1,h2⟩
  ·rw [h1] at e;simp only [Prod.mk.injEq,and_true] at e;obtain ⟨rfl,rfl⟩:=e;exact ⟨h2,h3,h4⟩
  ·rw [h1] at e;simp at e;exact absurd e.2.2 h2
 ·rintro ⟨rfl,hl,hf⟩;unfold Gi;rw [N4 l r hl hf];simp
def bD (b : Bool) : Nat:=if b then 1 else 0
theorem Kj (b : Bool) : Bq b = (bD b : Nat):=by cases b <;> rfl
theorem Hj {g : Bool} : Dj b = some (g,r) ↔ b = B0 (bD g) ++ r:=by
 constructor
 ·intro h;unfold Dj at h;split at h
  ·rename_i n r' hn;split at h
   ·cases h
   ·rename_i h1;simp only [Option.some.injEq,Prod.mk.injEq] at h;obtain ⟨rfl,rfl⟩:=h;obtain ⟨e,_⟩:=Be.1 hn;rw [e]
    have : n = bD (n == 1):=by
     have : n = 0 ∨ n = 1:=by omega
     rcases this with rfl | rfl <;> rfl
    rw [← this]
  ·cases h
 ·rintro rfl;unfold Dj;rw [Be.2 ⟨rfl,by cases g <;> decide⟩];cases g <;> rfl
variable {n : Int}
theorem Ac (h : fits n = true) : ((n.toNat : Nat) : Int) = n ∧ n.toNat ≤ 1099511627776:=by
 simp [fits] at h;omega
theorem C8 (h : fits n = true) (r : List UInt8) : BV (A5 [n] ++ r) = some (n.toNat,r):=by
 rw [Be];exact ⟨by simp [A5],(Ac h).2⟩
theorem Jw (g : Bool) (r : List UInt8) : Dj (A5 [Bq g] ++ r) = some (g,r):=by
 rw [Hj,Kj];simp [A5]
theorem M7 (x : Item) : Ax x = B7 x.key ++ (A5 [x.value] ++ (A5 [x.version] ++ A5 [Bq x.gone])):=by simp [Ax,A5]
theorem NG (x : Item) (hk : x.key.length ≤ 255) (hv : fits x.value = true) (hn : fits x.version = true) (r : List UInt8) : EV (Ax x ++ r) = some (x,r):=by
 unfold EV;rw [M7,List.append_assoc,Hk.2 ⟨rfl,hk⟩];simp only;rw [List.append_assoc,C8 hv];simp only;rw [List.append_assoc,C8 hn];simp only;rw [Jw];simp only [(Ac hv).1,(Ac hn).1]
theorem NE {x : Item} (h : EV b = some (x,r)) : b = Ax x ++ r:=by
 unfold EV at h;split at h
 ·cases h
 rename_i k b1 h1;split at h
 ·cases h
 rename_i v b2 h2;split at h
 ·cases h
 rename_i n b3 h3;split at h
 ·cases h
 rename_i g b4 h4;simp only [Option.some.injEq,Prod.mk.injEq] at h;obtain ⟨rfl,rfl⟩:=h;rw [(Hk.1 h1).1,(Be.1 h2).1,(Be.1 h3).1,Hj.1 h4,M7];simp [A5,Kj]
theorem Ub (m : A8) (hk : 0 ≤ m.kind ∧ m.kind < 13) (h1 : fits m.call = true) (h2 : fits m.src = true) (h3 : fits m.dst = true) (r : List UInt8) : Dk AA (A5 [m.kind,m.call,m.src,m.dst] ++ r) = some (m.empty,r):=by
 have hkf : fits m.kind = true:=C1 (by omega);have e : A5 [m.kind,m.call,m.src,m.dst] ++ r = A5 [m.kind] ++ (A5 [m.call] ++ (A5 [m.src] ++ (A5 [m.dst] ++ r))):=by simp [A5]
 unfold Dk;rw [e,C8 hkf];simp only;rw [if_neg (by omega),C8 h1];simp only;rw [C8 h2];simp only;rw [C8 h3];simp only [(Ac hkf).1,(Ac h1).1,(Ac h2).1,(Ac h3).1];rfl
variable {m : A8}
theorem Ua (h : Dk AA b = some (m,r)) : b = A5 [m.kind,m.call,m.src,m.dst] ++ r ∧ m = m.empty:=by
 unfold Dk at h;split at h
 ·cases h
 rename_i k b1 h1;split at h
 ·cases h
 split at h
 ·cases h
 rename_i c b2 h2;split at h
 ·cases h
 rename_i s b3 h3;split at h
 ·cases h
 rename_i d b4 h4;simp only [Option.some.injEq,Prod.mk.injEq] at h;obtain ⟨rfl,rfl⟩:=h;refine ⟨?_,rfl⟩;rw [(Be.1 h1).1,(Be.1 h2).1,(Be.1 h3).1,(Be.1 h4).1];simp [A5]
theorem Ud (m : A8) (h : m.right = true) : EM m.empty (Av m) = some (m,[]):=by
 obtain ⟨_,_,_,_,hb,hh⟩:=Ej h;clear h;obtain ⟨k,c,s,d,ky,sl,dn,pl,pr,l,⟨ik,iv,ir,ig⟩,co⟩:=m;unfold EM Av;simp only [A8.empty] at hb ⊢;unfold A8.bare A8.has at *;simp only at hb hh
 by_cases h4 : k = 4
 ·subst h4;simp only [if_true,A8.mk.injEq,AF,Item.mk.injEq] at hb hh ⊢;rw [show A5 [ky,Bq sl] = A5 [ky] ++ (A5 [Bq sl] ++ []) by simp [A5],C8 (Az hh)];simp only;rw [Jw];simp only [(Ac (Az hh)).1]
  simp_all
 by_cases h5 : k = 5
 ·subst h5;simp only [Int.reduceEq,if_false,if_true,A8.mk.injEq,AF,Item.mk.injEq] at hb hh ⊢;obtain ⟨a1,a2,a3⟩:=ES hh;rw [show Ax ⟨ik,iv,ir,ig⟩ = Ax ⟨ik,iv,ir,ig⟩ ++ [] by simp,NG _ a1 a2 a3]
  simp_all
 by_cases h6 : k = 6
 ·subst h6;simp only [Int.reduceEq,if_false,if_true,A8.mk.injEq,AF,Item.mk.injEq,Bool.and_eq_true,decide_eq_true_eq] at hb hh ⊢;obtain ⟨a1,a2,a3⟩:=ES hh.1;rw [show B7 ik = B7 ik ++ [] by simp,Hk.2 ⟨rfl,a1⟩]
  simp_all
 by_cases h7 : k = 7
 ·subst h7;simp only [Int.reduceEq,if_false,if_true,A8.mk.injEq,AF,Item.mk.injEq,Bool.and_eq_true,Bool.or_eq_true,decide_eq_true_eq] at hb hh ⊢;obtain ⟨b1,b2⟩:=HF hh.2
  have hf : fits (pr + 1) = true:=by
   rcases hh.1 with h | h
   ·subst h;rfl
   ·exact C1 (by have:=DG h;omega)
  rw [C8 hf];simp only;rw [show UInt8.ofNat l.length :: A5 l = (UInt8.ofNat l.length :: A5 l) ++ [] by simp,NC.2 ⟨rfl,by omega,b2⟩];simp only [(Ac hf).1];have : pr + 1 - 1 = pr:=by omega
  simp_all
 by_cases h10 : k = 10
 ·subst h10;simp only [Int.reduceEq,if_false,if_true,A8.mk.injEq,AF,Item.mk.injEq] at hb hh ⊢;rw [show A5 [pl,Bq dn] = A5 [pl] ++ (A5 [Bq dn] ++ []) by simp [A5],C8 (Az hh)];simp only;rw [Jw];simp only [(Ac (Az hh)).1]
  simp_all
 by_cases h11 : k = 11
 ·subst h11;simp only [Int.reduceEq,if_false,if_true,A8.mk.injEq,AF,Item.mk.injEq,Bool.or_eq_true,decide_eq_true_eq] at hb hh ⊢;have hf : fits co = true:=by rcases hh with h | h <;> rw [h] <;> rfl
  rw [show A5 [co] = A5 [co] ++ [] by simp,C8 hf];simp only [(Ac hf).1]
  simp_all
 by_cases h12 : k = 12
 ·subst h12;simp only [Int.reduceEq,if_false,if_true,A8.mk.injEq,AF,Item.mk.injEq,Bool.or_eq_true,Bool.and_eq_true,decide_eq_true_eq] at hb hh ⊢;rcases hh with ⟨h0,h1⟩ | ⟨h0,h1⟩
  ·subst h0;obtain ⟨a1,a2,a3⟩:=ES h1;rw [C8 rfl];simp only [if_true];rw [show Ax ⟨ik,iv,ir,ig⟩ = Ax ⟨ik,iv,ir,ig⟩ ++ [] by simp];simp only [show Int.toNat 0 = 0 from rfl,if_true];rw [NG _ a1 a2 a3]
   simp_all
  ·subst h0;rw [C8 rfl]
   simp_all
 simp only [h4,h5,h6,h7,h10,h11,h12,if_false,A8.mk.injEq] at hb ⊢
 simp_all
theorem Uc {m' : A8} (h : EM m b = some (m',r)) : b = Av m' ++ r ∧ m'.kind = m.kind ∧ m'.call = m.call ∧ m'.src = m.src ∧ m'.dst = m.dst:=by
 unfold EM at h
 by_cases h4 : m.kind = 4
 ·rw [if_pos h4] at h;split at h
  ·cases h
  rename_i n b1 h1;split at h
  ·cases h
  rename_i g b2 h2;simp only [Option.some.injEq,Prod.mk.injEq] at h;obtain ⟨rfl,rfl⟩:=h;refine ⟨?_,rfl,rfl,rfl,rfl⟩;rw [(Be.1 h1).1,Hj.1 h2];simp [Av,h4,A5,Kj]
 rw [if_neg h4] at h
 by_cases h5 : m.kind = 5
 ·rw [if_pos h5] at h;split at h
  ·cases h
  rename_i x b1 h1;simp only [Option.some.injEq,Prod.mk.injEq] at h;obtain ⟨rfl,rfl⟩:=h;refine ⟨?_,rfl,rfl,rfl,rfl⟩;rw [NE h1];simp [Av,h5]
 rw [if_neg h5] at h
 by_cases h6 : m.kind = 6
 ·rw [if_pos h6] at h;split at h
  ·cases h
  rename_i x b1 h1;simp only [Option.some.injEq,Prod.mk.injEq] at h;obtain ⟨rfl,rfl⟩:=h;refine ⟨?_,rfl,rfl,rfl,rfl⟩;rw [(Hk.1 h1).1];simp [Av,h6]
 rw [if_neg h6] at h
 by_cases h7 : m.kind = 7
 ·rw [if_pos h7] at h;split at h
  ·cases h
  rename_i n b1 h1;split at h
  ·cases h
  rename_i l b2 h2;simp only [Option.some.injEq,Prod.mk.injEq] at h;obtain ⟨rfl,rfl⟩:=h;refine ⟨?_,rfl,rfl,rfl,rfl⟩;have e : ((n : Int) - 1 + 1).toNat = n:=by omega
  rw [(Be.1 h1).1,(NC.1 h2).1];simp [Av,h7,A5,e]
 rw [if_neg h7] at h
 by_cases h10 : m.kind = 10
 ·rw [if_pos h10] at h;split at h
  ·cases h
  rename_i n b1 h1;split at h
  ·cases h
  rename_i g b2 h2;simp only [Option.some.injEq,Prod.mk.injEq] at h;obtain ⟨rfl,rfl⟩:=h;refine ⟨?_,rfl,rfl,rfl,rfl⟩;rw [(Be.1 h1).1,Hj.1 h2];simp [Av,h10,A5,Kj]
 rw [if_neg h10] at h
 by_cases h11 : m.kind = 11
 ·rw [if_pos h11] at h;split at h
  ·cases h
  rename_i n b1 h1;simp only [Option.some.injEq,Prod.mk.injEq] at h;obtain ⟨rfl,rfl⟩:=h;refine ⟨?_,rfl,rfl,rfl,rfl⟩;rw [(Be.1 h1).1];simp [Av,h11,A5]
 rw [if_neg h11] at h
 by_cases h12 : m.kind = 12
 ·rw [if_pos h12] at h;split at h
  ·cases h
  rename_i n b1 h1;split at h
  ·rename_i hn;subst hn;split at h
   ·cases h
   rename_i x b2 h2;simp only [Option.some.injEq,Prod.mk.injEq] at h;obtain ⟨rfl,rfl⟩:=h;refine ⟨?_,rfl,rfl,rfl,rfl⟩;rw [(Be.1 h1).1,NE h2];simp [Av,h12,A5]
  ·rename_i hn;simp only [Option.some.injEq,Prod.mk.injEq] at h;obtain ⟨rfl,rfl⟩:=h;refine ⟨?_,rfl,rfl,rfl,rfl⟩;rw [(Be.1 h1).1];simp [Av,h12,A5,hn]
 rw [if_neg h12] at h;simp only [Option.some.injEq,Prod.mk.injEq] at h;obtain ⟨rfl,rfl⟩:=h;refine ⟨?_,rfl,rfl,rfl,rfl⟩;simp [Av,h4,h5,h6,h7,h10,h11,h12]
theorem Rv {n k : Nat} (h : n < 256 ^ k) : size n ≤ k:=by
 rcases Nat.lt_or_ge k (size n) with h2 | h2
 ·have:=size_pos.2 h2;rw [Nat.div_eq_of_lt h] at this;omega
 ·exact h2
theorem B6 (k : Nat) (h : n < ((256 ^ k : Nat) : Int)) : (B0 n.toNat).length ≤ k + 1:=by
 have : size n.toNat ≤ k:=by
  rcases Nat.eq_zero_or_pos n.toNat with h0 | h0
  ·rw [h0];exact Nat.le_trans (by decide) (Nat.zero_le k)
  ·exact Rv (by omega)
 simp [B0,FC];omega
theorem Hm {x : Item} (h : Ai x = true) : (Ax x).length ≤ 31:=by
 simp only [Ai,Bool.and_eq_true,isVal,BN,decide_eq_true_eq] at h;obtain ⟨⟨⟨h1,h2⟩,⟨h3,h4⟩⟩,⟨h5,h6⟩⟩:=h;have a1:=B6 (n:=x.value) 3 (by omega);have a2:=B6 (n:=x.version) 3 (by omega);have a3:=B6 (n:=Bq x.gone) 1 (by cases x.gone <;> decide);simp only [Ax,B7,A5,List.length_append,List.length_cons,List.length_nil];omega
theorem UQ (h : m.right = true) : (Av m).length ≤ 32:=by
 obtain ⟨_,_,_,_,_,hh⟩:=Ej h;unfold Av;unfold A8.has at hh
 by_cases h4 : m.kind = 4
 ·rw [if_pos h4] at hh ⊢;have:=DG hh;have a1:=B6 (n:=m.key) 2 (by omega);have a3:=B6 (n:=Bq m.slow) 1 (by cases m.slow <;> decide);simp only [A5,List.length_append,List.length_nil];omega
 rw [if_neg h4] at hh ⊢
 by_cases h5 : m.kind = 5
 ·rw [if_pos h5] at hh ⊢;have:=Hm hh;omega
 rw [if_neg h5] at hh ⊢
 by_cases h6 : m.kind = 6
 ·rw [if_pos h6] at hh ⊢;simp only [Bool.and_eq_true] at hh;have:=hh.1;simp only [Ai,BN,Bool.and_eq_true,decide_eq_true_eq] at this;simp only [B7,List.length_cons];omega
 rw [if_neg h6] at hh ⊢
 by_cases h7 : m.kind = 7
 ·rw [if_pos h7] at hh ⊢;simp only [Bool.and_eq_true,Bool.or_eq_true,decide_eq_true_eq] at hh
  have hp : m.pred + 1 < 16777216:=by
   rcases hh.1 with h | h
   ·omega
   ·have:=DG h;omega
  have a1:=B6 (n:=m.pred + 1) 3 (by omega);have hL:=HF hh.2
  have hall : ∀ l : List Int,Di m.src l = true → (A5 l).length ≤ 3 * l.length:=by
   intro l
   induction l with
   | nil => simp [A5]
   | cons x r ih =>
    intro hr;simp only [Di,List.all_cons,Bool.and_eq_true] at hr;have:=DG hr.1.1;have a2:=B6 (n:=x) 2 (by omega);have:=ih hr.2;simp only [A5,List.length_append,List.length_cons];omega
  have h2:=hh.2;simp only [Da,Bool.and_eq_true] at h2;have:=hall m.list h2.1.1;simp only [A5,List.length_append,List.length_nil,List.length_cons];omega
 rw [if_neg h7] at hh ⊢
 by_cases h10 : m.kind = 10
 ·rw [if_pos h10] at hh ⊢;have:=DG hh;have a1:=B6 (n:=m.place) 2 (by omega);have a3:=B6 (n:=Bq m.done) 1 (by cases m.done <;> decide);simp only [A5,List.length_append,List.length_nil];omega
 rw [if_neg h10] at hh ⊢
 by_cases h11 : m.kind = 11
 ·rw [if_pos h11] at hh ⊢;simp only [Bool.or_eq_true,decide_eq_true_eq] at hh;have a1:=B6 (n:=m.code) 1 (by rcases hh with h | h <;> rw [h] <;> decide);simp only [A5,List.length_append,List.length_nil];omega
 rw [if_neg h11] at hh ⊢
 by_cases h12 : m.kind = 12
 ·rw [if_pos h12] at hh ⊢;simp only [Bool.or_eq_true,Bool.and_eq_true,decide_eq_true_eq] at hh;rcases hh with ⟨h0,h1⟩ | ⟨h0,h1⟩
  ·have:=Hm h1;rw [if_pos h0,h0];have e : (A5 [0]).length = 1:=by decide
   simp only [List.length_append];omega
  ·rw [if_neg (by omega),h0]
   decide
 rw [if_neg h12];simp
theorem HJ (h : m.right = true) : (Ag m).length ≤ 46:=by
 have hm:=UQ h;obtain ⟨⟨h1,h2⟩,⟨h3,h4⟩,_,⟨h5,h6⟩,_,_⟩:=Ej h;have ha:=Im h;have:=DG h3;have:=DG h4;have a1:=B6 (n:=m.kind) 1 (by omega);have a2:=B6 (n:=m.call) 5 (by omega);have a3:=B6 (n:=m.src) 2 (by omega);have a4:=B6 (n:=m.dst) 2 (by omega);simp only [Ag,A5,List.length_append,List.length_nil];omega
theorem QQ (h : m.right = true) : Ci (Ag m) = (m,0):=by
 have hl:=HJ h;obtain ⟨⟨h1,h2⟩,⟨h3,h4⟩,_,⟨h5,h6⟩,_,_⟩:=Ej h;have ha:=Im h;unfold Ci;rw [if_neg (by omega)];unfold Ag;rw [Ub m ⟨by omega,h2⟩ (C1 (by omega)) (Az h3) (Az h4)];simp only [Ud m h,h,and_self,if_true]
theorem XY {e : Int} (h : Ci b = (m,e)) : (e = 0 ∧ m.right = true ∧ Ag m = b) ∨ (e = 12 ∧ m = AA):=by
 unfold Ci at h;split at h
 ·cases h;exact .inr ⟨rfl,rfl⟩
 split at h
 ·cases h;exact .inr ⟨rfl,rfl⟩
 rename_i m1 r h1;split at h
 ·cases h;exact .inr ⟨rfl,rfl⟩
 rename_i m2 r2 h2;split at h
 ·rename_i h3;cases h;refine .inl ⟨rfl,h3.2,?_⟩;obtain ⟨e1,e2⟩:=Ua h1;obtain ⟨g1,g2,g3,g4,g5⟩:=Uc h2;unfold Ag;rw [g2,g3,g4,g5,e1,g1,h3.1,List.append_nil]
 ·cases h;exact .inr ⟨rfl,rfl⟩
end Wi
end Go.Proofs.YtkljbfejbakooaaGreatDoor
