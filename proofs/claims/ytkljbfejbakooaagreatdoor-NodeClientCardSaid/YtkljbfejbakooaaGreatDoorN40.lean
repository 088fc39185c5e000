/- Part 40 of a proof, put together by a program. Conditions: none beyond those that a theorem states. -/
import Derived.Test.YtkljbfejbakooaaGreatDoorN30
set_option linter.unusedSimpArgs false
set_option linter.unusedVariables false
set_option linter.unnecessarySimpa false
set_option maxHeartbeats 40000000
namespace Go.Proofs.YtkljbfejbakooaaGreatDoor
open Go.Gar
set_option maxRecDepth 4000
abbrev L9 : List Nat:=[0,2,3,4,10,12]
def Eu (n k : Nat) : List UInt8:=(List.range k).map fun j => f9 n (k - 1 - j)
theorem Gz (n k : Nat) : Eu n (k + 1) = f9 n k :: Eu n k:=by
 simp only [Eu,List.range_succ_eq_map,List.map_cons,List.map_map];refine congr (congrArg _ (by simp)) ?_;apply List.map_congr_left;intro j _;simp only [Function.comp]
 congr 1;omega
theorem LO (a : Nat) (h : a < 4611686018427387904) : EI .i64 (a : Int) = true:=by
 simp only [EI,Bool.and_eq_true,decide_eq_true_eq];constructor <;> omega
theorem size_pos {n k : Nat} : 0 < n / 256 ^ k ↔ k < size n:=by
 have hp : 0 < 256 ^ k:=Nat.pow_pos (by decide);rw [Nat.div_pos_iff];have e : 256 ^ k = 2 ^ (8 * k):=by rw [Nat.pow_mul]
 obtain ⟨h1,h2⟩:=(Gx (n:=n) (k:=CY n)).1 rfl;unfold size;constructor
 ·rintro ⟨_,h⟩;rcases Nat.lt_or_ge (8 * k) (CY n) with h3 | h3
  ·omega
  ·have : 2 ^ CY n ≤ 2 ^ (8 * k):=Nat.pow_le_pow_right (by decide) h3;omega
 ·intro h;refine ⟨hp,?_⟩;rcases h2 with h2 | h2
  ·omega
  ·have : 2 ^ (8 * k) ≤ 2 ^ (CY n - 1):=Nat.pow_le_pow_right (by decide) (by omega);omega
theorem Vv (n : Int) : Go.Gar.Fn Tryz.prog 298 [.i .i64 n] (.tup [.by (Kp n).1,.i .i64 (Kp n).2]):=by
 by_cases hf : fits n = true
 ·obtain ⟨m,rfl,hm⟩:=Gu hf;have hs:=size_le m (by omega);refine zF A6 Tryz.func298 ?_;refine wk L9 [] A0 A0 ?_;with_reducible repeat' first|constructor|intro hc;try simp only[AD] at hc
  refine Ap (A3.e0 4 (.by []) rfl rfl rfl trivial) (by simp) ?_;refine Ac (fun k => k ≤ size m) (fun k : Nat => ⟨[(0,.d (.i .i64 (m / 256 ^ k : Nat))),(2,.e0),(3,.d (.i .i64 0)),(4,.d (.by (Eu m k)))],[],27⟩) (fun k => size m - k) 0 (Nat.zero_le _) ?_ (by simp) ?_
  ·exact A3.ck rfl
  intro k hk;have hsp:=size_pos (n:=m) (k:=k);have hle : m / 256 ^ k ≤ m:=Nat.div_le_self _ _;have hll : (Eu m k).length = k:=by simp [Eu]
  by_cases hkm : k < size m
  ·have hp:=hsp.2 hkm
   have e1 : ((m / 256 ^ k : Nat) : Int).tmod 256 = ((m / 256 ^ k % 256 : Nat) : Int):=by
    rw [Int.tmod_eq_emod_of_nonneg (by omega)];rfl
   have e2 : ((m / 256 ^ k % 256 : Nat) : Int) % 256 = ((m / 256 ^ k % 256 : Nat) : Int):=by omega
   have e3 : ((m / 256 ^ k : Nat) : Int).tdiv 256 = ((m / 256 ^ (k + 1) : Nat) : Int):=by
    rw [Int.tdiv_eq_ediv_of_nonneg (by omega),Nat.pow_succ,← Nat.div_div_eq_div_mul];rfl
   have e4 : (UInt8.ofNat (m / 256 ^ k % 256) :: Eu m k) = Eu m (k + 1):=(Gz m k).symm;have hle' : m / 256 ^ (k + 1) ≤ m:=Nat.div_le_self _ _;have ow : Lv [16]:=trivial;refine wk L9 [] (M9 e1 e2 e3 e4) A0 ?_;clear ow;with_reducible repeat' first|constructor|intro hc;try simp only[AD] at hc
   rotate_left
   ·rw [e3];exact Cr rfl (LO _ (by omega))
   refine ⟨k + 1,hkm,by omega,Nat.zero_le _,?_⟩;refine A3.trans' (A3.dL 4 0 (x:=.by (Eu m (k + 1))) (congrArg (fun z => some (A5.a (D.by z))) e4) rfl rfl) ?_ (Nat.zero_le _);exact A3.ck rfl
  ·have e : k = size m:=by omega
   subst e;have h0 : m / 256 ^ size m = 0:=Nat.eq_zero_of_not_pos (fun h => absurd (hsp.1 h) (Nat.lt_irrefl _));have e5 : ((size m : Nat) : Int) % 256 = size m:=by omega
   have e6 : Eu m (size m) = GG m:=rfl;have e7 : (GG m).length = size m:=by simp [GG]
   have ow : Lv [24]:=trivial;refine wk L9 [] (M9 h0 e5 e6 e7) A0 ?_;clear ow;refine ⟨_,_,rfl,rfl,?_⟩;simp [AR,AB,A7,A4,Kp,hf,BH,e6,e7]
 ·have hf' : fits n = false:=by simpa using hf
  have hc' : n < 0 ∨ n > 1099511627776:=by simp [fits] at hf';omega
  refine zF A6 Tryz.func298 ?_;refine wk L9 [] A0 A0 ?_;with_reducible repeat' first|constructor|intro hc;try simp only[AD] at hc
  all_goals first
   | (refine ⟨_,_,rfl,rfl,?_⟩;simp [AR,AB,A7,A4,Kp,hf'];done)
   | (exfalso;omega)
end Go.Proofs.YtkljbfejbakooaaGreatDoor
namespace Go.Proofs.YtkljbfejbakooaaGreatDoor
open Go.Gar
theorem Xv (l : List UInt8) (a : Nat) : l.foldl (fun a d => a * 256 + d.toNat) a = a * 256 ^ l.length + Dk l:=by
 induction l generalizing a with
 | nil => simp [Dk]
 | cons d r ih =>
  have e : Dk (d :: r) = d.toNat * 256 ^ r.length + Dk r:=by
   show r.foldl _ (0 * 256 + d.toNat) = _;rw [ih];simp
  simp only [List.foldl_cons,List.length_cons];rw [ih,e,Nat.pow_succ,Nat.add_mul,Nat.mul_assoc,Nat.mul_comm 256,Nat.add_assoc]
theorem Lm (d : UInt8) (l : List UInt8) : Dk (d :: l) = d.toNat * 256 ^ l.length + Dk l:=by
 show l.foldl _ (0 * 256 + d.toNat) = _;rw [Xv];simp
theorem KL (n i : Nat) : (f9 n i).toNat = n / 256 ^ i % 256:=by
 simp [f9]
theorem SV (n k : Nat) : (Eu n k).length = k:=by simp [Eu]
theorem Xx (n k : Nat) : Dk (Eu n k) = n % 256 ^ k:=by
 induction k with
 | zero => simp [Eu,Dk,Nat.mod_one]
 | succ k ih =>
  rw [Gz,Lm,ih,SV,KL,Nat.pow_succ,Nat.mod_mul];rw [Nat.mul_comm,Nat.add_comm]
theorem Vy (n : Nat) : n < 256 ^ size n:=by
 have h:=(size_pos (n:=n) (k:=size n));have h0 : n / 256 ^ size n = 0:=Nat.eq_zero_of_not_pos (fun h1 => absurd (h.1 h1) (Nat.lt_irrefl _));have hp : 0 < 256 ^ size n:=Nat.pow_pos (by decide);rcases (Nat.div_eq_zero_iff).1 h0 with h1 | h1
 ·omega
 ·exact h1
theorem Pq (n : Nat) : GG n = Eu n (size n):=rfl
theorem Xu (n : Nat) : Dk (GG n) = n:=by
 rw [Pq,Xx,Nat.mod_eq_of_lt (Vy n)]
theorem Z5 (n : Nat) : (GG n).length = size n:=SV _ _
theorem WU (n : Nat) (h : 0 < size n) : (GG n).getD 0 0 ≠ 0:=by
 obtain ⟨k,hk⟩ : ∃ k,size n = k + 1:=⟨size n - 1,by omega⟩;rw [Pq,hk,Gz];intro e;have e':=congrArg UInt8.toNat e;simp only [List.getD_cons_zero,KL,UInt8.toNat_zero] at e';have h1:=(size_pos (n:=n) (k:=k)).2 (by omega);have h2:=Vy n;rw [hk,Nat.pow_succ] at h2;have h3 : n / 256 ^ k < 256:=(Nat.div_lt_iff_lt_mul (Nat.pow_pos (by decide))).2 (by rwa [Nat.mul_comm]);omega
theorem PN (n : Nat) (r : List UInt8) (h : n ≤ 1099511627776) : Ak (BH n ++ r) = (n,r,0):=by
 have hs:=size_le n (by omega);have hl:=Z5 n;have hm : (UInt8.ofNat (size n)).toNat = size n:=by rw [UInt8.toNat_ofNat'];omega
 have e1 : (GG n ++ r).take (size n) = GG n:=by rw [← hl];simp
 have e2 : (GG n ++ r).drop (size n) = r:=by rw [← hl];simp
 simp only [BH,List.cons_append,Ak,hm];rw [if_neg (by omega),if_neg (by simp;omega),e1,e2,Xu,if_neg];rintro (⟨h1,h2⟩ | h1)
 ·refine WU n h1 (Eq.trans ?_ h2);rw [List.getD_eq_getElem?_getD,List.getD_eq_getElem?_getD,List.getElem?_append_left (by omega)]
 ·omega
theorem aJ (n k : Nat) : Eu (n % 256 ^ k) k = Eu n k:=by
 unfold Eu;apply List.map_congr_left;intro j hj;have hj' : j < k:=by simpa using hj
 have : (f9 (n % 256 ^ k) (k - 1 - j)).toNat = (f9 n (k - 1 - j)).toNat:=by
  rw [KL,KL];obtain ⟨i,hi⟩ : ∃ i,k = (k - 1 - j) + 1 + i:=⟨j,by omega⟩;generalize k - 1 - j = q at *;subst hi;rw [show q + 1 + i = q + (1 + i) by omega,Nat.pow_add,Nat.mod_mul_right_div_self,show 1 + i = i + 1 by omega,Nat.pow_succ,Nat.mul_comm (256 ^ i) 256,Nat.mod_mul_right_mod]
 exact UInt8.toNat_inj.1 this
theorem Wy (l : List UInt8) : Eu (Dk l) l.length = l:=by
 induction l with
 | nil => rfl
 | cons d r ih =>
  have hp : 0 < 256 ^ r.length:=Nat.pow_pos (by decide);have hv:=Mi r;have hd:=d.toNat_lt;rw [List.length_cons,Gz,← aJ,Lm,Nat.add_comm,Nat.add_mul_mod_self_right,Nat.mod_eq_of_lt hv,ih]
  congr 1
  apply UInt8.toNat_inj.1;rw [KL,Nat.add_comm,Nat.mul_comm,Nat.mul_add_div hp,Nat.div_eq_of_lt hv];omega
theorem size_eq {n k : Nat} (h1 : n < 256 ^ k) (h2 : k = 0 ∨ 256 ^ (k - 1) ≤ n) : size n = k:=by
 have a:=(size_pos (n:=n) (k:=k));have b:=(size_pos (n:=n) (k:=k - 1));have c : n / 256 ^ k = 0:=Nat.div_eq_of_lt h1;rcases h2 with h2 | h2
 ·subst h2;omega
 ·have : 0 < n / 256 ^ (k - 1):=Nat.div_pos h2 (Nat.pow_pos (by decide));have:=b.1 this;omega
theorem P1 {b r : List UInt8} {n : Nat} (h : Ak b = (n,r,0)) : b = BH n ++ r ∧ n ≤ 1099511627776:=by
 rcases b with _ | ⟨m,l⟩
 ·simp [Ak] at h
 ·simp only [Ak] at h;split at h
  ·simp at h
  ·rename_i h6;split at h
   ·simp at h
   ·rename_i hr;split at h
    ·simp at h
    ·rename_i hP;simp only [Prod.mk.injEq,and_true] at h;obtain ⟨rfl,rfl⟩:=h;have hlen : (l.take m.toNat).length = m.toNat:=by simp;omega
     have hsz : size (Dk (l.take m.toNat)) = m.toNat:=by
      refine size_eq (by have:=Mi (l.take m.toNat);rwa [hlen] at this) ?_;rcases Nat.eq_zero_or_pos m.toNat with h0 | h0
      ·exact .inl h0
      ·right;rcases hl : l with _ | ⟨d,q⟩
       ·rw [hl] at hr;simp at hr;omega
       ·obtain ⟨k,hk⟩ : ∃ k,m.toNat = k + 1:=⟨m.toNat - 1,by omega⟩;rw [hl,hk,List.take_succ_cons] at hlen;rw [hk,List.take_succ_cons,Lm];simp only [List.length_cons,Nat.add_right_cancel_iff] at hlen;rw [hlen,Nat.add_sub_cancel];have hd : d.toNat ≠ 0:=fun e => hP (.inl ⟨h0,by rw [hl];exact u8z e⟩)
        have : 1 * 256 ^ k ≤ d.toNat * 256 ^ k:=Nat.mul_le_mul_right _ (by omega);omega
     refine ⟨?_,by omega⟩
     have e : GG (Dk (l.take m.toNat)) = l.take m.toNat:=by
      rw [Pq,hsz];have:=Wy (l.take m.toNat);rwa [hlen] at this
     simp only [BH,e,hsz,List.cons_append,List.take_append_drop]
     congr 1
     apply UInt8.toNat_inj.1;rw [UInt8.toNat_ofNat'];have:=m.toNat_lt;omega
theorem GA : ∀ (k : Nat) (r : List UInt8) (acc : List Int),(CC k r acc).1.length ≤ acc.length + k
 | 0,r,acc => by simp [CC]
 | k + 1,r,acc => by
  simp only [CC];split
  ·have:=GA k (Ak r).2.1 (acc ++ [((Ak r).1 : Int)]);simp only [List.length_append,List.length_cons,List.length_nil] at this;omega
  ·simp
theorem OR (b : List UInt8) : (AZ b).1.length ≤ 255:=by
 rcases b with _ | ⟨m,r⟩
 ·simp [AZ]
 ·have h1:=GA m.toNat r [];have h2:=m.toNat_lt;simp only [AZ];simp only [List.length_nil] at h1;omega
theorem Lj (s r : List UInt8) (h : s.length ≤ 255) : AN (UInt8.ofNat s.length :: s ++ r) = (s,r,0):=by
 have hm : (UInt8.ofNat s.length).toNat = s.length:=by rw [UInt8.toNat_ofNat'];omega
 simp only [List.cons_append,AN,hm];rw [if_neg (by simp)];simp
theorem Jf (r : List UInt8) : ∀ (l : List Int) (acc : List Int),l.all fits = true → CC l.length (A9 l ++ r) acc = (acc ++ l,r,0)
 | [],acc,_ => by simp [CC,A9]
 | n :: l,acc,h => by
  simp only [List.all_cons,Bool.and_eq_true] at h;obtain ⟨m,rfl,hm⟩:=Gu h.1;simp only [List.length_cons,CC,A9,Int.toNat_natCast,List.append_assoc,PN m _ hm,if_true];rw [Jf r l _ h.2];simp
theorem Ow (l : List Int) (r : List UInt8) (h : l.length ≤ 255) (hf : l.all fits = true) : AZ (UInt8.ofNat l.length :: A9 l ++ r) = (l,r,0):=by
 have hm : (UInt8.ofNat l.length).toNat = l.length:=by rw [UInt8.toNat_ofNat'];omega
 simp only [List.cons_append,AZ,hm];rw [Jf r l [] hf];simp
theorem T2 (b : List UInt8) : (∃ n r,Ak b = (n,r,0) ∧ b = BH n ++ r ∧ n ≤ 1099511627776) ∨ Ak b = (0,[],11) ∨ Ak b = (0,[],12):=by
 rcases hb : Ak b with ⟨n,r,e⟩
 by_cases he : e = 0
 ·subst he;obtain ⟨h1,h2⟩:=P1 hb;exact .inl ⟨n,r,rfl,h1,h2⟩
 ·right;rcases b with _ | ⟨m,l⟩
  ·simp [Ak] at hb;simp [← hb.1,← hb.2.1,← hb.2.2]
  ·simp only [Ak] at hb;split at hb
   ·simp at hb;simp [← hb.1,← hb.2.1,← hb.2.2]
   ·split at hb
    ·simp at hb;simp [← hb.1,← hb.2.1,← hb.2.2]
    ·split at hb
     ·simp at hb;simp [← hb.1,← hb.2.1,← hb.2.2]
     ·simp at hb;exact absurd hb.2.2.symm he
theorem Hv (b : List UInt8) : (∃ s r,AN b = (s,r,0) ∧ b = UInt8.ofNat s.length :: s ++ r ∧ s.length ≤ 255) ∨ AN b = ([],[],11):=by
 rcases b with _ | ⟨m,l⟩
 ·exact .inr rfl
 ·have hm:=m.toNat_lt;simp only [AN]
  by_cases h : l.length < m.toNat
  ·rw [if_pos h];exact .inr rfl
  ·rw [if_neg h];have hl : (l.take m.toNat).length = m.toNat:=by simp;omega
   refine .inl ⟨_,_,rfl,?_,by omega⟩;rw [hl,List.cons_append,List.take_append_drop]
   congr 1
   apply UInt8.toNat_inj.1;rw [UInt8.toNat_ofNat'];omega
theorem M8 : ∀ (k : Nat) (b : List UInt8) (acc : List Int),(∃ l r,CC k b acc = (acc ++ l,r,0) ∧ b = A9 l ++ r ∧ l.length = k ∧ l.all fits = true) ∨ ∃ e,CC k b acc = ([],[],e) ∧ e ≠ 0
 | 0,b,acc => .inl ⟨[],b,by simp [CC],by simp [A9],rfl,rfl⟩
 | k + 1,b,acc => by
  simp only [CC];rcases T2 b with ⟨n,r,h,hb,hn⟩ | h | h
  ·rw [h];simp only [if_true];rcases M8 k r (acc ++ [(n : Int)]) with ⟨l,r',h1,h2,h3,h4⟩ | ⟨e,h1,h2⟩
   ·refine .inl ⟨(n : Int) :: l,r',by rw [h1];simp,?_,by simp [h3],?_⟩
    ·rw [hb,h2];simp [A9]
    ·have hf : fits (n : Int) = true:=by simp [fits];omega
     simp only [List.all_cons,hf,h4,Bool.and_self]
   ·exact .inr ⟨e,h1,h2⟩
  ·rw [h];exact .inr ⟨11,by simp,by decide⟩
  ·rw [h];exact .inr ⟨12,by simp,by decide⟩
theorem MJ (b : List UInt8) : (∃ l r,AZ b = (l,r,0) ∧ b = UInt8.ofNat l.length :: A9 l ++ r ∧ l.length ≤ 255 ∧ l.all fits = true) ∨ ∃ e,AZ b = ([],[],e) ∧ e ≠ 0:=by
 rcases b with _ | ⟨m,q⟩
 ·exact .inr ⟨11,rfl,by decide⟩
 ·have hm:=m.toNat_lt;simp only [AZ];rcases M8 m.toNat q [] with ⟨l,r',h1,h2,h3,h4⟩ | ⟨e,h1,h2⟩
  ·refine .inl ⟨l,r',by rw [h1];simp,?_,by omega,h4⟩;rw [List.cons_append,← h2,h3]
   congr 1
   apply UInt8.toNat_inj.1;rw [UInt8.toNat_ofNat'];omega
  ·exact .inr ⟨e,h1,h2⟩
end Go.Proofs.YtkljbfejbakooaaGreatDoor
