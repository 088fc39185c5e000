/- Part 13 of a proof, put together by a program. Conditions: none beyond those that a theorem states. -/
import Derived.Test.YtkljbfejbakooaaGreatDoorB12
set_option linter.unusedSimpArgs false
set_option linter.unusedVariables false
set_option linter.unnecessarySimpa false
set_option maxHeartbeats 40000000
namespace Go.Proofs.YtkljbfejbakooaaGreatDoor
open Go.Gar
set_option maxRecDepth 4000
theorem Et (b : List UInt8) : (AX b).2.1.length ≤ b.length:=by
 rcases b with _ | ⟨m,r⟩
 ·simp [AX]
 ·simp only [AX];split
  ·simp
  ·split
   ·simp
   ·split
    ·simp
    ·simp;omega
theorem QY (b : List UInt8) : (AX b).1 ≤ 1099511627776:=by
 rcases b with _ | ⟨m,r⟩
 ·simp [AX]
 ·simp only [AX];split
  ·simp
  ·split
   ·simp
   ·split
    ·simp
    ·simp;omega
theorem HY (b : List UInt8) (hb : b.length < 70368744177664) : Go.Gar.Fn Tryz.prog 309 [.by b] (Bi (AX b)):=by
 have hl:=Et b;refine zF A6 Tryz.func309 ?_;refine wk [0,2,3,4] [] A0 (BM (Oj b hb) (RZ (AX b).2.1 (by omega))) ?_;refine ⟨_,_,rfl,rfl,?_⟩;simp [Ab,A9,A4,A3,Bi]
def AM : List UInt8 → List UInt8 × List UInt8 × Int
 | [] => ([],[],11)
 | m :: r => if r.length < m.toNat then ([],[],11) else (r.take m.toNat,r.drop m.toNat,0)
def EU (x : List UInt8 × List UInt8 × Int) : D:=.tup [.s x.1,.by x.2.1,.i .i64 x.2.2]
theorem KC (b : List UInt8) (hb : b.length < 70368744177664) : Go.Gar.Fn Tryz.prog 311 [.by b] (EU (AM b)):=by
 refine zF A6 Tryz.func311 ?_;rcases b with _ | ⟨m,r⟩
 ·have sc : No 3:=trivial;refine wd [0,2,3,4,5,8,17] [] [] A0 A0 ?_;clear sc;refine ⟨_,_,rfl,rfl,?_⟩;simp [Ab,A9,A4,A3,AM,EU]
 have hm:=m.toNat_lt;simp only [List.length_cons] at hb
 by_cases hr : r.length < m.toNat
 ·have sc : No 3:=trivial;refine wd [0,2,3,4,5,8,17] [] [] A0 A0 ?_;clear sc;with_reducible repeat' first|constructor|intro hc;try simp only[AB] at hc
  refine ⟨_,_,rfl,rfl,?_⟩;simp [Ab,A9,A4,A3,AM,EU,hr]
 have e5 : (1 + (m.toNat : Int)).toNat = m.toNat + 1:=by omega
 have h3 : List.drop 1 (List.take (m.toNat + 1) (m :: r)) = r.take m.toNat:=by simp
 have sc : No 3:=trivial;refine wd [0,2,3,4,5,8,17] [] [] (AG e5) (AG (RZ (r.drop m.toNat) (by simp;omega))) ?_;clear sc;with_reducible repeat' first|constructor|intro hc;try simp only[AB] at hc
 refine ⟨_,_,rfl,rfl,?_⟩;simp [Ab,A9,A4,A3,AM,EU,hr]
theorem JG (b : List UInt8) (hb : b.length < 70368744177664) : Go.Gar.Fn Tryz.prog 224 [.by b] (EU (AM b)):=by
 refine zF A6 Tryz.func224 ?_;rcases b with _ | ⟨m,r⟩
 ·refine wd [0,2,3,4,5,18] [] [] A0 A0 ?_;refine ⟨_,_,rfl,rfl,?_⟩;simp [Ab,A9,A4,A3,AM,EU]
 have hm:=m.toNat_lt;simp only [List.length_cons] at hb
 by_cases hr : r.length < m.toNat
 ·refine wd [0,2,3,4,5,18] [] [] A0 A0 ?_;with_reducible repeat' first|constructor|intro hc;try simp only[AB] at hc
  refine ⟨_,_,rfl,rfl,?_⟩;simp [Ab,A9,A4,A3,AM,EU,hr]
 have e5 : (1 + (m.toNat : Int)).toNat = m.toNat + 1:=by omega
 refine wd [0,2,3,4,5,18] [] [] (AG e5) A0 ?_;with_reducible repeat' first|constructor|intro hc;try simp only[AB] at hc
 refine ⟨_,_,rfl,rfl,?_⟩;simp [Ab,A9,A4,A3,AM,EU,hr]
abbrev HS : List Nat:=[0,2,3,4,6,9,16,17,18,19,24]
abbrev HT : List Nat:=[0,2,3,4,5,8,14,15,16,24]
def A5 : List Int → List UInt8
 | [] => []
 | n :: l => B0 n.toNat ++ A5 l
theorem UU (a b : List Int) : A5 (a ++ b) = A5 a ++ A5 b:=by
 induction a with
 | nil => rfl
 | cons x r ih => simp [A5,ih]
def FR (l : List Int) : List UInt8 × Int:=if l.length > 255 then ([],2) else if l.all fits then (UInt8.ofNat l.length :: A5 l,0) else ([],2)
theorem Fo {n : Int} (h : fits n = true) : ∃ m : Nat,n = m ∧ m ≤ 1099511627776:=by
 simp [fits] at h;exact ⟨n.toNat,by omega,by omega⟩
theorem DF (l : List Int) (h : l.all fits = true) : (A5 l).length ≤ 7 * l.length:=by
 induction l with
 | nil => simp [A5]
 | cons x r ih =>
  simp only [List.all_cons,Bool.and_eq_true] at h;obtain ⟨m,rfl,hm⟩:=Fo h.1;have:=BC m hm;have:=ih h.2;simp only [A5,List.length_append,List.length_cons,Int.toNat_natCast];omega
variable {l : List Int} {k : Nat}
theorem E2 (h : k < l.length) : (l.take (k + 1)).all fits = ((l.take k).all fits && fits (l.getD k 0)):=by
 rw [List.take_succ_eq_append_getElem h,List.getD_eq_getElem?_getD,List.getElem?_eq_getElem h,List.all_append];simp
theorem D5 (h : k < l.length) : A5 (l.take (k + 1)) = A5 (l.take k) ++ B0 (l.getD k 0).toNat:=by
 rw [List.take_succ_eq_append_getElem h,UU,List.getD_eq_getElem?_getD,List.getElem?_eq_getElem h];simp [A5]
theorem list_fn (l : List Int) : Go.Gar.Fn Tryz.prog 357 [.is l] (.tup [.by (FR l).1,.i .i64 (FR l).2]):=by
 refine zF A6 Tryz.func357 ?_
 by_cases hl : l.length > 255
 ·have sc : No 3:=trivial;refine wk HS [] A0 A0 ?_;clear sc;with_reducible repeat' first|constructor|intro hc;try simp only[AB] at hc
  refine ⟨_,_,rfl,rfl,?_⟩;simp [Ab,A9,A4,A3,FR,hl]
 have h1 : (l.length : Int) % 256 = l.length:=by omega
 have ow : Lv [15]:=trivial;have sc : No 3:=trivial;refine wk HS [] (AG h1) A0 ?_;clear sc ow;with_reducible repeat' first|constructor|intro hc;try simp only[AB] at hc
 refine Ae (fun k => k ≤ l.length ∧ (l.take k).all fits = true) (fun k : Nat => ⟨[(0,.d (.is l)),(2,.e0),(3,.d (.i .i64 0)),(4,.sl 0 (UInt8.ofNat l.length :: A5 (l.take k)).length 1),(16,.d (.is l)),(17,.d (.i .i64 l.length)),(18,.d (.i .i64 k))],[.a (.by (UInt8.ofNat l.length :: A5 (l.take k)))],30⟩) (fun k => l.length - k) 0 ⟨Nat.zero_le _,by simp⟩ ?_ (Nat.le_refl _) ?_
 ·exact A1.ck rfl
 rintro k ⟨hk,hpre⟩;have hlen:=DF _ hpre
 by_cases hka : k < l.length
 ·by_cases hf : fits (l.getD k 0) = true
  ·obtain ⟨m,hm,hm'⟩:=Fo hf
   have hnext : (UInt8.ofNat l.length :: A5 (l.take k)) ++ B0 m = UInt8.ofNat l.length :: A5 (l.take (k + 1)):=by
    rw [D5 hka,hm];simp
   have hB:=Mo (UInt8.ofNat l.length :: A5 (l.take k)) m hm' (by simp at hlen ⊢;omega);rw [hnext] at hB;rw [hm] at hf;have d1:=Ds.mk [0] (hB);have sc : No 3:=trivial;refine wk HS [] (BM hm hf) (AG (Ko m)) ?_;clear sc d1;with_reducible repeat' first|constructor|intro hc;try simp only[AB] at hc
   refine ⟨k + 1,⟨hka,by rw [E2 hka,hpre,hm,hf];rfl⟩,by omega,Nat.le_refl _,?_⟩;exact A1.ck rfl
  ·have hf' : fits (l.getD k 0) = false:=by simpa using hf
   have hall : l.all fits = false:=by
    rw [← List.take_append_drop (k + 1) l,List.all_append,E2 hka,hf'];simp
   have sc : No 3:=trivial;refine wk HS [] (AG hf') (AG (Ko (l.getD k 0))) ?_;clear sc;with_reducible repeat' first|constructor|intro hc;try simp only[AB] at hc
   refine ⟨_,_,rfl,rfl,?_⟩;simp [Ab,A9,A4,A3,FR,hl,hall]
 ·have e : k = l.length:=by omega
  subst e;rw [List.take_length] at hpre;have sc : No 3:=trivial;refine wk HS [] A0 A0 ?_;clear sc;with_reducible repeat' first|constructor|intro hc;try simp only[AB] at hc
  refine ⟨_,_,rfl,rfl,?_⟩;simp [Ab,A9,A4,A3,FR,hl,hpre]
def Bj : Nat → List UInt8 → List Int → List Int × List UInt8 × Int
 | 0,rest,acc => (acc,rest,0)
 | k + 1,rest,acc => if (AX rest).2.2 = 0 then Bj k (AX rest).2.1 (acc ++ [((AX rest).1 : Int)]) else ([],[],(AX rest).2.2)
def AP : List UInt8 → List Int × List UInt8 × Int
 | [] => ([],[],11)
 | m :: r => Bj m.toNat r []
def F7 (x : List Int × List UInt8 × Int) : D:=.tup [.is x.1,.by x.2.1,.i .i64 x.2.2]
theorem KB (b : List UInt8) (hb : b.length < 70368744177664) : Go.Gar.Fn Tryz.prog 312 [.by b] (F7 (AP b)):=by
 refine zF A6 Tryz.func312 ?_;rcases b with _ | ⟨m,r⟩
 ·have sc : No 3:=trivial;refine wk HT [] A0 A0 ?_;clear sc;refine ⟨_,_,rfl,rfl,?_⟩;simp [Ab,A9,A4,A3,AP,F7]
 have hm:=m.toNat_lt;simp only [List.length_cons] at hb;have sc : No 3:=trivial;refine wk HT [] A0 A0 ?_;clear sc;refine Bp (A1.Sm 2 (.is []) rfl rfl rfl trivial) (by simp) ?_
 refine Ae (α:=Nat × List UInt8 × List Int) (fun x => x.1 ≤ m.toNat ∧ x.2.1.length ≤ r.length ∧ x.2.2.length = x.1 ∧ Bj (m.toNat - x.1) x.2.1 x.2.2 = Bj m.toNat r [])
  (fun x => ⟨[(0,.d (.by (m :: r))),(2,.sl 0 x.2.2.length 1),(3,.d (.by x.2.1)),(4,.d (.i .i64 0)),(14,.d (.i .i64 m.toNat)),(15,.d (.i .i64 x.1))],[.a (.is x.2.2)],34⟩) (fun x => m.toNat - x.1) (0,r,[]) ⟨Nat.zero_le _,Nat.le_refl _,rfl,rfl⟩ ?_ (by simp) ?_
 ·exact A1.ck rfl
 rintro ⟨k,rest,acc⟩ ⟨hk,hrl,hal,hT⟩;simp only at hk hrl hal hT;have hl:=Et rest;have hv:=QY rest
 by_cases hkm : k < m.toNat
 ·rw [show m.toNat - k = (m.toNat - (k + 1)) + 1 by omega] at hT;simp only [Bj] at hT
  by_cases he : (AX rest).2.2 = 0
  ·rw [if_pos he] at hT;have sc : No 3:=trivial;refine wk HT [] (BM he @Bi.eq_1) (AG (Oj rest (by omega))) ?_;clear sc;with_reducible repeat' first|constructor|intro hc;try simp only[AB] at hc
   refine ⟨(k + 1,(AX rest).2.1,acc ++ [((AX rest).1 : Int)]),⟨hkm,by simp only;omega,by simp;omega,hT⟩,by simp only;omega,by simp,?_⟩;exact A1.ck rfl
  ·rw [if_neg he] at hT;have sc : No 3:=trivial;refine wk HT [] (AG @Bi.eq_1) (AG (Oj rest (by omega))) ?_;clear sc;with_reducible repeat' first|constructor|intro hc;try simp only[AB] at hc
   have e : AP (m :: r) = ([],[],(AX rest).2.2):=hT.symm;refine ⟨_,_,rfl,rfl,?_⟩;simp [Ab,A9,A4,A3,e,F7]
 ·have e : k = m.toNat:=by omega
  subst e;rw [Nat.sub_self] at hT;have e : AP (m :: r) = (acc,rest,0):=hT.symm;have sc : No 3:=trivial;refine wk HT [] A0 (AG (RZ rest (by omega))) ?_;clear sc;with_reducible repeat' first|constructor|intro hc;try simp only[AB] at hc
  refine ⟨_,_,rfl,rfl,?_⟩;simp [Ab,A9,A4,A3,e,F7]
abbrev JX : List Nat:=[0,2,3,4,10,12]
def EI (n k : Nat) : List UInt8:=(List.range k).map fun j => Zx n (k - 1 - j)
theorem Ft (n k : Nat) : EI n (k + 1) = Zx n k :: EI n k:=by
 simp only [EI,List.range_succ_eq_map,List.map_cons,List.map_map];refine congr (congrArg _ (by simp)) ?_;apply List.map_congr_left;intro j _;simp only [Function.comp]
 congr 1;omega
theorem Jk (a : Nat) (h : a < 4611686018427387904) : Dh .i64 (a : Int) = true:=by
 simp only [Dh,Bool.and_eq_true,decide_eq_true_eq];constructor <;> omega
theorem size_pos {n : Nat} : 0 < n / 256 ^ k ↔ k < size n:=by
 have hp : 0 < 256 ^ k:=Nat.pow_pos (by decide);rw [Nat.div_pos_iff];have e : 256 ^ k = 2 ^ (8 * k):=by rw [Nat.pow_mul]
 obtain ⟨h1,h2⟩:=(Fp (n:=n) (k:=C5 n)).1 rfl;unfold size;constructor
 ·rintro ⟨_,h⟩;rcases Nat.lt_or_ge (8 * k) (C5 n) with h3 | h3
  ·omega
  ·have : 2 ^ C5 n ≤ 2 ^ (8 * k):=Nat.pow_le_pow_right (by decide) h3;omega
 ·intro h;refine ⟨hp,?_⟩;rcases h2 with h2 | h2
  ·omega
  ·have : 2 ^ (8 * k) ≤ 2 ^ (C5 n - 1):=Nat.pow_le_pow_right (by decide) (by omega);omega
theorem TX (n : Int) : Go.Gar.Fn Tryz.prog 298 [.i .i64 n] (.tup [.by (JE n).1,.i .i64 (JE n).2]):=by
 by_cases hf : fits n = true
 ·obtain ⟨m,rfl,hm⟩:=Fo hf;have hs:=size_le m (by omega);refine zF A6 Tryz.func298 ?_;refine wk JX [] A0 A0 ?_;with_reducible repeat' first|constructor|intro hc;try simp only[AB] at hc
  refine Bp (A1.e0 4 (.by []) rfl rfl rfl trivial) (by simp) ?_;refine Ae (fun k => k ≤ size m) (fun k : Nat => ⟨[(0,.d (.i .i64 (m / 256 ^ k : Nat))),(2,.e0),(3,.d (.i .i64 0)),(4,.d (.by (EI m k)))],[],27⟩) (fun k => size m - k) 0 (Nat.zero_le _) ?_ (by simp) ?_
  ·exact A1.ck rfl
  intro k hk;have hsp:=size_pos (n:=m) (k:=k);have hle : m / 256 ^ k ≤ m:=Nat.div_le_self _ _;have hll : (EI m k).length = k:=by simp [EI]
  by_cases hkm : k < size m
  ·have hp:=hsp.2 hkm
   have e1 : ((m / 256 ^ k : Nat) : Int).tmod 256 = ((m / 256 ^ k % 256 : Nat) : Int):=by
    rw [Int.tmod_eq_emod_of_nonneg (by omega)];rfl
   have e2 : ((m / 256 ^ k % 256 : Nat) : Int) % 256 = ((m / 256 ^ k % 256 : Nat) : Int):=by omega
   have e3 : ((m / 256 ^ k : Nat) : Int).tdiv 256 = ((m / 256 ^ (k + 1) : Nat) : Int):=by
    rw [Int.tdiv_eq_ediv_of_nonneg (by omega),Nat.pow_succ,← Nat.div_div_eq_div_mul];rfl
   have e4 : (UInt8.ofNat (m / 256 ^ k % 256) :: EI m k) = EI m (k + 1):=(Ft m k).symm;have hle' : m / 256 ^ (k + 1) ≤ m:=Nat.div_le_self _ _;have ow : Lv [16]:=trivial;refine wk JX [] (VH e1 e2 e3 e4) A0 ?_;clear ow;with_reducible repeat' first|constructor|intro hc;try simp only[AB] at hc
   rotate_left
   ·rw [e3];exact CV rfl (Jk _ (by omega))
   refine ⟨k + 1,hkm,by omega,Nat.zero_le _,?_⟩;refine A1.trans' (A1.Z2 4 0 (x:=.by (EI m (k + 1))) (congrArg (fun z => some (A2.a (D.by z))) e4) rfl rfl) ?_ (Nat.zero_le _);exact A1.ck rfl
  ·have e : k = size m:=by omega
   subst e;have h0 : m / 256 ^ size m = 0:=Nat.eq_zero_of_not_pos (fun h => absurd (hsp.1 h) (Nat.lt_irrefl _));have e5 : ((size m : Nat) : Int) % 256 = size m:=by omega
   have e6 : EI m (size m) = FC m:=rfl;have e7 : (FC m).length = size m:=by simp [FC]
   have ow : Lv [24]:=trivial;refine wk JX [] (VH h0 e5 e6 e7) A0 ?_;clear ow;refine ⟨_,_,rfl,rfl,?_⟩;simp [Ab,A9,A4,A3,JE,hf,B0,e6,e7]
 ·have hf' : fits n = false:=by simpa using hf
  have hc' : n < 0 ∨ n > 1099511627776:=by simp [fits] at hf';omega
  refine zF A6 Tryz.func298 ?_;refine wk JX [] A0 A0 ?_;with_reducible repeat' first|constructor|intro hc;try simp only[AB] at hc
  all_goals first
   | (refine ⟨_,_,rfl,rfl,?_⟩;simp [Ab,A9,A4,A3,JE,hf'];done)
   | (exfalso;omega)
end Go.Proofs.YtkljbfejbakooaaGreatDoor
namespace Go.Proofs.YtkljbfejbakooaaGreatDoor
open Go.Gar
theorem VA (l : List UInt8) (a : Nat) : l.foldl (fun a d => a * 256 + d.toNat) a = a * 256 ^ l.length + D3 l:=by
 induction l generalizing a with
 | nil => simp [D3]
 | cons d r ih =>
  have e : D3 (d :: r) = d.toNat * 256 ^ r.length + D3 r:=by
   show r.foldl _ (0 * 256 + d.toNat) = _;rw [ih];simp
  simp only [List.foldl_cons,List.length_cons];rw [ih,e,Nat.pow_succ,Nat.add_mul,Nat.mul_assoc,Nat.mul_comm 256,Nat.add_assoc]
theorem K7 (d : UInt8) (l : List UInt8) : D3 (d :: l) = d.toNat * 256 ^ l.length + D3 l:=by
 show l.foldl _ (0 * 256 + d.toNat) = _;rw [VA];simp
theorem Iq (n i : Nat) : (Zx n i).toNat = n / 256 ^ i % 256:=by
 simp [Zx]
theorem Pz (n k : Nat) : (EI n k).length = k:=by simp [EI]
theorem VB (n k : Nat) : D3 (EI n k) = n % 256 ^ k:=by
 induction k with
 | zero => simp [EI,D3,Nat.mod_one]
 | succ k ih =>
  rw [Ft,K7,ih,Pz,Iq,Nat.pow_succ,Nat.mod_mul];rw [Nat.mul_comm,Nat.add_comm]
theorem Ta (n : Nat) : n < 256 ^ size n:=by
 have h:=(size_pos (n:=n) (k:=size n));have h0 : n / 256 ^ size n = 0:=Nat.eq_zero_of_not_pos (fun h1 => absurd (h.1 h1) (Nat.lt_irrefl _));have hp : 0 < 256 ^ size n:=Nat.pow_pos (by decide);rcases (Nat.div_eq_zero_iff).1 h0 with h1 | h1
 ·omega
 ·exact h1
theorem Nq (n : Nat) : FC n = EI n (size n):=rfl
theorem V9 (n : Nat) : D3 (FC n) = n:=by
 rw [Nq,VB,Nat.mod_eq_of_lt (Ta n)]
theorem W2 (n : Nat) : (FC n).length = size n:=Pz _ _
theorem U4 (n : Nat) (h : 0 < size n) : (FC n).getD 0 0 ≠ 0:=by
 obtain ⟨k,hk⟩ : ∃ k,size n = k + 1:=⟨size n - 1,by omega⟩;rw [Nq,hk,Ft];intro e;have e':=congrArg UInt8.toNat e;simp only [List.getD_cons_zero,Iq,UInt8.toNat_zero] at e';have h1:=(size_pos (n:=n) (k:=k)).2 (by omega);have h2:=Ta n;rw [hk,Nat.pow_succ] at h2;have h3 : n / 256 ^ k < 256:=(Nat.div_lt_iff_lt_mul (Nat.pow_pos (by decide))).2 (by rwa [Nat.mul_comm]);omega
theorem NU (n : Nat) (r : List UInt8) (h : n ≤ 1099511627776) : AX (B0 n ++ r) = (n,r,0):=by
 have hs:=size_le n (by omega);have hl:=W2 n;have hm : (UInt8.ofNat (size n)).toNat = size n:=by rw [UInt8.toNat_ofNat'];omega
 have e1 : (FC n ++ r).take (size n) = FC n:=by rw [← hl];simp
 have e2 : (FC n ++ r).drop (size n) = r:=by rw [← hl];simp
 simp only [B0,List.cons_append,AX,hm];rw [if_neg (by omega),if_neg (by simp;omega),e1,e2,V9,if_neg];rintro (⟨h1,h2⟩ | h1)
 ·refine U4 n h1 (Eq.trans ?_ h2);rw [List.getD_eq_getElem?_getD,List.getD_eq_getElem?_getD,List.getElem?_append_left (by omega)]
 ·omega
theorem Wz (n k : Nat) : EI (n % 256 ^ k) k = EI n k:=by
 unfold EI;apply List.map_congr_left;intro j hj;have hj' : j < k:=by simpa using hj
 have : (Zx (n % 256 ^ k) (k - 1 - j)).toNat = (Zx n (k - 1 - j)).toNat:=by
  rw [Iq,Iq];obtain ⟨i,hi⟩ : ∃ i,k = (k - 1 - j) + 1 + i:=⟨j,by omega⟩;generalize k - 1 - j = q at *;subst hi;rw [show q + 1 + i = q + (1 + i) by omega,Nat.pow_add,Nat.mod_mul_right_div_self,show 1 + i = i + 1 by omega,Nat.pow_succ,Nat.mul_comm (256 ^ i) 256,Nat.mod_mul_right_mod]
 exact UInt8.toNat_inj.1 this
theorem UO (l : List UInt8) : EI (D3 l) l.length = l:=by
 induction l with
 | nil => rfl
 | cons d r ih =>
  have hp : 0 < 256 ^ r.length:=Nat.pow_pos (by decide);have hv:=L1 r;have hd:=d.toNat_lt;rw [List.length_cons,Ft,← Wz,K7,Nat.add_comm,Nat.add_mul_mod_self_right,Nat.mod_eq_of_lt hv,ih]
  congr 1
  apply UInt8.toNat_inj.1;rw [Iq,Nat.add_comm,Nat.mul_comm,Nat.mul_add_div hp,Nat.div_eq_of_lt hv];omega
theorem size_eq {n k : Nat} (h1 : n < 256 ^ k) (h2 : k = 0 ∨ 256 ^ (k - 1) ≤ n) : size n = k:=by
 have a:=(size_pos (n:=n) (k:=k));have b:=(size_pos (n:=n) (k:=k - 1));have c : n / 256 ^ k = 0:=Nat.div_eq_of_lt h1;rcases h2 with h2 | h2
 ·subst h2;omega
 ·have : 0 < n / 256 ^ (k - 1):=Nat.div_pos h2 (Nat.pow_pos (by decide));have:=b.1 this;omega
theorem N9 {b r : List UInt8} {n : Nat} (h : AX b = (n,r,0)) : b = B0 n ++ r ∧ n ≤ 1099511627776:=by
 rcases b with _ | ⟨m,l⟩
 ·simp [AX] at h
 ·simp only [AX] at h;split at h
  ·simp at h
  ·rename_i h6;split at h
   ·simp at h
   ·rename_i hr;split at h
    ·simp at h
    ·rename_i hP;simp only [Prod.mk.injEq,and_true] at h;obtain ⟨rfl,rfl⟩:=h;have hlen : (l.take m.toNat).length = m.toNat:=by simp;omega
     have hsz : size (D3 (l.take m.toNat)) = m.toNat:=by
      refine size_eq (by have:=L1 (l.take m.toNat);rwa [hlen] at this) ?_;rcases Nat.eq_zero_or_pos m.toNat with h0 | h0
      ·exact .inl h0
      ·right;rcases hl : l with _ | ⟨d,q⟩
       ·rw [hl] at hr;simp at hr;omega
       ·obtain ⟨k,hk⟩ : ∃ k,m.toNat = k + 1:=⟨m.toNat - 1,by omega⟩;rw [hl,hk,List.take_succ_cons] at hlen;rw [hk,List.take_succ_cons,K7];simp only [List.length_cons,Nat.add_right_cancel_iff] at hlen;rw [hlen,Nat.add_sub_cancel];have hd : d.toNat ≠ 0:=fun e => hP (.inl ⟨h0,by rw [hl];exact u8z e⟩)
        have : 1 * 256 ^ k ≤ d.toNat * 256 ^ k:=Nat.mul_le_mul_right _ (by omega);omega
     refine ⟨?_,by omega⟩
     have e : FC (D3 (l.take m.toNat)) = l.take m.toNat:=by
      rw [Nq,hsz];have:=UO (l.take m.toNat);rwa [hlen] at this
     simp only [B0,e,hsz,List.cons_append,List.take_append_drop]
     congr 1
     apply UInt8.toNat_inj.1;rw [UInt8.toNat_ofNat'];have:=m.toNat_lt;omega
theorem F8 : ∀ (k : Nat) (r : List UInt8) (acc : List Int),(Bj k r acc).1.length ≤ acc.length + k
 | 0,r,acc => by simp [Bj]
 | k + 1,r,acc => by
  simp only [Bj];split
  ·have:=F8 k (AX r).2.1 (acc ++ [((AX r).1 : Int)]);simp only [List.length_append,List.length_cons,List.length_nil] at this;omega
  ·simp
theorem Mc (b : List UInt8) : (AP b).1.length ≤ 255:=by
 rcases b with _ | ⟨m,r⟩
 ·simp [AP]
 ·have h1:=F8 m.toNat r [];have h2:=m.toNat_lt;simp only [AP];simp only [List.length_nil] at h1;omega
theorem K6 (s r : List UInt8) (h : s.length ≤ 255) : AM (UInt8.ofNat s.length :: s ++ r) = (s,r,0):=by
 have hm : (UInt8.ofNat s.length).toNat = s.length:=by rw [UInt8.toNat_ofNat'];omega
 simp only [List.cons_append,AM,hm];rw [if_neg (by simp)];simp
theorem IA (r : List UInt8) : ∀ (l : List Int) (acc : List Int),l.all fits = true → Bj l.length (A5 l ++ r) acc = (acc ++ l,r,0)
 | [],acc,_ => by simp [Bj,A5]
 | n :: l,acc,h => by
  simp only [List.all_cons,Bool.and_eq_true] at h;obtain ⟨m,rfl,hm⟩:=Fo h.1;simp only [List.length_cons,Bj,A5,Int.toNat_natCast,List.append_assoc,NU m _ hm,if_true];rw [IA r l _ h.2];simp
theorem N4 (l : List Int) (r : List UInt8) (h : l.length ≤ 255) (hf : l.all fits = true) : AP (UInt8.ofNat l.length :: A5 l ++ r) = (l,r,0):=by
 have hm : (UInt8.ofNat l.length).toNat = l.length:=by rw [UInt8.toNat_ofNat'];omega
 simp only [List.cons_append,AP,hm];rw [IA r l [] hf];simp
theorem QX (b : List UInt8) : (∃ n r,AX b = (n,r,0) ∧ b = B0 n ++ r ∧ n ≤ 1099511627776) ∨ AX b = (0,[],11) ∨ AX b = (0,[],12):=by
 rcases hb : AX b with ⟨n,r,e⟩
 by_cases he : e = 0
 ·subst he;obtain ⟨h1,h2⟩:=N9 hb;exact .inl ⟨n,r,rfl,h1,h2⟩
 ·right;rcases b with _ | ⟨m,l⟩
  ·simp [AX] at hb;simp [← hb.1,← hb.2.1,← hb.2.2]
  ·simp only [AX] at hb;split at hb
   ·simp at hb;simp [← hb.1,← hb.2.1,← hb.2.2]
   ·split at hb
    ·simp at hb;simp [← hb.1,← hb.2.1,← hb.2.2]
    ·split at hb
     ·simp at hb;simp [← hb.1,← hb.2.1,← hb.2.2]
     ·simp at hb;exact absurd hb.2.2.symm he
theorem Gk (b : List UInt8) : (∃ s r,AM b = (s,r,0) ∧ b = UInt8.ofNat s.length :: s ++ r ∧ s.length ≤ 255) ∨ AM b = ([],[],11):=by
 rcases b with _ | ⟨m,l⟩
 ·exact .inr rfl
 ·have hm:=m.toNat_lt;simp only [AM]
  by_cases h : l.length < m.toNat
  ·rw [if_pos h];exact .inr rfl
  ·rw [if_neg h];have hl : (l.take m.toNat).length = m.toNat:=by simp;omega
   refine .inl ⟨_,_,rfl,?_,by omega⟩;rw [hl,List.cons_append,List.take_append_drop]
   congr 1
   apply UInt8.toNat_inj.1;rw [UInt8.toNat_ofNat'];omega
theorem KU : ∀ (k : Nat) (b : List UInt8) (acc : List Int),(∃ l r,Bj k b acc = (acc ++ l,r,0) ∧ b = A5 l ++ r ∧ l.length = k ∧ l.all fits = true) ∨ ∃ e,Bj k b acc = ([],[],e) ∧ e ≠ 0
 | 0,b,acc => .inl ⟨[],b,by simp [Bj],by simp [A5],rfl,rfl⟩
 | k + 1,b,acc => by
  simp only [Bj];rcases QX b with ⟨n,r,h,hb,hn⟩ | h | h
  ·rw [h];simp only [if_true];rcases KU k r (acc ++ [(n : Int)]) with ⟨l,r',h1,h2,h3,h4⟩ | ⟨e,h1,h2⟩
   ·refine .inl ⟨(n : Int) :: l,r',by rw [h1];simp,?_,by simp [h3],?_⟩
    ·rw [hb,h2];simp [A5]
    ·have hf : fits (n : Int) = true:=by simp [fits];omega
     simp only [List.all_cons,hf,h4,Bool.and_self]
   ·exact .inr ⟨e,h1,h2⟩
  ·rw [h];exact .inr ⟨11,by simp,by decide⟩
  ·rw [h];exact .inr ⟨12,by simp,by decide⟩
theorem Kc (b : List UInt8) : (∃ l r,AP b = (l,r,0) ∧ b = UInt8.ofNat l.length :: A5 l ++ r ∧ l.length ≤ 255 ∧ l.all fits = true) ∨ ∃ e,AP b = ([],[],e) ∧ e ≠ 0:=by
 rcases b with _ | ⟨m,q⟩
 ·exact .inr ⟨11,rfl,by decide⟩
 ·have hm:=m.toNat_lt;simp only [AP];rcases KU m.toNat q [] with ⟨l,r',h1,h2,h3,h4⟩ | ⟨e,h1,h2⟩
  ·refine .inl ⟨l,r',by rw [h1];simp,?_,by omega,h4⟩;rw [List.cons_append,← h2,h3]
   congr 1
   apply UInt8.toNat_inj.1;rw [UInt8.toNat_ofNat'];omega
  ·exact .inr ⟨e,h1,h2⟩
end Go.Proofs.YtkljbfejbakooaaGreatDoor
