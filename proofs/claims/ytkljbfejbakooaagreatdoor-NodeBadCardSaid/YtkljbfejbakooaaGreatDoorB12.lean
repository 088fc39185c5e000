/- Part 12 of a proof, put together by a program. Conditions: none beyond those that a theorem states. -/
import Derived.Test.YtkljbfejbakooaaGreatDoorB07
import Derived.Test.YtkljbfejbakooaaGreatDoorB09
set_option linter.unusedSimpArgs false
set_option linter.unusedVariables false
set_option linter.unnecessarySimpa false
set_option maxHeartbeats 40000000
namespace Go.Proofs.YtkljbfejbakooaaGreatDoor
open Go.Gar
set_option maxRecDepth 4000
def fits (n : Int) : Bool:=decide (n ≥ 0) && decide (n ≤ 1099511627776)
theorem Ko (n : Int) : Go.Gar.Fn Tryz.prog 366 [.i .i64 n] (.b (fits n)):=by
 refine zF A6 Tryz.func366 ?_;refine wk [0,2] [] A0 A0 ?_;repeat' (first|with_reducible constructor|(with_reducible intro hc;try simp only[AB] at hc)|with_reducible refine CV ?_ ?_|(with_reducible refine decide_eq_true ?_;first|rfl|omega)|decide)
 all_goals (refine ⟨_,_,rfl,rfl,?_⟩;simp_all [B9,fits] <;> omega)
def C5 (n : Nat) : Nat:=if n = 0 then 0 else n.log2 + 1
theorem Fp {n k : Nat} : C5 n = k ↔ n < 2 ^ k ∧ (k = 0 ∨ 2 ^ (k - 1) ≤ n):=by
 unfold C5;split
 ·rename_i h;subst h;constructor
  ·intro h;subst h;simp
  ·rintro ⟨h1,h2 | h2⟩
   ·exact h2.symm
   ·have : 0 < 2 ^ (k - 1):=Nat.two_pow_pos _;omega
 ·rename_i h;constructor
  ·intro hk;subst hk;exact ⟨Nat.lt_log2_self,.inr (by simpa using Nat.log2_self_le h)⟩
  ·rintro ⟨h1,h2⟩;have h2' : k ≠ 0:=fun e => by subst e;simp at h1;omega
   have h2 : 2 ^ (k - 1) ≤ n:=by rcases h2 with h2 | h2;exact absurd h2 h2';exact h2
   have:=(Nat.log2_eq_iff h).2 ⟨h2,by rwa [show k - 1 + 1 = k by omega]⟩;omega
theorem Pt {n k : Nat} (h : 2 ^ k ≤ n) : C5 n = C5 (n / 2 ^ k) + k:=by
 rw [Fp];have hp : 0 < 2 ^ k:=Nat.two_pow_pos k;obtain ⟨h1,h2⟩:=(Fp (n:=n / 2 ^ k)).1 rfl;have hne : 0 < n / 2 ^ k:=Nat.div_pos h hp;have hk : C5 (n / 2 ^ k) ≠ 0:=fun e => by rw [e] at h1;simp at h1;omega
 have h2 : 2 ^ (C5 (n / 2 ^ k) - 1) ≤ n / 2 ^ k:=by rcases h2 with h2 | h2;exact absurd h2 hk;exact h2
 refine ⟨?_,.inr ?_⟩
 ·rw [Nat.pow_add];exact (Nat.div_lt_iff_lt_mul hp).1 h1
 ·rw [show C5 (n / 2 ^ k) + k - 1 = (C5 (n / 2 ^ k) - 1) + k by omega,Nat.pow_add];exact (Nat.le_div_iff_mul_le hp).1 h2
def V5 : List UInt8:=[0,1,2,2,3,3,3,3,4,4,4,4,4,4,4,4,5,5,5,5,5,5,5,5,5,5,5,5,5,5,5,5,6,6,6,6,6,6,6,6,6,6,6,6,6,6,6,6,6,6,6,6,6,6,6,6,6,6,6,6,6,6,6,6,7,7,7,7,7,7,7,7,7,7,7,7,7,7,7,7,7,7,7,7,7,7,7,7,7,7,7,7,7,7,7,7,7,7,7,7,7,7,7,7,7,7,7,7,7,7,7,7,7,7,7,7,7,7,7,7,7,7,7,7,7,7,7,7,8,8,8,8,8,8,8,8,8,8,8,8,8,8,8,8,8,8,8,8,8,8,8,8,8,8,8,8,8,8,8,8,8,8,8,8,8,8,8,8,8,8,8,8,8,8,8,8,8,8,8,8,8,8,8,8,8,8,8,8,8,8,8,8,8,8,8,8,8,8,8,8,8,8,8,8,8,8,8,8,8,8,8,8,8,8,8,8,8,8,8,8,8,8,8,8,8,8,8,8,8,8,8,8,8,8,8,8,8,8,8,8,8,8,8,8,8,8,8,8,8,8,8,8,8,8,8,8]
theorem Zj : ∀ n : Fin 256,(V5.getD n.1 0).toNat = C5 n.1:=by decide +kernel
theorem O3 (a : Int) (h : (decide (0 ≤ a) && decide (a ≤ 4611686018427387904)) = true) (u : UInt8) : Dh .i64 (a + (u.toNat : Int)) = true:=by
 have:=u.toNat_lt;simp [Dh] at h ⊢;omega
theorem ZA (y : Int) : OC (y % 256) V5.length = true:=by
 have : V5.length = 256:=by decide +kernel
 rw [this,Cp];omega
theorem Td (y : Int) (h : 0 ≤ y) (h' : y < 256) : ((V5.getD (y % 256).toNat 0).toNat : Int) = (C5 y.toNat : Int):=by
 have:=Zj ⟨y.toNat,by omega⟩;simp only at this;rw [← this];congr 4;omega
theorem GO (x k : Nat) (h : 2 ^ k ≤ x) (h' : x / 2 ^ k < 256) (y : Int) (hy : y = ((x / 2 ^ k : Nat) : Int)) : (C5 x : Int) = (k : Int) + ((V5.getD (y % 256).toNat 0).toNat : Int):=by
 subst hy;have:=Pt h;rw [Td _ (Int.natCast_nonneg _) (Int.ofNat_lt.2 h'),Int.toNat_natCast];omega
theorem Pu (x : Nat) (h' : x < 256) : (C5 x : Int) = ((V5.getD ((x : Int) % 256).toNat 0).toNat : Int):=by
 rw [Td x (by omega) (by omega),Int.toNat_natCast]
theorem Ww (x : Nat) (hx : x < 18446744073709551616) : Go.Gar.Fn Tryz.prog 371 [.i .u64 x] (.i .i64 (C5 x)):=by
 refine zF A6 Tryz.func371 ?_;refine wk [0,2,4,8,14] [] A0 A0 ?_;repeat' (first|with_reducible constructor|(with_reducible intro hc;try simp only[AB] at hc)|with_reducible refine CV ?_ ?_|(with_reducible refine decide_eq_true ?_;first|rfl|omega)|decide)
 all_goals first
  | exact AO _
  | exact O3 _ rfl _
  | exact ZA _
  | (refine ⟨_,_,rfl,rfl,?_⟩;simp only [B9];refine congrArg (D.i .i64) ?_
     first
      | exact GO x 56 (by omega) (by omega) _ (by omega)
      | exact GO x 48 (by omega) (by omega) _ (by omega)
      | exact GO x 40 (by omega) (by omega) _ (by omega)
      | exact GO x 32 (by omega) (by omega) _ (by omega)
      | exact GO x 24 (by omega) (by omega) _ (by omega)
      | exact GO x 16 (by omega) (by omega) _ (by omega)
      | exact GO x 8 (by omega) (by omega) _ (by omega)
      | exact (Pu x (by omega)).trans (Int.zero_add _).symm
      | exact Pu x (by omega))
abbrev JW : List Nat:=[0,1,2,4,5,13,14]
def size (n : Nat) : Nat:=(C5 n + 7) / 8
theorem TZ (n : Nat) (h : n < 9223372036854775808) : Go.Gar.Fn Tryz.prog 369 [.i .i64 n] (.i .i64 (size n)):=by
 have hl : C5 n ≤ 64:=by
  have:=(Fp (n:=n) (k:=C5 n)).1 rfl;rcases this.2 with h2 | h2
  ·omega
  ·rcases Nat.lt_or_ge 64 (C5 n) with h3 | h3
   ·have : 2 ^ 64 ≤ 2 ^ (C5 n - 1):=Nat.pow_le_pow_right (by decide) (by omega);omega
   ·exact h3
 have hm : (n : Int) % 18446744073709551616 = n:=by omega
 have hq : ((C5 n : Int) + 7).tdiv 8 = (size n : Int):=by
  simp only [size];rw [Int.tdiv_eq_ediv_of_nonneg (by omega)];omega
 have hs : size n ≤ 8:=by simp only [size];omega
 refine zF A6 Tryz.func369 ?_;refine wk [0,2] [] (BM hm hq) (AG (Ww n (by omega))) ?_
 ·refine ⟨_,_,rfl,rfl,?_⟩;simp [B9]
theorem U3 (n : Int) : B4 Tryz.prog 370 [.d (.i .i64 n)] [] (.fn (.func 372) [] [.ptr 0 0 1]) [.c [.d (.i .i64 n)]]:=by
 refine zD A6 Tryz.func370 ?_;refine wk [0,1,2] [] A0 A0 ?_;exact ⟨_,(A1.ck rfl),Nat.zero_le _,_,_,rfl,rfl,rfl,rfl⟩
def Zx (n i : Nat) : UInt8:=UInt8.ofNat (n / 256 ^ i % 256)
def FC (n : Nat) : List UInt8:=(List.range (size n)).map fun j => Zx n (size n - 1 - j)
def B0 (n : Nat) : List UInt8:=UInt8.ofNat (size n) :: FC n
theorem U5 (n j : Nat) (h : j < size n) : (FC n).take (j + 1) = (FC n).take j ++ [Zx n (size n - 1 - j)]:=by
 rw [List.take_succ_eq_append_getElem (by simp [FC];exact h)];simp [FC]
theorem size_le (n : Nat) (h : n < 281474976710656) : size n ≤ 6:=by
 have:=(Fp (n:=n) (k:=C5 n)).1 rfl
 have : C5 n ≤ 48:=by
  rcases this.2 with h2 | h2
  ·omega
  ·rcases Nat.lt_or_ge 48 (C5 n) with h3 | h3
   ·have : 2 ^ 48 ≤ 2 ^ (C5 n - 1):=Nat.pow_le_pow_right (by decide) (by omega);omega
   ·exact h3
 simp only [size];omega
theorem shrN (n k : Nat) (hk : 8 * k ≤ 64) (z : Int) (hz : z = ((8 * k : Nat) : Int)) : (n : Int).fdiv (2 ^ min z.toNat 64) = ((n / 256 ^ k : Nat) : Int):=by
 subst hz
 have e : (2 : Int) ^ (8 * k) = ((256 ^ k : Nat) : Int):=by
  rw [show (2 : Int) = ((2 : Nat) : Int) from rfl,← Int.natCast_pow,Nat.pow_mul]
 rw [Int.toNat_natCast,Nat.min_eq_left hk,e,Int.fdiv_eq_ediv_of_nonneg _ (Int.natCast_nonneg _),Int.natCast_ediv]
theorem Mo (l : List UInt8) (n : Nat) (hn : n ≤ 1099511627776) (hl : l.length < 70368744177664) :
  B4 Tryz.prog 367 [.sl 0 l.length 1,.d (.i .i64 n)] [.a (.by l)] (.sl 0 (l ++ B0 n).length 1) [.a (.by (l ++ B0 n))]:=by
 have hs:=size_le n (by omega);have h1 : (size n : Int) % 256 = size n:=by omega
 refine zD A6 Tryz.func367 ?_;have d1:=Ds.mk [] (U3 n);refine wd JW [] [] (AG h1) (AG (TZ n (by omega))) ?_;clear d1;refine zG (K:=fun r _ H' => H' = [.a (.by (l ++ B0 n)),.c [.sl 0 (l ++ B0 n).length 1],.c [.d (.i .i64 n)],.lp r]) ?_ ?_
 ·intro r hr;refine zT A6 Tryz.func372 ?_;refine wk [0,1,3,8,18] [] A0 (AG (TZ n (by omega))) ?_;have hk:=hr.ok (k:=3) rfl;refine Ae (fun j => j ≤ size n) (fun j : Nat => ⟨[(0,.yl 3),(1,.ptr 2 0 1),(3,.d (.i .i64 ((size n : Int) - 1 - j)))],[.a (.by (l ++ (B0 n).take (j + 1))),.c [.sl 0 (l ++ (B0 n).take (j + 1)).length 1],.c [.d (.i .i64 n)],.lp r],19⟩) (fun j => size n - j) 0 (Nat.zero_le _) ?_ (Nat.le_refl _) ?_
  ·exact A1.ck rfl
  intro j hj
  by_cases hlt : j < size n
  ·have e1 : ((n : Int).fdiv (2 ^ min (8 * ((size n : Int) - 1 - j)).toNat 64) % 256).toNat = n / 256 ^ (size n - 1 - j) % 256:=by
    rw [shrN n (size n - 1 - j) (by omega) _ (by omega)];omega
   have hnext : (B0 n).take (j + 1) ++ [UInt8.ofNat ((n : Int).fdiv (2 ^ min (8 * ((size n : Int) - 1 - j)).toNat 64) % 256).toNat] = (B0 n).take (j + 1 + 1):=by
    rw [e1];simp only [B0,List.take_succ_cons,U5 n j hlt];rfl
   refine wk [0,1,3,8,18] [] A0 A0 ?_;with_reducible repeat' first|constructor|intro hc;try simp only[AB] at hc
   refine Xy (x:=.d (.b true)) (H':=[.a (.by (l ++ (B0 n).take (j + 1 + 1))),.c [.sl 0 (l ++ (B0 n).take (j + 1 + 1)).length 1],.c [.d (.i .i64 n)],.lp r]) (BG hr rfl rfl rfl ?_) rfl rfl rfl rfl rfl ?_
   ·refine wd JW [] [] A0 A0 ?_;refine zR ?_;refine wd JW [] [] A0 A0 ?_;refine ⟨_,A1.refl _,Nat.le_refl _,rfl,rfl,?_⟩;simp only [List.append_assoc,hnext,List.set_cons_succ,List.set_cons_zero]
   ·refine wk [0,1,3,8,18] [] A0 A0 ?_;refine ⟨j + 1,hlt,by omega,Nat.le_refl _,?_⟩;exact A1.ck rfl
  ·refine wk [0,1,3,8,18] [] A0 A0 ?_;with_reducible repeat' first|constructor|intro hc;try simp only[AB] at hc
   have : (B0 n).take (j + 1) = B0 n:=by
    rw [List.take_of_length_le];simp [B0,FC];omega
   refine ⟨_,A1.refl _,Nat.le_refl _,_,_,rfl,rfl,?_⟩;simp only [this]
 ·rintro r hr x H' rfl;refine .inl ⟨rfl,?_⟩;refine wd JW [] [] A0 A0 ?_;exact ⟨⟨[(4,.sl 0 (l ++ B0 n).length 1)],[.a (.by (l ++ B0 n))],Tryz.f367.ntmps⟩,(A1.ck rfl),Nat.le_refl _,_,_,rfl,rfl,rfl,rfl⟩
abbrev F9 : List Nat:=[0,2,3,4,5,7,10,16,21,25,26,27,28,48]
theorem Qm (n : Nat) (hn : n ≤ 1099511627776) : B4 Tryz.prog 367 [.e0,.d (.i .i64 n)] [] (.sl 0 (B0 n).length 1) [.a (.by (B0 n))] :=
 I5.e0 (.by []) rfl rfl trivial (Mo [] n hn (by decide))
theorem BC (n : Nat) (h : n ≤ 1099511627776) : (B0 n).length ≤ 7:=by
 have:=size_le n (by omega);simp [B0,FC];omega
def JE (n : Int) : List UInt8 × Int:=if fits n then (B0 n.toNat,0) else ([],2)
theorem bp (n : Int) : Go.Gar.Fn Tryz.prog 355 [.i .i64 n] (.tup [.by (JE n).1,.i .i64 (JE n).2]):=by
 by_cases hf : fits n = true
 ·obtain ⟨m,rfl⟩ : ∃ m : Nat,n = m:=⟨n.toNat,by simp [fits] at hf;omega⟩;have hm : m ≤ 1099511627776:=by simp [fits] at hf;omega
  refine zF A6 Tryz.func355 ?_;have d1:=Ds.mk [] (Qm m hm);have sc : No 3:=trivial;refine wk [0,2,3,6] [] (AG hf) (AG (Ko m)) ?_;clear sc d1;refine ⟨_,_,rfl,rfl,?_⟩;simp [Ab,A9,A4,A3,JE,hf]
 ·have hf' : fits n = false:=by simpa using hf
  refine zF A6 Tryz.func355 ?_;have sc : No 3:=trivial;refine wk [0,2,3,6] [] (AG hf') (AG (Ko n)) ?_;clear sc;refine ⟨_,_,rfl,rfl,?_⟩;simp [Ab,A9,A4,A3,JE,hf']
def textS (s : List UInt8) : List UInt8 × Int:=if s.length > 255 then ([],2) else (UInt8.ofNat s.length :: s,0)
theorem Zk (s : List UInt8) : Go.Gar.Fn Tryz.prog 356 [.s s] (.tup [.by (textS s).1,.i .i64 (textS s).2]):=by
 refine zF A6 Tryz.func356 ?_
 by_cases h : s.length > 255
 ·have h1 : decide ((s.length : Int) > 255) = true:=by simp;omega
  have sc : No 3:=trivial;refine wk [0,2,3,6] [] (AG h1) A0 ?_;clear sc;refine ⟨_,_,rfl,rfl,?_⟩;simp [Ab,A9,A4,A3,textS,h]
 ·have h1 : decide ((s.length : Int) > 255) = false:=by simp;omega
  have h2 : (s.length : Int) % 256 = s.length:=by omega
  have ow : Lv [10]:=trivial;have sc : No 3:=trivial;refine wk [0,2,3,6] [] (BM h1 h2) A0 ?_;clear sc ow;refine ⟨_,_,rfl,rfl,?_⟩;simp [Ab,A9,A4,A3,textS,h]
theorem Xi (s : List UInt8) : Go.Gar.Fn Tryz.prog 228 [.s s] (.tup [.by (textS s).1,.i .i64 (textS s).2]):=by
 refine zF A6 Tryz.func228 ?_
 by_cases h : s.length > 255
 ·have h1 : decide ((s.length : Int) > 255) = true:=by simp;omega
  refine wk [0,2,3,6] [] (AG h1) A0 ?_;refine ⟨_,_,rfl,rfl,?_⟩;simp [Ab,A9,A4,A3,textS,h]
 ·have h1 : decide ((s.length : Int) > 255) = false:=by simp;omega
  have h2 : (s.length : Int) % 256 = s.length:=by omega
  have ow : Lv [10]:=trivial;refine wk [0,2,3,6] [] (BM h1 h2) A0 ?_;clear ow;refine ⟨_,_,rfl,rfl,?_⟩;simp [Ab,A9,A4,A3,textS,h]
theorem RZ (l : List UInt8) (h : l.length ≤ 140737488355328) : Go.Gar.Fn Tryz.prog 348 [.by l] (.by l):=by
 refine zF A6 Tryz.func348 ?_;refine wk [0,2] [] A0 A0 ?_;refine ⟨_,_,rfl,rfl,?_⟩;simp [B9]
def D3 (l : List UInt8) : Nat:=l.foldl (fun a d => a * 256 + d.toNat) 0
theorem NW (l : List UInt8) (k : Nat) (h : k < l.length) : D3 (l.take (k + 1)) = D3 (l.take k) * 256 + (l.getD k 0).toNat:=by
 unfold D3;rw [List.take_succ_eq_append_getElem h,List.getD_eq_getElem?_getD,List.getElem?_eq_getElem h,List.foldl_append];rfl
theorem L1 (l : List UInt8) : D3 l < 256 ^ l.length:=by
 have key : ∀ (l : List UInt8) (a k : Nat),a < 256 ^ k → l.foldl (fun a d => a * 256 + d.toNat) a < 256 ^ (k + l.length):=by
  intro l
  induction l with
  | nil => intro a k h;simpa using h
  | cons d r ih =>
   intro a k h;have hd:=d.toNat_lt;have : a * 256 + d.toNat < 256 ^ (k + 1):=by rw [Nat.pow_succ];omega
   have:=ih _ (k + 1) this;simp only [List.foldl_cons,List.length_cons];rwa [show k + (r.length + 1) = k + 1 + r.length by omega]
 have:=key l 0 0 (by simp);rwa [Nat.zero_add] at this
def AX : List UInt8 → Nat × List UInt8 × Int
 | [] => (0,[],11)
 | m :: r => if m.toNat > 6 then (0,[],12) else if r.length < m.toNat then (0,[],11) else
  if (m.toNat > 0 ∧ r.getD 0 0 = 0) ∨ D3 (r.take m.toNat) > 1099511627776 then (0,[],12) else (D3 (r.take m.toNat),r.drop m.toNat,0)
def Bi (x : Nat × List UInt8 × Int) : D:=.tup [.i .i64 x.1,.by x.2.1,.i .i64 x.2.2]
theorem shl8 (a : Nat) (h : a < 36028797018963968) : IntKind.wrap .i64 ((a : Int) * 2 ^ min 8 64) = ((a * 256 : Nat) : Int):=by
 simp [IntKind.wrap,IntKind.bits,IntKind.signed];omega
theorem or8 (a : Nat) (h : a < 36028797018963968) (d : UInt8) : BY .or .i64 ((a * 256 : Nat) : Int) (d.toNat : Int) = ((a * 256 + d.toNat : Nat) : Int):=by
 have hd:=d.toNat_lt
 have e : (BitVec.ofInt 64 ((a * 256 : Nat) : Int) ||| BitVec.ofInt 64 (d.toNat : Int)).toNat = a * 256 + d.toNat:=by
  rw [BitVec.ofInt_natCast,BitVec.ofInt_natCast,BitVec.toNat_or,BitVec.toNat_ofNat,BitVec.toNat_ofNat,Nat.mod_eq_of_lt (by omega),Nat.mod_eq_of_lt (by omega)];rw [show a * 256 = 2 ^ 8 * a by omega,Nat.two_pow_add_eq_or_of_lt hd]
 have e2 : BY .or .i64 ((a * 256 : Nat) : Int) (d.toNat : Int) = IntKind.wrap .i64 (BitVec.ofInt 64 ((a * 256 : Nat) : Int) ||| BitVec.ofInt 64 (d.toNat : Int)).toNat:=rfl;rw [e2,e];simp [IntKind.wrap,IntKind.bits,IntKind.signed];omega
theorem Oj (b : List UInt8) (hb : b.length < 70368744177664) : Go.Gar.Fn Tryz.prog 347 [.by b] (Bi (AX b)):=by
 refine zF A6 Tryz.func347 ?_;rcases b with _ | ⟨m,r⟩
 ·have sc : No 3:=trivial;refine wd F9 [] [] A0 A0 ?_;clear sc;refine ⟨_,_,rfl,rfl,?_⟩;simp [Ab,A9,A4,A3,AX,Bi]
 have hm:=m.toNat_lt;simp only [List.length_cons] at hb
 by_cases h6 : m.toNat > 6
 ·have sc : No 3:=trivial;refine wd F9 [] [] A0 A0 ?_;clear sc;with_reducible repeat' first|constructor|intro hc;try simp only[AB] at hc
  refine ⟨_,_,rfl,rfl,?_⟩;simp [Ab,A9,A4,A3,AX,Bi,h6]
 by_cases hr : r.length < m.toNat
 ·have sc : No 3:=trivial;refine wd F9 [] [] A0 A0 ?_;clear sc;with_reducible repeat' first|constructor|intro hc;try simp only[AB] at hc
  refine ⟨_,_,rfl,rfl,?_⟩;simp [Ab,A9,A4,A3,AX,Bi,h6,hr]
 have h3 : List.drop 1 (List.take (1 + (m.toNat : Int)).toNat (m :: r)) = r.take m.toNat:=by
  rw [show (1 + (m.toNat : Int)).toNat = m.toNat + 1 by omega];simp
 have h4 : (r.take m.toNat).length = m.toNat:=by simp;omega
 have sc : No 3:=trivial;refine wd F9 [] [] (BM h3 h4) A0 ?_;clear sc;with_reducible repeat' first|constructor|intro hc;try simp only[AB] at hc
 have hlt : ∀ k,k ≤ m.toNat → D3 (r.take k) < 281474976710656:=by
  intro k hk;have:=L1 (r.take k);have h6' : (r.take k).length ≤ 6:=by simp;omega
  have : 256 ^ (r.take k).length ≤ 256 ^ 6:=Nat.pow_le_pow_right (by decide) h6';omega
 refine Ae (fun k => k ≤ m.toNat) (fun k : Nat => ⟨[(0,.d (.by (m :: r))),(2,.d (.i .i64 (D3 (r.take k) : Nat))),(3,.e0),(4,.d (.i .i64 0)),(5,.d (.i .i64 m.toNat)),(25,.d (.by (r.take m.toNat))),(26,.d (.i .i64 m.toNat)),(27,.d (.i .i64 k))],[],54⟩) (fun k => m.toNat - k) 0 (Nat.zero_le _) ?_ (Nat.le_refl _) ?_
 ·exact A1.ck rfl
 intro k hk
 by_cases hkm : k < m.toNat
 ·have e1:=shl8 (D3 (r.take k)) (by have:=hlt k hk;omega);have e2:=or8 (D3 (r.take k)) (by have:=hlt k hk;omega) ((r.take m.toNat).getD k 0)
  have e3 : D3 (r.take k) * 256 + ((r.take m.toNat).getD k 0).toNat = D3 (r.take (k + 1)):=by
   have:=NW (r.take m.toNat) k (by omega);rw [List.take_take,List.take_take,Nat.min_eq_left (by omega),Nat.min_eq_left (by omega)] at this;exact this.symm
  have sc : No 3:=trivial;refine wd F9 [] [] (EP e1 e2 e3) A0 ?_;clear sc;with_reducible repeat' first|constructor|intro hc;try simp only[AB] at hc
  refine ⟨k + 1,hkm,by omega,Nat.le_refl _,?_⟩;exact A1.ck rfl
 ·have hkm' : k = m.toNat:=by omega
  subst hkm'
  by_cases hP : (m.toNat > 0 ∧ r.getD 0 0 = 0) ∨ D3 (r.take m.toNat) > 1099511627776
  ·have hT : AX (m :: r) = (0,[],12):=by simp only [AX,if_neg h6,if_neg hr,if_pos hP]
   rw [hT];have sc : No 3:=trivial;refine wd F9 [] [] A0 A0 ?_;clear sc;with_reducible repeat' first|constructor|intro hc;try simp only[AB] at hc
   all_goals first
    | (refine ⟨_,_,rfl,rfl,?_⟩;simp [Ab,A9,A4,A3,Bi];done)
    | (exfalso;rcases hP with ⟨h,h'⟩ | h <;> first | omega | (have h':=congrArg UInt8.toNat h';simp only [UInt8.toNat_zero] at h';omega))
  ·have hT : AX (m :: r) = (D3 (r.take m.toNat),r.drop m.toNat,0):=by simp only [AX,if_neg h6,if_neg hr,if_neg hP]
   rw [hT];have e5 : (1 + (m.toNat : Int)).toNat = m.toNat + 1:=by omega
   have sc : No 3:=trivial;refine wd F9 [] [] (AG e5) A0 ?_;clear sc;with_reducible repeat' first|constructor|intro hc;try simp only[AB] at hc
   all_goals first
    | (refine ⟨_,_,rfl,rfl,?_⟩;simp [Ab,A9,A4,A3,Bi];done)
    | (exfalso;exact hP (.inl ⟨by omega,u8z (by omega)⟩))
    | (exfalso;exact hP (.inr (by omega)))
end Go.Proofs.YtkljbfejbakooaaGreatDoor
