/- Part 28 of a proof, put together by a program. Conditions: none beyond those that a theorem states. -/
import Derived.Test.YtkljbfejbakooaaGreatDoorN25
set_option linter.unusedSimpArgs false
set_option linter.unusedVariables false
set_option linter.unnecessarySimpa false
set_option maxHeartbeats 40000000
namespace Go.Proofs.YtkljbfejbakooaaGreatDoor
open Go.Gar
set_option maxRecDepth 4000
abbrev L8 : List Nat:=[0,1,2,4,5,13,14]
def size (n : Nat) : Nat:=(CY n + 7) / 8
theorem Vx (n : Nat) (h : n < 9223372036854775808) : Go.Gar.Fn Tryz.prog 369 [.i .i64 n] (.i .i64 (size n)):=by
 have hl : CY n ≤ 64:=by
  have:=(Gx (n:=n) (k:=CY n)).1 rfl;rcases this.2 with h2 | h2
  ·omega
  ·rcases Nat.lt_or_ge 64 (CY n) with h3 | h3
   ·have : 2 ^ 64 ≤ 2 ^ (CY n - 1):=Nat.pow_le_pow_right (by decide) (by omega);omega
   ·exact h3
 have hm : (n : Int) % 18446744073709551616 = n:=by omega
 have hq : ((CY n : Int) + 7).tdiv 8 = (size n : Int):=by
  simp only [size];rw [Int.tdiv_eq_ediv_of_nonneg (by omega)];omega
 have hs : size n ≤ 8:=by simp only [size];omega
 refine zF A6 Tryz.func369 ?_;refine wk [0,2] [] (Aj hm hq) (AF (aE n (by omega))) ?_
 ·refine ⟨_,_,rfl,rfl,?_⟩;simp [BN]
theorem WT (n : Int) : Ao Tryz.prog 370 [.d (.i .i64 n)] [] (.fn (.func 372) [] [.ptr 0 0 1]) [.c [.d (.i .i64 n)]]:=by
 refine zD A6 Tryz.func370 ?_;refine wk [0,1,2] [] A0 A0 ?_;exact ⟨_,(A3.ck rfl),Nat.zero_le _,_,_,rfl,rfl,rfl,rfl⟩
def f9 (n i : Nat) : UInt8:=UInt8.ofNat (n / 256 ^ i % 256)
def GG (n : Nat) : List UInt8:=(List.range (size n)).map fun j => f9 n (size n - 1 - j)
def BH (n : Nat) : List UInt8:=UInt8.ofNat (size n) :: GG n
theorem WV (n j : Nat) (h : j < size n) : (GG n).take (j + 1) = (GG n).take j ++ [f9 n (size n - 1 - j)]:=by
 rw [List.take_succ_eq_append_getElem (by simp [GG];exact h)];simp [GG]
theorem size_le (n : Nat) (h : n < 281474976710656) : size n ≤ 6:=by
 have:=(Gx (n:=n) (k:=CY n)).1 rfl
 have : CY n ≤ 48:=by
  rcases this.2 with h2 | h2
  ·omega
  ·rcases Nat.lt_or_ge 48 (CY n) with h3 | h3
   ·have : 2 ^ 48 ≤ 2 ^ (CY n - 1):=Nat.pow_le_pow_right (by decide) (by omega);omega
   ·exact h3
 simp only [size];omega
theorem shrN (n k : Nat) (hk : 8 * k ≤ 64) (z : Int) (hz : z = ((8 * k : Nat) : Int)) : (n : Int).fdiv (2 ^ min z.toNat 64) = ((n / 256 ^ k : Nat) : Int):=by
 subst hz
 have e : (2 : Int) ^ (8 * k) = ((256 ^ k : Nat) : Int):=by
  rw [show (2 : Int) = ((2 : Nat) : Int) from rfl,← Int.natCast_pow,Nat.pow_mul]
 rw [Int.toNat_natCast,Nat.min_eq_left hk,e,Int.fdiv_eq_ediv_of_nonneg _ (Int.natCast_nonneg _),Int.natCast_ediv]
theorem Oa (l : List UInt8) (n : Nat) (hn : n ≤ 1099511627776) (hl : l.length < 70368744177664) :
  Ao Tryz.prog 367 [.sl 0 l.length 1,.d (.i .i64 n)] [.a (.by l)] (.sl 0 (l ++ BH n).length 1) [.a (.by (l ++ BH n))]:=by
 have hs:=size_le n (by omega);have h1 : (size n : Int) % 256 = size n:=by omega
 refine zD A6 Tryz.func367 ?_;have d1:=Ds.mk [] (WT n);refine wd L8 [] [] (AF h1) (AF (Vx n (by omega))) ?_;clear d1;refine zG (K:=fun r _ H' => H' = [.a (.by (l ++ BH n)),.c [.sl 0 (l ++ BH n).length 1],.c [.d (.i .i64 n)],.lp r]) ?_ ?_
 ·intro r hr;refine zT A6 Tryz.func372 ?_;refine wk [0,1,3,8,18] [] A0 (AF (Vx n (by omega))) ?_;have hk:=hr.ok (k:=3) rfl;refine Ac (fun j => j ≤ size n) (fun j : Nat => ⟨[(0,.yl 3),(1,.ptr 2 0 1),(3,.d (.i .i64 ((size n : Int) - 1 - j)))],[.a (.by (l ++ (BH n).take (j + 1))),.c [.sl 0 (l ++ (BH n).take (j + 1)).length 1],.c [.d (.i .i64 n)],.lp r],19⟩) (fun j => size n - j) 0 (Nat.zero_le _) ?_ (Nat.le_refl _) ?_
  ·exact A3.ck rfl
  intro j hj
  by_cases hlt : j < size n
  ·have e1 : ((n : Int).fdiv (2 ^ min (8 * ((size n : Int) - 1 - j)).toNat 64) % 256).toNat = n / 256 ^ (size n - 1 - j) % 256:=by
    rw [shrN n (size n - 1 - j) (by omega) _ (by omega)];omega
   have hnext : (BH n).take (j + 1) ++ [UInt8.ofNat ((n : Int).fdiv (2 ^ min (8 * ((size n : Int) - 1 - j)).toNat 64) % 256).toNat] = (BH n).take (j + 1 + 1):=by
    rw [e1];simp only [BH,List.take_succ_cons,WV n j hlt];rfl
   refine wk [0,1,3,8,18] [] A0 A0 ?_;with_reducible repeat' first|constructor|intro hc;try simp only[AD] at hc
   refine Xy (x:=.d (.b true)) (H':=[.a (.by (l ++ (BH n).take (j + 1 + 1))),.c [.sl 0 (l ++ (BH n).take (j + 1 + 1)).length 1],.c [.d (.i .i64 n)],.lp r]) (Az hr rfl rfl rfl ?_) rfl rfl rfl rfl rfl ?_
   ·refine wd L8 [] [] A0 A0 ?_;refine zR ?_;refine wd L8 [] [] A0 A0 ?_;refine ⟨_,A3.refl _,Nat.le_refl _,rfl,rfl,?_⟩;simp only [List.append_assoc,hnext,List.set_cons_succ,List.set_cons_zero]
   ·refine wk [0,1,3,8,18] [] A0 A0 ?_;refine ⟨j + 1,hlt,by omega,Nat.le_refl _,?_⟩;exact A3.ck rfl
  ·refine wk [0,1,3,8,18] [] A0 A0 ?_;with_reducible repeat' first|constructor|intro hc;try simp only[AD] at hc
   have : (BH n).take (j + 1) = BH n:=by
    rw [List.take_of_length_le];simp [BH,GG];omega
   refine ⟨_,A3.refl _,Nat.le_refl _,_,_,rfl,rfl,?_⟩;simp only [this]
 ·rintro r hr x H' rfl;refine .inl ⟨rfl,?_⟩;refine wd L8 [] [] A0 A0 ?_;exact ⟨⟨[(4,.sl 0 (l ++ BH n).length 1)],[.a (.by (l ++ BH n))],Tryz.f367.ntmps⟩,(A3.ck rfl),Nat.le_refl _,_,_,rfl,rfl,rfl,rfl⟩
abbrev GC : List Nat:=[0,2,3,4,5,7,10,16,21,25,26,27,28,48]
theorem TM (n : Nat) (hn : n ≤ 1099511627776) : Ao Tryz.prog 367 [.e0,.d (.i .i64 n)] [] (.sl 0 (BH n).length 1) [.a (.by (BH n))] :=
 Ja.e0 (.by []) rfl rfl trivial (Oa [] n hn (by decide))
theorem BS (n : Nat) (h : n ≤ 1099511627776) : (BH n).length ≤ 7:=by
 have:=size_le n (by omega);simp [BH,GG];omega
def Kp (n : Int) : List UInt8 × Int:=if fits n then (BH n.toNat,0) else ([],2)
theorem iS (n : Int) : Go.Gar.Fn Tryz.prog 355 [.i .i64 n] (.tup [.by (Kp n).1,.i .i64 (Kp n).2]):=by
 by_cases hf : fits n = true
 ·obtain ⟨m,rfl⟩ : ∃ m : Nat,n = m:=⟨n.toNat,by simp [fits] at hf;omega⟩;have hm : m ≤ 1099511627776:=by simp [fits] at hf;omega
  refine zF A6 Tryz.func355 ?_;have d1:=Ds.mk [] (TM m hm);have sc : No 3:=trivial;refine wk [0,2,3,6] [] (AF hf) (AF (MV m)) ?_;clear sc d1;refine ⟨_,_,rfl,rfl,?_⟩;simp [AR,AB,A7,A4,Kp,hf]
 ·have hf' : fits n = false:=by simpa using hf
  refine zF A6 Tryz.func355 ?_;have sc : No 3:=trivial;refine wk [0,2,3,6] [] (AF hf') (AF (MV n)) ?_;clear sc;refine ⟨_,_,rfl,rfl,?_⟩;simp [AR,AB,A7,A4,Kp,hf']
def textS (s : List UInt8) : List UInt8 × Int:=if s.length > 255 then ([],2) else (UInt8.ofNat s.length :: s,0)
theorem eW (s : List UInt8) : Go.Gar.Fn Tryz.prog 356 [.s s] (.tup [.by (textS s).1,.i .i64 (textS s).2]):=by
 refine zF A6 Tryz.func356 ?_
 by_cases h : s.length > 255
 ·have h1 : decide ((s.length : Int) > 255) = true:=by simp;omega
  have sc : No 3:=trivial;refine wk [0,2,3,6] [] (AF h1) A0 ?_;clear sc;refine ⟨_,_,rfl,rfl,?_⟩;simp [AR,AB,A7,A4,textS,h]
 ·have h1 : decide ((s.length : Int) > 255) = false:=by simp;omega
  have h2 : (s.length : Int) % 256 = s.length:=by omega
  have ow : Lv [10]:=trivial;have sc : No 3:=trivial;refine wk [0,2,3,6] [] (Aj h1 h2) A0 ?_;clear sc ow;refine ⟨_,_,rfl,rfl,?_⟩;simp [AR,AB,A7,A4,textS,h]
theorem bU (s : List UInt8) : Go.Gar.Fn Tryz.prog 228 [.s s] (.tup [.by (textS s).1,.i .i64 (textS s).2]):=by
 refine zF A6 Tryz.func228 ?_
 by_cases h : s.length > 255
 ·have h1 : decide ((s.length : Int) > 255) = true:=by simp;omega
  refine wk [0,2,3,6] [] (AF h1) A0 ?_;refine ⟨_,_,rfl,rfl,?_⟩;simp [AR,AB,A7,A4,textS,h]
 ·have h1 : decide ((s.length : Int) > 255) = false:=by simp;omega
  have h2 : (s.length : Int) % 256 = s.length:=by omega
  have ow : Lv [10]:=trivial;refine wk [0,2,3,6] [] (Aj h1 h2) A0 ?_;clear ow;refine ⟨_,_,rfl,rfl,?_⟩;simp [AR,AB,A7,A4,textS,h]
theorem UH (l : List UInt8) (h : l.length ≤ 140737488355328) : Go.Gar.Fn Tryz.prog 348 [.by l] (.by l):=by
 refine zF A6 Tryz.func348 ?_;refine wk [0,2] [] A0 A0 ?_;refine ⟨_,_,rfl,rfl,?_⟩;simp [BN]
def Dk (l : List UInt8) : Nat:=l.foldl (fun a d => a * 256 + d.toNat) 0
theorem PQ (l : List UInt8) (k : Nat) (h : k < l.length) : Dk (l.take (k + 1)) = Dk (l.take k) * 256 + (l.getD k 0).toNat:=by
 unfold Dk;rw [List.take_succ_eq_append_getElem h,List.getD_eq_getElem?_getD,List.getElem?_eq_getElem h,List.foldl_append];rfl
theorem Mi (l : List UInt8) : Dk l < 256 ^ l.length:=by
 have key : ∀ (l : List UInt8) (a k : Nat),a < 256 ^ k → l.foldl (fun a d => a * 256 + d.toNat) a < 256 ^ (k + l.length):=by
  intro l
  induction l with
  | nil => intro a k h;simpa using h
  | cons d r ih =>
   intro a k h;have hd:=d.toNat_lt;have : a * 256 + d.toNat < 256 ^ (k + 1):=by rw [Nat.pow_succ];omega
   have:=ih _ (k + 1) this;simp only [List.foldl_cons,List.length_cons];rwa [show k + (r.length + 1) = k + 1 + r.length by omega]
 have:=key l 0 0 (by simp);rwa [Nat.zero_add] at this
def Ak : List UInt8 → Nat × List UInt8 × Int
 | [] => (0,[],11)
 | m :: r => if m.toNat > 6 then (0,[],12) else if r.length < m.toNat then (0,[],11) else
  if (m.toNat > 0 ∧ r.getD 0 0 = 0) ∨ Dk (r.take m.toNat) > 1099511627776 then (0,[],12) else (Dk (r.take m.toNat),r.drop m.toNat,0)
def CB (x : Nat × List UInt8 × Int) : D:=.tup [.i .i64 x.1,.by x.2.1,.i .i64 x.2.2]
theorem shl8 (a : Nat) (h : a < 36028797018963968) : IntKind.wrap .i64 ((a : Int) * 2 ^ min 8 64) = ((a * 256 : Nat) : Int):=by
 simp [IntKind.wrap,IntKind.bits,IntKind.signed];omega
theorem or8 (a : Nat) (h : a < 36028797018963968) (d : UInt8) : C2 .or .i64 ((a * 256 : Nat) : Int) (d.toNat : Int) = ((a * 256 + d.toNat : Nat) : Int):=by
 have hd:=d.toNat_lt
 have e : (BitVec.ofInt 64 ((a * 256 : Nat) : Int) ||| BitVec.ofInt 64 (d.toNat : Int)).toNat = a * 256 + d.toNat:=by
  rw [BitVec.ofInt_natCast,BitVec.ofInt_natCast,BitVec.toNat_or,BitVec.toNat_ofNat,BitVec.toNat_ofNat,Nat.mod_eq_of_lt (by omega),Nat.mod_eq_of_lt (by omega)];rw [show a * 256 = 2 ^ 8 * a by omega,Nat.two_pow_add_eq_or_of_lt hd]
 have e2 : C2 .or .i64 ((a * 256 : Nat) : Int) (d.toNat : Int) = IntKind.wrap .i64 (BitVec.ofInt 64 ((a * 256 : Nat) : Int) ||| BitVec.ofInt 64 (d.toNat : Int)).toNat:=rfl;rw [e2,e];simp [IntKind.wrap,IntKind.bits,IntKind.signed];omega
theorem Qq (b : List UInt8) (hb : b.length < 70368744177664) : Go.Gar.Fn Tryz.prog 347 [.by b] (CB (Ak b)):=by
 refine zF A6 Tryz.func347 ?_;rcases b with _ | ⟨m,r⟩
 ·have sc : No 3:=trivial;refine wd GC [] [] A0 A0 ?_;clear sc;refine ⟨_,_,rfl,rfl,?_⟩;simp [AR,AB,A7,A4,Ak,CB]
 have hm:=m.toNat_lt;simp only [List.length_cons] at hb
 by_cases h6 : m.toNat > 6
 ·have sc : No 3:=trivial;refine wd GC [] [] A0 A0 ?_;clear sc;with_reducible repeat' first|constructor|intro hc;try simp only[AD] at hc
  refine ⟨_,_,rfl,rfl,?_⟩;simp [AR,AB,A7,A4,Ak,CB,h6]
 by_cases hr : r.length < m.toNat
 ·have sc : No 3:=trivial;refine wd GC [] [] A0 A0 ?_;clear sc;with_reducible repeat' first|constructor|intro hc;try simp only[AD] at hc
  refine ⟨_,_,rfl,rfl,?_⟩;simp [AR,AB,A7,A4,Ak,CB,h6,hr]
 have h3 : List.drop 1 (List.take (1 + (m.toNat : Int)).toNat (m :: r)) = r.take m.toNat:=by
  rw [show (1 + (m.toNat : Int)).toNat = m.toNat + 1 by omega];simp
 have h4 : (r.take m.toNat).length = m.toNat:=by simp;omega
 have sc : No 3:=trivial;refine wd GC [] [] (Aj h3 h4) A0 ?_;clear sc;with_reducible repeat' first|constructor|intro hc;try simp only[AD] at hc
 have hlt : ∀ k,k ≤ m.toNat → Dk (r.take k) < 281474976710656:=by
  intro k hk;have:=Mi (r.take k);have h6' : (r.take k).length ≤ 6:=by simp;omega
  have : 256 ^ (r.take k).length ≤ 256 ^ 6:=Nat.pow_le_pow_right (by decide) h6';omega
 refine Ac (fun k => k ≤ m.toNat) (fun k : Nat => ⟨[(0,.d (.by (m :: r))),(2,.d (.i .i64 (Dk (r.take k) : Nat))),(3,.e0),(4,.d (.i .i64 0)),(5,.d (.i .i64 m.toNat)),(25,.d (.by (r.take m.toNat))),(26,.d (.i .i64 m.toNat)),(27,.d (.i .i64 k))],[],54⟩) (fun k => m.toNat - k) 0 (Nat.zero_le _) ?_ (Nat.le_refl _) ?_
 ·exact A3.ck rfl
 intro k hk
 by_cases hkm : k < m.toNat
 ·have e1:=shl8 (Dk (r.take k)) (by have:=hlt k hk;omega);have e2:=or8 (Dk (r.take k)) (by have:=hlt k hk;omega) ((r.take m.toNat).getD k 0)
  have e3 : Dk (r.take k) * 256 + ((r.take m.toNat).getD k 0).toNat = Dk (r.take (k + 1)):=by
   have:=PQ (r.take m.toNat) k (by omega);rw [List.take_take,List.take_take,Nat.min_eq_left (by omega),Nat.min_eq_left (by omega)] at this;exact this.symm
  have sc : No 3:=trivial;refine wd GC [] [] (Dl e1 e2 e3) A0 ?_;clear sc;with_reducible repeat' first|constructor|intro hc;try simp only[AD] at hc
  refine ⟨k + 1,hkm,by omega,Nat.le_refl _,?_⟩;exact A3.ck rfl
 ·have hkm' : k = m.toNat:=by omega
  subst hkm'
  by_cases hP : (m.toNat > 0 ∧ r.getD 0 0 = 0) ∨ Dk (r.take m.toNat) > 1099511627776
  ·have hT : Ak (m :: r) = (0,[],12):=by simp only [Ak,if_neg h6,if_neg hr,if_pos hP]
   rw [hT];have sc : No 3:=trivial;refine wd GC [] [] A0 A0 ?_;clear sc;with_reducible repeat' first|constructor|intro hc;try simp only[AD] at hc
   all_goals first
    | (refine ⟨_,_,rfl,rfl,?_⟩;simp [AR,AB,A7,A4,CB];done)
    | (exfalso;rcases hP with ⟨h,h'⟩ | h <;> first | omega | (have h':=congrArg UInt8.toNat h';simp only [UInt8.toNat_zero] at h';omega))
  ·have hT : Ak (m :: r) = (Dk (r.take m.toNat),r.drop m.toNat,0):=by simp only [Ak,if_neg h6,if_neg hr,if_neg hP]
   rw [hT];have e5 : (1 + (m.toNat : Int)).toNat = m.toNat + 1:=by omega
   have sc : No 3:=trivial;refine wd GC [] [] (AF e5) A0 ?_;clear sc;with_reducible repeat' first|constructor|intro hc;try simp only[AD] at hc
   all_goals first
    | (refine ⟨_,_,rfl,rfl,?_⟩;simp [AR,AB,A7,A4,CB];done)
    | (exfalso;exact hP (.inl ⟨by omega,u8z (by omega)⟩))
    | (exfalso;exact hP (.inr (by omega)))
end Go.Proofs.YtkljbfejbakooaaGreatDoor
