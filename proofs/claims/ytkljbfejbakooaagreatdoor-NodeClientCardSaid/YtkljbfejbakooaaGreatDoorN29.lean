/- Part 29 of a proof, put together by a program. Conditions: none beyond those that a theorem states. -/
import Derived.Test.YtkljbfejbakooaaGreatDoorN28
set_option linter.unusedSimpArgs false
set_option linter.unusedVariables false
set_option linter.unnecessarySimpa false
set_option maxHeartbeats 40000000
namespace Go.Proofs.YtkljbfejbakooaaGreatDoor
open Go.Gar
set_option maxRecDepth 4000
theorem FX (b : List UInt8) : (Ak b).2.1.length ≤ b.length:=by
 rcases b with _ | ⟨m,r⟩
 ·simp [Ak]
 ·simp only [Ak];split
  ·simp
  ·split
   ·simp
   ·split
    ·simp
    ·simp;omega
theorem T3 (b : List UInt8) : (Ak b).1 ≤ 1099511627776:=by
 rcases b with _ | ⟨m,r⟩
 ·simp [Ak]
 ·simp only [Ak];split
  ·simp
  ·split
   ·simp
   ·split
    ·simp
    ·simp;omega
theorem MK (b : List UInt8) (hb : b.length < 70368744177664) : Go.Gar.Fn Tryz.prog 309 [.by b] (CB (Ak b)):=by
 have hl:=FX b;refine zF A6 Tryz.func309 ?_;refine wk [0,2,3,4] [] A0 (Aj (Qq b hb) (UH (Ak b).2.1 (by omega))) ?_;refine ⟨_,_,rfl,rfl,?_⟩;simp [AR,AB,A7,A4,CB]
def AN : List UInt8 → List UInt8 × List UInt8 × Int
 | [] => ([],[],11)
 | m :: r => if r.length < m.toNat then ([],[],11) else (r.take m.toNat,r.drop m.toNat,0)
def F7 (x : List UInt8 × List UInt8 × Int) : D:=.tup [.s x.1,.by x.2.1,.i .i64 x.2.2]
theorem Ls (b : List UInt8) (hb : b.length < 70368744177664) : Go.Gar.Fn Tryz.prog 311 [.by b] (F7 (AN b)):=by
 refine zF A6 Tryz.func311 ?_;rcases b with _ | ⟨m,r⟩
 ·have sc : No 3:=trivial;refine wd [0,2,3,4,5,8,17] [] [] A0 A0 ?_;clear sc;refine ⟨_,_,rfl,rfl,?_⟩;simp [AR,AB,A7,A4,AN,F7]
 have hm:=m.toNat_lt;simp only [List.length_cons] at hb
 by_cases hr : r.length < m.toNat
 ·have sc : No 3:=trivial;refine wd [0,2,3,4,5,8,17] [] [] A0 A0 ?_;clear sc;with_reducible repeat' first|constructor|intro hc;try simp only[AD] at hc
  refine ⟨_,_,rfl,rfl,?_⟩;simp [AR,AB,A7,A4,AN,F7,hr]
 have e5 : (1 + (m.toNat : Int)).toNat = m.toNat + 1:=by omega
 have h3 : List.drop 1 (List.take (m.toNat + 1) (m :: r)) = r.take m.toNat:=by simp
 have sc : No 3:=trivial;refine wd [0,2,3,4,5,8,17] [] [] (AF e5) (AF (UH (r.drop m.toNat) (by simp;omega))) ?_;clear sc;with_reducible repeat' first|constructor|intro hc;try simp only[AD] at hc
 refine ⟨_,_,rfl,rfl,?_⟩;simp [AR,AB,A7,A4,AN,F7,hr]
theorem Kr (b : List UInt8) (hb : b.length < 70368744177664) : Go.Gar.Fn Tryz.prog 224 [.by b] (F7 (AN b)):=by
 refine zF A6 Tryz.func224 ?_;rcases b with _ | ⟨m,r⟩
 ·refine wd [0,2,3,4,5,18] [] [] A0 A0 ?_;refine ⟨_,_,rfl,rfl,?_⟩;simp [AR,AB,A7,A4,AN,F7]
 have hm:=m.toNat_lt;simp only [List.length_cons] at hb
 by_cases hr : r.length < m.toNat
 ·refine wd [0,2,3,4,5,18] [] [] A0 A0 ?_;with_reducible repeat' first|constructor|intro hc;try simp only[AD] at hc
  refine ⟨_,_,rfl,rfl,?_⟩;simp [AR,AB,A7,A4,AN,F7,hr]
 have e5 : (1 + (m.toNat : Int)).toNat = m.toNat + 1:=by omega
 refine wd [0,2,3,4,5,18] [] [] (AF e5) A0 ?_;with_reducible repeat' first|constructor|intro hc;try simp only[AD] at hc
 refine ⟨_,_,rfl,rfl,?_⟩;simp [AR,AB,A7,A4,AN,F7,hr]
abbrev Ij : List Nat:=[0,2,3,4,6,9,16,17,18,19,24]
abbrev Ik : List Nat:=[0,2,3,4,5,8,14,15,16,24]
def A9 : List Int → List UInt8
 | [] => []
 | n :: l => BH n.toNat ++ A9 l
theorem X4 (a b : List Int) : A9 (a ++ b) = A9 a ++ A9 b:=by
 induction a with
 | nil => rfl
 | cons x r ih => simp [A9,ih]
def GU (l : List Int) : List UInt8 × Int:=if l.length > 255 then ([],2) else if l.all fits then (UInt8.ofNat l.length :: A9 l,0) else ([],2)
theorem Gu {n : Int} (h : fits n = true) : ∃ m : Nat,n = m ∧ m ≤ 1099511627776:=by
 simp [fits] at h;exact ⟨n.toNat,by omega,by omega⟩
theorem Dx (l : List Int) (h : l.all fits = true) : (A9 l).length ≤ 7 * l.length:=by
 induction l with
 | nil => simp [A9]
 | cons x r ih =>
  simp only [List.all_cons,Bool.and_eq_true] at h;obtain ⟨m,rfl,hm⟩:=Gu h.1;have:=BS m hm;have:=ih h.2;simp only [A9,List.length_append,List.length_cons,Int.toNat_natCast];omega
variable {l : List Int}
theorem Ec {k : Nat} (h : k < l.length) : (l.take (k + 1)).all fits = ((l.take k).all fits && fits (l.getD k 0)):=by
 rw [List.take_succ_eq_append_getElem h,List.getD_eq_getElem?_getD,List.getElem?_eq_getElem h,List.all_append];simp
theorem Dm {k : Nat} (h : k < l.length) : A9 (l.take (k + 1)) = A9 (l.take k) ++ BH (l.getD k 0).toNat:=by
 rw [List.take_succ_eq_append_getElem h,X4,List.getD_eq_getElem?_getD,List.getElem?_eq_getElem h];simp [A9]
theorem list_fn (l : List Int) : Go.Gar.Fn Tryz.prog 357 [.is l] (.tup [.by (GU l).1,.i .i64 (GU l).2]):=by
 refine zF A6 Tryz.func357 ?_
 by_cases hl : l.length > 255
 ·have sc : No 3:=trivial;refine wk Ij [] A0 A0 ?_;clear sc;with_reducible repeat' first|constructor|intro hc;try simp only[AD] at hc
  refine ⟨_,_,rfl,rfl,?_⟩;simp [AR,AB,A7,A4,GU,hl]
 have h1 : (l.length : Int) % 256 = l.length:=by omega
 have ow : Lv [15]:=trivial;have sc : No 3:=trivial;refine wk Ij [] (AF h1) A0 ?_;clear sc ow;with_reducible repeat' first|constructor|intro hc;try simp only[AD] at hc
 refine Ac (fun k => k ≤ l.length ∧ (l.take k).all fits = true) (fun k : Nat => ⟨[(0,.d (.is l)),(2,.e0),(3,.d (.i .i64 0)),(4,.sl 0 (UInt8.ofNat l.length :: A9 (l.take k)).length 1),(16,.d (.is l)),(17,.d (.i .i64 l.length)),(18,.d (.i .i64 k))],[.a (.by (UInt8.ofNat l.length :: A9 (l.take k)))],30⟩) (fun k => l.length - k) 0 ⟨Nat.zero_le _,by simp⟩ ?_ (Nat.le_refl _) ?_
 ·exact A3.ck rfl
 rintro k ⟨hk,hpre⟩;have hlen:=Dx _ hpre
 by_cases hka : k < l.length
 ·by_cases hf : fits (l.getD k 0) = true
  ·obtain ⟨m,hm,hm'⟩:=Gu hf
   have hnext : (UInt8.ofNat l.length :: A9 (l.take k)) ++ BH m = UInt8.ofNat l.length :: A9 (l.take (k + 1)):=by
    rw [Dm hka,hm];simp
   have hB:=Oa (UInt8.ofNat l.length :: A9 (l.take k)) m hm' (by simp at hlen ⊢;omega);rw [hnext] at hB;rw [hm] at hf;have d1:=Ds.mk [0] (hB);have sc : No 3:=trivial;refine wk Ij [] (Aj hm hf) (AF (MV m)) ?_;clear sc d1;with_reducible repeat' first|constructor|intro hc;try simp only[AD] at hc
   refine ⟨k + 1,⟨hka,by rw [Ec hka,hpre,hm,hf];rfl⟩,by omega,Nat.le_refl _,?_⟩;exact A3.ck rfl
  ·have hf' : fits (l.getD k 0) = false:=by simpa using hf
   have hall : l.all fits = false:=by
    rw [← List.take_append_drop (k + 1) l,List.all_append,Ec hka,hf'];simp
   have sc : No 3:=trivial;refine wk Ij [] (AF hf') (AF (MV (l.getD k 0))) ?_;clear sc;with_reducible repeat' first|constructor|intro hc;try simp only[AD] at hc
   refine ⟨_,_,rfl,rfl,?_⟩;simp [AR,AB,A7,A4,GU,hl,hall]
 ·have e : k = l.length:=by omega
  subst e;rw [List.take_length] at hpre;have sc : No 3:=trivial;refine wk Ij [] A0 A0 ?_;clear sc;with_reducible repeat' first|constructor|intro hc;try simp only[AD] at hc
  refine ⟨_,_,rfl,rfl,?_⟩;simp [AR,AB,A7,A4,GU,hl,hpre]
def CC : Nat → List UInt8 → List Int → List Int × List UInt8 × Int
 | 0,rest,acc => (acc,rest,0)
 | k + 1,rest,acc => if (Ak rest).2.2 = 0 then CC k (Ak rest).2.1 (acc ++ [((Ak rest).1 : Int)]) else ([],[],(Ak rest).2.2)
def AZ : List UInt8 → List Int × List UInt8 × Int
 | [] => ([],[],11)
 | m :: r => CC m.toNat r []
def G9 (x : List Int × List UInt8 × Int) : D:=.tup [.is x.1,.by x.2.1,.i .i64 x.2.2]
theorem Lr (b : List UInt8) (hb : b.length < 70368744177664) : Go.Gar.Fn Tryz.prog 312 [.by b] (G9 (AZ b)):=by
 refine zF A6 Tryz.func312 ?_;rcases b with _ | ⟨m,r⟩
 ·have sc : No 3:=trivial;refine wk Ik [] A0 A0 ?_;clear sc;refine ⟨_,_,rfl,rfl,?_⟩;simp [AR,AB,A7,A4,AZ,G9]
 have hm:=m.toNat_lt;simp only [List.length_cons] at hb;have sc : No 3:=trivial;refine wk Ik [] A0 A0 ?_;clear sc;refine Ap (A3.Z9 2 (.is []) rfl rfl rfl trivial) (by simp) ?_
 refine Ac (α:=Nat × List UInt8 × List Int) (fun x => x.1 ≤ m.toNat ∧ x.2.1.length ≤ r.length ∧ x.2.2.length = x.1 ∧ CC (m.toNat - x.1) x.2.1 x.2.2 = CC m.toNat r [])
  (fun x => ⟨[(0,.d (.by (m :: r))),(2,.sl 0 x.2.2.length 1),(3,.d (.by x.2.1)),(4,.d (.i .i64 0)),(14,.d (.i .i64 m.toNat)),(15,.d (.i .i64 x.1))],[.a (.is x.2.2)],34⟩) (fun x => m.toNat - x.1) (0,r,[]) ⟨Nat.zero_le _,Nat.le_refl _,rfl,rfl⟩ ?_ (by simp) ?_
 ·exact A3.ck rfl
 rintro ⟨k,rest,acc⟩ ⟨hk,hrl,hal,hT⟩;simp only at hk hrl hal hT;have hl:=FX rest;have hv:=T3 rest
 by_cases hkm : k < m.toNat
 ·rw [show m.toNat - k = (m.toNat - (k + 1)) + 1 by omega] at hT;simp only [CC] at hT
  by_cases he : (Ak rest).2.2 = 0
  ·rw [if_pos he] at hT;have sc : No 3:=trivial;refine wk Ik [] (Aj he @CB.eq_1) (AF (Qq rest (by omega))) ?_;clear sc;with_reducible repeat' first|constructor|intro hc;try simp only[AD] at hc
   refine ⟨(k + 1,(Ak rest).2.1,acc ++ [((Ak rest).1 : Int)]),⟨hkm,by simp only;omega,by simp;omega,hT⟩,by simp only;omega,by simp,?_⟩;exact A3.ck rfl
  ·rw [if_neg he] at hT;have sc : No 3:=trivial;refine wk Ik [] (AF @CB.eq_1) (AF (Qq rest (by omega))) ?_;clear sc;with_reducible repeat' first|constructor|intro hc;try simp only[AD] at hc
   have e : AZ (m :: r) = ([],[],(Ak rest).2.2):=hT.symm;refine ⟨_,_,rfl,rfl,?_⟩;simp [AR,AB,A7,A4,e,G9]
 ·have e : k = m.toNat:=by omega
  subst e;rw [Nat.sub_self] at hT;have e : AZ (m :: r) = (acc,rest,0):=hT.symm;have sc : No 3:=trivial;refine wk Ik [] A0 (AF (UH rest (by omega))) ?_;clear sc;with_reducible repeat' first|constructor|intro hc;try simp only[AD] at hc
  refine ⟨_,_,rfl,rfl,?_⟩;simp [AR,AB,A7,A4,e,G9]
end Go.Proofs.YtkljbfejbakooaaGreatDoor
namespace Go.Proofs.YtkljbfejbakooaaGreatDoor
namespace Wi
open Go.Gar
set_option maxRecDepth 4000
abbrev HI : List Nat:=[0,1,4,5,6,8,9,10,11,12,22,23,24,25,31]
def CH (b : Bool) : Int:=if b then 1 else 0
theorem TN (b : Bool) : Go.Gar.Fn Tryz.prog 321 [.b b] (.i .i64 (CH b)):=by
 refine zF A6 Tryz.func321 ?_;cases b
 ·refine wk [0,2,3] [] A0 A0 ?_;refine ⟨_,_,rfl,rfl,?_⟩;simp [AR,AB,A7,A4,CH]
 ·refine wk [0,2,3] [] A0 A0 ?_;refine ⟨_,_,rfl,rfl,?_⟩;simp [AR,AB,A7,A4,CH]
theorem FW (c : Int) : Go.Gar.Fn Tryz.prog 310 [.i .i64 0,.i .i64 c] (.tup []):=by
 refine zF A6 Tryz.func310 ?_;refine wk [0,1,5] [] A0 A0 ?_;exact zE
def pF (n : Int) : List PanicEntry:=[{ v:=.iface 224 (.agg #[.int .i64 n]),recovered:=false }]
theorem ND (e c : Int) (h : e ≠ 0) : Jj Tryz.prog 310 [.d (.i .i64 e),.d (.i .i64 c)] [] (pF c) []:=by
 have f:=CJ h;refine zX A6 Tryz.func310 ?_;refine wx [0,1,5] [] [] (AF f) A0 ?_;exact ⟨rfl,⟨[],[],_⟩,(A3.ck rfl),Nat.le_refl _,rfl⟩
theorem U6 (l : List Int) : Ao Tryz.prog 319 [.d (.is l)] [] (.fn (.func 354) [] [.ptr 0 0 1]) [.c [.d (.is l)]]:=by
 refine zD A6 Tryz.func319 ?_;refine wk [0,1,2] [] A0 A0 ?_;exact ⟨_,(A3.ck rfl),Nat.zero_le _,_,_,rfl,rfl,rfl,rfl⟩
theorem ofNat_toNat (d : UInt8) : UInt8.ofNat ((d.toNat : Int)).toNat = d:=by simp
def wH (o : List UInt8) : List A5:=[.c [.sl 1 o.length 1],.a (.by o)]
def wL (l : List Int) (o : List UInt8) (r : Lp) : List A5:=[.c [.sl 1 o.length 1],.a (.by o),.c [.ptr 0 0 1],.c [.d (.is l)],.lp r]
theorem Hd (l : List Int) (o : List UInt8) (hf : l.all fits = true) (hl : l.length ≤ 1000) (ho : o.length ≤ 1000000) :
  Ao Tryz.prog 277 [.ptr 0 0 1,.d (.is l)] (wH o) (.tup []) (wH (o ++ A9 l)):=by
 refine zD A6 Tryz.func277 ?_;unfold wH;have d1:=Ds.mk [] (U6 l);refine wd [0,1,2,4,6,7] [] [] A0 A0 ?_;clear d1;refine zG (K:=fun r _ H' => H' = wL l (o ++ A9 l) r) ?_ ?_
 ·intro r hr;have hk:=hr.ok (k:=4) rfl
  have hY : ∀ (p : List UInt8) (d : UInt8),p.length ≤ 2000000 → YT Tryz.prog 4 [.d (.i .u8 d.toNat)] (wL l p r) fun x K => x = .d (.b true) ∧ K = wL l (p ++ [d]) r:=by
   intro p d hp;have hd:=d.toNat_lt;unfold wL;refine Az hr rfl rfl rfl ?_;refine wd [0,1,2,4,6,7] [] [] A0 A0 ?_;refine zR ?_;refine wd [0,1,2,4,6,7] [] [(0,7),(8,7),(9,7)] A0 A0 ?_;refine ⟨_,A3.refl _,Nat.le_refl _,rfl,rfl,?_⟩;simp [ofNat_toNat]
  refine zT A6 Tryz.func354 ?_;have hz:=hY;unfold wL at hz ⊢;refine wk HI [] A0 A0 ?_;refine Ac (fun k => k ≤ l.length) (fun k : Nat => ⟨[(0,.yl 4),(1,.ptr 3 0 1),(9,.d (.is l)),(10,.d (.i .i64 l.length)),(11,.d (.i .i64 k))],wL l (o ++ A9 (l.take k)) r,34⟩) (fun k => l.length - k) 0 (Nat.zero_le _) ?_ (Nat.le_refl _) ?_
  ·unfold wL;exact (have nC:=@A9.eq_1;A3.co rfl)
  intro k hkk;unfold wL
  by_cases hkl : k < l.length
  ·have hfk : fits (l.getD k 0) = true:=by
    rw [List.all_eq_true] at hf;apply hf;rw [List.getD_eq_getElem?_getD,List.getElem?_eq_getElem hkl];exact List.getElem_mem hkl
   have hpf : (l.take k).all fits = true:=by
    rw [List.all_eq_true] at hf ⊢;exact fun x hx => hf x (List.mem_of_mem_take hx)
   have hl1:=Dx _ hpf;have hl2 : (l.take k).length ≤ 1000:=by rw [List.length_take];omega
   obtain ⟨m,hm,hm'⟩:=Gu hfk;have hn:=BS m hm';have hput:=iS (l.getD k 0);have hde:=FW 2;have e : Kp (l.getD k 0) = (BH m,0):=by unfold Kp;rw [hfk,hm];rfl
   rw [e] at hput;refine wk HI [] A0 (Aj @hput @hde) ?_;with_reducible repeat' first|constructor|intro hc;try simp only[AD] at hc
   refine Ac (fun j => j ≤ (BH m).length) (fun j : Nat => ⟨[(0,.yl 4),(1,.ptr 3 0 1),(9,.d (.is l)),(10,.d (.i .i64 l.length)),(11,.d (.i .i64 k)),(22,.d (.by (BH m))),(23,.d (.i .i64 (BH m).length)),(24,.d (.i .i64 j))],wL l (o ++ A9 (l.take k) ++ (BH m).take j) r,34⟩) (fun j => (BH m).length - j) 0 (Nat.zero_le _) ?_ (Nat.le_refl _) ?_
   ·unfold wL;exact (have nC:=trivial;A3.co rfl)
   intro j hj
   by_cases hjl : j < (BH m).length
   ·have hy:=hz (o ++ A9 (l.take k) ++ (BH m).take j) ((BH m).getD j 0) (by simp only [List.length_append,List.length_take];omega)
    have ej : (BH m).take (j + 1) = (BH m).take j ++ [(BH m).getD j 0]:=by
     rw [List.take_succ_eq_append_getElem hjl,List.getD_eq_getElem?_getD,List.getElem?_eq_getElem hjl];rfl
    unfold wL;have q1:=@hy;refine wk HI [] A0 A0 ?_;clear q1;with_reducible repeat' first|constructor|intro hc;try simp only[AD] at hc
    refine ⟨j + 1,hjl,by omega,Nat.le_refl _,?_⟩;exact (have nC:=ej;A3.co rfl)
   ·have ej : (BH m).take j = BH m:=List.take_of_length_le (by omega);have ek : A9 (l.take (k + 1)) = A9 (l.take k) ++ BH m:=by rw [Dm hkl,hm,Int.toNat_natCast]
    unfold wL;refine wk HI [] A0 A0 ?_;with_reducible repeat' first|constructor|intro hc;try simp only[AD] at hc
    refine ⟨k + 1,hkl,by omega,Nat.le_refl _,?_⟩;exact (have nC:=And.intro ek ej;A3.co rfl)
  ·have e : k = l.length:=by omega
   subst e;rw [List.take_length];refine wk HI [] A0 A0 ?_;with_reducible repeat' first|constructor|intro hc;try simp only[AD] at hc
   exact ⟨_,A3.refl _,Nat.le_refl _,_,_,rfl,rfl,rfl⟩
 ·rintro r hr x H' rfl;refine .inl ⟨rfl,?_⟩;unfold wL;refine wd [0,1,2,4,6,7] [] [] A0 A0 ?_;exact ⟨⟨[],wH (o ++ A9 l),Tryz.f277.ntmps⟩,(A3.ck rfl),Nat.le_refl _,_,_,rfl,rfl,rfl,rfl⟩
def BM (s : List UInt8) : List UInt8:=UInt8.ofNat s.length :: s
theorem T5 (s o : List UInt8) (hs : s.length ≤ 255) (ho : o.length ≤ 1000000) :
  Ao Tryz.prog 325 [.ptr 0 0 1,.d (.s s)] (wH o) (.tup []) (wH (o ++ BM s)):=by
 have ht:=eW s;have e : textS s = (UInt8.ofNat s.length :: s,0):=by unfold textS;rw [if_neg (by omega)]
 rw [e] at ht;refine zD A6 Tryz.func325 ?_;unfold wH;refine wk [0,1,4,5] [] A0 (Aj @ht (FW 2)) ?_;exact ⟨⟨[],wH (o ++ BM s),Tryz.f325.ntmps⟩,(A3.ck rfl),Nat.le_refl _,_,_,rfl,rfl,rfl,rfl⟩
theorem aF (l : List Int) (o : List UInt8) (hl : l.length ≤ 255) (hf : l.all fits = true) (ho : o.length ≤ 1000000) :
  Ao Tryz.prog 327 [.ptr 0 0 1,.d (.is l)] (wH o) (.tup []) (wH (o ++ (UInt8.ofNat l.length :: A9 l))):=by
 have ht:=list_fn l;have e : GU l = (UInt8.ofNat l.length :: A9 l,0):=by unfold GU;rw [if_neg (by omega),if_pos hf]
 have hn:=Dx l hf;rw [e] at ht;refine zD A6 Tryz.func327 ?_;unfold wH;refine wk [0,1,4,5] [] A0 (Aj @ht (FW 2)) ?_;exact ⟨⟨[],wH (o ++ (UInt8.ofNat l.length :: A9 l)),Tryz.f327.ntmps⟩,(A3.ck rfl),Nat.le_refl _,_,_,rfl,rfl,rfl,rfl⟩
def BE (x : Item) : List UInt8:=BM x.key ++ A9 [x.value,x.version,CH x.gone]
theorem Ct (b : Bool) : fits (CH b) = true:=by cases b <;> rfl
theorem Sj (x : Item) (o : List UInt8) (hs : x.key.length ≤ 255) (h1 : fits x.value = true) (h2 : fits x.version = true) (ho : o.length ≤ 100000) :
  Ao Tryz.prog 323 [.ptr 0 0 1,.d x.d] (wH o) (.tup []) (wH (o ++ BE x)):=by
 obtain ⟨k,v,n,g⟩:=x;have ht:=T5 k o hs (by omega);have hp:=Hd [v,n,CH g] (o ++ BM k) (by simp only [List.all_cons,List.all_nil,Ct,Bool.and_true];rw [h1,h2];rfl) (by simp) (by simp only [BM,List.length_append,List.length_cons];simp at hs;omega);have hb:=TN g;refine zD A6 Tryz.func323 ?_;unfold wH at *;have d1:=Ds.mk [0,1] (ht);have d2:=Ds.mk [0,1] (hp);refine wd [0,1,3] [] [] A0 (AF @hb) ?_;clear d2 d1;exact ⟨⟨[],wH (o ++ BM k ++ A9 [v,n,CH g]),Tryz.f323.ntmps⟩,(A3.ck rfl),Nat.le_refl _,_,_,rfl,rfl,rfl,by simp only [wH,BE,List.append_assoc]⟩
def kH (m : A8) (o : List UInt8) : List A5:=[.c [.ptr 2 0 1],.c (mC m),.c [.sl 3 o.length 1],.a (.by o)]
def BC (m : A8) : List UInt8 :=
 if m.kind = 4 then A9 [m.key,CH m.slow] else
 if m.kind = 5 then BE m.item else
 if m.kind = 6 then BM m.item.key else
 if m.kind = 7 then A9 [m.pred + 1] ++ (UInt8.ofNat m.list.length :: A9 m.list) else
 if m.kind = 10 then A9 [m.place,CH m.done] else
 if m.kind = 11 then A9 [m.code] else
 if m.kind = 12 then A9 [m.code] ++ (if m.code = 0 then BE m.item else []) else []
theorem j9 (m : A8) (o : List UInt8) (h : fits m.key = true) (ho : o.length ≤ 100000) : Ao Tryz.prog 320 [.ptr 0 0 1,.ptr 1 0 15] (kH m o) (.tup []) (kH m (o ++ A9 [m.key,CH m.slow])):=by
 have hp:=Hd [m.key,CH m.slow] o (by simp only [List.all_cons,List.all_nil,Ct,Bool.and_true];exact h) (by simp) (by omega);have hb:=TN m.slow;refine zD A6 Tryz.func320 ?_;unfold kH mC wH at *;have d1:=Ds.mk [2,3] (hp);refine wd [0,1] [] [] A0 (AF @hb) ?_;clear d1;exact ⟨_,A3.refl _,Nat.le_refl _,_,_,rfl,rfl,rfl,rfl⟩
theorem jG (m : A8) (o : List UInt8) (h : fits m.place = true) (ho : o.length ≤ 100000) : Ao Tryz.prog 328 [.ptr 0 0 1,.ptr 1 0 15] (kH m o) (.tup []) (kH m (o ++ A9 [m.place,CH m.done])):=by
 have hp:=Hd [m.place,CH m.done] o (by simp only [List.all_cons,List.all_nil,Ct,Bool.and_true];exact h) (by simp) (by omega);have hb:=TN m.done;refine zD A6 Tryz.func328 ?_;unfold kH mC wH at *;have d1:=Ds.mk [2,3] (hp);refine wd [0,1] [] [] A0 (AF @hb) ?_;clear d1;exact ⟨_,A3.refl _,Nat.le_refl _,_,_,rfl,rfl,rfl,rfl⟩
theorem jA (m : A8) (o : List UInt8) (hs : m.item.key.length ≤ 255) (h1 : fits m.item.value = true) (h2 : fits m.item.version = true) (ho : o.length ≤ 100000) : Ao Tryz.prog 322 [.ptr 0 0 1,.ptr 1 0 15] (kH m o) (.tup []) (kH m (o ++ BE m.item)):=by
 have hp:=Sj m.item o hs h1 h2 ho;refine zD A6 Tryz.func322 ?_;unfold kH mC wH at *;have d1:=Ds.mk [2,3] (hp);refine wk [0,1] [] A0 A0 ?_;clear d1;exact ⟨_,A3.refl _,Nat.le_refl _,_,_,rfl,rfl,rfl,rfl⟩
theorem jB (m : A8) (o : List UInt8) (hs : m.item.key.length ≤ 255) (ho : o.length ≤ 100000) : Ao Tryz.prog 324 [.ptr 0 0 1,.ptr 1 0 15] (kH m o) (.tup []) (kH m (o ++ BM m.item.key)):=by
 have hp:=T5 m.item.key o hs (by omega);refine zD A6 Tryz.func324 ?_;unfold kH mC wH at *;have d1:=Ds.mk [2,3] (hp);refine wk [0,1] [] A0 A0 ?_;clear d1;exact ⟨_,A3.refl _,Nat.le_refl _,_,_,rfl,rfl,rfl,rfl⟩
theorem jF (m : A8) (o : List UInt8) (h : fits (m.pred + 1) = true) (hl : m.list.length ≤ 255) (hf : m.list.all fits = true) (ho : o.length ≤ 100000) :
  Ao Tryz.prog 326 [.ptr 0 0 1,.ptr 1 0 15] (kH m o) (.tup []) (kH m (o ++ A9 [m.pred + 1] ++ (UInt8.ofNat m.list.length :: A9 m.list))):=by
 have hp:=Hd [m.pred + 1] o (by simp only [List.all_cons,List.all_nil,Bool.and_true];exact h) (by simp) (by omega);have hn:=Dx [m.pred + 1] (by simp only [List.all_cons,List.all_nil,Bool.and_true];exact h);have hp2:=aF m.list (o ++ A9 [m.pred + 1]) hl hf (by simp only [List.length_append];simp only [List.length_cons,List.length_nil] at hn;omega);have hb : -1 ≤ m.pred ∧ m.pred ≤ 1099511627776:=by simp [fits] at h;omega
 refine zD A6 Tryz.func326 ?_;unfold kH mC wH at *;have d1:=Ds.mk [2,3] (hp);have d2:=Ds.mk [2,3] (hp2);refine wk [0,1] [] A0 A0 ?_;clear d2 d1;exact ⟨_,A3.refl _,Nat.le_refl _,_,_,rfl,rfl,rfl,rfl⟩
theorem jH (m : A8) (o : List UInt8) (h : fits m.code = true) (ho : o.length ≤ 100000) : Ao Tryz.prog 329 [.ptr 0 0 1,.ptr 1 0 15] (kH m o) (.tup []) (kH m (o ++ A9 [m.code])):=by
 have hp:=Hd [m.code] o (by simp only [List.all_cons,List.all_nil,Bool.and_true];exact h) (by simp) (by omega);refine zD A6 Tryz.func329 ?_;unfold kH mC wH at *;have d1:=Ds.mk [2,3] (hp);refine wk [0,1] [] A0 A0 ?_;clear d1;exact ⟨_,A3.refl _,Nat.le_refl _,_,_,rfl,rfl,rfl,rfl⟩
theorem jI (m : A8) (o : List UInt8) (h : fits m.code = true) (hI : m.code = 0 → m.item.key.length ≤ 255 ∧ fits m.item.value = true ∧ fits m.item.version = true) (ho : o.length ≤ 10000) :
  Ao Tryz.prog 330 [.ptr 0 0 1,.ptr 1 0 15] (kH m o) (.tup []) (kH m (o ++ (A9 [m.code] ++ (if m.code = 0 then BE m.item else [])))):=by
 have hp:=Hd [m.code] o (by simp only [List.all_cons,List.all_nil,Bool.and_true];exact h) (by simp) (by omega);have hn:=Dx [m.code] (by simp only [List.all_cons,List.all_nil,Bool.and_true];exact h);simp only [List.length_cons,List.length_nil] at hn;refine zD A6 Tryz.func330 ?_
 by_cases hc0 : m.code = 0
 ·obtain ⟨a1,a2,a3⟩:=hI hc0;have hp2:=Sj m.item (o ++ A9 [m.code]) a1 a2 a3 (by simp only [List.length_append];omega);have f:=AS hc0;rw [if_pos hc0,← List.append_assoc];unfold kH mC wH at *;have d1:=Ds.mk [2,3] (hp);have d2:=Ds.mk [2,3] (hp2);refine wk [0,1,9] [] (AF f) A0 ?_;clear d2 d1;exact ⟨_,A3.refl _,Nat.le_refl _,_,_,rfl,rfl,rfl,rfl⟩
 ·have f:=eq_false' hc0;rw [if_neg hc0,List.append_nil];unfold kH mC wH at *;have d1:=Ds.mk [2,3] (hp);refine wk [0,1,9] [] (AF f) A0 ?_;clear d1;exact ⟨_,A3.refl _,Nat.le_refl _,_,_,rfl,rfl,rfl,rfl⟩
end Wi
end Go.Proofs.YtkljbfejbakooaaGreatDoor
