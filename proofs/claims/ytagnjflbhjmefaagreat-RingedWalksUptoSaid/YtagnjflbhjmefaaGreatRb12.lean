/- Part 12 of the texts of this proof, put together by a program and made short.
Conditions: none; what each theorem asks stands in its own hypotheses. -/
import Derived.Test.YtagnjflbhjmefaaGreatRb09
import Derived.KernelRfl
import Derived.RangeFuncIn
import Derived.Sort.Grow
import Derived.Laws.Cover3
import Derived.RecoverIn
import Derived.ProofKit
import Derived.OpenShut
import Derived.CallsIn
import Derived.RangeFuncLeaves
import Derived.OrdersIn
import Derived.TacticsIn
import Derived.ChangeKeysEq
import Derived.Laws.AppendOwn
import Derived.Laws.OwnMore
import Derived.Laws.MakeOwn
import Derived.Laws.Rows
import Derived.Laws.Cells
import Derived.Laws.Tables
import Derived.Laws.CopyRow
import Derived.Laws.Strings
import Derived.Laws.IdiomStrings
import Derived.Laws.BytesArg
import Derived.Test.YtagnjflbhjmefaaGreatProg
set_option linter.unusedSimpArgs false
set_option linter.unusedVariables false
set_option linter.unnecessarySimpa false
set_option maxHeartbeats 40000000
namespace Go.Proofs.YtagnjflbhjmefaaGreat
open Go.Gar
set_option maxRecDepth 4000
theorem BJ (n : Nat) (h : n ≤ 1099511627776) : (Ck n).length ≤ 7:=by
 have:=size_le n (by omega)
 simp [Ck,GD];omega
def Nb (n : Int) : List UInt8 × Int:=if fits n then (Ck n.toNat,0) else ([],2)
def textS (s : List UInt8) : List UInt8 × Int:=if s.length > 255 then ([],2) else (UInt8.ofNat s.length :: s,0)
theorem U5 (s : List UInt8) : Go.Gar.Fn Tryz.prog 203 [.s s] (.tup [.by (textS s).1,.i .i64 (textS s).2]):=by
 refine A3 A8 Tryz.func203 rfl rfl (Nat.le_of_ble_eq_true rfl) ?_
 by_cases h : s.length > 255
 ·have h1 : decide ((s.length : Int) > 255) = true:=by simp;omega
  have nS:=h1;obtain ⟨lv,st,ns,nc⟩:=wq [0,2,3,6] [];refine wk ?_;clear nc ns st lv;repeat' (first|with_reducible constructor|(with_reducible intro hc;try simp only[A1] at hc))
  refine ⟨_,_,rfl,rfl,?_⟩;simp [AH,A6,A5,A4,textS,h]
 ·have h1 : decide ((s.length : Int) > 255) = false:=by simp;omega
  have h2 : (s.length : Int) % 256 = s.length:=by omega
  have nS:=And.intro h1 h2;obtain ⟨lv,st,ns,nc⟩:=wq [0,2,3,6] [];have ow : Lv [10]:=trivial;refine wk ?_;clear nc ns st lv ow;repeat' (first|with_reducible constructor|(with_reducible intro hc;try simp only[A1] at hc))
  refine ⟨_,_,rfl,rfl,?_⟩;simp [AH,A6,A5,A4,textS,h]
theorem PH (l : List UInt8) (h : l.length ≤ 140737488355328) : Go.Gar.Fn Tryz.prog 285 [.by l] (.by l):=by
 refine A3 A8 Tryz.func285 rfl rfl (Nat.le_of_ble_eq_true rfl) ?_
 have nS:=True.intro;obtain ⟨lv,st,ns,nc⟩:=wq [0,2] [];refine wk ?_;clear nc ns st lv;repeat' (first|with_reducible constructor|(with_reducible intro hc;try simp only[A1] at hc))
 refine ⟨_,_,rfl,rfl,?_⟩
 simp [BQ]
def Cq (l : List UInt8) : Nat:=l.foldl (fun a d => a * 256 + d.toNat) 0
theorem Lb (l : List UInt8) (k : Nat) (h : k < l.length) : Cq (l.take (k + 1)) = Cq (l.take k) * 256 + (l.getD k 0).toNat:=by
 unfold Cq
 rw [List.take_succ_eq_append_getElem h,List.getD_eq_getElem?_getD,List.getElem?_eq_getElem h,List.foldl_append]
 rfl
theorem JO (l : List UInt8) : Cq l < 256 ^ l.length:=by
 have key : ∀ (l : List UInt8) (a k : Nat),a < 256 ^ k → l.foldl (fun a d => a * 256 + d.toNat) a < 256 ^ (k + l.length):=by
  intro l
  induction l with
  | nil => intro a k h;simpa using h
  | cons d r ih =>
   intro a k h
   have hd:=d.toNat_lt
   have : a * 256 + d.toNat < 256 ^ (k + 1):=by rw [Nat.pow_succ];omega
   have:=ih _ (k + 1) this
   simp only [List.foldl_cons,List.length_cons]
   rwa [show k + (r.length + 1) = k + 1 + r.length by omega]
 have:=key l 0 0 (by simp)
 rwa [Nat.zero_add] at this
def Ag : List UInt8 → Nat × List UInt8 × Int
 | [] => (0,[],11)
 | m :: r => if m.toNat > 6 then (0,[],12) else if r.length < m.toNat then (0,[],11) else
  if (m.toNat > 0 ∧ r.getD 0 0 = 0) ∨ Cq (r.take m.toNat) > 1099511627776 then (0,[],12) else (Cq (r.take m.toNat),r.drop m.toNat,0)
def Bg (x : Nat × List UInt8 × Int) : D:=.tup [.i .i64 x.1,.by x.2.1,.i .i64 x.2.2]
theorem shl8 (a : Nat) (h : a < 36028797018963968) : IntKind.wrap .i64 ((a : Int) * 2 ^ min 8 64) = ((a * 256 : Nat) : Int):=by
 simp [IntKind.wrap,IntKind.bits,IntKind.signed];omega
theorem or8 (a : Nat) (h : a < 36028797018963968) (d : UInt8) : Bc .or .i64 ((a * 256 : Nat) : Int) (d.toNat : Int) = ((a * 256 + d.toNat : Nat) : Int):=by
 have hd:=d.toNat_lt
 have e : (BitVec.ofInt 64 ((a * 256 : Nat) : Int) ||| BitVec.ofInt 64 (d.toNat : Int)).toNat = a * 256 + d.toNat:=by
  rw [BitVec.ofInt_natCast,BitVec.ofInt_natCast,BitVec.toNat_or,BitVec.toNat_ofNat,BitVec.toNat_ofNat,Nat.mod_eq_of_lt (by omega),Nat.mod_eq_of_lt (by omega)]
  rw [show a * 256 = 2 ^ 8 * a by omega,Nat.two_pow_add_eq_or_of_lt hd]
 have e2 : Bc .or .i64 ((a * 256 : Nat) : Int) (d.toNat : Int) = IntKind.wrap .i64 (BitVec.ofInt 64 ((a * 256 : Nat) : Int) ||| BitVec.ofInt 64 (d.toNat : Int)).toNat:=rfl
 rw [e2,e]
 simp [IntKind.wrap,IntKind.bits,IntKind.signed];omega
theorem NP (b : List UInt8) (hb : b.length < 70368744177664) : Go.Gar.Fn Tryz.prog 284 [.by b] (Bg (Ag b)):=by
 refine A3 A8 Tryz.func284 rfl rfl (Nat.le_of_ble_eq_true rfl) ?_
 rcases b with _ | ⟨m,r⟩
 ·have nS:=True.intro;obtain ⟨lv,st,ns,nc⟩:=wq [0,2,3,4,5,7,10,16,21,25,26,27,28,48] [];have pr : AC []:=trivial;have sc : No 3:=trivial;refine wd ?_;clear nc ns st lv sc pr;repeat' (first|with_reducible constructor|(with_reducible intro hc;try simp only[A1] at hc))
  refine ⟨_,_,rfl,rfl,?_⟩;simp [AH,A6,A5,A4,Ag,Bg]
 have hm:=m.toNat_lt
 simp only [List.length_cons] at hb
 by_cases h6 : m.toNat > 6
 ·have nS:=True.intro;obtain ⟨lv,st,ns,nc⟩:=wq [0,2,3,4,5,7,10,16,21,25,26,27,28,48] [];have pr : AC []:=trivial;have sc : No 3:=trivial;refine wd ?_;clear nc ns st lv sc pr;repeat' (first|with_reducible constructor|(with_reducible intro hc;try simp only[A1] at hc))
  refine ⟨_,_,rfl,rfl,?_⟩;simp [AH,A6,A5,A4,Ag,Bg,h6]
 by_cases hr : r.length < m.toNat
 ·have nS:=True.intro;obtain ⟨lv,st,ns,nc⟩:=wq [0,2,3,4,5,7,10,16,21,25,26,27,28,48] [];have pr : AC []:=trivial;have sc : No 3:=trivial;refine wd ?_;clear nc ns st lv sc pr;repeat' (first|with_reducible constructor|(with_reducible intro hc;try simp only[A1] at hc))
  refine ⟨_,_,rfl,rfl,?_⟩;simp [AH,A6,A5,A4,Ag,Bg,h6,hr]
 have h3 : List.drop 1 (List.take (1 + (m.toNat : Int)).toNat (m :: r)) = r.take m.toNat:=by
  rw [show (1 + (m.toNat : Int)).toNat = m.toNat + 1 by omega];simp
 have h4 : (r.take m.toNat).length = m.toNat:=by simp;omega
 have nS:=And.intro h3 h4;obtain ⟨lv,st,ns,nc⟩:=wq [0,2,3,4,5,7,10,16,21,25,26,27,28,48] [];have pr : AC []:=trivial;have sc : No 3:=trivial;refine wd ?_;clear nc ns st lv sc pr;repeat' (first|with_reducible constructor|(with_reducible intro hc;try simp only[A1] at hc))
 have hlt : ∀ k,k ≤ m.toNat → Cq (r.take k) < 281474976710656:=by
  intro k hk
  have:=JO (r.take k)
  have h6' : (r.take k).length ≤ 6:=by simp;omega
  have : 256 ^ (r.take k).length ≤ 256 ^ 6:=Nat.pow_le_pow_right (by decide) h6'
  omega
 refine Aq (fun k => k ≤ m.toNat) (fun k : Nat => ⟨[(0,.d (.by (m :: r))),(2,.d (.i .i64 (Cq (r.take k) : Nat))),(3,.e0),(4,.d (.i .i64 0)),(5,.d (.i .i64 m.toNat)),(25,.d (.by (r.take m.toNat))),(26,.d (.i .i64 m.toNat)),(27,.d (.i .i64 k))],[],54⟩) (fun k => m.toNat - k) 0 (Nat.zero_le _) ?_ (Nat.le_refl _) ?_
 ·exact A0.ck rfl
 intro k hk
 by_cases hkm : k < m.toNat
 ·have e1:=shl8 (Cq (r.take k)) (by have:=hlt k hk;omega)
  have e2:=or8 (Cq (r.take k)) (by have:=hlt k hk;omega) ((r.take m.toNat).getD k 0)
  have e3 : Cq (r.take k) * 256 + ((r.take m.toNat).getD k 0).toNat = Cq (r.take (k + 1)):=by
   have:=Lb (r.take m.toNat) k (by omega)
   rw [List.take_take,List.take_take,Nat.min_eq_left (by omega),Nat.min_eq_left (by omega)] at this
   exact this.symm
  have nS:=And.intro e1 (And.intro e2 e3);obtain ⟨lv,st,ns,nc⟩:=wq [0,2,3,4,5,7,10,16,21,25,26,27,28,48] [];have pr : AC []:=trivial;have sc : No 3:=trivial;refine wd ?_;clear nc ns st lv sc pr;repeat' (first|with_reducible constructor|(with_reducible intro hc;try simp only[A1] at hc))
  refine ⟨k + 1,hkm,by omega,Nat.le_refl _,?_⟩
  exact A0.ck rfl
 ·have hkm' : k = m.toNat:=by omega
  subst hkm'
  by_cases hP : (m.toNat > 0 ∧ r.getD 0 0 = 0) ∨ Cq (r.take m.toNat) > 1099511627776
  ·have hT : Ag (m :: r) = (0,[],12):=by simp only [Ag,if_neg h6,if_neg hr,if_pos hP]
   rw [hT]
   have nS:=True.intro;obtain ⟨lv,st,ns,nc⟩:=wq [0,2,3,4,5,7,10,16,21,25,26,27,28,48] [];have pr : AC []:=trivial;have sc : No 3:=trivial;refine wd ?_;clear nc ns st lv sc pr;repeat' (first|with_reducible constructor|(with_reducible intro hc;try simp only[A1] at hc))
   all_goals first
    | (refine ⟨_,_,rfl,rfl,?_⟩;simp [AH,A6,A5,A4,Bg];done)
    | (exfalso;rcases hP with ⟨h,h'⟩ | h <;> first | omega | (have h':=congrArg UInt8.toNat h';simp only [UInt8.toNat_zero] at h';omega))
  ·have hT : Ag (m :: r) = (Cq (r.take m.toNat),r.drop m.toNat,0):=by simp only [Ag,if_neg h6,if_neg hr,if_neg hP]
   rw [hT]
   have e5 : (1 + (m.toNat : Int)).toNat = m.toNat + 1:=by omega
   have nS:=e5;obtain ⟨lv,st,ns,nc⟩:=wq [0,2,3,4,5,7,10,16,21,25,26,27,28,48] [];have pr : AC []:=trivial;have sc : No 3:=trivial;refine wd ?_;clear nc ns st lv sc pr;repeat' (first|with_reducible constructor|(with_reducible intro hc;try simp only[A1] at hc))
   all_goals first
    | (refine ⟨_,_,rfl,rfl,?_⟩;simp [AH,A6,A5,A4,Bg];done)
    | (exfalso;exact hP (.inl ⟨by omega,u8z (by omega)⟩))
    | (exfalso;exact hP (.inr (by omega)))
theorem EA (b : List UInt8) : (Ag b).2.1.length ≤ b.length:=by
 rcases b with _ | ⟨m,r⟩
 ·simp [Ag]
 ·simp only [Ag]
  split
  ·simp
  ·split
   ·simp
   ·split
    ·simp
    ·simp;omega
theorem O6 (b : List UInt8) : (Ag b).1 ≤ 1099511627776:=by
 rcases b with _ | ⟨m,r⟩
 ·simp [Ag]
 ·simp only [Ag]
  split
  ·simp
  ·split
   ·simp
   ·split
    ·simp
    ·simp;omega
theorem JL (b : List UInt8) (hb : b.length < 70368744177664) : Go.Gar.Fn Tryz.prog 245 [.by b] (Bg (Ag b)):=by
 have hl:=EA b
 refine A3 A8 Tryz.func245 rfl rfl (Nat.le_of_ble_eq_true rfl) ?_
 have nS:=True.intro;obtain ⟨lv,st,ns,nc⟩:=wq [0,2,3,4] [];have c1:=NP b hb;have c2:=PH (Ag b).2.1 (by omega);refine wk ?_;clear nc ns st lv c2 c1;repeat' (first|with_reducible constructor|(with_reducible intro hc;try simp only[A1] at hc))
 refine ⟨_,_,rfl,rfl,?_⟩;simp [AH,A6,A5,A4,Bg]
def AQ : List UInt8 → List UInt8 × List UInt8 × Int
 | [] => ([],[],11)
 | m :: r => if r.length < m.toNat then ([],[],11) else (r.take m.toNat,r.drop m.toNat,0)
def Dq (x : List UInt8 × List UInt8 × Int) : D:=.tup [.s x.1,.by x.2.1,.i .i64 x.2.2]
theorem Il (b : List UInt8) (hb : b.length < 70368744177664) : Go.Gar.Fn Tryz.prog 247 [.by b] (Dq (AQ b)):=by
 refine A3 A8 Tryz.func247 rfl rfl (Nat.le_of_ble_eq_true rfl) ?_
 rcases b with _ | ⟨m,r⟩
 ·have nS:=True.intro;obtain ⟨lv,st,ns,nc⟩:=wq [0,2,3,4,5,8,17] [];have pr : AC []:=trivial;have sc : No 3:=trivial;refine wd ?_;clear nc ns st lv sc pr;repeat' (first|with_reducible constructor|(with_reducible intro hc;try simp only[A1] at hc))
  refine ⟨_,_,rfl,rfl,?_⟩;simp [AH,A6,A5,A4,AQ,Dq]
 have hm:=m.toNat_lt
 simp only [List.length_cons] at hb
 by_cases hr : r.length < m.toNat
 ·have nS:=True.intro;obtain ⟨lv,st,ns,nc⟩:=wq [0,2,3,4,5,8,17] [];have pr : AC []:=trivial;have sc : No 3:=trivial;refine wd ?_;clear nc ns st lv sc pr;repeat' (first|with_reducible constructor|(with_reducible intro hc;try simp only[A1] at hc))
  refine ⟨_,_,rfl,rfl,?_⟩;simp [AH,A6,A5,A4,AQ,Dq,hr]
 have e5 : (1 + (m.toNat : Int)).toNat = m.toNat + 1:=by omega
 have h3 : List.drop 1 (List.take (m.toNat + 1) (m :: r)) = r.take m.toNat:=by simp
 have nS:=e5;obtain ⟨lv,st,ns,nc⟩:=wq [0,2,3,4,5,8,17] [];have c1:=PH (r.drop m.toNat) (by simp;omega);have pr : AC []:=trivial;have sc : No 3:=trivial;refine wd ?_;clear nc ns st lv sc pr c1;repeat' (first|with_reducible constructor|(with_reducible intro hc;try simp only[A1] at hc))
 refine ⟨_,_,rfl,rfl,?_⟩;simp [AH,A6,A5,A4,AQ,Dq,hr]
theorem Hg (b : List UInt8) (hb : b.length < 70368744177664) : Go.Gar.Fn Tryz.prog 199 [.by b] (Dq (AQ b)):=by
 refine A3 A8 Tryz.func199 rfl rfl (Nat.le_of_ble_eq_true rfl) ?_
 rcases b with _ | ⟨m,r⟩
 ·have nS:=True.intro;obtain ⟨lv,st,ns,nc⟩:=wq [0,2,3,4,5,18] [];have pr : AC []:=trivial;refine wd ?_;clear nc ns st lv pr;repeat' (first|with_reducible constructor|(with_reducible intro hc;try simp only[A1] at hc))
  refine ⟨_,_,rfl,rfl,?_⟩;simp [AH,A6,A5,A4,AQ,Dq]
 have hm:=m.toNat_lt
 simp only [List.length_cons] at hb
 by_cases hr : r.length < m.toNat
 ·have nS:=True.intro;obtain ⟨lv,st,ns,nc⟩:=wq [0,2,3,4,5,18] [];have pr : AC []:=trivial;refine wd ?_;clear nc ns st lv pr;repeat' (first|with_reducible constructor|(with_reducible intro hc;try simp only[A1] at hc))
  refine ⟨_,_,rfl,rfl,?_⟩;simp [AH,A6,A5,A4,AQ,Dq,hr]
 have e5 : (1 + (m.toNat : Int)).toNat = m.toNat + 1:=by omega
 have nS:=e5;obtain ⟨lv,st,ns,nc⟩:=wq [0,2,3,4,5,18] [];have pr : AC []:=trivial;refine wd ?_;clear nc ns st lv pr;repeat' (first|with_reducible constructor|(with_reducible intro hc;try simp only[A1] at hc))
 refine ⟨_,_,rfl,rfl,?_⟩;simp [AH,A6,A5,A4,AQ,Dq,hr]
def AA : List Int → List UInt8
 | [] => []
 | n :: l => Ck n.toNat ++ AA l
theorem RG (a b : List Int) : AA (a ++ b) = AA a ++ AA b:=by
 induction a with
 | nil => rfl
 | cons x r ih => simp [AA,ih]
def KW (l : List Int) : List UInt8 × Int:=if l.length > 255 then ([],2) else if l.all fits then (UInt8.ofNat l.length :: AA l,0) else ([],2)
theorem Hm {n : Int} (h : fits n = true) : ∃ m : Nat,n = m ∧ m ≤ 1099511627776:=by
 simp [fits] at h;exact ⟨n.toNat,by omega,by omega⟩
theorem MC (l : List Int) (h : l.all fits = true) : (AA l).length ≤ 7 * l.length:=by
 induction l with
 | nil => simp [AA]
 | cons x r ih =>
  simp only [List.all_cons,Bool.and_eq_true] at h
  obtain ⟨m,rfl,hm⟩:=Hm h.1
  have:=BJ m hm
  have:=ih h.2
  simp only [AA,List.length_append,List.length_cons,Int.toNat_natCast];omega
theorem Gt {l : List Int} {k : Nat} (h : k < l.length) : (l.take (k + 1)).all fits = ((l.take k).all fits && fits (l.getD k 0)):=by
 rw [List.take_succ_eq_append_getElem h,List.getD_eq_getElem?_getD,List.getElem?_eq_getElem h,List.all_append];simp
theorem FW {l : List Int} {k : Nat} (h : k < l.length) : AA (l.take (k + 1)) = AA (l.take k) ++ Ck (l.getD k 0).toNat:=by
 rw [List.take_succ_eq_append_getElem h,RG,List.getD_eq_getElem?_getD,List.getElem?_eq_getElem h];simp [AA]
def Bi : Nat → List UInt8 → List Int → List Int × List UInt8 × Int
 | 0,rest,acc => (acc,rest,0)
 | k + 1,rest,acc => if (Ag rest).2.2 = 0 then Bi k (Ag rest).2.1 (acc ++ [((Ag rest).1 : Int)]) else ([],[],(Ag rest).2.2)
def AX : List UInt8 → List Int × List UInt8 × Int
 | [] => ([],[],11)
 | m :: r => Bi m.toNat r []
def EM (x : List Int × List UInt8 × Int) : D:=.tup [.is x.1,.by x.2.1,.i .i64 x.2.2]
theorem Io (b : List UInt8) (hb : b.length < 70368744177664) : Go.Gar.Fn Tryz.prog 248 [.by b] (EM (AX b)):=by
 refine A3 A8 Tryz.func248 rfl rfl (Nat.le_of_ble_eq_true rfl) ?_
 rcases b with _ | ⟨m,r⟩
 ·have nS:=True.intro;obtain ⟨lv,st,ns,nc⟩:=wq [0,2,3,4,5,8,14,15,16,24] [];have sc : No 3:=trivial;refine wk ?_;clear nc ns st lv sc;repeat' (first|with_reducible constructor|(with_reducible intro hc;try simp only[A1] at hc))
  refine ⟨_,_,rfl,rfl,?_⟩;simp [AH,A6,A5,A4,AX,EM]
 have hm:=m.toNat_lt
 simp only [List.length_cons] at hb
 have nS:=True.intro;obtain ⟨lv,st,ns,nc⟩:=wq [0,2,3,4,5,8,14,15,16,24] [];have sc : No 3:=trivial;refine wk ?_;clear nc ns st lv sc;repeat' (first|with_reducible constructor|(with_reducible intro hc;try simp only[A1] at hc))
 refine B3 (A0.J1 2 (.is []) rfl rfl rfl trivial) (by simp) ?_
 refine Aq (α:=Nat × List UInt8 × List Int) (fun x => x.1 ≤ m.toNat ∧ x.2.1.length ≤ r.length ∧ x.2.2.length = x.1 ∧ Bi (m.toNat - x.1) x.2.1 x.2.2 = Bi m.toNat r [])
  (fun x => ⟨[(0,.d (.by (m :: r))),(2,.sl 0 x.2.2.length 1),(3,.d (.by x.2.1)),(4,.d (.i .i64 0)),(14,.d (.i .i64 m.toNat)),(15,.d (.i .i64 x.1))],[.a (.is x.2.2)],34⟩) (fun x => m.toNat - x.1) (0,r,[]) ⟨Nat.zero_le _,Nat.le_refl _,rfl,rfl⟩ ?_ (by simp) ?_
 ·exact A0.ck rfl
 rintro ⟨k,rest,acc⟩ ⟨hk,hrl,hal,hT⟩
 simp only at hk hrl hal hT
 have hl:=EA rest
 have hv:=O6 rest
 by_cases hkm : k < m.toNat
 ·rw [show m.toNat - k = (m.toNat - (k + 1)) + 1 by omega] at hT
  simp only [Bi] at hT
  by_cases he : (Ag rest).2.2 = 0
  ·rw [if_pos he] at hT
   have nS:=And.intro he @Bg.eq_1;obtain ⟨lv,st,ns,nc⟩:=wq [0,2,3,4,5,8,14,15,16,24] [];have c1:=NP rest (by omega);have sc : No 3:=trivial;refine wk ?_;clear nc ns st lv sc c1;repeat' (first|with_reducible constructor|(with_reducible intro hc;try simp only[A1] at hc))
   refine ⟨(k + 1,(Ag rest).2.1,acc ++ [((Ag rest).1 : Int)]),⟨hkm,by simp only;omega,by simp;omega,hT⟩,by simp only;omega,by simp,?_⟩
   exact A0.ck rfl
  ·rw [if_neg he] at hT
   have nS:=@Bg.eq_1;obtain ⟨lv,st,ns,nc⟩:=wq [0,2,3,4,5,8,14,15,16,24] [];have c1:=NP rest (by omega);have sc : No 3:=trivial;refine wk ?_;clear nc ns st lv sc c1;repeat' (first|with_reducible constructor|(with_reducible intro hc;try simp only[A1] at hc))
   have e : AX (m :: r) = ([],[],(Ag rest).2.2):=hT.symm
   refine ⟨_,_,rfl,rfl,?_⟩;simp [AH,A6,A5,A4,e,EM]
 ·have e : k = m.toNat:=by omega
  subst e
  rw [Nat.sub_self] at hT
  have e : AX (m :: r) = (acc,rest,0):=hT.symm
  have nS:=True.intro;obtain ⟨lv,st,ns,nc⟩:=wq [0,2,3,4,5,8,14,15,16,24] [];have c1:=PH rest (by omega);have sc : No 3:=trivial;refine wk ?_;clear nc ns st lv sc c1;repeat' (first|with_reducible constructor|(with_reducible intro hc;try simp only[A1] at hc))
  refine ⟨_,_,rfl,rfl,?_⟩;simp [AH,A6,A5,A4,e,EM]
def Dj (n k : Nat) : List UInt8:=(List.range k).map fun j => X0 n (k - 1 - j)
theorem Ex (n k : Nat) : Dj n (k + 1) = X0 n k :: Dj n k:=by
 simp only [Dj,List.range_succ_eq_map,List.map_cons,List.map_map]
 refine congr (congrArg _ (by simp)) ?_
 apply List.map_congr_left
 intro j _
 simp only [Function.comp]
 congr 1;omega
theorem IK (a : Nat) (h : a < 4611686018427387904) : E0 .i64 (a : Int) = true:=by
 simp only [E0,Bool.and_eq_true,decide_eq_true_eq];constructor <;> omega
theorem size_pos {n k : Nat} : 0 < n / 256 ^ k ↔ k < size n:=by
 have hp : 0 < 256 ^ k:=Nat.pow_pos (by decide)
 rw [Nat.div_pos_iff]
 have e : 256 ^ k = 2 ^ (8 * k):=by rw [Nat.pow_mul]
 obtain ⟨h1,h2⟩:=(LX (n:=n) (k:=GM n)).1 rfl
 unfold size
 constructor
 ·rintro ⟨_,h⟩
  rcases Nat.lt_or_ge (8 * k) (GM n) with h3 | h3
  ·omega
  ·have : 2 ^ GM n ≤ 2 ^ (8 * k):=Nat.pow_le_pow_right (by decide) h3
   omega
 ·intro h
  refine ⟨hp,?_⟩
  rcases h2 with h2 | h2
  ·omega
  ·have : 2 ^ (8 * k) ≤ 2 ^ (GM n - 1):=Nat.pow_le_pow_right (by decide) (by omega)
   omega
theorem Qo (n : Int) : Go.Gar.Fn Tryz.prog 252 [.i .i64 n] (.tup [.by (Nb n).1,.i .i64 (Nb n).2]):=by
 by_cases hf : fits n = true
 ·obtain ⟨m,rfl,hm⟩:=Hm hf
  have hs:=size_le m (by omega)
  refine A3 A8 Tryz.func252 rfl rfl (Nat.le_of_ble_eq_true rfl) ?_
  have nS:=True.intro;obtain ⟨lv,st,ns,nc⟩:=wq [0,2,3,4,10,12] [];refine wk ?_;clear nc ns st lv;repeat' (first|with_reducible constructor|(with_reducible intro hc;try simp only[A1] at hc))
  refine B3 (A0.e0 4 (.by []) rfl rfl rfl trivial) (by simp) ?_
  refine Aq (fun k => k ≤ size m) (fun k : Nat => ⟨[(0,.d (.i .i64 (m / 256 ^ k : Nat))),(2,.e0),(3,.d (.i .i64 0)),(4,.d (.by (Dj m k)))],[],27⟩) (fun k => size m - k) 0 (Nat.zero_le _) ?_ (by simp) ?_
  ·exact A0.ck rfl
  intro k hk
  have hsp:=size_pos (n:=m) (k:=k)
  have hle : m / 256 ^ k ≤ m:=Nat.div_le_self _ _
  have hll : (Dj m k).length = k:=by simp [Dj]
  by_cases hkm : k < size m
  ·have hp:=hsp.2 hkm
   have e1 : ((m / 256 ^ k : Nat) : Int).tmod 256 = ((m / 256 ^ k % 256 : Nat) : Int):=by
    rw [Int.tmod_eq_emod_of_nonneg (by omega)];rfl
   have e2 : ((m / 256 ^ k % 256 : Nat) : Int) % 256 = ((m / 256 ^ k % 256 : Nat) : Int):=by omega
   have e3 : ((m / 256 ^ k : Nat) : Int).tdiv 256 = ((m / 256 ^ (k + 1) : Nat) : Int):=by
    rw [Int.tdiv_eq_ediv_of_nonneg (by omega),Nat.pow_succ,← Nat.div_div_eq_div_mul];rfl
   have e4 : (UInt8.ofNat (m / 256 ^ k % 256) :: Dj m k) = Dj m (k + 1):=(Ex m k).symm
   have hle' : m / 256 ^ (k + 1) ≤ m:=Nat.div_le_self _ _
   have nS:=And.intro e1 (And.intro e2 (And.intro e3 e4));obtain ⟨lv,st,ns,nc⟩:=wq [0,2,3,4,10,12] [];have ow : Lv [16]:=trivial;refine wk ?_;clear nc ns st lv ow;repeat' (first|with_reducible constructor|(with_reducible intro hc;try simp only[A1] at hc))
   rotate_left
   ·rw [e3];exact Cl rfl (IK _ (by omega))
   refine ⟨k + 1,hkm,by omega,Nat.zero_le _,?_⟩
   refine A0.trans' (A0.Sx 4 0 (x:=.by (Dj m (k + 1))) (congrArg (fun z => some (A7.a (D.by z))) e4) rfl rfl) ?_ (Nat.zero_le _)
   exact A0.ck rfl
  ·have e : k = size m:=by omega
   subst e
   have h0 : m / 256 ^ size m = 0:=Nat.eq_zero_of_not_pos (fun h => absurd (hsp.1 h) (Nat.lt_irrefl _))
   have e5 : ((size m : Nat) : Int) % 256 = size m:=by omega
   have e6 : Dj m (size m) = GD m:=rfl
   have e7 : (GD m).length = size m:=by simp [GD]
   have nS:=And.intro h0 (And.intro e5 (And.intro e6 e7));obtain ⟨lv,st,ns,nc⟩:=wq [0,2,3,4,10,12] [];have ow : Lv [24]:=trivial;refine wk ?_;clear nc ns st lv ow;repeat' (first|with_reducible constructor|(with_reducible intro hc;try simp only[A1] at hc))
   refine ⟨_,_,rfl,rfl,?_⟩;simp [AH,A6,A5,A4,Nb,hf,Ck,e6,e7]
 ·have hf' : fits n = false:=by simpa using hf
  have hc' : n < 0 ∨ n > 1099511627776:=by simp [fits] at hf';omega
  refine A3 A8 Tryz.func252 rfl rfl (Nat.le_of_ble_eq_true rfl) ?_
  have nS:=True.intro;obtain ⟨lv,st,ns,nc⟩:=wq [0,2,3,4,10,12] [];refine wk ?_;clear nc ns st lv;repeat' (first|with_reducible constructor|(with_reducible intro hc;try simp only[A1] at hc))
  all_goals first
   | (refine ⟨_,_,rfl,rfl,?_⟩;simp [AH,A6,A5,A4,Nb,hf'];done)
   | (exfalso;omega)
end Go.Proofs.YtagnjflbhjmefaaGreat
namespace Go.Proofs.YtagnjflbhjmefaaGreat
namespace Wi
open Go.Gar
set_option maxRecDepth 4000
def BF (s : List UInt8) : List UInt8:=UInt8.ofNat s.length :: s
def B4 (x : Item) : List UInt8:=BF x.key ++ AA [x.value,x.version,CR x.gone]
theorem D1 (b : Bool) : fits (CR b) = true:=by cases b <;> rfl
def BV (m : AE) : List UInt8 :=
 if m.kind = 4 then AA [m.key,CR m.slow] else
 if m.kind = 5 then B4 m.item else
 if m.kind = 6 then BF m.item.key else
 if m.kind = 7 then AA [m.pred + 1] ++ (UInt8.ofNat m.list.length :: AA m.list) else
 if m.kind = 10 then AA [m.place,CR m.done] else
 if m.kind = 11 then AA [m.code] else
 if m.kind = 12 then AA [m.code] ++ (if m.code = 0 then B4 m.item else []) else []
end Wi
end Go.Proofs.YtagnjflbhjmefaaGreat
