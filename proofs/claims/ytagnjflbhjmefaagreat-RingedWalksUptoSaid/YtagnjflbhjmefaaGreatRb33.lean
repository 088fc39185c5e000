/- Part 33 of the texts of this proof, put together by a program and made short.
Conditions: none; what each theorem asks stands in its own hypotheses. -/
import Derived.Test.YtagnjflbhjmefaaGreatRb19
import Derived.KernelRfl
import Derived.RangeFuncIn
import Derived.Sort.Grow
import Derived.Laws.Cover3
import Derived.RecoverIn
import Derived.ProofKit
import Derived.OpenShut
import Derived.CallsIn
import Derived.RangeFuncLeaves
import Derived.OrdersIn
import Derived.TacticsIn
import Derived.ChangeKeysEq
import Derived.Laws.AppendOwn
import Derived.Laws.OwnMore
import Derived.Laws.MakeOwn
import Derived.Laws.Rows
import Derived.Laws.Cells
import Derived.Laws.Tables
import Derived.Laws.CopyRow
import Derived.Laws.Strings
import Derived.Laws.IdiomStrings
import Derived.Laws.BytesArg
import Derived.Test.YtagnjflbhjmefaaGreatProg
set_option linter.unusedSimpArgs false
set_option linter.unusedVariables false
set_option linter.unnecessarySimpa false
set_option maxHeartbeats 40000000
namespace Go.Proofs.YtagnjflbhjmefaaGreat
namespace Wi
open Go.Gar
set_option maxRecDepth 4000
def gH (m : AE) (b : List UInt8) : List A7:=[.c [.ptr 3 0 1],.c [.ptr 2 0 15],.c (mC m),.c [.d (.by b)]]
def gX : List A7:=[.gone,.gone,.c uC,.gone]
theorem GK {env : List (Nat × AV)} {a b c : List AV} {n : Nat} (hc : c.length = 15) : A0 ⟨env,[.c a,.c b,.c c,.gone],n⟩ ⟨[],gX,n⟩ :=
 (A0.us (S:=⟨env,[.c a,.c b,.c c,.gone],n⟩) 2 15 rfl hc.symm).trans' (A0.cut (S':=⟨[],gX,n⟩) rfl trivial ⟨.inl ⟨rfl,rfl⟩,.inl ⟨rfl,rfl⟩,.inr rfl,.inr rfl,trivial⟩ rfl rfl) (Nat.le_refl _)
def Dn (m : AE) (b : List UInt8) : Option (AE × List UInt8) :=
 if m.kind = 4 then match BY b with
  | none => none
  | some (n,b1) => match DF b1 with
   | none => none
   | some (g,b2) => some ({ m with key:=n,slow:=g },b2)
 else if m.kind = 5 then match E1 b with
  | none => none
  | some (x,b1) => some ({ m with item:=x },b1)
 else if m.kind = 6 then match Ej b with
  | none => none
  | some (s,b1) => some ({ m with item:=⟨s,m.item.value,m.item.version,m.item.gone⟩ },b1)
 else if m.kind = 7 then match BY b with
  | none => none
  | some (n,b1) => match Fa b1 with
   | none => none
   | some (l,b2) => some ({ m with pred:=(n : Int) - 1,list:=l },b2)
 else if m.kind = 10 then match BY b with
  | none => none
  | some (n,b1) => match DF b1 with
   | none => none
   | some (g,b2) => some ({ m with place:=n,done:=g },b2)
 else if m.kind = 11 then match BY b with
  | none => none
  | some (n,b1) => some ({ m with code:=n },b1)
 else if m.kind = 12 then match BY b with
  | none => none
  | some (n,b1) => if n = 0 then (match E1 b1 with
   | none => none
   | some (x,b2) => some ({ m with code:=0,item:=x },b2)) else some ({ m with code:=n },b1)
 else some (m,b)
theorem Mn {b r : List UInt8} {n : Nat} (h : BY b = some (n,r)) : n ≤ 1099511627776:=by
 have e:=F7 h
 unfold Ag at e
 split at e
 ·simp at e
 ·split at e
  ·simp at e
  ·split at e
   ·simp at e
   ·split at e
    ·simp at e
    ·rename_i hh
     simp only [Prod.mk.injEq] at e
     simp only [not_or] at hh
     rw [← e.1]
     omega
theorem Yc (m : AE) (b : List UInt8) (hb : b.length < 70368744177664) (n : Nat) (b1 : List UInt8) (h1 : BY b = some (n,b1)) (g : Bool) (b2 : List UInt8) (h2 : DF b1 = some (g,b2)) : BK Tryz.prog 176 [.ptr 0 0 1,.ptr 1 0 1] (gH m b) (.tup []) (gH { m with key:=(n : Int),slow:=g } b2):=by
 have c1:=Al b hb n b1 h1
 have c2:=NI b1 (by have:=Aa h1;omega) g b2 h2
 refine AB A8 Tryz.func176 rfl rfl (Nat.le_of_ble_eq_true rfl) ?_
 unfold gH rH mC at *
 have nS:=True.intro;obtain ⟨lv,st,ns,nc⟩:=wq [0,1] [];have d1:=Ds.mk [3] (c1);have d2:=Ds.mk [3] (c2);have pr : AC [(0,3),(0,5),(1,3),(1,5),(1,8),(4,3)]:=trivial;refine wd ?_;clear nc ns st lv pr d2 d1;repeat' (first|with_reducible constructor|(with_reducible intro hc;try simp only[A1] at hc))
 exact ⟨_,A0.refl _,Nat.le_refl _,_,_,rfl,rfl,rfl,rfl⟩
theorem XM (m : AE) (b : List UInt8) (hb : b.length < 70368744177664) (h1 : BY b = none) : HI Tryz.prog 176 [.ptr 0 0 1,.ptr 1 0 1] (gH m b) (pF 12) gX:=by
 have c1:=Bj b hb h1
 refine BD A8 Tryz.func176 rfl rfl (Nat.le_of_ble_eq_true rfl) ?_
 unfold gH rH mC at *
 have nS:=True.intro;obtain ⟨lv,st,ns,nc⟩:=wq [0,1] [];have x1:=Ds.mk [3] (c1);have pr : AC [(0,3),(1,3),(4,3)]:=trivial;refine wx ?_;clear nc ns st lv pr x1;repeat' (first|with_reducible constructor|(with_reducible intro hc;try simp only[A1] at hc))
 exact ⟨rfl,_,GK rfl,Nat.le_refl _,rfl⟩
theorem XS (m : AE) (b : List UInt8) (hb : b.length < 70368744177664) (n : Nat) (b1 : List UInt8) (h1 : BY b = some (n,b1)) (h2 : DF b1 = none) : HI Tryz.prog 176 [.ptr 0 0 1,.ptr 1 0 1] (gH m b) (pF 12) gX:=by
 have c1:=Al b hb n b1 h1
 have c2:=Mj b1 (by have:=Aa h1;omega) h2
 refine BD A8 Tryz.func176 rfl rfl (Nat.le_of_ble_eq_true rfl) ?_
 unfold gH rH mC at *
 have nS:=True.intro;obtain ⟨lv,st,ns,nc⟩:=wq [0,1] [];have d1:=Ds.mk [3] (c1);have x1:=Ds.mk [3] (c2);have pr : AC [(0,3),(0,5),(1,3),(1,5),(4,3)]:=trivial;refine wx ?_;clear nc ns st lv pr x1 d1;repeat' (first|with_reducible constructor|(with_reducible intro hc;try simp only[A1] at hc))
 exact ⟨rfl,_,GK rfl,Nat.le_refl _,rfl⟩
theorem YK (m : AE) (b : List UInt8) (hb : b.length < 70368744177664) (n : Nat) (b1 : List UInt8) (h1 : BY b = some (n,b1)) (g : Bool) (b2 : List UInt8) (h2 : DF b1 = some (g,b2)) : BK Tryz.prog 184 [.ptr 0 0 1,.ptr 1 0 1] (gH m b) (.tup []) (gH { m with place:=(n : Int),done:=g } b2):=by
 have c1:=Al b hb n b1 h1
 have c2:=NI b1 (by have:=Aa h1;omega) g b2 h2
 refine AB A8 Tryz.func184 rfl rfl (Nat.le_of_ble_eq_true rfl) ?_
 unfold gH rH mC at *
 have nS:=True.intro;obtain ⟨lv,st,ns,nc⟩:=wq [0,1] [];have d1:=Ds.mk [3] (c1);have d2:=Ds.mk [3] (c2);have pr : AC [(0,3),(0,5),(1,3),(1,5),(1,8),(4,3)]:=trivial;refine wd ?_;clear nc ns st lv pr d2 d1;repeat' (first|with_reducible constructor|(with_reducible intro hc;try simp only[A1] at hc))
 exact ⟨_,A0.refl _,Nat.le_refl _,_,_,rfl,rfl,rfl,rfl⟩
theorem Xf (m : AE) (b : List UInt8) (hb : b.length < 70368744177664) (h1 : BY b = none) : HI Tryz.prog 184 [.ptr 0 0 1,.ptr 1 0 1] (gH m b) (pF 12) gX:=by
 have c1:=Bj b hb h1
 refine BD A8 Tryz.func184 rfl rfl (Nat.le_of_ble_eq_true rfl) ?_
 unfold gH rH mC at *
 have nS:=True.intro;obtain ⟨lv,st,ns,nc⟩:=wq [0,1] [];have x1:=Ds.mk [3] (c1);have pr : AC [(0,3),(1,3),(4,3)]:=trivial;refine wx ?_;clear nc ns st lv pr x1;repeat' (first|with_reducible constructor|(with_reducible intro hc;try simp only[A1] at hc))
 exact ⟨rfl,_,GK rfl,Nat.le_refl _,rfl⟩
theorem Wy (m : AE) (b : List UInt8) (hb : b.length < 70368744177664) (n : Nat) (b1 : List UInt8) (h1 : BY b = some (n,b1)) (h2 : DF b1 = none) : HI Tryz.prog 184 [.ptr 0 0 1,.ptr 1 0 1] (gH m b) (pF 12) gX:=by
 have c1:=Al b hb n b1 h1
 have c2:=Mj b1 (by have:=Aa h1;omega) h2
 refine BD A8 Tryz.func184 rfl rfl (Nat.le_of_ble_eq_true rfl) ?_
 unfold gH rH mC at *
 have nS:=True.intro;obtain ⟨lv,st,ns,nc⟩:=wq [0,1] [];have d1:=Ds.mk [3] (c1);have x1:=Ds.mk [3] (c2);have pr : AC [(0,3),(0,5),(1,3),(1,5),(4,3)]:=trivial;refine wx ?_;clear nc ns st lv pr x1 d1;repeat' (first|with_reducible constructor|(with_reducible intro hc;try simp only[A1] at hc))
 exact ⟨rfl,_,GK rfl,Nat.le_refl _,rfl⟩
theorem Y9 (m : AE) (b : List UInt8) (hb : b.length < 70368744177664) (x : Item) (b1 : List UInt8) (h1 : E1 b = some (x,b1)) : BK Tryz.prog 178 [.ptr 0 0 1,.ptr 1 0 1] (gH m b) (.tup []) (gH { m with item:=x } b1):=by
 have c1:=Qp b hb x b1 h1
 obtain ⟨xk,xv,xn,xg⟩:=x
 unfold Item.d Item.cells at c1
 refine AB A8 Tryz.func178 rfl rfl (Nat.le_of_ble_eq_true rfl) ?_
 unfold gH rH mC at *
 have nS:=True.intro;obtain ⟨lv,st,ns,nc⟩:=wq [0,1] [];have d1:=Ds.mk [3] (c1);have pr : AC [(0,2)]:=trivial;refine wd ?_;clear nc ns st lv pr d1;repeat' (first|with_reducible constructor|(with_reducible intro hc;try simp only[A1] at hc))
 exact ⟨_,A0.refl _,Nat.le_refl _,_,_,rfl,rfl,rfl,rfl⟩
theorem We (m : AE) (b : List UInt8) (hb : b.length < 70368744177664) (h1 : E1 b = none) : HI Tryz.prog 178 [.ptr 0 0 1,.ptr 1 0 1] (gH m b) (pF 12) gX:=by
 have c1:=Qg b hb h1
 refine BD A8 Tryz.func178 rfl rfl (Nat.le_of_ble_eq_true rfl) ?_
 unfold gH rH mC at *
 have nS:=True.intro;obtain ⟨lv,st,ns,nc⟩:=wq [0,1] [];have x1:=Ds.mk [3] (c1);have pr : AC [(0,2)]:=trivial;refine wx ?_;clear nc ns st lv pr x1;repeat' (first|with_reducible constructor|(with_reducible intro hc;try simp only[A1] at hc))
 exact ⟨rfl,_,GK rfl,Nat.le_refl _,rfl⟩
theorem YJ (m : AE) (b : List UInt8) (hb : b.length < 70368744177664) (s b1 : List UInt8) (h1 : Ej b = some (s,b1)) : BK Tryz.prog 180 [.ptr 0 0 1,.ptr 1 0 1] (gH m b) (.tup []) (gH { m with item:=⟨s,m.item.value,m.item.version,m.item.gone⟩ } b1):=by
 have c1:=N2 b hb s b1 h1
 refine AB A8 Tryz.func180 rfl rfl (Nat.le_of_ble_eq_true rfl) ?_
 unfold gH rH mC at *
 have nS:=True.intro;obtain ⟨lv,st,ns,nc⟩:=wq [0,1] [];have d1:=Ds.mk [3] (c1);have pr : AC [(0,2)]:=trivial;refine wd ?_;clear nc ns st lv pr d1;repeat' (first|with_reducible constructor|(with_reducible intro hc;try simp only[A1] at hc))
 exact ⟨_,A0.refl _,Nat.le_refl _,_,_,rfl,rfl,rfl,rfl⟩
theorem XA (m : AE) (b : List UInt8) (hb : b.length < 70368744177664) (h1 : Ej b = none) : HI Tryz.prog 180 [.ptr 0 0 1,.ptr 1 0 1] (gH m b) (pF 12) gX:=by
 have c1:=QA b hb h1
 refine BD A8 Tryz.func180 rfl rfl (Nat.le_of_ble_eq_true rfl) ?_
 unfold gH rH mC at *
 have nS:=True.intro;obtain ⟨lv,st,ns,nc⟩:=wq [0,1] [];have x1:=Ds.mk [3] (c1);have pr : AC [(0,2)]:=trivial;refine wx ?_;clear nc ns st lv pr x1;repeat' (first|with_reducible constructor|(with_reducible intro hc;try simp only[A1] at hc))
 exact ⟨rfl,_,GK rfl,Nat.le_refl _,rfl⟩
theorem Yt (m : AE) (b : List UInt8) (hb : b.length < 70368744177664) (n : Nat) (b1 : List UInt8) (h1 : BY b = some (n,b1)) (l : List Int) (b2 : List UInt8) (h2 : Fa b1 = some (l,b2)) : BK Tryz.prog 182 [.ptr 0 0 1,.ptr 1 0 1] (gH m b) (.tup []) (gH { m with pred:=(n : Int) - 1,list:=l } b2):=by
 have c1:=Al b hb n b1 h1
 have c2:=W1 b1 (by have:=Aa h1;omega) l b2 h2
 have hn:=Mn h1
 refine AB A8 Tryz.func182 rfl rfl (Nat.le_of_ble_eq_true rfl) ?_
 unfold gH rH mC at *
 have nS:=True.intro;obtain ⟨lv,st,ns,nc⟩:=wq [0,1] [1];have d1:=Ds.mk [3] (c1);have pr : AC [(0,2)]:=trivial;refine wd ?_;clear nc ns st lv pr d1;repeat' (first|with_reducible constructor|(with_reducible intro hc;try simp only[A1] at hc))
 have nS:=True.intro;obtain ⟨lv,st,ns,nc⟩:=wq [0,1] [];have d1:=Ds.mk [3] (c2);have pr : AC [(0,2)]:=trivial;refine wd ?_;clear nc ns st lv pr d1;repeat' (first|with_reducible constructor|(with_reducible intro hc;try simp only[A1] at hc))
 exact ⟨_,A0.refl _,Nat.le_refl _,_,_,rfl,rfl,rfl,rfl⟩
theorem Wm (m : AE) (b : List UInt8) (hb : b.length < 70368744177664) (h1 : BY b = none) : HI Tryz.prog 182 [.ptr 0 0 1,.ptr 1 0 1] (gH m b) (pF 12) gX:=by
 have c1:=Bj b hb h1
 refine BD A8 Tryz.func182 rfl rfl (Nat.le_of_ble_eq_true rfl) ?_
 unfold gH rH mC at *
 have nS:=True.intro;obtain ⟨lv,st,ns,nc⟩:=wq [0,1] [1];have x1:=Ds.mk [3] (c1);have pr : AC [(0,2)]:=trivial;refine wx ?_;clear nc ns st lv pr x1;repeat' (first|with_reducible constructor|(with_reducible intro hc;try simp only[A1] at hc))
 exact ⟨rfl,_,GK rfl,Nat.le_refl _,rfl⟩
theorem Wg (m : AE) (b : List UInt8) (hb : b.length < 70368744177664) (n : Nat) (b1 : List UInt8) (h1 : BY b = some (n,b1)) (h2 : Fa b1 = none) : HI Tryz.prog 182 [.ptr 0 0 1,.ptr 1 0 1] (gH m b) (pF 12) gX:=by
 have c1:=Al b hb n b1 h1
 have c2:=VP b1 (by have:=Aa h1;omega) h2
 have hn:=Mn h1
 refine BD A8 Tryz.func182 rfl rfl (Nat.le_of_ble_eq_true rfl) ?_
 unfold gH rH mC at *
 have nS:=True.intro;obtain ⟨lv,st,ns,nc⟩:=wq [0,1] [1];have d1:=Ds.mk [3] (c1);have pr : AC [(0,2)]:=trivial;refine wd ?_;clear nc ns st lv pr d1;repeat' (first|with_reducible constructor|(with_reducible intro hc;try simp only[A1] at hc))
 have nS:=True.intro;obtain ⟨lv,st,ns,nc⟩:=wq [0,1] [];have x1:=Ds.mk [3] (c2);have pr : AC [(0,2)]:=trivial;refine wx ?_;clear nc ns st lv pr x1;repeat' (first|with_reducible constructor|(with_reducible intro hc;try simp only[A1] at hc))
 exact ⟨rfl,_,GK rfl,Nat.le_refl _,rfl⟩
theorem YM (m : AE) (b : List UInt8) (hb : b.length < 70368744177664) (n : Nat) (b1 : List UInt8) (h1 : BY b = some (n,b1))  : BK Tryz.prog 185 [.ptr 0 0 1,.ptr 1 0 1] (gH m b) (.tup []) (gH { m with code:=(n : Int) } b1):=by
 have c1:=Al b hb n b1 h1
 refine AB A8 Tryz.func185 rfl rfl (Nat.le_of_ble_eq_true rfl) ?_
 unfold gH rH mC at *
 have nS:=True.intro;obtain ⟨lv,st,ns,nc⟩:=wq [0,1] [];have d1:=Ds.mk [3] (c1);have pr : AC [(0,2)]:=trivial;refine wd ?_;clear nc ns st lv pr d1;repeat' (first|with_reducible constructor|(with_reducible intro hc;try simp only[A1] at hc))
 exact ⟨_,A0.refl _,Nat.le_refl _,_,_,rfl,rfl,rfl,rfl⟩
theorem X8 (m : AE) (b : List UInt8) (hb : b.length < 70368744177664) (h1 : BY b = none) : HI Tryz.prog 185 [.ptr 0 0 1,.ptr 1 0 1] (gH m b) (pF 12) gX:=by
 have c1:=Bj b hb h1
 refine BD A8 Tryz.func185 rfl rfl (Nat.le_of_ble_eq_true rfl) ?_
 unfold gH rH mC at *
 have nS:=True.intro;obtain ⟨lv,st,ns,nc⟩:=wq [0,1] [];have x1:=Ds.mk [3] (c1);have pr : AC [(0,2)]:=trivial;refine wx ?_;clear nc ns st lv pr x1;repeat' (first|with_reducible constructor|(with_reducible intro hc;try simp only[A1] at hc))
 exact ⟨rfl,_,GK rfl,Nat.le_refl _,rfl⟩
theorem YO (m : AE) (b : List UInt8) (hb : b.length < 70368744177664) (n : Nat) (b1 : List UInt8) (h1 : BY b = some (n,b1)) (hn : n ≠ 0) : BK Tryz.prog 186 [.ptr 0 0 1,.ptr 1 0 1] (gH m b) (.tup []) (gH { m with code:=(n : Int) } b1):=by
 have c1:=Al b hb n b1 h1
 have f:=eq_false' (show (n : Int) ≠ 0 by omega)
 refine AB A8 Tryz.func186 rfl rfl (Nat.le_of_ble_eq_true rfl) ?_
 unfold gH rH mC at *
 have nS:=f;obtain ⟨lv,st,ns,nc⟩:=wq [0,1,11] [];have d1:=Ds.mk [3] (c1);have pr : AC [(0,2)]:=trivial;refine wd ?_;clear nc ns st lv pr d1;repeat' (first|with_reducible constructor|(with_reducible intro hc;try simp only[A1] at hc))
 exact ⟨_,A0.refl _,Nat.le_refl _,_,_,rfl,rfl,rfl,rfl⟩
theorem X4 (m : AE) (b : List UInt8) (hb : b.length < 70368744177664) (h1 : BY b = none) : HI Tryz.prog 186 [.ptr 0 0 1,.ptr 1 0 1] (gH m b) (pF 12) gX:=by
 have c1:=Bj b hb h1
 refine BD A8 Tryz.func186 rfl rfl (Nat.le_of_ble_eq_true rfl) ?_
 unfold gH rH mC at *
 have nS:=True.intro;obtain ⟨lv,st,ns,nc⟩:=wq [0,1,11] [];have x1:=Ds.mk [3] (c1);have pr : AC [(0,2)]:=trivial;refine wx ?_;clear nc ns st lv pr x1;repeat' (first|with_reducible constructor|(with_reducible intro hc;try simp only[A1] at hc))
 exact ⟨rfl,_,GK rfl,Nat.le_refl _,rfl⟩
theorem X7 (m : AE) (b : List UInt8) (hb : b.length < 70368744177664) (b1 : List UInt8) (h1 : BY b = some (0,b1)) (x : Item) (b2 : List UInt8) (h2 : E1 b1 = some (x,b2)) : BK Tryz.prog 186 [.ptr 0 0 1,.ptr 1 0 1] (gH m b) (.tup []) (gH { m with code:=0,item:=x } b2):=by
 have c1:=Al b hb 0 b1 h1
 have c2:=Qp b1 (by have:=Aa h1;omega) x b2 h2
 obtain ⟨xk,xv,xn,xg⟩:=x
 unfold Item.d Item.cells at c2
 refine AB A8 Tryz.func186 rfl rfl (Nat.le_of_ble_eq_true rfl) ?_
 unfold gH rH mC at *
 have nS:=True.intro;obtain ⟨lv,st,ns,nc⟩:=wq [0,1,11] [];have d1:=Ds.mk [3] (c1);have d2:=Ds.mk [3] (c2);have pr : AC [(0,2)]:=trivial;refine wd ?_;clear nc ns st lv pr d2 d1;repeat' (first|with_reducible constructor|(with_reducible intro hc;try simp only[A1] at hc))
 exact ⟨_,A0.refl _,Nat.le_refl _,_,_,rfl,rfl,rfl,rfl⟩
theorem X6 (m : AE) (b : List UInt8) (hb : b.length < 70368744177664) (b1 : List UInt8) (h1 : BY b = some (0,b1)) (h2 : E1 b1 = none) : HI Tryz.prog 186 [.ptr 0 0 1,.ptr 1 0 1] (gH m b) (pF 12) gX:=by
 have c1:=Al b hb 0 b1 h1
 have c2:=Qg b1 (by have:=Aa h1;omega) h2
 refine BD A8 Tryz.func186 rfl rfl (Nat.le_of_ble_eq_true rfl) ?_
 unfold gH rH mC at *
 have nS:=True.intro;obtain ⟨lv,st,ns,nc⟩:=wq [0,1,11] [];have d1:=Ds.mk [3] (c1);have x1:=Ds.mk [3] (c2);have pr : AC [(0,2)]:=trivial;refine wx ?_;clear nc ns st lv pr x1 d1;repeat' (first|with_reducible constructor|(with_reducible intro hc;try simp only[A1] at hc))
 exact ⟨rfl,_,GK rfl,Nat.le_refl _,rfl⟩
def Jo (k : Int) : Nat:=if k = 4 then 176 else if k = 5 then 178 else if k = 6 then 180 else if k = 7 then 182 else if k = 10 then 184 else if k = 11 then 185 else 186
theorem VX (m : AE) (b : List UInt8) (hb : b.length < 70368744177664) (h : Dn m b = none) : HI Tryz.prog (Jo m.kind) [.ptr 0 0 1,.ptr 1 0 1] (gH m b) (pF 12) gX:=by
 unfold Dn at h
 unfold Jo
 by_cases h4 : m.kind = 4
 ·rw [if_pos h4] at h ⊢
  split at h
  ·rename_i h1;exact XM m b hb h1
  ·rename_i n b1 h1
   split at h
   ·rename_i h2;exact XS m b hb n b1 h1 h2
   ·cases h
 rw [if_neg h4] at h ⊢
 by_cases h5 : m.kind = 5
 ·rw [if_pos h5] at h ⊢
  split at h
  ·rename_i h1;exact We m b hb h1
  ·cases h
 rw [if_neg h5] at h ⊢
 by_cases h6 : m.kind = 6
 ·rw [if_pos h6] at h ⊢
  split at h
  ·rename_i h1;exact XA m b hb h1
  ·cases h
 rw [if_neg h6] at h ⊢
 by_cases h7 : m.kind = 7
 ·rw [if_pos h7] at h ⊢
  split at h
  ·rename_i h1;exact Wm m b hb h1
  ·rename_i n b1 h1
   split at h
   ·rename_i h2;exact Wg m b hb n b1 h1 h2
   ·cases h
 rw [if_neg h7] at h ⊢
 by_cases h10 : m.kind = 10
 ·rw [if_pos h10] at h ⊢
  split at h
  ·rename_i h1;exact Xf m b hb h1
  ·rename_i n b1 h1
   split at h
   ·rename_i h2;exact Wy m b hb n b1 h1 h2
   ·cases h
 rw [if_neg h10] at h ⊢
 by_cases h11 : m.kind = 11
 ·rw [if_pos h11] at h ⊢
  split at h
  ·rename_i h1;exact X8 m b hb h1
  ·cases h
 rw [if_neg h11] at h ⊢
 split at h
 ·split at h
  ·rename_i h1;exact X4 m b hb h1
  ·rename_i n b1 h1
   split at h
   ·rename_i hn
    subst hn
    split at h
    ·rename_i h2;exact X6 m b hb b1 h1 h2
    ·cases h
   ·cases h
 ·cases h
def special (k : Int) : Prop:=k = 4 ∨ k = 5 ∨ k = 6 ∨ k = 7 ∨ k = 10 ∨ k = 11 ∨ k = 12
theorem Qi (m : AE) (b : List UInt8) (hb : b.length < 70368744177664) (m' : AE) (r : List UInt8) (h : Dn m b = some (m',r)) (hs : special m.kind) : BK Tryz.prog (Jo m.kind) [.ptr 0 0 1,.ptr 1 0 1] (gH m b) (.tup []) (gH m' r):=by
 unfold Dn at h
 unfold Jo
 by_cases h4 : m.kind = 4
 ·rw [if_pos h4] at h ⊢
  split at h
  ·cases h
  ·rename_i n b1 h1
   split at h
   ·cases h
   ·rename_i g b2 h2
    cases h;exact Yc m b hb n b1 h1 g _ h2
 rw [if_neg h4] at h ⊢
 by_cases h5 : m.kind = 5
 ·rw [if_pos h5] at h ⊢
  split at h
  ·cases h
  ·rename_i x b1 h1
   cases h;exact Y9 m b hb x _ h1
 rw [if_neg h5] at h ⊢
 by_cases h6 : m.kind = 6
 ·rw [if_pos h6] at h ⊢
  split at h
  ·cases h
  ·rename_i s b1 h1
   cases h;exact YJ m b hb s _ h1
 rw [if_neg h6] at h ⊢
 by_cases h7 : m.kind = 7
 ·rw [if_pos h7] at h ⊢
  split at h
  ·cases h
  ·rename_i n b1 h1
   split at h
   ·cases h
   ·rename_i l b2 h2
    cases h;exact Yt m b hb n b1 h1 l _ h2
 rw [if_neg h7] at h ⊢
 by_cases h10 : m.kind = 10
 ·rw [if_pos h10] at h ⊢
  split at h
  ·cases h
  ·rename_i n b1 h1
   split at h
   ·cases h
   ·rename_i g b2 h2
    cases h;exact YK m b hb n b1 h1 g _ h2
 rw [if_neg h10] at h ⊢
 by_cases h11 : m.kind = 11
 ·rw [if_pos h11] at h ⊢
  split at h
  ·cases h
  ·rename_i n b1 h1
   cases h;exact YM m b hb n _ h1
 rw [if_neg h11] at h ⊢
 have h12 : m.kind = 12:=by unfold special at hs;omega
 rw [if_pos h12] at h
 split at h
 ·cases h
 ·rename_i n b1 h1
  split at h
  ·rename_i hn
   subst hn
   split at h
   ·cases h
   ·rename_i x b2 h2
    cases h;exact X7 m b hb b1 h1 x _ h2
  ·rename_i hn
   cases h;exact YO m b hb n _ h1 hn
theorem GF (m : AE) (b : List UInt8) (hs : ¬ special m.kind) : Dn m b = some (m,b):=by
 unfold special at hs
 unfold Dn
 rw [if_neg (by omega),if_neg (by omega),if_neg (by omega),if_neg (by omega),if_neg (by omega),if_neg (by omega),if_neg (by omega)]
def PQ : List (D × AV):=[(.i .u8 4,.fn (.func 176) [] [.ptr 3 0 1,.ptr 2 0 1]),(.i .u8 5,.fn (.func 178) [] [.ptr 3 0 1,.ptr 2 0 1]),(.i .u8 6,.fn (.func 180) [] [.ptr 3 0 1,.ptr 2 0 1]),(.i .u8 7,.fn (.func 182) [] [.ptr 3 0 1,.ptr 2 0 1]),
 (.i .u8 10,.fn (.func 184) [] [.ptr 3 0 1,.ptr 2 0 1]),(.i .u8 11,.fn (.func 185) [] [.ptr 3 0 1,.ptr 2 0 1]),(.i .u8 12,.fn (.func 186) [] [.ptr 3 0 1,.ptr 2 0 1])]
theorem IY (m : AE) (b : List UInt8) : BK Tryz.prog 135 [.ptr 0 0 15,.ptr 1 0 1] [.c (mC m),.c [.d (.by b)]] (.mp 4) [.c (mC m),.c [.d (.by b)],.c [.ptr 0 0 15],.c [.ptr 1 0 1],.m PQ]:=by
 refine AB A8 Tryz.func135 rfl rfl (Nat.le_of_ble_eq_true rfl) ?_
 unfold PQ mC
 have nS:=True.intro;obtain ⟨lv,st,ns,nc⟩:=wq [0,1,2,3,4] [];refine wk ?_;clear nc ns st lv;repeat' (first|with_reducible constructor|(with_reducible intro hc;try simp only[A1] at hc))
 exact ⟨_,A0.refl _,Nat.le_of_ble_eq_true rfl,_,_,rfl,rfl,rfl,rfl⟩
theorem LS (H : List A7) : S9 Tryz.prog 132 [.ptr 0 0 15,.ptr 1 0 1] H .returning H:=by
 refine Lz Tryz.func132 rfl rfl (Nat.le_of_ble_eq_true rfl) fun c0 cs hu => ?_
 refine MX (LN ?_)
 refine Yg rfl rfl rfl rfl (.inl ⟨by simp [recoverD,hu],rfl,rfl⟩) ?_
 refine Sq A8 rfl rfl rfl rfl ?_ rfl
 refine QO ?_
 refine MX (Gz ?_)
 refine Kq A8 rfl rfl rfl rfl ?_ rfl
 refine Kn A8 rfl rfl rfl rfl ?_
 refine DU ?_
 refine Q8 rfl (VV ?_)
 exact ⟨.returning,by rw [← hu],rfl,_,A0.refl _,Nat.le_refl _,rfl⟩
def zC : List AV:=[.d (.i .u8 0),.d (.i .i64 0),.d (.i .i64 0),.d (.i .i64 0),.d (.i .i64 0),.d (.b false),.d (.b false),.d (.i .i64 0),.d (.i .i64 0),.e0,.d (.s []),.d (.i .i64 0),.d (.i .i64 0),.d (.b false),.d (.i .i64 0)]
theorem DJ (c0 c1 c2 c3 c4 c5 c6 c7 c8 c9 c10 c11 c12 c13 c14 y : AV) (R : List A7) (n : Int) : S9 Tryz.prog 132 [.ptr 0 0 15,.ptr 1 0 1] (.c [c0,c1,c2,c3,c4,c5,c6,c7,c8,c9,c10,c11,c12,c13,c14] :: .c [y] :: R) (.panicking (pF n)) (.c zC :: .c [.d (.i .i64 n)] :: R):=by
 have hc:=Uj n 12
 refine Lz Tryz.func132 rfl rfl (Nat.le_of_ble_eq_true rfl) fun c0 cs hu => ?_
 refine MX (LN ?_)
 refine Yg (cs':={ c0 with mode:=.panicking [{ v:=.iface 149 (.agg #[.int .i64 n]),recovered:=true }] } :: cs) rfl rfl rfl rfl (.inr ⟨149,.agg #[.int .i64 n],by simp [recoverD,hu,pF],rfl⟩) ?_
 refine Sq A8 rfl rfl rfl rfl ?_ rfl
 refine QO ?_
 refine MX (Gz ?_)
 refine Kq A8 rfl rfl rfl rfl ?_ rfl
 refine Kn A8 rfl rfl rfl rfl ?_
 refine DU ?_
 refine Q8 rfl (Gz ?_)
 refine Kq A8 rfl rfl rfl rfl ?_ rfl
 refine Kq A8 rfl rfl rfl rfl ?_ rfl
 refine KF hc rfl rfl rfl rfl (by simp [IQ,Bt,BQ]) rfl rfl ?_
 refine Kw A8 rfl rfl rfl rfl ?_ rfl
 refine Kw A8 rfl rfl rfl rfl ?_ rfl
 refine DU ?_
 exact ⟨_,rfl,rfl,_,A0.refl _,Nat.le_refl _,rfl⟩
end Wi
end Go.Proofs.YtagnjflbhjmefaaGreat
