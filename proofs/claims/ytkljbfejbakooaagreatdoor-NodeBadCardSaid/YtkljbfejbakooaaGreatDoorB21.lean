/- Part 21 of a proof, put together by a program. Conditions: none beyond those that a theorem states. -/
import Derived.Test.YtkljbfejbakooaaGreatDoorB20
set_option linter.unusedSimpArgs false
set_option linter.unusedVariables false
set_option linter.unnecessarySimpa false
set_option maxHeartbeats 40000000
namespace Go.Proofs.YtkljbfejbakooaaGreatDoor
namespace Wi
open Go.Gar
set_option maxRecDepth 4000
def gH (m : A8) (b : List UInt8) : List A2:=[.c [.ptr 3 0 1],.c [.ptr 2 0 15],.c (mC m),.c [.d (.by b)]]
def gX : List A2:=[.gone,.gone,.c uC,.gone]
theorem H7 {env : List (Nat × AV)} {a b c : List AV} {n : Nat} (hc : c.length = 15) : A1 ⟨env,[.c a,.c b,.c c,.gone],n⟩ ⟨[],gX,n⟩ :=
 (A1.us (S:=⟨env,[.c a,.c b,.c c,.gone],n⟩) 2 15 rfl hc.symm).trans' (A1.cut (S':=⟨[],gX,n⟩) rfl trivial ⟨.inl ⟨rfl,rfl⟩,.inl ⟨rfl,rfl⟩,.inr rfl,.inr rfl,trivial⟩ rfl rfl) (Nat.le_refl _)
def EM (m : A8) (b : List UInt8) : Option (A8 × List UInt8) :=
 if m.kind = 4 then match BV b with
  | none => none
  | some (n,b1) => match Dj b1 with
   | none => none
   | some (g,b2) => some ({ m with key:=n,slow:=g },b2)
 else if m.kind = 5 then match EV b with
  | none => none
  | some (x,b1) => some ({ m with item:=x },b1)
 else if m.kind = 6 then match FU b with
  | none => none
  | some (s,b1) => some ({ m with item:=⟨s,m.item.value,m.item.version,m.item.gone⟩ },b1)
 else if m.kind = 7 then match BV b with
  | none => none
  | some (n,b1) => match Gi b1 with
   | none => none
   | some (l,b2) => some ({ m with pred:=(n : Int) - 1,list:=l },b2)
 else if m.kind = 10 then match BV b with
  | none => none
  | some (n,b1) => match Dj b1 with
   | none => none
   | some (g,b2) => some ({ m with place:=n,done:=g },b2)
 else if m.kind = 11 then match BV b with
  | none => none
  | some (n,b1) => some ({ m with code:=n },b1)
 else if m.kind = 12 then match BV b with
  | none => none
  | some (n,b1) => if n = 0 then (match EV b1 with
   | none => none
   | some (x,b2) => some ({ m with code:=0,item:=x },b2)) else some ({ m with code:=n },b1)
 else some (m,b)
theorem OU {b r : List UInt8} {n : Nat} (h : BV b = some (n,r)) : n ≤ 1099511627776:=by
 have e:=Fv h;unfold AX at e;split at e
 ·simp at e
 ·split at e
  ·simp at e
  ·split at e
   ·simp at e
   ·split at e
    ·simp at e
    ·rename_i hh;simp only [Prod.mk.injEq] at e;simp only [not_or] at hh;rw [← e.1];omega
theorem eP (m : A8) (b : List UInt8) (hb : b.length < 70368744177664) (n : Nat) (b1 : List UInt8) (h1 : BV b = some (n,b1)) (g : Bool) (b2 : List UInt8) (h2 : Dj b1 = some (g,b2)) : B4 Tryz.prog 261 [.ptr 0 0 1,.ptr 1 0 1] (gH m b) (.tup []) (gH { m with key:=(n : Int),slow:=g } b2):=by
 have c1:=Ad b hb n b1 h1;have c2:=O6 b1 (by have:=AR h1;omega) g b2 h2;refine zD A6 Tryz.func261 ?_;unfold gH rH mC at *;have d1:=Ds.mk [3] (c1);have d2:=Ds.mk [3] (c2);refine wd [0,1] [] [(0,3),(0,5),(1,3),(1,5),(1,8),(4,3)] A0 A0 ?_;clear d2 d1;exact ⟨_,A1.refl _,Nat.le_refl _,_,_,rfl,rfl,rfl,rfl⟩
theorem br (m : A8) (b : List UInt8) (hb : b.length < 70368744177664) (h1 : BV b = none) : IE Tryz.prog 261 [.ptr 0 0 1,.ptr 1 0 1] (gH m b) (pF 12) gX:=by
 have c1:=Bl b hb h1;refine zX A6 Tryz.func261 ?_;unfold gH rH mC at *;have x1:=Ds.mk [3] (c1);refine wx [0,1] [] [(0,3),(1,3),(4,3)] A0 A0 ?_;clear x1;exact ⟨rfl,_,H7 rfl,Nat.le_refl _,rfl⟩
theorem bu (m : A8) (b : List UInt8) (hb : b.length < 70368744177664) (n : Nat) (b1 : List UInt8) (h1 : BV b = some (n,b1)) (h2 : Dj b1 = none) : IE Tryz.prog 261 [.ptr 0 0 1,.ptr 1 0 1] (gH m b) (pF 12) gX:=by
 have c1:=Ad b hb n b1 h1;have c2:=O5 b1 (by have:=AR h1;omega) h2;refine zX A6 Tryz.func261 ?_;unfold gH rH mC at *;have d1:=Ds.mk [3] (c1);have x1:=Ds.mk [3] (c2);refine wx [0,1] [] [(0,3),(0,5),(1,3),(1,5),(4,3)] A0 A0 ?_;clear x1 d1;exact ⟨rfl,_,H7 rfl,Nat.le_refl _,rfl⟩
theorem eT (m : A8) (b : List UInt8) (hb : b.length < 70368744177664) (n : Nat) (b1 : List UInt8) (h1 : BV b = some (n,b1)) (g : Bool) (b2 : List UInt8) (h2 : Dj b1 = some (g,b2)) : B4 Tryz.prog 269 [.ptr 0 0 1,.ptr 1 0 1] (gH m b) (.tup []) (gH { m with place:=(n : Int),done:=g } b2):=by
 have c1:=Ad b hb n b1 h1;have c2:=O6 b1 (by have:=AR h1;omega) g b2 h2;refine zD A6 Tryz.func269 ?_;unfold gH rH mC at *;have d1:=Ds.mk [3] (c1);have d2:=Ds.mk [3] (c2);refine wd [0,1] [] [(0,3),(0,5),(1,3),(1,5),(1,8),(4,3)] A0 A0 ?_;clear d2 d1;exact ⟨_,A1.refl _,Nat.le_refl _,_,_,rfl,rfl,rfl,rfl⟩
theorem cE (m : A8) (b : List UInt8) (hb : b.length < 70368744177664) (h1 : BV b = none) : IE Tryz.prog 269 [.ptr 0 0 1,.ptr 1 0 1] (gH m b) (pF 12) gX:=by
 have c1:=Bl b hb h1;refine zX A6 Tryz.func269 ?_;unfold gH rH mC at *;have x1:=Ds.mk [3] (c1);refine wx [0,1] [] [(0,3),(1,3),(4,3)] A0 A0 ?_;clear x1;exact ⟨rfl,_,H7 rfl,Nat.le_refl _,rfl⟩
theorem cF (m : A8) (b : List UInt8) (hb : b.length < 70368744177664) (n : Nat) (b1 : List UInt8) (h1 : BV b = some (n,b1)) (h2 : Dj b1 = none) : IE Tryz.prog 269 [.ptr 0 0 1,.ptr 1 0 1] (gH m b) (pF 12) gX:=by
 have c1:=Ad b hb n b1 h1;have c2:=O5 b1 (by have:=AR h1;omega) h2;refine zX A6 Tryz.func269 ?_;unfold gH rH mC at *;have d1:=Ds.mk [3] (c1);have x1:=Ds.mk [3] (c2);refine wx [0,1] [] [(0,3),(0,5),(1,3),(1,5),(4,3)] A0 A0 ?_;clear x1 d1;exact ⟨rfl,_,H7 rfl,Nat.le_refl _,rfl⟩
theorem eQ (m : A8) (b : List UInt8) (hb : b.length < 70368744177664) (x : Item) (b1 : List UInt8) (h1 : EV b = some (x,b1)) : B4 Tryz.prog 263 [.ptr 0 0 1,.ptr 1 0 1] (gH m b) (.tup []) (gH { m with item:=x } b1):=by
 have c1:=TL b hb x b1 h1;obtain ⟨xk,xv,xn,xg⟩:=x;unfold Item.d Item.cells at c1;refine zD A6 Tryz.func263 ?_;unfold gH rH mC at *;have d1:=Ds.mk [3] (c1);refine wd [0,1] [] [(0,2)] A0 A0 ?_;clear d1;exact ⟨_,A1.refl _,Nat.le_refl _,_,_,rfl,rfl,rfl,rfl⟩
theorem bv (m : A8) (b : List UInt8) (hb : b.length < 70368744177664) (h1 : EV b = none) : IE Tryz.prog 263 [.ptr 0 0 1,.ptr 1 0 1] (gH m b) (pF 12) gX:=by
 have c1:=TK b hb h1;refine zX A6 Tryz.func263 ?_;unfold gH rH mC at *;have x1:=Ds.mk [3] (c1);refine wx [0,1] [] [(0,2)] A0 A0 ?_;clear x1;exact ⟨rfl,_,H7 rfl,Nat.le_refl _,rfl⟩
theorem eR (m : A8) (b : List UInt8) (hb : b.length < 70368744177664) (s b1 : List UInt8) (h1 : FU b = some (s,b1)) : B4 Tryz.prog 265 [.ptr 0 0 1,.ptr 1 0 1] (gH m b) (.tup []) (gH { m with item:=⟨s,m.item.value,m.item.version,m.item.gone⟩ } b1):=by
 have c1:=Ol b hb s b1 h1;refine zD A6 Tryz.func265 ?_;unfold gH rH mC at *;have d1:=Ds.mk [3] (c1);refine wd [0,1] [] [(0,2)] A0 A0 ?_;clear d1;exact ⟨_,A1.refl _,Nat.le_refl _,_,_,rfl,rfl,rfl,rfl⟩
theorem bw (m : A8) (b : List UInt8) (hb : b.length < 70368744177664) (h1 : FU b = none) : IE Tryz.prog 265 [.ptr 0 0 1,.ptr 1 0 1] (gH m b) (pF 12) gX:=by
 have c1:=Te b hb h1;refine zX A6 Tryz.func265 ?_;unfold gH rH mC at *;have x1:=Ds.mk [3] (c1);refine wx [0,1] [] [(0,2)] A0 A0 ?_;clear x1;exact ⟨rfl,_,H7 rfl,Nat.le_refl _,rfl⟩
theorem eS (m : A8) (b : List UInt8) (hb : b.length < 70368744177664) (n : Nat) (b1 : List UInt8) (h1 : BV b = some (n,b1)) (l : List Int) (b2 : List UInt8) (h2 : Gi b1 = some (l,b2)) : B4 Tryz.prog 267 [.ptr 0 0 1,.ptr 1 0 1] (gH m b) (.tup []) (gH { m with pred:=(n : Int) - 1,list:=l } b2):=by
 have c1:=Ad b hb n b1 h1;have c2:=ZH b1 (by have:=AR h1;omega) l b2 h2;have hn:=OU h1;refine zD A6 Tryz.func267 ?_;unfold gH rH mC at *;have d1:=Ds.mk [3] (c1);refine wd [0,1] [1] [(0,2)] A0 A0 ?_;clear d1;have d1:=Ds.mk [3] (c2);refine wd [0,1] [] [(0,2)] A0 A0 ?_;clear d1;exact ⟨_,A1.refl _,Nat.le_refl _,_,_,rfl,rfl,rfl,rfl⟩
theorem bz (m : A8) (b : List UInt8) (hb : b.length < 70368744177664) (h1 : BV b = none) : IE Tryz.prog 267 [.ptr 0 0 1,.ptr 1 0 1] (gH m b) (pF 12) gX:=by
 have c1:=Bl b hb h1;refine zX A6 Tryz.func267 ?_;unfold gH rH mC at *;have x1:=Ds.mk [3] (c1);refine wx [0,1] [1] [(0,2)] A0 A0 ?_;clear x1;exact ⟨rfl,_,H7 rfl,Nat.le_refl _,rfl⟩
theorem cA (m : A8) (b : List UInt8) (hb : b.length < 70368744177664) (n : Nat) (b1 : List UInt8) (h1 : BV b = some (n,b1)) (h2 : Gi b1 = none) : IE Tryz.prog 267 [.ptr 0 0 1,.ptr 1 0 1] (gH m b) (pF 12) gX:=by
 have c1:=Ad b hb n b1 h1;have c2:=ZG b1 (by have:=AR h1;omega) h2;have hn:=OU h1;refine zX A6 Tryz.func267 ?_;unfold gH rH mC at *;have d1:=Ds.mk [3] (c1);refine wd [0,1] [1] [(0,2)] A0 A0 ?_;clear d1;have x1:=Ds.mk [3] (c2);refine wx [0,1] [] [(0,2)] A0 A0 ?_;clear x1;exact ⟨rfl,_,H7 rfl,Nat.le_refl _,rfl⟩
theorem eU (m : A8) (b : List UInt8) (hb : b.length < 70368744177664) (n : Nat) (b1 : List UInt8) (h1 : BV b = some (n,b1))  : B4 Tryz.prog 270 [.ptr 0 0 1,.ptr 1 0 1] (gH m b) (.tup []) (gH { m with code:=(n : Int) } b1):=by
 have c1:=Ad b hb n b1 h1;refine zD A6 Tryz.func270 ?_;unfold gH rH mC at *;have d1:=Ds.mk [3] (c1);refine wd [0,1] [] [(0,2)] A0 A0 ?_;clear d1;exact ⟨_,A1.refl _,Nat.le_refl _,_,_,rfl,rfl,rfl,rfl⟩
theorem cG (m : A8) (b : List UInt8) (hb : b.length < 70368744177664) (h1 : BV b = none) : IE Tryz.prog 270 [.ptr 0 0 1,.ptr 1 0 1] (gH m b) (pF 12) gX:=by
 have c1:=Bl b hb h1;refine zX A6 Tryz.func270 ?_;unfold gH rH mC at *;have x1:=Ds.mk [3] (c1);refine wx [0,1] [] [(0,2)] A0 A0 ?_;clear x1;exact ⟨rfl,_,H7 rfl,Nat.le_refl _,rfl⟩
theorem eV (m : A8) (b : List UInt8) (hb : b.length < 70368744177664) (n : Nat) (b1 : List UInt8) (h1 : BV b = some (n,b1)) (hn : n ≠ 0) : B4 Tryz.prog 271 [.ptr 0 0 1,.ptr 1 0 1] (gH m b) (.tup []) (gH { m with code:=(n : Int) } b1):=by
 have c1:=Ad b hb n b1 h1;have f:=eq_false' (show (n : Int) ≠ 0 by omega);refine zD A6 Tryz.func271 ?_;unfold gH rH mC at *;have d1:=Ds.mk [3] (c1);refine wd [0,1,11] [] [(0,2)] (AG f) A0 ?_;clear d1;exact ⟨_,A1.refl _,Nat.le_refl _,_,_,rfl,rfl,rfl,rfl⟩
theorem cH (m : A8) (b : List UInt8) (hb : b.length < 70368744177664) (h1 : BV b = none) : IE Tryz.prog 271 [.ptr 0 0 1,.ptr 1 0 1] (gH m b) (pF 12) gX:=by
 have c1:=Bl b hb h1;refine zX A6 Tryz.func271 ?_;unfold gH rH mC at *;have x1:=Ds.mk [3] (c1);refine wx [0,1,11] [] [(0,2)] A0 A0 ?_;clear x1;exact ⟨rfl,_,H7 rfl,Nat.le_refl _,rfl⟩
theorem cJ (m : A8) (b : List UInt8) (hb : b.length < 70368744177664) (b1 : List UInt8) (h1 : BV b = some (0,b1)) (x : Item) (b2 : List UInt8) (h2 : EV b1 = some (x,b2)) : B4 Tryz.prog 271 [.ptr 0 0 1,.ptr 1 0 1] (gH m b) (.tup []) (gH { m with code:=0,item:=x } b2):=by
 have c1:=Ad b hb 0 b1 h1;have c2:=TL b1 (by have:=AR h1;omega) x b2 h2;obtain ⟨xk,xv,xn,xg⟩:=x;unfold Item.d Item.cells at c2;refine zD A6 Tryz.func271 ?_;unfold gH rH mC at *;have d1:=Ds.mk [3] (c1);have d2:=Ds.mk [3] (c2);refine wd [0,1,11] [] [(0,2)] A0 A0 ?_;clear d2 d1;exact ⟨_,A1.refl _,Nat.le_refl _,_,_,rfl,rfl,rfl,rfl⟩
theorem cI (m : A8) (b : List UInt8) (hb : b.length < 70368744177664) (b1 : List UInt8) (h1 : BV b = some (0,b1)) (h2 : EV b1 = none) : IE Tryz.prog 271 [.ptr 0 0 1,.ptr 1 0 1] (gH m b) (pF 12) gX:=by
 have c1:=Ad b hb 0 b1 h1;have c2:=TK b1 (by have:=AR h1;omega) h2;refine zX A6 Tryz.func271 ?_;unfold gH rH mC at *;have d1:=Ds.mk [3] (c1);have x1:=Ds.mk [3] (c2);refine wx [0,1,11] [] [(0,2)] A0 A0 ?_;clear x1 d1;exact ⟨rfl,_,H7 rfl,Nat.le_refl _,rfl⟩
def Lo (k : Int) : Nat:=if k = 4 then 261 else if k = 5 then 263 else if k = 6 then 265 else if k = 7 then 267 else if k = 10 then 269 else if k = 11 then 270 else 271
theorem ZN (m : A8) (b : List UInt8) (hb : b.length < 70368744177664) (h : EM m b = none) : IE Tryz.prog (Lo m.kind) [.ptr 0 0 1,.ptr 1 0 1] (gH m b) (pF 12) gX:=by
 unfold EM at h;unfold Lo
 by_cases h4 : m.kind = 4
 ·rw [if_pos h4] at h ⊢;split at h
  ·rename_i h1;exact br m b hb h1
  ·rename_i n b1 h1;split at h
   ·rename_i h2;exact bu m b hb n b1 h1 h2
   ·cases h
 rw [if_neg h4] at h ⊢
 by_cases h5 : m.kind = 5
 ·rw [if_pos h5] at h ⊢;split at h
  ·rename_i h1;exact bv m b hb h1
  ·cases h
 rw [if_neg h5] at h ⊢
 by_cases h6 : m.kind = 6
 ·rw [if_pos h6] at h ⊢;split at h
  ·rename_i h1;exact bw m b hb h1
  ·cases h
 rw [if_neg h6] at h ⊢
 by_cases h7 : m.kind = 7
 ·rw [if_pos h7] at h ⊢;split at h
  ·rename_i h1;exact bz m b hb h1
  ·rename_i n b1 h1;split at h
   ·rename_i h2;exact cA m b hb n b1 h1 h2
   ·cases h
 rw [if_neg h7] at h ⊢
 by_cases h10 : m.kind = 10
 ·rw [if_pos h10] at h ⊢;split at h
  ·rename_i h1;exact cE m b hb h1
  ·rename_i n b1 h1;split at h
   ·rename_i h2;exact cF m b hb n b1 h1 h2
   ·cases h
 rw [if_neg h10] at h ⊢
 by_cases h11 : m.kind = 11
 ·rw [if_pos h11] at h ⊢;split at h
  ·rename_i h1;exact cG m b hb h1
  ·cases h
 rw [if_neg h11] at h ⊢;split at h
 ·split at h
  ·rename_i h1;exact cH m b hb h1
  ·rename_i n b1 h1;split at h
   ·rename_i hn;subst hn;split at h
    ·rename_i h2;exact cI m b hb b1 h1 h2
    ·cases h
   ·cases h
 ·cases h
def special (k : Int) : Prop:=k = 4 ∨ k = 5 ∨ k = 6 ∨ k = 7 ∨ k = 10 ∨ k = 11 ∨ k = 12
theorem TE (m : A8) (b : List UInt8) (hb : b.length < 70368744177664) (m' : A8) (r : List UInt8) (h : EM m b = some (m',r)) (hs : special m.kind) : B4 Tryz.prog (Lo m.kind) [.ptr 0 0 1,.ptr 1 0 1] (gH m b) (.tup []) (gH m' r):=by
 unfold EM at h;unfold Lo
 by_cases h4 : m.kind = 4
 ·rw [if_pos h4] at h ⊢;split at h
  ·cases h
  ·rename_i n b1 h1;split at h
   ·cases h
   ·rename_i g b2 h2;cases h;exact eP m b hb n b1 h1 g _ h2
 rw [if_neg h4] at h ⊢
 by_cases h5 : m.kind = 5
 ·rw [if_pos h5] at h ⊢;split at h
  ·cases h
  ·rename_i x b1 h1;cases h;exact eQ m b hb x _ h1
 rw [if_neg h5] at h ⊢
 by_cases h6 : m.kind = 6
 ·rw [if_pos h6] at h ⊢;split at h
  ·cases h
  ·rename_i s b1 h1;cases h;exact eR m b hb s _ h1
 rw [if_neg h6] at h ⊢
 by_cases h7 : m.kind = 7
 ·rw [if_pos h7] at h ⊢;split at h
  ·cases h
  ·rename_i n b1 h1;split at h
   ·cases h
   ·rename_i l b2 h2;cases h;exact eS m b hb n b1 h1 l _ h2
 rw [if_neg h7] at h ⊢
 by_cases h10 : m.kind = 10
 ·rw [if_pos h10] at h ⊢;split at h
  ·cases h
  ·rename_i n b1 h1;split at h
   ·cases h
   ·rename_i g b2 h2;cases h;exact eT m b hb n b1 h1 g _ h2
 rw [if_neg h10] at h ⊢
 by_cases h11 : m.kind = 11
 ·rw [if_pos h11] at h ⊢;split at h
  ·cases h
  ·rename_i n b1 h1;cases h;exact eU m b hb n _ h1
 rw [if_neg h11] at h ⊢;have h12 : m.kind = 12:=by unfold special at hs;omega
 rw [if_pos h12] at h;split at h
 ·cases h
 ·rename_i n b1 h1;split at h
  ·rename_i hn;subst hn;split at h
   ·cases h
   ·rename_i x b2 h2;cases h;exact cJ m b hb b1 h1 x _ h2
  ·rename_i hn;cases h;exact eV m b hb n _ h1 hn
theorem HH (m : A8) (b : List UInt8) (hs : ¬ special m.kind) : EM m b = some (m,b):=by
 unfold special at hs;unfold EM;rw [if_neg (by omega),if_neg (by omega),if_neg (by omega),if_neg (by omega),if_neg (by omega),if_neg (by omega),if_neg (by omega)]
def RJ : List (D × AV):=[(.i .u8 4,.fn (.func 261) [] [.ptr 3 0 1,.ptr 2 0 1]),(.i .u8 5,.fn (.func 263) [] [.ptr 3 0 1,.ptr 2 0 1]),(.i .u8 6,.fn (.func 265) [] [.ptr 3 0 1,.ptr 2 0 1]),(.i .u8 7,.fn (.func 267) [] [.ptr 3 0 1,.ptr 2 0 1]),
 (.i .u8 10,.fn (.func 269) [] [.ptr 3 0 1,.ptr 2 0 1]),(.i .u8 11,.fn (.func 270) [] [.ptr 3 0 1,.ptr 2 0 1]),(.i .u8 12,.fn (.func 271) [] [.ptr 3 0 1,.ptr 2 0 1])]
theorem K1 (m : A8) (b : List UInt8) : B4 Tryz.prog 182 [.ptr 0 0 15,.ptr 1 0 1] [.c (mC m),.c [.d (.by b)]] (.mp 4) [.c (mC m),.c [.d (.by b)],.c [.ptr 0 0 15],.c [.ptr 1 0 1],.m RJ]:=by
 refine zD A6 Tryz.func182 ?_;unfold RJ mC;refine wk [0,1,2,3,4] [] A0 A0 ?_;exact ⟨_,A1.refl _,Nat.le_of_ble_eq_true rfl,_,_,rfl,rfl,rfl,rfl⟩
theorem Mg (H : List A2) : JY Tryz.prog 179 [.ptr 0 0 15,.ptr 1 0 1] H .returning H:=by
 refine HW Tryz.func179 rfl rfl (Nat.le_of_ble_eq_true rfl) fun c0 cs hu => ?_;refine Gu (HZ ?_)
 refine YN rfl rfl rfl rfl (.inl ⟨by simp [recoverD,hu],rfl,rfl⟩) ?_;refine Sq A6 rfl rfl rfl rfl ?_ rfl;refine Kg ?_;refine Gu (Dm ?_);refine Kq A6 rfl rfl rfl rfl ?_ rfl;refine Kn A6 rfl rfl rfl rfl ?_;refine CJ ?_;refine Ke rfl (SR ?_);exact ⟨.returning,by rw [← hu],rfl,_,A1.refl _,Nat.le_refl _,rfl⟩
def zC : List AV:=[.d (.i .u8 0),.d (.i .i64 0),.d (.i .i64 0),.d (.i .i64 0),.d (.i .i64 0),.d (.b false),.d (.b false),.d (.i .i64 0),.d (.i .i64 0),.e0,.d (.s []),.d (.i .i64 0),.d (.i .i64 0),.d (.b false),.d (.i .i64 0)]
theorem Dl (c0 c1 c2 c3 c4 c5 c6 c7 c8 c9 c10 c11 c12 c13 c14 y : AV) (R : List A2) (n : Int) : JY Tryz.prog 179 [.ptr 0 0 15,.ptr 1 0 1] (.c [c0,c1,c2,c3,c4,c5,c6,c7,c8,c9,c10,c11,c12,c13,c14] :: .c [y] :: R) (.panicking (pF n)) (.c zC :: .c [.d (.i .i64 n)] :: R):=by
 have hc:=PF n 12;refine HW Tryz.func179 rfl rfl (Nat.le_of_ble_eq_true rfl) fun c0 cs hu => ?_
 refine Gu (HZ ?_);refine YN (cs':={ c0 with mode:=.panicking [{ v:=.iface 224 (.agg #[.int .i64 n]),recovered:=true }] } :: cs) rfl rfl rfl rfl (.inr ⟨224,.agg #[.int .i64 n],by simp [recoverD,hu,pF],rfl⟩) ?_;refine Sq A6 rfl rfl rfl rfl ?_ rfl;refine Kg ?_;refine Gu (Dm ?_);refine Kq A6 rfl rfl rfl rfl ?_ rfl;refine Kn A6 rfl rfl rfl rfl ?_;refine CJ ?_;refine Ke rfl (Dm ?_);refine Kq A6 rfl rfl rfl rfl ?_ rfl;refine Kq A6 rfl rfl rfl rfl ?_ rfl;refine KF hc rfl rfl rfl rfl (by simp [I7,BX,B9]) rfl rfl ?_;refine Kw A6 rfl rfl rfl rfl ?_ rfl;refine Kw A6 rfl rfl rfl rfl ?_ rfl;refine CJ ?_;exact ⟨_,rfl,rfl,_,A1.refl _,Nat.le_refl _,rfl⟩
end Wi
end Go.Proofs.YtkljbfejbakooaaGreatDoor
