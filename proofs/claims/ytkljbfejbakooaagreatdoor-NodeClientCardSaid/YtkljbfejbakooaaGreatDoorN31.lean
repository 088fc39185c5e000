/- Part 31 of a proof, put together by a program. Conditions: none beyond those that a theorem states. -/
import Derived.Test.YtkljbfejbakooaaGreatDoorN30
set_option linter.unusedSimpArgs false
set_option linter.unusedVariables false
set_option linter.unnecessarySimpa false
set_option maxHeartbeats 40000000
namespace Go.Proofs.YtkljbfejbakooaaGreatDoor
namespace Wi
open Go.Gar
set_option maxRecDepth 4000
abbrev Fc : List Nat:=[0,2,3,4,5]
def Ha (m : A8) : List UInt8 × Int:=if m.right then (Ay m,0) else ([],2)
theorem TA (m : A8) (hl : m.list.length < 9223372036854775807) : Go.Gar.Fn Tryz.prog 195 [m.d] (.tup [.by (Ha m).1,.i .i64 (Ha m).2]):=by
 cases h : m.right with
 | true =>
  refine E3 (ds:=[m.d]) (R8 m hl h) ?_;simp [Ha,h,FG,Bu,CU,Bi,Jk,AB]
 | false =>
  refine E3 (ds:=[m.d]) (TB m hl h) ?_;simp [Ha,h,FG,Bu,CU,Bi,LD,AB,A7,A4]
def rH (b : List UInt8) : List A5:=[.c [.d (.by b)]]
def By (b : List UInt8) : Option (Nat × List UInt8):=if (Ak b).2.2 = 0 then some ((Ak b).1,(Ak b).2.1) else none
def EK (b : List UInt8) : Option (Bool × List UInt8):=match By b with
 | some (n,r) => if n > 1 then none else some (n == 1,r)
 | none => none
def GW (b : List UInt8) : Option (List UInt8 × List UInt8):=if (AN b).2.2 = 0 then some ((AN b).1,(AN b).2.1) else none
def Ht (b : List UInt8) : Option (List Int × List UInt8):=if (AZ b).2.2 = 0 then some ((AZ b).1,(AZ b).2.1) else none
def F9 (b : List UInt8) : Option (Item × List UInt8):=match GW b with
 | none => none
 | some (k,b1) => match By b1 with
  | none => none
  | some (v,b2) => match By b2 with
   | none => none
   | some (n,b3) => match EK b3 with
    | none => none
    | some (g,b4) => some (⟨k,v,n,g⟩,b4)
variable {b r : List UInt8} {n : Nat}
theorem H5 (h : By b = some (n,r)) : Ak b = (n,r,0):=by
 unfold By at h;split at h
 ·rename_i e;cases h;rw [← e]
 ·cases h
theorem P5 (h : By b = none) : (Ak b).2.2 ≠ 0:=by
 unfold By at h;split at h
 ·cases h
 ·assumption
variable {s : List UInt8}
theorem Jy (h : GW b = some (s,r)) : AN b = (s,r,0):=by
 unfold GW at h;split at h
 ·rename_i e;cases h;rw [← e]
 ·cases h
theorem UJ (h : GW b = none) : (AN b).2.2 ≠ 0:=by
 unfold GW at h;split at h
 ·cases h
 ·assumption
theorem Jx {l : List Int} (h : Ht b = some (l,r)) : AZ b = (l,r,0):=by
 unfold Ht at h;split at h
 ·rename_i e;cases h;rw [← e]
 ·cases h
theorem UI (h : Ht b = none) : (AZ b).2.2 ≠ 0:=by
 unfold Ht at h;split at h
 ·cases h
 ·assumption
theorem FX (b : List UInt8) : (Ak b).2.1.length ≤ b.length:=by
 unfold Ak;split
 ·simp
 ·repeat' split
  all_goals simp
  omega
theorem Ab (h : By b = some (n,r)) : r.length ≤ b.length:=by
 have:=FX b;rw [H5 h] at this;exact this
theorem J6 (h : GW b = some (s,r)) : r.length ≤ b.length:=by
 have e:=Jy h;unfold AN at e;split at e
 ·simp at e
 ·split at e
  ·simp at e
  ·simp only [Prod.mk.injEq] at e;rw [← e.2.1];simp;omega
theorem La {g : Bool} (h : EK b = some (g,r)) : r.length ≤ b.length:=by
 unfold EK at h;split at h
 ·rename_i n r' e;split at h
  ·cases h
  ·cases h;exact Ab e
 ·cases h
theorem Av (b : List UInt8) (hb : b.length < 70368744177664) (n : Nat) (r : List UInt8) (h : By b = some (n,r)) : Ao Tryz.prog 260 [.ptr 0 0 1] (rH b) (.d (.i .i64 n)) (rH r):=by
 have ht:=MK b hb;rw [H5 h] at ht;unfold CB at ht;refine zD A6 Tryz.func260 ?_;unfold rH;refine wk Fc [] A0 (Aj @ht (FW 12)) ?_;exact ⟨⟨[(2,.d (.i .i64 n))],rH r,Tryz.f260.ntmps⟩,(A3.ck rfl),Nat.le_refl _,_,_,rfl,rfl,rfl,rfl⟩
theorem CE (b : List UInt8) (hb : b.length < 70368744177664) (h : By b = none) : Jj Tryz.prog 260 [.ptr 0 0 1] (rH b) (pF 12) [.gone]:=by
 have ht:=MK b hb;unfold CB at ht;have hd:=ND (Ak b).2.2 12 (P5 h);refine zX A6 Tryz.func260 ?_;unfold rH;have x1:=Ds.mk [] (hd);refine wx Fc [] [] A0 (AF @ht) ?_;clear x1;exact ⟨rfl,⟨[],[.gone],Tryz.f260.ntmps⟩,(A3.ck rfl),Nat.le_refl _,rfl⟩
theorem Qr (b : List UInt8) (hb : b.length < 70368744177664) (s r : List UInt8) (h : GW b = some (s,r)) : Ao Tryz.prog 266 [.ptr 0 0 1] (rH b) (.d (.s s)) (rH r):=by
 have ht:=Ls b hb;rw [Jy h] at ht;unfold F7 at ht;refine zD A6 Tryz.func266 ?_;unfold rH;refine wk Fc [] A0 (Aj @ht (FW 12)) ?_;exact ⟨⟨[(2,.d (.s s))],rH r,Tryz.f266.ntmps⟩,(A3.ck rfl),Nat.le_refl _,_,_,rfl,rfl,rfl,rfl⟩
theorem W2 (b : List UInt8) (hb : b.length < 70368744177664) (h : GW b = none) : Jj Tryz.prog 266 [.ptr 0 0 1] (rH b) (pF 12) [.gone]:=by
 have ht:=Ls b hb;unfold F7 at ht;have hd:=ND (AN b).2.2 12 (UJ h);refine zX A6 Tryz.func266 ?_;unfold rH;have x1:=Ds.mk [] (hd);refine wx Fc [] [] A0 (AF @ht) ?_;clear x1;exact ⟨rfl,⟨[],[.gone],Tryz.f266.ntmps⟩,(A3.ck rfl),Nat.le_refl _,rfl⟩
theorem de (b : List UInt8) (hb : b.length < 70368744177664) (l : List Int) (r : List UInt8) (h : Ht b = some (l,r)) : Ao Tryz.prog 268 [.ptr 0 0 1] (rH b) (.d (.is l)) (rH r):=by
 have ht:=Lr b hb;rw [Jx h] at ht;unfold G9 at ht;refine zD A6 Tryz.func268 ?_;unfold rH;refine wk Fc [] A0 (Aj @ht (FW 12)) ?_;exact ⟨⟨[(2,.d (.is l))],rH r,Tryz.f268.ntmps⟩,(A3.ck rfl),Nat.le_refl _,_,_,rfl,rfl,rfl,rfl⟩
theorem dc (b : List UInt8) (hb : b.length < 70368744177664) (h : Ht b = none) : Jj Tryz.prog 268 [.ptr 0 0 1] (rH b) (pF 12) [.gone]:=by
 have ht:=Lr b hb;unfold G9 at ht;have hd:=ND (AZ b).2.2 12 (UI h);refine zX A6 Tryz.func268 ?_;unfold rH;have x1:=Ds.mk [] (hd);refine wx Fc [] [] A0 (AF @ht) ?_;clear x1;exact ⟨rfl,⟨[],[.gone],Tryz.f268.ntmps⟩,(A3.ck rfl),Nat.le_refl _,rfl⟩
theorem Q5 (b : List UInt8) (hb : b.length < 70368744177664) (g : Bool) (r : List UInt8) (h : EK b = some (g,r)) : Ao Tryz.prog 262 [.ptr 0 0 1] (rH b) (.d (.b g)) (rH r):=by
 unfold EK at h;split at h
 ·rename_i n r' hn;split at h
  ·cases h
  ·rename_i h1;simp only [Option.some.injEq,Prod.mk.injEq] at h;obtain ⟨rfl,rfl⟩:=h;have ht:=Av b hb n r' hn;have e : ((n : Int) == 1) = (n == 1):=by rw [DK,DK];congr 1;simp;omega
   refine zD A6 Tryz.func262 ?_;unfold rH at *;have d1:=Ds.mk [0] (ht);refine wk [0,2,3,7] [] (AF e) A0 ?_;clear d1;with_reducible repeat' first|constructor|intro hc;try simp only[AD] at hc
   exact ⟨⟨[(2,.d (.b (n == 1)))],rH r',Tryz.f262.ntmps⟩,(A3.ck rfl),Nat.le_refl _,_,_,rfl,rfl,rfl,rfl⟩
 ·cases h
theorem Q4 (b : List UInt8) (hb : b.length < 70368744177664) (h : EK b = none) : Jj Tryz.prog 262 [.ptr 0 0 1] (rH b) (pF 12) [.gone]:=by
 unfold EK at h;refine zX A6 Tryz.func262 ?_;split at h
 ·rename_i n r' hn;split at h
  ·rename_i h1;have ht:=Av b hb n r' hn;unfold rH at *;have d1:=Ds.mk [0] (ht);refine wx [0,2,3,7] [] [] A0 A0 ?_;clear d1;with_reducible repeat' first|constructor|intro hc;try simp only[AD] at hc
   exact ⟨rfl,⟨[],[.gone],Tryz.f262.ntmps⟩,(A3.ck rfl),Nat.le_refl _,rfl⟩
  ·cases h
 ·rename_i hn;have ht:=CE b hb hn;unfold rH at *;have x1:=Ds.mk [0] (ht);refine wx [0,2,3,7] [] [] A0 A0 ?_;clear x1;exact ⟨rfl,⟨[],[.gone],Tryz.f262.ntmps⟩,(A3.ck rfl),Nat.le_refl _,rfl⟩
theorem Vk (b : List UInt8) (hb : b.length < 70368744177664) (x : Item) (r : List UInt8) (h : F9 b = some (x,r)) : Ao Tryz.prog 264 [.ptr 0 0 1] (rH b) (.d x.d) (rH r):=by
 unfold F9 at h;split at h
 ·cases h
 rename_i k b1 h1;split at h
 ·cases h
 rename_i v b2 h2;split at h
 ·cases h
 rename_i n b3 h3;split at h
 ·cases h
 rename_i g b4 h4;simp only [Option.some.injEq,Prod.mk.injEq] at h;obtain ⟨rfl,rfl⟩:=h;have l1:=J6 h1;have l2:=Ab h2;have l3:=Ab h3;have c1:=Qr b hb k b1 h1;have c2:=Av b1 (by omega) v b2 h2;have c3:=Av b2 (by omega) n b3 h3;have c4:=Q5 b3 (by omega) g b4 h4;refine Ao.drop (K:=[.c [.d (.by b4)],.c [.d (.s k),.d (.i .i64 v),.d (.i .i64 n),.d (.b g)]]) _ ?_ ⟨.inr rfl,trivial⟩ rfl rfl rfl;refine zD A6 Tryz.func264 ?_;unfold rH at *;have d1:=Ds.mk [0] (c1);have d2:=Ds.mk [0] (c2);have d3:=Ds.mk [0] (c3);have d4:=Ds.mk [0] (c4);refine wk [0,2] [] A0 A0 ?_;clear d4 d3 d2 d1;exact ⟨_,A3.refl _,Nat.le_add_right _ _,_,_,rfl,rfl,rfl,rfl⟩
theorem Vj (b : List UInt8) (hb : b.length < 70368744177664) (h : F9 b = none) : Jj Tryz.prog 264 [.ptr 0 0 1] (rH b) (pF 12) [.gone]:=by
 refine zX A6 Tryz.func264 ?_
 cases h1 : GW b with
 | none =>
  have c1:=W2 b hb h1;unfold rH at *;have x1:=Ds.mk [0] (c1);refine wx [0,2] [] [] A0 A0 ?_;clear x1;exact ⟨rfl,⟨[],[.gone],Tryz.f264.ntmps⟩,(A3.ck rfl),Nat.le_refl _,rfl⟩
 | some p =>
 obtain ⟨k,b1⟩:=p;have l1:=J6 h1;have c1:=Qr b hb k b1 h1
 cases h2 : By b1 with
 | none =>
  have c2:=CE b1 (by omega) h2;unfold rH at *;have d1:=Ds.mk [0] (c1);have x1:=Ds.mk [0] (c2);refine wx [0,2] [] [] A0 A0 ?_;clear x1 d1;exact ⟨rfl,⟨[],[.gone],Tryz.f264.ntmps⟩,(A3.ck rfl),Nat.le_refl _,rfl⟩
 | some p =>
 obtain ⟨v,b2⟩:=p;have l2:=Ab h2;have c2:=Av b1 (by omega) v b2 h2
 cases h3 : By b2 with
 | none =>
  have c3:=CE b2 (by omega) h3;unfold rH at *;have d1:=Ds.mk [0] (c1);have d2:=Ds.mk [0] (c2);have x1:=Ds.mk [0] (c3);refine wx [0,2] [] [] A0 A0 ?_;clear x1 d2 d1;exact ⟨rfl,⟨[],[.gone],Tryz.f264.ntmps⟩,(A3.ck rfl),Nat.le_refl _,rfl⟩
 | some p =>
 obtain ⟨n,b3⟩:=p;have l3:=Ab h3;have c3:=Av b2 (by omega) n b3 h3
 cases h4 : EK b3 with
 | none =>
  have c4:=Q4 b3 (by omega) h4;unfold rH at *;have d1:=Ds.mk [0] (c1);have d2:=Ds.mk [0] (c2);have d3:=Ds.mk [0] (c3);have x1:=Ds.mk [0] (c4);refine wx [0,2] [] [] A0 A0 ?_;clear x1 d3 d2 d1;exact ⟨rfl,⟨[],[.gone],Tryz.f264.ntmps⟩,(A3.ck rfl),Nat.le_refl _,rfl⟩
 | some p =>
  unfold F9 at h;simp only [h1,h2,h3,h4] at h;cases h
theorem P7 {x : Item} (h : F9 b = some (x,r)) : r.length ≤ b.length:=by
 unfold F9 at h;split at h
 ·cases h
 rename_i k b1 h1;split at h
 ·cases h
 rename_i v b2 h2;split at h
 ·cases h
 rename_i n b3 h3;split at h
 ·cases h
 rename_i g b4 h4;simp only [Option.some.injEq,Prod.mk.injEq] at h;obtain ⟨rfl,rfl⟩:=h;have l1:=J6 h1;have l2:=Ab h2;have l3:=Ab h3;have l4:=La h4;omega
def EL (m : A8) (b : List UInt8) : Option (A8 × List UInt8):=match By b with
 | none => none
 | some (k,b1) => if k ≥ 13 then none else match By b1 with
  | none => none
  | some (c,b2) => match By b2 with
   | none => none
   | some (s,b3) => match By b3 with
    | none => none
    | some (d,b4) => some ({ m with kind:=k,call:=c,src:=s,dst:=d },b4)
def hH (m : A8) (b : List UInt8) : List A5:=[.c [.d (.by b)],.c (mC m)]
def uC : List AV:=List.replicate 15 .u
theorem Q9 (m : A8) (b : List UInt8) (hb : b.length < 70368744177664) (m' : A8) (r : List UInt8) (h : EL m b = some (m',r)) : Ao Tryz.prog 181 [.ptr 0 0 1,.ptr 1 0 15] (hH m b) (.tup []) (hH m' r):=by
 unfold EL at h;split at h
 ·cases h
 rename_i k b1 h1;split at h
 ·cases h
 rename_i hk;split at h
 ·cases h
 rename_i c b2 h2;split at h
 ·cases h
 rename_i s b3 h3;split at h
 ·cases h
 rename_i d b4 h4;simp only [Option.some.injEq,Prod.mk.injEq] at h;obtain ⟨rfl,rfl⟩:=h;have l1:=Ab h1;have l2:=Ab h2;have l3:=Ab h3;have c1:=Av b hb k b1 h1;have c2:=Av b1 (by omega) c b2 h2;have c3:=Av b2 (by omega) s b3 h3;have c4:=Av b3 (by omega) d b4 h4;have e : (k : Int) % 256 = k:=by omega
 refine zD A6 Tryz.func181 ?_;unfold rH hH mC at *;have d1:=Ds.mk [0] (c1);have d2:=Ds.mk [0] (c2);have d3:=Ds.mk [0] (c3);have d4:=Ds.mk [0] (c4);refine wk [0,1,4,8] [] (AF e) A0 ?_;clear d4 d3 d2 d1;with_reducible repeat' first|constructor|intro hc;try simp only[AD] at hc
 exact ⟨_,A3.refl _,Nat.le_refl _,_,_,rfl,rfl,rfl,rfl⟩
theorem iy {E : Nat → Option Ad} {env : List (Nat × AV)} {cs : List AV} (hcs : cs.length = 15) : A3 ⟨env,[.c [.d (.by b)],.c cs],n⟩ ⟨[],[.gone,.c uC],n⟩ :=
 (A3.us (S:=⟨env,[.c [.d (.by b)],.c cs],n⟩) 1 15 rfl hcs.symm).trans' (A3.cut (S':=⟨[],[.gone,.c uC],n⟩) rfl trivial ⟨.inl ⟨rfl,rfl⟩,.inr rfl,trivial⟩ rfl rfl) (Nat.le_refl _)
theorem dS (m : A8) (b : List UInt8) (hb : b.length < 70368744177664) (h : EL m b = none) : Jj Tryz.prog 181 [.ptr 0 0 1,.ptr 1 0 15] (hH m b) (pF 12) [.gone,.c uC]:=by
 refine zX A6 Tryz.func181 ?_;unfold EL at h
 cases h1 : By b with
 | none =>
  have c1:=CE b hb h1;unfold hH rH mC at *;have x1:=Ds.mk [0] (c1);refine wx [0,1,4,8] [] [] A0 A0 ?_;clear x1;exact ⟨rfl,_,(A3.us (S:=⟨_,[.gone,.c _],_⟩) 1 15 rfl rfl),Nat.le_refl _,rfl⟩
 | some p =>
 obtain ⟨k,b1⟩:=p;rw [h1] at h;simp only at h;have l1:=Ab h1;have c1:=Av b hb k b1 h1;split at h
 ·rename_i hk;unfold hH rH mC at *;have d1:=Ds.mk [0] (c1);refine wx [0,1,4,8] [] [] A0 A0 ?_;clear d1;with_reducible repeat' first|constructor|intro hc;try simp only[AD] at hc
  exact ⟨rfl,_,iy (E:=T.get) rfl,Nat.le_refl _,rfl⟩
 rename_i hk;have e : (k : Int) % 256 = k:=by omega
 cases h2 : By b1 with
 | none =>
  have c2:=CE b1 (by omega) h2;unfold hH rH mC at *;have d1:=Ds.mk [0] (c1);have x1:=Ds.mk [0] (c2);refine wx [0,1,4,8] [] [] (AF e) A0 ?_;clear x1 d1;with_reducible repeat' first|constructor|intro hc;try simp only[AD] at hc
  exact ⟨rfl,_,(A3.us (S:=⟨_,[.gone,.c _],_⟩) 1 15 rfl rfl),Nat.le_refl _,rfl⟩
 | some p =>
 obtain ⟨c,b2⟩:=p;rw [h2] at h;simp only at h;have l2:=Ab h2;have c2:=Av b1 (by omega) c b2 h2
 cases h3 : By b2 with
 | none =>
  have c3:=CE b2 (by omega) h3;unfold hH rH mC at *;have d1:=Ds.mk [0] (c1);have d2:=Ds.mk [0] (c2);have x1:=Ds.mk [0] (c3);refine wx [0,1,4,8] [] [] (AF e) A0 ?_;clear x1 d2 d1;with_reducible repeat' first|constructor|intro hc;try simp only[AD] at hc
  exact ⟨rfl,_,(A3.us (S:=⟨_,[.gone,.c _],_⟩) 1 15 rfl rfl),Nat.le_refl _,rfl⟩
 | some p =>
 obtain ⟨s,b3⟩:=p;rw [h3] at h;simp only at h;have l3:=Ab h3;have c3:=Av b2 (by omega) s b3 h3
 cases h4 : By b3 with
 | none =>
  have c4:=CE b3 (by omega) h4;unfold hH rH mC at *;have d1:=Ds.mk [0] (c1);have d2:=Ds.mk [0] (c2);have d3:=Ds.mk [0] (c3);have x1:=Ds.mk [0] (c4);refine wx [0,1,4,8] [] [] (AF e) A0 ?_;clear x1 d3 d2 d1;with_reducible repeat' first|constructor|intro hc;try simp only[AD] at hc
  exact ⟨rfl,_,(A3.us (S:=⟨_,[.gone,.c _],_⟩) 1 15 rfl rfl),Nat.le_refl _,rfl⟩
 | some p =>
  rw [h4] at h;cases h
theorem Lc {m m' : A8} (h : EL m b = some (m',r)) : r.length ≤ b.length:=by
 unfold EL at h;split at h
 ·cases h
 rename_i k b1 h1;split at h
 ·cases h
 split at h
 ·cases h
 rename_i c b2 h2;split at h
 ·cases h
 rename_i s b3 h3;split at h
 ·cases h
 rename_i d b4 h4;simp only [Option.some.injEq,Prod.mk.injEq] at h;obtain ⟨rfl,rfl⟩:=h;have l1:=Ab h1;have l2:=Ab h2;have l3:=Ab h3;have l4:=Ab h4;omega
end Wi
end Go.Proofs.YtkljbfejbakooaaGreatDoor
namespace Go.Proofs.YtkljbfejbakooaaGreatDoor
namespace Nd
open Go.Gar
open Wi (A8 B7 AU AC B2 mC)
set_option maxRecDepth 4000
theorem Fn.own {P : Program} {f : FuncId} {x a : D} {sz : Nat} {t : Bool} (h : Go.Gar.Fn P f [x,a] (.b t)) : Ao P f [.sl 0 (AB x) sz,.d a] [.a x] (.d (.b t)) [.a x]:=by
 refine ⟨h.1,fun G w vs hG hR hv => ?_⟩;have hid : G.H[0]? = some (.a x):=by rw [hG];rfl
 have hF:=(Jp hR hid).1;have hv2:=AY.Dc hR hid hv;have e1 : AV.Gd 0 x [.sl 0 (AB x) sz,.d a] = [x,a].map .d:=by simp [AV.Gd,AV.Dc]
 rw [e1] at hv2;refine (h.2 _ w vs hF.mem hF.st (Jc.1 hv2)).mono ?_;rintro e w' ⟨v,m',rfl,hr,hle,hok,hnew,ho,ht,hou,hs,hk⟩;have hlow : ∀ b,b < w.heap.size → w'.heap[b]? = w.heap[b]?:=hk
 have hH : AQ G w':=by
  refine ⟨fun id q hq => (hR.blk id q hq).Om (I3.refl G) (fun b N hl hρ => hlow b (EF hR ⟨id,N,q,hq,hl,hρ⟩)) rfl,hR.inj,fun b k v hv => ?_,hR.sep,hR.st⟩;have hc:=hR.mem b k v hv
  have hb : b < w.heap.size:=by
   unfold World.cell? at hc;rcases Nat.lt_or_ge b w.heap.size with hlt | hge
   ·exact hlt
   ·simp [Array.getElem?_eq_none hge] at hc
  rw [World.cell?_of_block (w:=w) (hlow b hb)];exact hc
 exact ⟨_,.d (.b t),G,rfl,⟨rfl,hG⟩,by simp only [RD] at hr;subst hr;simp only [RV,RD],hH,⟨ho,ht,hou,hs,fun b hb ho => ⟨hk b hb,ho⟩,fun _ _ _ hv => .inl hv,I3.refl G⟩⟩
abbrev Kc (j : Job) (lf : AV) : List AV:=[.d (.i .u8 j.what),.d (.i .u8 j.phase),.d (.i .i64 j.look.key),.d (.i .i64 j.look.at_),.d (.i .i64 j.look.hops),.d (.b j.look.slow),.d (.b j.look.found),.d (.i .i64 j.look.code),.d (.s j.item.key),.d (.i .i64 j.item.value),.d (.i .i64 j.item.version),.d (.b j.item.gone),.d (.i .i64 j.owner),lf,.d (.i .i64 j.code)]
end Nd
end Go.Proofs.YtkljbfejbakooaaGreatDoor
namespace Go.Proofs.YtkljbfejbakooaaGreatDoor
namespace Wi
open Go.Gar
set_option maxRecDepth 4000
def gH (m : A8) (b : List UInt8) : List A5:=[.c [.ptr 3 0 1],.c [.ptr 2 0 15],.c (mC m),.c [.d (.by b)]]
def gX : List A5:=[.gone,.gone,.c uC,.gone]
theorem IH {env : List (Nat × AV)} {a b c : List AV} {n : Nat} (hc : c.length = 15) : A3 ⟨env,[.c a,.c b,.c c,.gone],n⟩ ⟨[],gX,n⟩ :=
 (A3.us (S:=⟨env,[.c a,.c b,.c c,.gone],n⟩) 2 15 rfl hc.symm).trans' (A3.cut (S':=⟨[],gX,n⟩) rfl trivial ⟨.inl ⟨rfl,rfl⟩,.inl ⟨rfl,rfl⟩,.inr rfl,.inr rfl,trivial⟩ rfl rfl) (Nat.le_refl _)
def Ey (m : A8) (b : List UInt8) : Option (A8 × List UInt8) :=
 if m.kind = 4 then match By b with
  | none => none
  | some (n,b1) => match EK b1 with
   | none => none
   | some (g,b2) => some ({ m with key:=n,slow:=g },b2)
 else if m.kind = 5 then match F9 b with
  | none => none
  | some (x,b1) => some ({ m with item:=x },b1)
 else if m.kind = 6 then match GW b with
  | none => none
  | some (s,b1) => some ({ m with item:=⟨s,m.item.value,m.item.version,m.item.gone⟩ },b1)
 else if m.kind = 7 then match By b with
  | none => none
  | some (n,b1) => match Ht b1 with
   | none => none
   | some (l,b2) => some ({ m with pred:=(n : Int) - 1,list:=l },b2)
 else if m.kind = 10 then match By b with
  | none => none
  | some (n,b1) => match EK b1 with
   | none => none
   | some (g,b2) => some ({ m with place:=n,done:=g },b2)
 else if m.kind = 11 then match By b with
  | none => none
  | some (n,b1) => some ({ m with code:=n },b1)
 else if m.kind = 12 then match By b with
  | none => none
  | some (n,b1) => if n = 0 then (match F9 b1 with
   | none => none
   | some (x,b2) => some ({ m with code:=0,item:=x },b2)) else some ({ m with code:=n },b1)
 else some (m,b)
theorem QX {b r : List UInt8} {n : Nat} (h : By b = some (n,r)) : n ≤ 1099511627776:=by
 have e:=H5 h;unfold Ak at e;split at e
 ·simp at e
 ·split at e
  ·simp at e
  ·split at e
   ·simp at e
   ·split at e
    ·simp at e
    ·rename_i hh;simp only [Prod.mk.injEq] at e;simp only [not_or] at hh;rw [← e.1];omega
theorem kr (m : A8) (b : List UInt8) (hb : b.length < 70368744177664) (n : Nat) (b1 : List UInt8) (h1 : By b = some (n,b1)) (g : Bool) (b2 : List UInt8) (h2 : EK b1 = some (g,b2)) : Ao Tryz.prog 261 [.ptr 0 0 1,.ptr 1 0 1] (gH m b) (.tup []) (gH { m with key:=(n : Int),slow:=g } b2):=by
 have c1:=Av b hb n b1 h1;have c2:=Q5 b1 (by have:=Ab h1;omega) g b2 h2;refine zD A6 Tryz.func261 ?_;unfold gH rH mC at *;have d1:=Ds.mk [3] (c1);have d2:=Ds.mk [3] (c2);refine wd [0,1] [] [(0,3),(0,5),(1,3),(1,5),(1,8),(4,3)] A0 A0 ?_;clear d2 d1;exact ⟨_,A3.refl _,Nat.le_refl _,_,_,rfl,rfl,rfl,rfl⟩
theorem iU (m : A8) (b : List UInt8) (hb : b.length < 70368744177664) (h1 : By b = none) : Jj Tryz.prog 261 [.ptr 0 0 1,.ptr 1 0 1] (gH m b) (pF 12) gX:=by
 have c1:=CE b hb h1;refine zX A6 Tryz.func261 ?_;unfold gH rH mC at *;have x1:=Ds.mk [3] (c1);refine wx [0,1] [] [(0,3),(1,3),(4,3)] A0 A0 ?_;clear x1;exact ⟨rfl,_,IH rfl,Nat.le_refl _,rfl⟩
theorem iV (m : A8) (b : List UInt8) (hb : b.length < 70368744177664) (n : Nat) (b1 : List UInt8) (h1 : By b = some (n,b1)) (h2 : EK b1 = none) : Jj Tryz.prog 261 [.ptr 0 0 1,.ptr 1 0 1] (gH m b) (pF 12) gX:=by
 have c1:=Av b hb n b1 h1;have c2:=Q4 b1 (by have:=Ab h1;omega) h2;refine zX A6 Tryz.func261 ?_;unfold gH rH mC at *;have d1:=Ds.mk [3] (c1);have x1:=Ds.mk [3] (c2);refine wx [0,1] [] [(0,3),(0,5),(1,3),(1,5),(4,3)] A0 A0 ?_;clear x1 d1;exact ⟨rfl,_,IH rfl,Nat.le_refl _,rfl⟩
theorem kz (m : A8) (b : List UInt8) (hb : b.length < 70368744177664) (n : Nat) (b1 : List UInt8) (h1 : By b = some (n,b1)) (g : Bool) (b2 : List UInt8) (h2 : EK b1 = some (g,b2)) : Ao Tryz.prog 269 [.ptr 0 0 1,.ptr 1 0 1] (gH m b) (.tup []) (gH { m with place:=(n : Int),done:=g } b2):=by
 have c1:=Av b hb n b1 h1;have c2:=Q5 b1 (by have:=Ab h1;omega) g b2 h2;refine zD A6 Tryz.func269 ?_;unfold gH rH mC at *;have d1:=Ds.mk [3] (c1);have d2:=Ds.mk [3] (c2);refine wd [0,1] [] [(0,3),(0,5),(1,3),(1,5),(1,8),(4,3)] A0 A0 ?_;clear d2 d1;exact ⟨_,A3.refl _,Nat.le_refl _,_,_,rfl,rfl,rfl,rfl⟩
theorem ia (m : A8) (b : List UInt8) (hb : b.length < 70368744177664) (h1 : By b = none) : Jj Tryz.prog 269 [.ptr 0 0 1,.ptr 1 0 1] (gH m b) (pF 12) gX:=by
 have c1:=CE b hb h1;refine zX A6 Tryz.func269 ?_;unfold gH rH mC at *;have x1:=Ds.mk [3] (c1);refine wx [0,1] [] [(0,3),(1,3),(4,3)] A0 A0 ?_;clear x1;exact ⟨rfl,_,IH rfl,Nat.le_refl _,rfl⟩
theorem ib (m : A8) (b : List UInt8) (hb : b.length < 70368744177664) (n : Nat) (b1 : List UInt8) (h1 : By b = some (n,b1)) (h2 : EK b1 = none) : Jj Tryz.prog 269 [.ptr 0 0 1,.ptr 1 0 1] (gH m b) (pF 12) gX:=by
 have c1:=Av b hb n b1 h1;have c2:=Q4 b1 (by have:=Ab h1;omega) h2;refine zX A6 Tryz.func269 ?_;unfold gH rH mC at *;have d1:=Ds.mk [3] (c1);have x1:=Ds.mk [3] (c2);refine wx [0,1] [] [(0,3),(0,5),(1,3),(1,5),(4,3)] A0 A0 ?_;clear x1 d1;exact ⟨rfl,_,IH rfl,Nat.le_refl _,rfl⟩
theorem ku (m : A8) (b : List UInt8) (hb : b.length < 70368744177664) (x : Item) (b1 : List UInt8) (h1 : F9 b = some (x,b1)) : Ao Tryz.prog 263 [.ptr 0 0 1,.ptr 1 0 1] (gH m b) (.tup []) (gH { m with item:=x } b1):=by
 have c1:=Vk b hb x b1 h1;obtain ⟨xk,xv,xn,xg⟩:=x;unfold Item.d Item.cells at c1;refine zD A6 Tryz.func263 ?_;unfold gH rH mC at *;have d1:=Ds.mk [3] (c1);refine wd [0,1] [] [(0,2)] A0 A0 ?_;clear d1;exact ⟨_,A3.refl _,Nat.le_refl _,_,_,rfl,rfl,rfl,rfl⟩
theorem iW (m : A8) (b : List UInt8) (hb : b.length < 70368744177664) (h1 : F9 b = none) : Jj Tryz.prog 263 [.ptr 0 0 1,.ptr 1 0 1] (gH m b) (pF 12) gX:=by
 have c1:=Vj b hb h1;refine zX A6 Tryz.func263 ?_;unfold gH rH mC at *;have x1:=Ds.mk [3] (c1);refine wx [0,1] [] [(0,2)] A0 A0 ?_;clear x1;exact ⟨rfl,_,IH rfl,Nat.le_refl _,rfl⟩
theorem kw (m : A8) (b : List UInt8) (hb : b.length < 70368744177664) (s b1 : List UInt8) (h1 : GW b = some (s,b1)) : Ao Tryz.prog 265 [.ptr 0 0 1,.ptr 1 0 1] (gH m b) (.tup []) (gH { m with item:=⟨s,m.item.value,m.item.version,m.item.gone⟩ } b1):=by
 have c1:=Qr b hb s b1 h1;refine zD A6 Tryz.func265 ?_;unfold gH rH mC at *;have d1:=Ds.mk [3] (c1);refine wd [0,1] [] [(0,2)] A0 A0 ?_;clear d1;exact ⟨_,A3.refl _,Nat.le_refl _,_,_,rfl,rfl,rfl,rfl⟩
theorem iX (m : A8) (b : List UInt8) (hb : b.length < 70368744177664) (h1 : GW b = none) : Jj Tryz.prog 265 [.ptr 0 0 1,.ptr 1 0 1] (gH m b) (pF 12) gX:=by
 have c1:=W2 b hb h1;refine zX A6 Tryz.func265 ?_;unfold gH rH mC at *;have x1:=Ds.mk [3] (c1);refine wx [0,1] [] [(0,2)] A0 A0 ?_;clear x1;exact ⟨rfl,_,IH rfl,Nat.le_refl _,rfl⟩
theorem kx (m : A8) (b : List UInt8) (hb : b.length < 70368744177664) (n : Nat) (b1 : List UInt8) (h1 : By b = some (n,b1)) (l : List Int) (b2 : List UInt8) (h2 : Ht b1 = some (l,b2)) : Ao Tryz.prog 267 [.ptr 0 0 1,.ptr 1 0 1] (gH m b) (.tup []) (gH { m with pred:=(n : Int) - 1,list:=l } b2):=by
 have c1:=Av b hb n b1 h1;have c2:=de b1 (by have:=Ab h1;omega) l b2 h2;have hn:=QX h1;refine zD A6 Tryz.func267 ?_;unfold gH rH mC at *;have d1:=Ds.mk [3] (c1);refine wd [0,1] [1] [(0,2)] A0 A0 ?_;clear d1;have d1:=Ds.mk [3] (c2);refine wd [0,1] [] [(0,2)] A0 A0 ?_;clear d1;exact ⟨_,A3.refl _,Nat.le_refl _,_,_,rfl,rfl,rfl,rfl⟩
theorem iY (m : A8) (b : List UInt8) (hb : b.length < 70368744177664) (h1 : By b = none) : Jj Tryz.prog 267 [.ptr 0 0 1,.ptr 1 0 1] (gH m b) (pF 12) gX:=by
 have c1:=CE b hb h1;refine zX A6 Tryz.func267 ?_;unfold gH rH mC at *;have x1:=Ds.mk [3] (c1);refine wx [0,1] [1] [(0,2)] A0 A0 ?_;clear x1;exact ⟨rfl,_,IH rfl,Nat.le_refl _,rfl⟩
theorem iZ (m : A8) (b : List UInt8) (hb : b.length < 70368744177664) (n : Nat) (b1 : List UInt8) (h1 : By b = some (n,b1)) (h2 : Ht b1 = none) : Jj Tryz.prog 267 [.ptr 0 0 1,.ptr 1 0 1] (gH m b) (pF 12) gX:=by
 have c1:=Av b hb n b1 h1;have c2:=dc b1 (by have:=Ab h1;omega) h2;have hn:=QX h1;refine zX A6 Tryz.func267 ?_;unfold gH rH mC at *;have d1:=Ds.mk [3] (c1);refine wd [0,1] [1] [(0,2)] A0 A0 ?_;clear d1;have x1:=Ds.mk [3] (c2);refine wx [0,1] [] [(0,2)] A0 A0 ?_;clear x1;exact ⟨rfl,_,IH rfl,Nat.le_refl _,rfl⟩
theorem l8 (m : A8) (b : List UInt8) (hb : b.length < 70368744177664) (n : Nat) (b1 : List UInt8) (h1 : By b = some (n,b1))  : Ao Tryz.prog 270 [.ptr 0 0 1,.ptr 1 0 1] (gH m b) (.tup []) (gH { m with code:=(n : Int) } b1):=by
 have c1:=Av b hb n b1 h1;refine zD A6 Tryz.func270 ?_;unfold gH rH mC at *;have d1:=Ds.mk [3] (c1);refine wd [0,1] [] [(0,2)] A0 A0 ?_;clear d1;exact ⟨_,A3.refl _,Nat.le_refl _,_,_,rfl,rfl,rfl,rfl⟩
theorem ic (m : A8) (b : List UInt8) (hb : b.length < 70368744177664) (h1 : By b = none) : Jj Tryz.prog 270 [.ptr 0 0 1,.ptr 1 0 1] (gH m b) (pF 12) gX:=by
 have c1:=CE b hb h1;refine zX A6 Tryz.func270 ?_;unfold gH rH mC at *;have x1:=Ds.mk [3] (c1);refine wx [0,1] [] [(0,2)] A0 A0 ?_;clear x1;exact ⟨rfl,_,IH rfl,Nat.le_refl _,rfl⟩
theorem l9 (m : A8) (b : List UInt8) (hb : b.length < 70368744177664) (n : Nat) (b1 : List UInt8) (h1 : By b = some (n,b1)) (hn : n ≠ 0) : Ao Tryz.prog 271 [.ptr 0 0 1,.ptr 1 0 1] (gH m b) (.tup []) (gH { m with code:=(n : Int) } b1):=by
 have c1:=Av b hb n b1 h1;have f:=eq_false' (show (n : Int) ≠ 0 by omega);refine zD A6 Tryz.func271 ?_;unfold gH rH mC at *;have d1:=Ds.mk [3] (c1);refine wd [0,1,11] [] [(0,2)] (AF f) A0 ?_;clear d1;exact ⟨_,A3.refl _,Nat.le_refl _,_,_,rfl,rfl,rfl,rfl⟩
theorem ie (m : A8) (b : List UInt8) (hb : b.length < 70368744177664) (h1 : By b = none) : Jj Tryz.prog 271 [.ptr 0 0 1,.ptr 1 0 1] (gH m b) (pF 12) gX:=by
 have c1:=CE b hb h1;refine zX A6 Tryz.func271 ?_;unfold gH rH mC at *;have x1:=Ds.mk [3] (c1);refine wx [0,1,11] [] [(0,2)] A0 A0 ?_;clear x1;exact ⟨rfl,_,IH rfl,Nat.le_refl _,rfl⟩
theorem ij (m : A8) (b : List UInt8) (hb : b.length < 70368744177664) (b1 : List UInt8) (h1 : By b = some (0,b1)) (x : Item) (b2 : List UInt8) (h2 : F9 b1 = some (x,b2)) : Ao Tryz.prog 271 [.ptr 0 0 1,.ptr 1 0 1] (gH m b) (.tup []) (gH { m with code:=0,item:=x } b2):=by
 have c1:=Av b hb 0 b1 h1;have c2:=Vk b1 (by have:=Ab h1;omega) x b2 h2;obtain ⟨xk,xv,xn,xg⟩:=x;unfold Item.d Item.cells at c2;refine zD A6 Tryz.func271 ?_;unfold gH rH mC at *;have d1:=Ds.mk [3] (c1);have d2:=Ds.mk [3] (c2);refine wd [0,1,11] [] [(0,2)] A0 A0 ?_;clear d2 d1;exact ⟨_,A3.refl _,Nat.le_refl _,_,_,rfl,rfl,rfl,rfl⟩
theorem ii (m : A8) (b : List UInt8) (hb : b.length < 70368744177664) (b1 : List UInt8) (h1 : By b = some (0,b1)) (h2 : F9 b1 = none) : Jj Tryz.prog 271 [.ptr 0 0 1,.ptr 1 0 1] (gH m b) (pF 12) gX:=by
 have c1:=Av b hb 0 b1 h1;have c2:=Vj b1 (by have:=Ab h1;omega) h2;refine zX A6 Tryz.func271 ?_;unfold gH rH mC at *;have d1:=Ds.mk [3] (c1);have x1:=Ds.mk [3] (c2);refine wx [0,1,11] [] [(0,2)] A0 A0 ?_;clear x1 d1;exact ⟨rfl,_,IH rfl,Nat.le_refl _,rfl⟩
end Wi
end Go.Proofs.YtkljbfejbakooaaGreatDoor
namespace Go.Proofs.YtkljbfejbakooaaGreatDoor
namespace Nd
open Go.Gar
open Wi (A8 B7 AU AC B2 mC)
set_option maxRecDepth 4000
theorem Ao.sw {P : Program} {f : FuncId} {args : List AV} {r : AV} {H' : List A5} (p q : Nat) (h : Ao P f args [] r H') (hp : p < H'.length) (hq : q < H'.length) : Ao P f args [] (r.ren (sw p q)) (R1 p q H'):=by
 refine ⟨h.1,fun G w vs hG hR hv => (h.2 G w vs hG hR hv).mono ?_⟩;rintro e w' ⟨v,r',G',rfl,⟨rfl,hH⟩,hrv,hr,hf⟩;have e3 : p < G'.H.length:=by rw [hH];exact hp
 have e4 : q < G'.H.length:=by rw [hH];exact hq
 let K : Gh:=⟨fun j => G'.ρ (Go.Gar.sw p q j),R1 p q G'.H,G'.m⟩
 have up : ∀ id b,G'.H[id]? = some b → K.H[Go.Gar.sw p q id]? = some (b.ren (Go.Gar.sw p q)) ∧ K.ρ (Go.Gar.sw p q id) = G'.ρ id:=by
  intro id b hb;refine ⟨?_,by show G'.ρ (Go.Gar.sw p q (Go.Gar.sw p q id)) = _;rw [Ih]⟩;show (R1 p q G'.H)[Go.Gar.sw p q id]? = _;rw [JF e3 e4,Ih,hb];rfl
 have dn : ∀ j b,K.H[j]? = some b → ∃ b0,G'.H[Go.Gar.sw p q j]? = some b0 ∧ b = b0.ren (Go.Gar.sw p q):=by
  intro j b hb;have hb : (R1 p q G'.H)[j]? = some b:=hb;rw [JF e3 e4,Option.map_eq_some_iff] at hb;obtain ⟨b0,k1,k2⟩:=hb;exact ⟨b0,k1,k2.symm⟩
 have own : ∀ b,Own K b → Own G' b:=by
  rintro b ⟨id,M,blk,h1,h2,h3⟩;obtain ⟨b0,k1,rfl⟩:=dn id blk h1;rw [Cc] at h2;exact ⟨Go.Gar.sw p q id,M,b0,k1,h2,h3⟩
 refine ⟨v,_,K,rfl,⟨rfl,by show R1 p q G'.H = _;rw [hH]⟩,RV.ren (G0:=G') (G:=K) (ι:=Go.Gar.sw p q) (Mem.le_refl _) up hrv,⟨fun j b hb => ?_,fun i j x y b M M' hx hy lx ly r1 r2 => ?_,hr.mem,fun b hb => hr.sep b (own b hb),hr.st⟩,⟨hf.os,hf.tape,hf.output,hf.size,fun b hb hno => ?_,hf.memNew,fun id b hb => ?_,hf.gle.mem⟩⟩
 ·obtain ⟨b0,k1,rfl⟩:=dn j b hb;have:=BR.ren (G0:=G') (G:=K) (ι:=Go.Gar.sw p q) (Mem.le_refl _) up (up _ _ k1).2 (hr.blk _ _ k1);rw [Ih] at this;exact this
 ·obtain ⟨x0,k1,rfl⟩:=dn i x hx;obtain ⟨y0,k2,rfl⟩:=dn j y hy;rw [Cc] at lx ly;have:=hr.inj _ _ _ _ b M M' k1 k2 lx ly r1 r2;rw [← Ih p q i,this,Ih]
 ·obtain ⟨f1,f2⟩:=hf.keep b hb hno;exact ⟨f1,fun h => f2 (own b h)⟩
 ·rw [hG] at hb;simp at hb
theorem Ao.cut {P : Program} {f : FuncId} {args : List AV} {r : AV} {H' : List A5} (K : List A5) (h : Ao P f args [] r H') (hs : Au K H') (ho : Ag K.length K = true) (hx : r.ok K.length = true) : Ao P f args [] r K:=by
 refine ⟨h.1,fun G w vs hG hR hv => (h.2 G w vs hG hR hv).mono ?_⟩;rintro e w' ⟨v,r',G',rfl,⟨rfl,hH⟩,hrv,hr,hf⟩;have hs' : Au K G'.H:=by rw [hH];exact hs
 exact ⟨v,_,G'.cut K,rfl,⟨rfl,rfl⟩,RV.cut hs' hx hrv,hr.cut hs' ho,hf.ghost (Ur.cut hs') (by rw [hG];exact Nat.zero_le _)⟩
end Nd
end Go.Proofs.YtkljbfejbakooaaGreatDoor
