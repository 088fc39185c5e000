/- Part 20 of a proof, put together by a program. Conditions: none beyond those that a theorem states. -/
import Derived.Test.YtkljbfejbakooaaGreatDoorB19
set_option linter.unusedSimpArgs false
set_option linter.unusedVariables false
set_option linter.unnecessarySimpa false
set_option maxHeartbeats 40000000
namespace Go.Proofs.YtkljbfejbakooaaGreatDoor
namespace Wi
open Go.Gar
set_option maxRecDepth 4000
abbrev Ev : List Nat:=[0,2,3,4,5]
def GT (m : A8) : List UInt8 × Int:=if m.right then (Ag m,0) else ([],2)
theorem Qf (m : A8) (hl : m.list.length < 9223372036854775807) : Go.Gar.Fn Tryz.prog 195 [m.d] (.tup [.by (GT m).1,.i .i64 (GT m).2]):=by
 cases h : m.right with
 | true =>
  refine DO (ds:=[m.d]) (Oy m hl h) ?_;simp [GT,h,Eb,BS,C4,By,IF,A9]
 | false =>
  refine DO (ds:=[m.d]) (Qg m hl h) ?_;simp [GT,h,Eb,BS,C4,By,Jb,A9,A4,A3]
def rH (b : List UInt8) : List A2:=[.c [.d (.by b)]]
def BV (b : List UInt8) : Option (Nat × List UInt8):=if (AX b).2.2 = 0 then some ((AX b).1,(AX b).2.1) else none
def Dj (b : List UInt8) : Option (Bool × List UInt8):=match BV b with
 | some (n,r) => if n > 1 then none else some (n == 1,r)
 | none => none
def FU (b : List UInt8) : Option (List UInt8 × List UInt8):=if (AM b).2.2 = 0 then some ((AM b).1,(AM b).2.1) else none
def Gi (b : List UInt8) : Option (List Int × List UInt8):=if (AP b).2.2 = 0 then some ((AP b).1,(AP b).2.1) else none
def EV (b : List UInt8) : Option (Item × List UInt8):=match FU b with
 | none => none
 | some (k,b1) => match BV b1 with
  | none => none
  | some (v,b2) => match BV b2 with
   | none => none
   | some (n,b3) => match Dj b3 with
    | none => none
    | some (g,b4) => some (⟨k,v,n,g⟩,b4)
variable {b r : List UInt8} {n : Nat}
theorem Fv (h : BV b = some (n,r)) : AX b = (n,r,0):=by
 unfold BV at h;split at h
 ·rename_i e;cases h;rw [← e]
 ·cases h
theorem ND (h : BV b = none) : (AX b).2.2 ≠ 0:=by
 unfold BV at h;split at h
 ·cases h
 ·assumption
variable {s : List UInt8}
theorem IT (h : FU b = some (s,r)) : AM b = (s,r,0):=by
 unfold FU at h;split at h
 ·rename_i e;cases h;rw [← e]
 ·cases h
theorem Rb (h : FU b = none) : (AM b).2.2 ≠ 0:=by
 unfold FU at h;split at h
 ·cases h
 ·assumption
theorem IS {l : List Int} (h : Gi b = some (l,r)) : AP b = (l,r,0):=by
 unfold Gi at h;split at h
 ·rename_i e;cases h;rw [← e]
 ·cases h
theorem Ra (h : Gi b = none) : (AP b).2.2 ≠ 0:=by
 unfold Gi at h;split at h
 ·cases h
 ·assumption
theorem Et (b : List UInt8) : (AX b).2.1.length ≤ b.length:=by
 unfold AX;split
 ·simp
 ·repeat' split
  all_goals simp
  omega
theorem AR (h : BV b = some (n,r)) : r.length ≤ b.length:=by
 have:=Et b;rw [Fv h] at this;exact this
theorem Hl (h : FU b = some (s,r)) : r.length ≤ b.length:=by
 have e:=IT h;unfold AM at e;split at e
 ·simp at e
 ·split at e
  ·simp at e
  ·simp only [Prod.mk.injEq] at e;rw [← e.2.1];simp;omega
theorem Jv {g : Bool} (h : Dj b = some (g,r)) : r.length ≤ b.length:=by
 unfold Dj at h;split at h
 ·rename_i n r' e;split at h
  ·cases h
  ·cases h;exact AR e
 ·cases h
theorem Ad (b : List UInt8) (hb : b.length < 70368744177664) (n : Nat) (r : List UInt8) (h : BV b = some (n,r)) : B4 Tryz.prog 260 [.ptr 0 0 1] (rH b) (.d (.i .i64 n)) (rH r):=by
 have ht:=HY b hb;rw [Fv h] at ht;unfold Bi at ht;refine zD A6 Tryz.func260 ?_;unfold rH;refine wk Ev [] A0 (BM @ht (Ep 12)) ?_;exact ⟨⟨[(2,.d (.i .i64 n))],rH r,Tryz.f260.ntmps⟩,(A1.ck rfl),Nat.le_refl _,_,_,rfl,rfl,rfl,rfl⟩
theorem Bl (b : List UInt8) (hb : b.length < 70368744177664) (h : BV b = none) : IE Tryz.prog 260 [.ptr 0 0 1] (rH b) (pF 12) [.gone]:=by
 have ht:=HY b hb;unfold Bi at ht;have hd:=LS (AX b).2.2 12 (ND h);refine zX A6 Tryz.func260 ?_;unfold rH;have x1:=Ds.mk [] (hd);refine wx Ev [] [] A0 (AG @ht) ?_;clear x1;exact ⟨rfl,⟨[],[.gone],Tryz.f260.ntmps⟩,(A1.ck rfl),Nat.le_refl _,rfl⟩
theorem Ol (b : List UInt8) (hb : b.length < 70368744177664) (s r : List UInt8) (h : FU b = some (s,r)) : B4 Tryz.prog 266 [.ptr 0 0 1] (rH b) (.d (.s s)) (rH r):=by
 have ht:=KC b hb;rw [IT h] at ht;unfold EU at ht;refine zD A6 Tryz.func266 ?_;unfold rH;refine wk Ev [] A0 (BM @ht (Ep 12)) ?_;exact ⟨⟨[(2,.d (.s s))],rH r,Tryz.f266.ntmps⟩,(A1.ck rfl),Nat.le_refl _,_,_,rfl,rfl,rfl,rfl⟩
theorem Te (b : List UInt8) (hb : b.length < 70368744177664) (h : FU b = none) : IE Tryz.prog 266 [.ptr 0 0 1] (rH b) (pF 12) [.gone]:=by
 have ht:=KC b hb;unfold EU at ht;have hd:=LS (AM b).2.2 12 (Rb h);refine zX A6 Tryz.func266 ?_;unfold rH;have x1:=Ds.mk [] (hd);refine wx Ev [] [] A0 (AG @ht) ?_;clear x1;exact ⟨rfl,⟨[],[.gone],Tryz.f266.ntmps⟩,(A1.ck rfl),Nat.le_refl _,rfl⟩
theorem ZH (b : List UInt8) (hb : b.length < 70368744177664) (l : List Int) (r : List UInt8) (h : Gi b = some (l,r)) : B4 Tryz.prog 268 [.ptr 0 0 1] (rH b) (.d (.is l)) (rH r):=by
 have ht:=KB b hb;rw [IS h] at ht;unfold F7 at ht;refine zD A6 Tryz.func268 ?_;unfold rH;refine wk Ev [] A0 (BM @ht (Ep 12)) ?_;exact ⟨⟨[(2,.d (.is l))],rH r,Tryz.f268.ntmps⟩,(A1.ck rfl),Nat.le_refl _,_,_,rfl,rfl,rfl,rfl⟩
theorem ZG (b : List UInt8) (hb : b.length < 70368744177664) (h : Gi b = none) : IE Tryz.prog 268 [.ptr 0 0 1] (rH b) (pF 12) [.gone]:=by
 have ht:=KB b hb;unfold F7 at ht;have hd:=LS (AP b).2.2 12 (Ra h);refine zX A6 Tryz.func268 ?_;unfold rH;have x1:=Ds.mk [] (hd);refine wx Ev [] [] A0 (AG @ht) ?_;clear x1;exact ⟨rfl,⟨[],[.gone],Tryz.f268.ntmps⟩,(A1.ck rfl),Nat.le_refl _,rfl⟩
theorem O6 (b : List UInt8) (hb : b.length < 70368744177664) (g : Bool) (r : List UInt8) (h : Dj b = some (g,r)) : B4 Tryz.prog 262 [.ptr 0 0 1] (rH b) (.d (.b g)) (rH r):=by
 unfold Dj at h;split at h
 ·rename_i n r' hn;split at h
  ·cases h
  ·rename_i h1;simp only [Option.some.injEq,Prod.mk.injEq] at h;obtain ⟨rfl,rfl⟩:=h;have ht:=Ad b hb n r' hn;have e : ((n : Int) == 1) = (n == 1):=by rw [DW,DW];congr 1;simp;omega
   refine zD A6 Tryz.func262 ?_;unfold rH at *;have d1:=Ds.mk [0] (ht);refine wk [0,2,3,7] [] (AG e) A0 ?_;clear d1;with_reducible repeat' first|constructor|intro hc;try simp only[AB] at hc
   exact ⟨⟨[(2,.d (.b (n == 1)))],rH r',Tryz.f262.ntmps⟩,(A1.ck rfl),Nat.le_refl _,_,_,rfl,rfl,rfl,rfl⟩
 ·cases h
theorem O5 (b : List UInt8) (hb : b.length < 70368744177664) (h : Dj b = none) : IE Tryz.prog 262 [.ptr 0 0 1] (rH b) (pF 12) [.gone]:=by
 unfold Dj at h;refine zX A6 Tryz.func262 ?_;split at h
 ·rename_i n r' hn;split at h
  ·rename_i h1;have ht:=Ad b hb n r' hn;unfold rH at *;have d1:=Ds.mk [0] (ht);refine wx [0,2,3,7] [] [] A0 A0 ?_;clear d1;with_reducible repeat' first|constructor|intro hc;try simp only[AB] at hc
   exact ⟨rfl,⟨[],[.gone],Tryz.f262.ntmps⟩,(A1.ck rfl),Nat.le_refl _,rfl⟩
  ·cases h
 ·rename_i hn;have ht:=Bl b hb hn;unfold rH at *;have x1:=Ds.mk [0] (ht);refine wx [0,2,3,7] [] [] A0 A0 ?_;clear x1;exact ⟨rfl,⟨[],[.gone],Tryz.f262.ntmps⟩,(A1.ck rfl),Nat.le_refl _,rfl⟩
theorem TL (b : List UInt8) (hb : b.length < 70368744177664) (x : Item) (r : List UInt8) (h : EV b = some (x,r)) : B4 Tryz.prog 264 [.ptr 0 0 1] (rH b) (.d x.d) (rH r):=by
 unfold EV at h;split at h
 ·cases h
 rename_i k b1 h1;split at h
 ·cases h
 rename_i v b2 h2;split at h
 ·cases h
 rename_i n b3 h3;split at h
 ·cases h
 rename_i g b4 h4;simp only [Option.some.injEq,Prod.mk.injEq] at h;obtain ⟨rfl,rfl⟩:=h;have l1:=Hl h1;have l2:=AR h2;have l3:=AR h3;have c1:=Ol b hb k b1 h1;have c2:=Ad b1 (by omega) v b2 h2;have c3:=Ad b2 (by omega) n b3 h3;have c4:=O6 b3 (by omega) g b4 h4;refine B4.drop (K:=[.c [.d (.by b4)],.c [.d (.s k),.d (.i .i64 v),.d (.i .i64 n),.d (.b g)]]) _ ?_ ⟨.inr rfl,trivial⟩ rfl rfl rfl;refine zD A6 Tryz.func264 ?_;unfold rH at *;have d1:=Ds.mk [0] (c1);have d2:=Ds.mk [0] (c2);have d3:=Ds.mk [0] (c3);have d4:=Ds.mk [0] (c4);refine wk [0,2] [] A0 A0 ?_;clear d4 d3 d2 d1;exact ⟨_,A1.refl _,Nat.le_add_right _ _,_,_,rfl,rfl,rfl,rfl⟩
theorem TK (b : List UInt8) (hb : b.length < 70368744177664) (h : EV b = none) : IE Tryz.prog 264 [.ptr 0 0 1] (rH b) (pF 12) [.gone]:=by
 refine zX A6 Tryz.func264 ?_
 cases h1 : FU b with
 | none =>
  have c1:=Te b hb h1;unfold rH at *;have x1:=Ds.mk [0] (c1);refine wx [0,2] [] [] A0 A0 ?_;clear x1;exact ⟨rfl,⟨[],[.gone],Tryz.f264.ntmps⟩,(A1.ck rfl),Nat.le_refl _,rfl⟩
 | some p =>
 obtain ⟨k,b1⟩:=p;have l1:=Hl h1;have c1:=Ol b hb k b1 h1
 cases h2 : BV b1 with
 | none =>
  have c2:=Bl b1 (by omega) h2;unfold rH at *;have d1:=Ds.mk [0] (c1);have x1:=Ds.mk [0] (c2);refine wx [0,2] [] [] A0 A0 ?_;clear x1 d1;exact ⟨rfl,⟨[],[.gone],Tryz.f264.ntmps⟩,(A1.ck rfl),Nat.le_refl _,rfl⟩
 | some p =>
 obtain ⟨v,b2⟩:=p;have l2:=AR h2;have c2:=Ad b1 (by omega) v b2 h2
 cases h3 : BV b2 with
 | none =>
  have c3:=Bl b2 (by omega) h3;unfold rH at *;have d1:=Ds.mk [0] (c1);have d2:=Ds.mk [0] (c2);have x1:=Ds.mk [0] (c3);refine wx [0,2] [] [] A0 A0 ?_;clear x1 d2 d1;exact ⟨rfl,⟨[],[.gone],Tryz.f264.ntmps⟩,(A1.ck rfl),Nat.le_refl _,rfl⟩
 | some p =>
 obtain ⟨n,b3⟩:=p;have l3:=AR h3;have c3:=Ad b2 (by omega) n b3 h3
 cases h4 : Dj b3 with
 | none =>
  have c4:=O5 b3 (by omega) h4;unfold rH at *;have d1:=Ds.mk [0] (c1);have d2:=Ds.mk [0] (c2);have d3:=Ds.mk [0] (c3);have x1:=Ds.mk [0] (c4);refine wx [0,2] [] [] A0 A0 ?_;clear x1 d3 d2 d1;exact ⟨rfl,⟨[],[.gone],Tryz.f264.ntmps⟩,(A1.ck rfl),Nat.le_refl _,rfl⟩
 | some p =>
  unfold EV at h;simp only [h1,h2,h3,h4] at h;cases h
theorem NF {x : Item} (h : EV b = some (x,r)) : r.length ≤ b.length:=by
 unfold EV at h;split at h
 ·cases h
 rename_i k b1 h1;split at h
 ·cases h
 rename_i v b2 h2;split at h
 ·cases h
 rename_i n b3 h3;split at h
 ·cases h
 rename_i g b4 h4;simp only [Option.some.injEq,Prod.mk.injEq] at h;obtain ⟨rfl,rfl⟩:=h;have l1:=Hl h1;have l2:=AR h2;have l3:=AR h3;have l4:=Jv h4;omega
def Dk (m : A8) (b : List UInt8) : Option (A8 × List UInt8):=match BV b with
 | none => none
 | some (k,b1) => if k ≥ 13 then none else match BV b1 with
  | none => none
  | some (c,b2) => match BV b2 with
   | none => none
   | some (s,b3) => match BV b3 with
    | none => none
    | some (d,b4) => some ({ m with kind:=k,call:=c,src:=s,dst:=d },b4)
def hH (m : A8) (b : List UInt8) : List A2:=[.c [.d (.by b)],.c (mC m)]
def uC : List AV:=List.replicate 15 .u
theorem OB (m : A8) (b : List UInt8) (hb : b.length < 70368744177664) (m' : A8) (r : List UInt8) (h : Dk m b = some (m',r)) : B4 Tryz.prog 181 [.ptr 0 0 1,.ptr 1 0 15] (hH m b) (.tup []) (hH m' r):=by
 unfold Dk at h;split at h
 ·cases h
 rename_i k b1 h1;split at h
 ·cases h
 rename_i hk;split at h
 ·cases h
 rename_i c b2 h2;split at h
 ·cases h
 rename_i s b3 h3;split at h
 ·cases h
 rename_i d b4 h4;simp only [Option.some.injEq,Prod.mk.injEq] at h;obtain ⟨rfl,rfl⟩:=h;have l1:=AR h1;have l2:=AR h2;have l3:=AR h3;have c1:=Ad b hb k b1 h1;have c2:=Ad b1 (by omega) c b2 h2;have c3:=Ad b2 (by omega) s b3 h3;have c4:=Ad b3 (by omega) d b4 h4;have e : (k : Int) % 256 = k:=by omega
 refine zD A6 Tryz.func181 ?_;unfold rH hH mC at *;have d1:=Ds.mk [0] (c1);have d2:=Ds.mk [0] (c2);have d3:=Ds.mk [0] (c3);have d4:=Ds.mk [0] (c4);refine wk [0,1,4,8] [] (AG e) A0 ?_;clear d4 d3 d2 d1;with_reducible repeat' first|constructor|intro hc;try simp only[AB] at hc
 exact ⟨_,A1.refl _,Nat.le_refl _,_,_,rfl,rfl,rfl,rfl⟩
theorem cZ {E : Nat → Option AT} {env : List (Nat × AV)} {cs : List AV} (hcs : cs.length = 15) : A1 ⟨env,[.c [.d (.by b)],.c cs],n⟩ ⟨[],[.gone,.c uC],n⟩ :=
 (A1.us (S:=⟨env,[.c [.d (.by b)],.c cs],n⟩) 1 15 rfl hcs.symm).trans' (A1.cut (S':=⟨[],[.gone,.c uC],n⟩) rfl trivial ⟨.inl ⟨rfl,rfl⟩,.inr rfl,trivial⟩ rfl rfl) (Nat.le_refl _)
theorem Z7 (m : A8) (b : List UInt8) (hb : b.length < 70368744177664) (h : Dk m b = none) : IE Tryz.prog 181 [.ptr 0 0 1,.ptr 1 0 15] (hH m b) (pF 12) [.gone,.c uC]:=by
 refine zX A6 Tryz.func181 ?_;unfold Dk at h
 cases h1 : BV b with
 | none =>
  have c1:=Bl b hb h1;unfold hH rH mC at *;have x1:=Ds.mk [0] (c1);refine wx [0,1,4,8] [] [] A0 A0 ?_;clear x1;exact ⟨rfl,_,(A1.us (S:=⟨_,[.gone,.c _],_⟩) 1 15 rfl rfl),Nat.le_refl _,rfl⟩
 | some p =>
 obtain ⟨k,b1⟩:=p;rw [h1] at h;simp only at h;have l1:=AR h1;have c1:=Ad b hb k b1 h1;split at h
 ·rename_i hk;unfold hH rH mC at *;have d1:=Ds.mk [0] (c1);refine wx [0,1,4,8] [] [] A0 A0 ?_;clear d1;with_reducible repeat' first|constructor|intro hc;try simp only[AB] at hc
  exact ⟨rfl,_,cZ (E:=T.get) rfl,Nat.le_refl _,rfl⟩
 rename_i hk;have e : (k : Int) % 256 = k:=by omega
 cases h2 : BV b1 with
 | none =>
  have c2:=Bl b1 (by omega) h2;unfold hH rH mC at *;have d1:=Ds.mk [0] (c1);have x1:=Ds.mk [0] (c2);refine wx [0,1,4,8] [] [] (AG e) A0 ?_;clear x1 d1;with_reducible repeat' first|constructor|intro hc;try simp only[AB] at hc
  exact ⟨rfl,_,(A1.us (S:=⟨_,[.gone,.c _],_⟩) 1 15 rfl rfl),Nat.le_refl _,rfl⟩
 | some p =>
 obtain ⟨c,b2⟩:=p;rw [h2] at h;simp only at h;have l2:=AR h2;have c2:=Ad b1 (by omega) c b2 h2
 cases h3 : BV b2 with
 | none =>
  have c3:=Bl b2 (by omega) h3;unfold hH rH mC at *;have d1:=Ds.mk [0] (c1);have d2:=Ds.mk [0] (c2);have x1:=Ds.mk [0] (c3);refine wx [0,1,4,8] [] [] (AG e) A0 ?_;clear x1 d2 d1;with_reducible repeat' first|constructor|intro hc;try simp only[AB] at hc
  exact ⟨rfl,_,(A1.us (S:=⟨_,[.gone,.c _],_⟩) 1 15 rfl rfl),Nat.le_refl _,rfl⟩
 | some p =>
 obtain ⟨s,b3⟩:=p;rw [h3] at h;simp only at h;have l3:=AR h3;have c3:=Ad b2 (by omega) s b3 h3
 cases h4 : BV b3 with
 | none =>
  have c4:=Bl b3 (by omega) h4;unfold hH rH mC at *;have d1:=Ds.mk [0] (c1);have d2:=Ds.mk [0] (c2);have d3:=Ds.mk [0] (c3);have x1:=Ds.mk [0] (c4);refine wx [0,1,4,8] [] [] (AG e) A0 ?_;clear x1 d3 d2 d1;with_reducible repeat' first|constructor|intro hc;try simp only[AB] at hc
  exact ⟨rfl,_,(A1.us (S:=⟨_,[.gone,.c _],_⟩) 1 15 rfl rfl),Nat.le_refl _,rfl⟩
 | some p =>
  rw [h4] at h;cases h
theorem Jx {m m' : A8} (h : Dk m b = some (m',r)) : r.length ≤ b.length:=by
 unfold Dk at h;split at h
 ·cases h
 rename_i k b1 h1;split at h
 ·cases h
 split at h
 ·cases h
 rename_i c b2 h2;split at h
 ·cases h
 rename_i s b3 h3;split at h
 ·cases h
 rename_i d b4 h4;simp only [Option.some.injEq,Prod.mk.injEq] at h;obtain ⟨rfl,rfl⟩:=h;have l1:=AR h1;have l2:=AR h2;have l3:=AR h3;have l4:=AR h4;omega
end Wi
end Go.Proofs.YtkljbfejbakooaaGreatDoor
namespace Go.Proofs.YtkljbfejbakooaaGreatDoor
namespace Nd
open Go.Gar
open Wi (A8 B2 Ai AA BN mC)
set_option maxRecDepth 4000
theorem B4.cut {P : Program} {f : FuncId} {args : List AV} {r : AV} {H' : List A2} (K : List A2) (h : B4 P f args [] r H') (hs : Ak K H') (ho : AY K.length K = true) (hx : r.ok K.length = true) : B4 P f args [] r K:=by
 refine ⟨h.1,fun G w vs hG hR hv => (h.2 G w vs hG hR hv).mono ?_⟩;rintro e w' ⟨v,r',G',rfl,⟨rfl,hH⟩,hrv,hr,hf⟩;have hs' : Ak K G'.H:=by rw [hH];exact hs
 exact ⟨v,_,G'.cut K,rfl,⟨rfl,rfl⟩,RV.cut hs' hx hrv,hr.cut hs' ho,hf.ghost (SQ.cut hs') (by rw [hG];exact Nat.zero_le _)⟩
end Nd
end Go.Proofs.YtkljbfejbakooaaGreatDoor
