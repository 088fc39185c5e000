/- Part 27 of a proof, put together by a program. Conditions: none beyond those that a theorem states. -/
import Derived.Test.YtkljbfejbakooaaGreatDoorB21
import Derived.Test.YtkljbfejbakooaaGreatDoorB26
set_option linter.unusedSimpArgs false
set_option linter.unusedVariables false
set_option linter.unnecessarySimpa false
set_option maxHeartbeats 40000000
namespace Go.Proofs.YtkljbfejbakooaaGreatDoor
namespace Wi
open Go.Gar
set_option maxRecDepth 4000
abbrev Au : List Nat:=[0,1,2,4,5,6,7,8,9,10,12,13,14,15,17,18,19,21,22,25,37,40,41,52,63,69,87,98,112,120]
def CG (k : Int) : Nat:=if k = 4 then 2 else if k = 10 then 2 else if k = 7 then 1 else if k = 11 then 1 else if k = 12 then 1 else 0
def Ap (m : A8) (b : List UInt8) : A8 × Bool:=match Aq (CG m.kind) b with
 | none => (m,false)
 | some (l,r) =>
  if m.kind = 4 then ({ m with key:=l.getD 0 0,slow:=l.getD 1 0 == 1 },true) else
  if m.kind = 10 then ({ m with place:=l.getD 0 0,done:=l.getD 1 0 == 1 },true) else
  if m.kind = 11 then ({ m with code:=l.getD 0 0 },true) else
  if m.kind = 7 then ({ m with pred:=l.getD 0 0 - 1,list:=(AP r).1 },(AP r).2.2 == 0) else
  if m.kind = 5 then ({ m with item:=(Cr r).1 },(Cr r).2) else
  if m.kind = 6 then ({ m with item:=⟨(AM r).1,m.item.value,m.item.version,m.item.gone⟩ },(AM r).2.2 == 0) else
  if m.kind = 12 then (if l.getD 0 0 = 0 then ({ m with code:=0,item:=(Cr r).1 },(Cr r).2) else ({ m with code:=l.getD 0 0 },true)) else (m,true)
theorem EL {k : Nat} {b r : List UInt8} {l : List Int} (h : Aq k b = some (l,r)) : ∀ x ∈ l,0 ≤ x ∧ x ≤ 1099511627776:=by
 induction k generalizing b r l with
 | zero => simp only [Aq,Option.some.injEq,Prod.mk.injEq] at h;obtain ⟨rfl,rfl⟩:=h;intro x hx;cases hx
 | succ k ih =>
  rw [Aq] at h;split at h
  ·cases h
  ·rename_i n r1 h1;split at h
   ·cases h
   ·rename_i l1 r2 h2;simp only [Option.some.injEq,Prod.mk.injEq] at h;obtain ⟨rfl,rfl⟩:=h;intro x hx;rcases List.mem_cons.1 hx with rfl | hx
    ·have:=OU h1;omega
    ·exact ih h2 x hx
theorem X2 (m : A8) (b : List UInt8) (hb : b.length < 70368744177664) : Go.Gar.Fn Tryz.prog 144 [m.d,.by b] (.tup [(Ap m b).1.d,.b (Ap m b).2]):=by
 obtain ⟨k,c,s,d,ky,sl,dn,pl,pr,l,⟨ik,iv,ir,ig⟩,co⟩:=m;refine zF A6 Tryz.func144 ?_;unfold A8.d A8.cells
 by_cases h4 : k = 4
 ·subst h4;have hn:=BP b 2 hb (by decide);have hgt:=@EL 2 b;have hln:=@CR 2 b
  cases hp : Aq 2 b with
  | none =>
   have e : Ap ⟨4,c,s,d,ky,sl,dn,pl,pr,l,⟨ik,iv,ir,ig⟩,co⟩ b = (⟨4,c,s,d,ky,sl,dn,pl,pr,l,⟨ik,iv,ir,ig⟩,co⟩,false):=by unfold Ap;simp only [CG,Int.reduceEq,if_true,if_false,hp]
   rw [e];rw [hp] at hn;unfold Ca at hn;refine wd Au [] [] A0 (AG @hn) ?_;with_reducible repeat' first|constructor|intro hc;try simp only[AB] at hc
   exact zE
  | some p =>
   obtain ⟨q,r⟩:=p;have hg:=hgt hp;obtain ⟨hl1,hl2⟩:=hln hp
   obtain ⟨x,y,rfl⟩ : ∃ x y,q = [x,y]:=by
    rcases q with _ | ⟨x,_ | ⟨y,_ | ⟨z,t⟩⟩⟩ <;> first | exact ⟨_,_,rfl⟩ | (simp at hl1)
   have hx:=hg x (by simp);have hy:=hg y (by simp);rw [hp] at hn;unfold Ca at hn;have e : Ap ⟨4,c,s,d,ky,sl,dn,pl,pr,l,⟨ik,iv,ir,ig⟩,co⟩ b = (⟨4,c,s,d,x,y == 1,dn,pl,pr,l,⟨ik,iv,ir,ig⟩,co⟩,true):=by unfold Ap;simp only [CG,Int.reduceEq,if_true,if_false,hp] <;> rfl
   rw [e];refine wd Au [] [] A0 (AG @hn) ?_;with_reducible repeat' first|constructor|intro hc;try simp only[AB] at hc
   exact zE
 by_cases h10 : k = 10
 ·subst h10;have hn:=BP b 2 hb (by decide);have hgt:=@EL 2 b;have hln:=@CR 2 b
  cases hp : Aq 2 b with
  | none =>
   have e : Ap ⟨10,c,s,d,ky,sl,dn,pl,pr,l,⟨ik,iv,ir,ig⟩,co⟩ b = (⟨10,c,s,d,ky,sl,dn,pl,pr,l,⟨ik,iv,ir,ig⟩,co⟩,false):=by unfold Ap;simp only [CG,Int.reduceEq,if_true,if_false,hp]
   rw [e];rw [hp] at hn;unfold Ca at hn;refine wd Au [] [] A0 (AG @hn) ?_;with_reducible repeat' first|constructor|intro hc;try simp only[AB] at hc
   exact zE
  | some p =>
   obtain ⟨q,r⟩:=p;have hg:=hgt hp;obtain ⟨hl1,hl2⟩:=hln hp
   obtain ⟨x,y,rfl⟩ : ∃ x y,q = [x,y]:=by
    rcases q with _ | ⟨x,_ | ⟨y,_ | ⟨z,t⟩⟩⟩ <;> first | exact ⟨_,_,rfl⟩ | (simp at hl1)
   have hx:=hg x (by simp);have hy:=hg y (by simp);rw [hp] at hn;unfold Ca at hn;have e : Ap ⟨10,c,s,d,ky,sl,dn,pl,pr,l,⟨ik,iv,ir,ig⟩,co⟩ b = (⟨10,c,s,d,ky,sl,y == 1,x,pr,l,⟨ik,iv,ir,ig⟩,co⟩,true):=by unfold Ap;simp only [CG,Int.reduceEq,if_true,if_false,hp] <;> rfl
   rw [e];refine wd Au [] [] A0 (AG @hn) ?_;with_reducible repeat' first|constructor|intro hc;try simp only[AB] at hc
   exact zE
 by_cases h11 : k = 11
 ·subst h11;have hn:=BP b 1 hb (by decide);have hgt:=@EL 1 b;have hln:=@CR 1 b
  cases hp : Aq 1 b with
  | none =>
   have e : Ap ⟨11,c,s,d,ky,sl,dn,pl,pr,l,⟨ik,iv,ir,ig⟩,co⟩ b = (⟨11,c,s,d,ky,sl,dn,pl,pr,l,⟨ik,iv,ir,ig⟩,co⟩,false):=by unfold Ap;simp only [CG,Int.reduceEq,if_true,if_false,hp]
   rw [e];rw [hp] at hn;unfold Ca at hn;refine wd Au [] [] A0 (AG @hn) ?_;with_reducible repeat' first|constructor|intro hc;try simp only[AB] at hc
   exact zE
  | some p =>
   obtain ⟨q,r⟩:=p;have hg:=hgt hp;obtain ⟨hl1,hl2⟩:=hln hp
   obtain ⟨x,rfl⟩ : ∃ x,q = [x]:=by
    rcases q with _ | ⟨x,_ | ⟨z,t⟩⟩ <;> first | exact ⟨_,rfl⟩ | (simp at hl1)
   have hx:=hg x (by simp);rw [hp] at hn;unfold Ca at hn;have e : Ap ⟨11,c,s,d,ky,sl,dn,pl,pr,l,⟨ik,iv,ir,ig⟩,co⟩ b = (⟨11,c,s,d,ky,sl,dn,pl,pr,l,⟨ik,iv,ir,ig⟩,x⟩,true):=by unfold Ap;simp only [CG,Int.reduceEq,if_true,if_false,hp] <;> rfl
   rw [e];refine wd Au [] [] A0 (AG @hn) ?_;with_reducible repeat' first|constructor|intro hc;try simp only[AB] at hc
   exact zE
 by_cases h7 : k = 7
 ·subst h7;have hn:=BP b 1 hb (by decide);have hgt:=@EL 1 b;have hln:=@CR 1 b
  cases hp : Aq 1 b with
  | none =>
   have e : Ap ⟨7,c,s,d,ky,sl,dn,pl,pr,l,⟨ik,iv,ir,ig⟩,co⟩ b = (⟨7,c,s,d,ky,sl,dn,pl,pr,l,⟨ik,iv,ir,ig⟩,co⟩,false):=by unfold Ap;simp only [CG,Int.reduceEq,if_true,if_false,hp]
   rw [e];rw [hp] at hn;unfold Ca at hn;refine wd Au [] [] A0 (AG @hn) ?_;with_reducible repeat' first|constructor|intro hc;try simp only[AB] at hc
   exact zE
  | some p =>
   obtain ⟨q,r⟩:=p;have hg:=hgt hp;obtain ⟨hl1,hl2⟩:=hln hp
   obtain ⟨x,rfl⟩ : ∃ x,q = [x]:=by
    rcases q with _ | ⟨x,_ | ⟨z,t⟩⟩ <;> first | exact ⟨_,rfl⟩ | (simp at hl1)
   have hx:=hg x (by simp);rw [hp] at hn;unfold Ca at hn;have ht:=OZ r (by omega);unfold F7 at ht;have e : Ap ⟨7,c,s,d,ky,sl,dn,pl,pr,l,⟨ik,iv,ir,ig⟩,co⟩ b = (⟨7,c,s,d,ky,sl,dn,pl,(x - 1),(AP r).1,⟨ik,iv,ir,ig⟩,co⟩,(AP r).2.2 == 0):=by unfold Ap;simp only [CG,Int.reduceEq,if_true,if_false,hp] <;> rfl
   rw [e];refine wd Au [] [] A0 (BM @hn @ht) ?_;with_reducible repeat' first|constructor|intro hc;try simp only[AB] at hc
   exact zE
 by_cases h5 : k = 5
 ·subst h5;have hn:=BP b 0 hb (by decide);have hgt:=@EL 0 b;have hln:=@CR 0 b
  cases hp : Aq 0 b with
  | none =>
   have e : Ap ⟨5,c,s,d,ky,sl,dn,pl,pr,l,⟨ik,iv,ir,ig⟩,co⟩ b = (⟨5,c,s,d,ky,sl,dn,pl,pr,l,⟨ik,iv,ir,ig⟩,co⟩,false):=by unfold Ap;simp only [CG,Int.reduceEq,if_true,if_false,hp]
   rw [e];rw [hp] at hn;unfold Ca at hn;refine wd Au [] [] A0 (AG @hn) ?_;with_reducible repeat' first|constructor|intro hc;try simp only[AB] at hc
   exact zE
  | some p =>
   obtain ⟨q,r⟩:=p;have hg:=hgt hp;obtain ⟨hl1,hl2⟩:=hln hp;obtain rfl : q = []:=List.length_eq_zero_iff.1 hl1;rw [hp] at hn;unfold Ca at hn;have ht:=NH r (by omega);have hD : ∀ z : Item,z.d = .agg [.s z.key,.i .i64 z.value,.i .i64 z.version,.b z.gone]:=fun _ => rfl
   rw [hD] at ht;have e : Ap ⟨5,c,s,d,ky,sl,dn,pl,pr,l,⟨ik,iv,ir,ig⟩,co⟩ b = (⟨5,c,s,d,ky,sl,dn,pl,pr,l,(Cr r).1,co⟩,(Cr r).2):=by unfold Ap;simp only [CG,Int.reduceEq,if_true,if_false,hp] <;> rfl
   rw [e];refine wd Au [] [] A0 (BM @hn @ht) ?_;with_reducible repeat' first|constructor|intro hc;try simp only[AB] at hc
   exact zE
 by_cases h6 : k = 6
 ·subst h6;have hn:=BP b 0 hb (by decide);have hgt:=@EL 0 b;have hln:=@CR 0 b
  cases hp : Aq 0 b with
  | none =>
   have e : Ap ⟨6,c,s,d,ky,sl,dn,pl,pr,l,⟨ik,iv,ir,ig⟩,co⟩ b = (⟨6,c,s,d,ky,sl,dn,pl,pr,l,⟨ik,iv,ir,ig⟩,co⟩,false):=by unfold Ap;simp only [CG,Int.reduceEq,if_true,if_false,hp]
   rw [e];rw [hp] at hn;unfold Ca at hn;refine wd Au [] [] A0 (AG @hn) ?_;with_reducible repeat' first|constructor|intro hc;try simp only[AB] at hc
   exact zE
  | some p =>
   obtain ⟨q,r⟩:=p;have hg:=hgt hp;obtain ⟨hl1,hl2⟩:=hln hp;obtain rfl : q = []:=List.length_eq_zero_iff.1 hl1;rw [hp] at hn;unfold Ca at hn;have ht:=JG r (by omega);unfold EU at ht;have e : Ap ⟨6,c,s,d,ky,sl,dn,pl,pr,l,⟨ik,iv,ir,ig⟩,co⟩ b = (⟨6,c,s,d,ky,sl,dn,pl,pr,l,⟨(AM r).1,iv,ir,ig⟩,co⟩,(AM r).2.2 == 0):=by unfold Ap;simp only [CG,Int.reduceEq,if_true,if_false,hp] <;> rfl
   rw [e];refine wd Au [] [] A0 (BM @hn @ht) ?_;with_reducible repeat' first|constructor|intro hc;try simp only[AB] at hc
   exact zE
 by_cases h12 : k = 12
 ·subst h12;have hn:=BP b 1 hb (by decide);have hgt:=@EL 1 b;have hln:=@CR 1 b
  cases hp : Aq 1 b with
  | none =>
   have e : Ap ⟨12,c,s,d,ky,sl,dn,pl,pr,l,⟨ik,iv,ir,ig⟩,co⟩ b = (⟨12,c,s,d,ky,sl,dn,pl,pr,l,⟨ik,iv,ir,ig⟩,co⟩,false):=by unfold Ap;simp only [CG,Int.reduceEq,if_true,if_false,hp]
   rw [e];rw [hp] at hn;unfold Ca at hn;refine wd Au [] [] A0 (AG @hn) ?_;with_reducible repeat' first|constructor|intro hc;try simp only[AB] at hc
   exact zE
  | some p =>
   obtain ⟨q,r⟩:=p;have hg:=hgt hp;obtain ⟨hl1,hl2⟩:=hln hp
   obtain ⟨x,rfl⟩ : ∃ x,q = [x]:=by
    rcases q with _ | ⟨x,_ | ⟨z,t⟩⟩ <;> first | exact ⟨_,rfl⟩ | (simp at hl1)
   have hx:=hg x (by simp);rw [hp] at hn;unfold Ca at hn
   by_cases h0 : x = 0
   ·subst h0;have ht:=NH r (by omega);have hD : ∀ z : Item,z.d = .agg [.s z.key,.i .i64 z.value,.i .i64 z.version,.b z.gone]:=fun _ => rfl
    rw [hD] at ht;have e : Ap ⟨12,c,s,d,ky,sl,dn,pl,pr,l,⟨ik,iv,ir,ig⟩,co⟩ b = (⟨12,c,s,d,ky,sl,dn,pl,pr,l,(Cr r).1,0⟩,(Cr r).2):=by unfold Ap;simp only [CG,Int.reduceEq,if_true,if_false,hp] <;> rfl
    rw [e];refine wd Au [] [] A0 (BM @hn @ht) ?_;with_reducible repeat' first|constructor|intro hc;try simp only[AB] at hc
    exact zE
   ·have f:=eq_false' h0;have e : Ap ⟨12,c,s,d,ky,sl,dn,pl,pr,l,⟨ik,iv,ir,ig⟩,co⟩ b = (⟨12,c,s,d,ky,sl,dn,pl,pr,l,⟨ik,iv,ir,ig⟩,x⟩,true):=by unfold Ap;simp only [CG,Int.reduceEq,if_true,if_false,hp,List.getD_cons_zero,h0]
    rw [e];refine wd Au [] [] (AG f) (AG @hn) ?_;with_reducible repeat' first|constructor|intro hc;try simp only[AB] at hc
    exact zE
 have hn:=BP b 0 hb (by decide)
 have e : Ap ⟨k,c,s,d,ky,sl,dn,pl,pr,l,⟨ik,iv,ir,ig⟩,co⟩ b = (⟨k,c,s,d,ky,sl,dn,pl,pr,l,⟨ik,iv,ir,ig⟩,co⟩,true):=by
  unfold Ap;simp only [CG,h4,h10,h11,h7,h5,h6,h12,if_false,Aq]
 rw [e];have hp : Aq 0 b = some ([],b):=rfl;rw [hp] at hn;unfold Ca at hn;have f4:=eq_false' h4;have f5:=eq_false' h5;have f6:=eq_false' h6;have f7:=eq_false' h7;have f10:=eq_false' h10;have f11:=eq_false' h11;have f12:=eq_false' h12;refine wd Au [] [] (zq7 f4 f5 f6 f7 f10 f11 f12) (AG @hn) ?_;with_reducible repeat' first|constructor|intro hc;try simp only[AB] at hc
 exact zE
end Wi
end Go.Proofs.YtkljbfejbakooaaGreatDoor
