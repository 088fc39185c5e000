/- Part 48 of a proof, put together by a program. Conditions: none beyond those that a theorem states. -/
import Derived.Test.YtkljbfejbakooaaGreatDoorN47
set_option linter.unusedSimpArgs false
set_option linter.unusedVariables false
set_option linter.unnecessarySimpa false
set_option maxHeartbeats 40000000
namespace Go.Proofs.YtkljbfejbakooaaGreatDoor
namespace Wi
open Go.Gar
set_option maxRecDepth 4000
abbrev BB : List Nat:=[0,1,2,4,5,6,7,8,9,10,12,13,14,15,17,18,19,21,22,25,37,40,41,52,63,69,87,98,112,120]
def Cg (k : Int) : Nat:=if k = 4 then 2 else if k = 10 then 2 else if k = 7 then 1 else if k = 11 then 1 else if k = 12 then 1 else 0
def B6 (m : A8) (b : List UInt8) : A8 × Bool:=match B9 (Cg m.kind) b with
 | none => (m,false)
 | some (l,r) =>
  if m.kind = 4 then ({ m with key:=l.getD 0 0,slow:=l.getD 1 0 == 1 },true) else
  if m.kind = 10 then ({ m with place:=l.getD 0 0,done:=l.getD 1 0 == 1 },true) else
  if m.kind = 11 then ({ m with code:=l.getD 0 0 },true) else
  if m.kind = 7 then ({ m with pred:=l.getD 0 0 - 1,list:=(AZ r).1 },(AZ r).2.2 == 0) else
  if m.kind = 5 then ({ m with item:=(DR r).1 },(DR r).2) else
  if m.kind = 6 then ({ m with item:=⟨(AN r).1,m.item.value,m.item.version,m.item.gone⟩ },(AN r).2.2 == 0) else
  if m.kind = 12 then (if l.getD 0 0 = 0 then ({ m with code:=0,item:=(DR r).1 },(DR r).2) else ({ m with code:=l.getD 0 0 },true)) else (m,true)
theorem Ex {k : Nat} {b r : List UInt8} {l : List Int} (h : B9 k b = some (l,r)) : ∀ x ∈ l,0 ≤ x ∧ x ≤ 1099511627776:=by
 induction k generalizing b r l with
 | zero => simp only [B9,Option.some.injEq,Prod.mk.injEq] at h;obtain ⟨rfl,rfl⟩:=h;intro x hx;cases hx
 | succ k ih =>
  rw [B9] at h;split at h
  ·cases h
  ·rename_i n r1 h1;split at h
   ·cases h
   ·rename_i l1 r2 h2;simp only [Option.some.injEq,Prod.mk.injEq] at h;obtain ⟨rfl,rfl⟩:=h;intro x hx;rcases List.mem_cons.1 hx with rfl | hx
    ·have:=QX h1;omega
    ·exact ih h2 x hx
theorem aS (m : A8) (b : List UInt8) (hb : b.length < 70368744177664) : Go.Gar.Fn Tryz.prog 144 [m.d,.by b] (.tup [(B6 m b).1.d,.b (B6 m b).2]):=by
 obtain ⟨k,c,s,d,ky,sl,dn,pl,pr,l,⟨ik,iv,ir,ig⟩,co⟩:=m;refine zF A6 Tryz.func144 ?_;unfold A8.d A8.cells
 by_cases h4 : k = 4
 ·subst h4;have hn:=Bq b 2 hb (by decide);have hgt:=@Ex 2 b;have hln:=@Cw 2 b
  cases hp : B9 2 b with
  | none =>
   have e : B6 ⟨4,c,s,d,ky,sl,dn,pl,pr,l,⟨ik,iv,ir,ig⟩,co⟩ b = (⟨4,c,s,d,ky,sl,dn,pl,pr,l,⟨ik,iv,ir,ig⟩,co⟩,false):=by unfold B6;simp only [Cg,Int.reduceEq,if_true,if_false,hp]
   rw [e];rw [hp] at hn;unfold D3 at hn;refine wd BB [] [] A0 (AF @hn) ?_;with_reducible repeat' first|constructor|intro hc;try simp only[AD] at hc
   exact zE
  | some p =>
   obtain ⟨q,r⟩:=p;have hg:=hgt hp;obtain ⟨hl1,hl2⟩:=hln hp
   obtain ⟨x,y,rfl⟩ : ∃ x y,q = [x,y]:=by
    rcases q with _ | ⟨x,_ | ⟨y,_ | ⟨z,t⟩⟩⟩ <;> first | exact ⟨_,_,rfl⟩ | (simp at hl1)
   have hx:=hg x (by simp);have hy:=hg y (by simp);rw [hp] at hn;unfold D3 at hn;have e : B6 ⟨4,c,s,d,ky,sl,dn,pl,pr,l,⟨ik,iv,ir,ig⟩,co⟩ b = (⟨4,c,s,d,x,y == 1,dn,pl,pr,l,⟨ik,iv,ir,ig⟩,co⟩,true):=by unfold B6;simp only [Cg,Int.reduceEq,if_true,if_false,hp] <;> rfl
   rw [e];refine wd BB [] [] A0 (AF @hn) ?_;with_reducible repeat' first|constructor|intro hc;try simp only[AD] at hc
   exact zE
 by_cases h10 : k = 10
 ·subst h10;have hn:=Bq b 2 hb (by decide);have hgt:=@Ex 2 b;have hln:=@Cw 2 b
  cases hp : B9 2 b with
  | none =>
   have e : B6 ⟨10,c,s,d,ky,sl,dn,pl,pr,l,⟨ik,iv,ir,ig⟩,co⟩ b = (⟨10,c,s,d,ky,sl,dn,pl,pr,l,⟨ik,iv,ir,ig⟩,co⟩,false):=by unfold B6;simp only [Cg,Int.reduceEq,if_true,if_false,hp]
   rw [e];rw [hp] at hn;unfold D3 at hn;refine wd BB [] [] A0 (AF @hn) ?_;with_reducible repeat' first|constructor|intro hc;try simp only[AD] at hc
   exact zE
  | some p =>
   obtain ⟨q,r⟩:=p;have hg:=hgt hp;obtain ⟨hl1,hl2⟩:=hln hp
   obtain ⟨x,y,rfl⟩ : ∃ x y,q = [x,y]:=by
    rcases q with _ | ⟨x,_ | ⟨y,_ | ⟨z,t⟩⟩⟩ <;> first | exact ⟨_,_,rfl⟩ | (simp at hl1)
   have hx:=hg x (by simp);have hy:=hg y (by simp);rw [hp] at hn;unfold D3 at hn;have e : B6 ⟨10,c,s,d,ky,sl,dn,pl,pr,l,⟨ik,iv,ir,ig⟩,co⟩ b = (⟨10,c,s,d,ky,sl,y == 1,x,pr,l,⟨ik,iv,ir,ig⟩,co⟩,true):=by unfold B6;simp only [Cg,Int.reduceEq,if_true,if_false,hp] <;> rfl
   rw [e];refine wd BB [] [] A0 (AF @hn) ?_;with_reducible repeat' first|constructor|intro hc;try simp only[AD] at hc
   exact zE
 by_cases h11 : k = 11
 ·subst h11;have hn:=Bq b 1 hb (by decide);have hgt:=@Ex 1 b;have hln:=@Cw 1 b
  cases hp : B9 1 b with
  | none =>
   have e : B6 ⟨11,c,s,d,ky,sl,dn,pl,pr,l,⟨ik,iv,ir,ig⟩,co⟩ b = (⟨11,c,s,d,ky,sl,dn,pl,pr,l,⟨ik,iv,ir,ig⟩,co⟩,false):=by unfold B6;simp only [Cg,Int.reduceEq,if_true,if_false,hp]
   rw [e];rw [hp] at hn;unfold D3 at hn;refine wd BB [] [] A0 (AF @hn) ?_;with_reducible repeat' first|constructor|intro hc;try simp only[AD] at hc
   exact zE
  | some p =>
   obtain ⟨q,r⟩:=p;have hg:=hgt hp;obtain ⟨hl1,hl2⟩:=hln hp
   obtain ⟨x,rfl⟩ : ∃ x,q = [x]:=by
    rcases q with _ | ⟨x,_ | ⟨z,t⟩⟩ <;> first | exact ⟨_,rfl⟩ | (simp at hl1)
   have hx:=hg x (by simp);rw [hp] at hn;unfold D3 at hn;have e : B6 ⟨11,c,s,d,ky,sl,dn,pl,pr,l,⟨ik,iv,ir,ig⟩,co⟩ b = (⟨11,c,s,d,ky,sl,dn,pl,pr,l,⟨ik,iv,ir,ig⟩,x⟩,true):=by unfold B6;simp only [Cg,Int.reduceEq,if_true,if_false,hp] <;> rfl
   rw [e];refine wd BB [] [] A0 (AF @hn) ?_;with_reducible repeat' first|constructor|intro hc;try simp only[AD] at hc
   exact zE
 by_cases h7 : k = 7
 ·subst h7;have hn:=Bq b 1 hb (by decide);have hgt:=@Ex 1 b;have hln:=@Cw 1 b
  cases hp : B9 1 b with
  | none =>
   have e : B6 ⟨7,c,s,d,ky,sl,dn,pl,pr,l,⟨ik,iv,ir,ig⟩,co⟩ b = (⟨7,c,s,d,ky,sl,dn,pl,pr,l,⟨ik,iv,ir,ig⟩,co⟩,false):=by unfold B6;simp only [Cg,Int.reduceEq,if_true,if_false,hp]
   rw [e];rw [hp] at hn;unfold D3 at hn;refine wd BB [] [] A0 (AF @hn) ?_;with_reducible repeat' first|constructor|intro hc;try simp only[AD] at hc
   exact zE
  | some p =>
   obtain ⟨q,r⟩:=p;have hg:=hgt hp;obtain ⟨hl1,hl2⟩:=hln hp
   obtain ⟨x,rfl⟩ : ∃ x,q = [x]:=by
    rcases q with _ | ⟨x,_ | ⟨z,t⟩⟩ <;> first | exact ⟨_,rfl⟩ | (simp at hl1)
   have hx:=hg x (by simp);rw [hp] at hn;unfold D3 at hn;have ht:=Qf r (by omega);unfold G9 at ht;have e : B6 ⟨7,c,s,d,ky,sl,dn,pl,pr,l,⟨ik,iv,ir,ig⟩,co⟩ b = (⟨7,c,s,d,ky,sl,dn,pl,(x - 1),(AZ r).1,⟨ik,iv,ir,ig⟩,co⟩,(AZ r).2.2 == 0):=by unfold B6;simp only [Cg,Int.reduceEq,if_true,if_false,hp] <;> rfl
   rw [e];refine wd BB [] [] A0 (Aj @hn @ht) ?_;with_reducible repeat' first|constructor|intro hc;try simp only[AD] at hc
   exact zE
 by_cases h5 : k = 5
 ·subst h5;have hn:=Bq b 0 hb (by decide);have hgt:=@Ex 0 b;have hln:=@Cw 0 b
  cases hp : B9 0 b with
  | none =>
   have e : B6 ⟨5,c,s,d,ky,sl,dn,pl,pr,l,⟨ik,iv,ir,ig⟩,co⟩ b = (⟨5,c,s,d,ky,sl,dn,pl,pr,l,⟨ik,iv,ir,ig⟩,co⟩,false):=by unfold B6;simp only [Cg,Int.reduceEq,if_true,if_false,hp]
   rw [e];rw [hp] at hn;unfold D3 at hn;refine wd BB [] [] A0 (AF @hn) ?_;with_reducible repeat' first|constructor|intro hc;try simp only[AD] at hc
   exact zE
  | some p =>
   obtain ⟨q,r⟩:=p;have hg:=hgt hp;obtain ⟨hl1,hl2⟩:=hln hp;obtain rfl : q = []:=List.length_eq_zero_iff.1 hl1;rw [hp] at hn;unfold D3 at hn;have ht:=P9 r (by omega);have hD : ∀ z : Item,z.d = .agg [.s z.key,.i .i64 z.value,.i .i64 z.version,.b z.gone]:=fun _ => rfl
   rw [hD] at ht;have e : B6 ⟨5,c,s,d,ky,sl,dn,pl,pr,l,⟨ik,iv,ir,ig⟩,co⟩ b = (⟨5,c,s,d,ky,sl,dn,pl,pr,l,(DR r).1,co⟩,(DR r).2):=by unfold B6;simp only [Cg,Int.reduceEq,if_true,if_false,hp] <;> rfl
   rw [e];refine wd BB [] [] A0 (Aj @hn @ht) ?_;with_reducible repeat' first|constructor|intro hc;try simp only[AD] at hc
   exact zE
 by_cases h6 : k = 6
 ·subst h6;have hn:=Bq b 0 hb (by decide);have hgt:=@Ex 0 b;have hln:=@Cw 0 b
  cases hp : B9 0 b with
  | none =>
   have e : B6 ⟨6,c,s,d,ky,sl,dn,pl,pr,l,⟨ik,iv,ir,ig⟩,co⟩ b = (⟨6,c,s,d,ky,sl,dn,pl,pr,l,⟨ik,iv,ir,ig⟩,co⟩,false):=by unfold B6;simp only [Cg,Int.reduceEq,if_true,if_false,hp]
   rw [e];rw [hp] at hn;unfold D3 at hn;refine wd BB [] [] A0 (AF @hn) ?_;with_reducible repeat' first|constructor|intro hc;try simp only[AD] at hc
   exact zE
  | some p =>
   obtain ⟨q,r⟩:=p;have hg:=hgt hp;obtain ⟨hl1,hl2⟩:=hln hp;obtain rfl : q = []:=List.length_eq_zero_iff.1 hl1;rw [hp] at hn;unfold D3 at hn;have ht:=Kr r (by omega);unfold F7 at ht;have e : B6 ⟨6,c,s,d,ky,sl,dn,pl,pr,l,⟨ik,iv,ir,ig⟩,co⟩ b = (⟨6,c,s,d,ky,sl,dn,pl,pr,l,⟨(AN r).1,iv,ir,ig⟩,co⟩,(AN r).2.2 == 0):=by unfold B6;simp only [Cg,Int.reduceEq,if_true,if_false,hp] <;> rfl
   rw [e];refine wd BB [] [] A0 (Aj @hn @ht) ?_;with_reducible repeat' first|constructor|intro hc;try simp only[AD] at hc
   exact zE
 by_cases h12 : k = 12
 ·subst h12;have hn:=Bq b 1 hb (by decide);have hgt:=@Ex 1 b;have hln:=@Cw 1 b
  cases hp : B9 1 b with
  | none =>
   have e : B6 ⟨12,c,s,d,ky,sl,dn,pl,pr,l,⟨ik,iv,ir,ig⟩,co⟩ b = (⟨12,c,s,d,ky,sl,dn,pl,pr,l,⟨ik,iv,ir,ig⟩,co⟩,false):=by unfold B6;simp only [Cg,Int.reduceEq,if_true,if_false,hp]
   rw [e];rw [hp] at hn;unfold D3 at hn;refine wd BB [] [] A0 (AF @hn) ?_;with_reducible repeat' first|constructor|intro hc;try simp only[AD] at hc
   exact zE
  | some p =>
   obtain ⟨q,r⟩:=p;have hg:=hgt hp;obtain ⟨hl1,hl2⟩:=hln hp
   obtain ⟨x,rfl⟩ : ∃ x,q = [x]:=by
    rcases q with _ | ⟨x,_ | ⟨z,t⟩⟩ <;> first | exact ⟨_,rfl⟩ | (simp at hl1)
   have hx:=hg x (by simp);rw [hp] at hn;unfold D3 at hn
   by_cases h0 : x = 0
   ·subst h0;have ht:=P9 r (by omega);have hD : ∀ z : Item,z.d = .agg [.s z.key,.i .i64 z.value,.i .i64 z.version,.b z.gone]:=fun _ => rfl
    rw [hD] at ht;have e : B6 ⟨12,c,s,d,ky,sl,dn,pl,pr,l,⟨ik,iv,ir,ig⟩,co⟩ b = (⟨12,c,s,d,ky,sl,dn,pl,pr,l,(DR r).1,0⟩,(DR r).2):=by unfold B6;simp only [Cg,Int.reduceEq,if_true,if_false,hp] <;> rfl
    rw [e];refine wd BB [] [] A0 (Aj @hn @ht) ?_;with_reducible repeat' first|constructor|intro hc;try simp only[AD] at hc
    exact zE
   ·have f:=eq_false' h0;have e : B6 ⟨12,c,s,d,ky,sl,dn,pl,pr,l,⟨ik,iv,ir,ig⟩,co⟩ b = (⟨12,c,s,d,ky,sl,dn,pl,pr,l,⟨ik,iv,ir,ig⟩,x⟩,true):=by unfold B6;simp only [Cg,Int.reduceEq,if_true,if_false,hp,List.getD_cons_zero,h0]
    rw [e];refine wd BB [] [] (AF f) (AF @hn) ?_;with_reducible repeat' first|constructor|intro hc;try simp only[AD] at hc
    exact zE
 have hn:=Bq b 0 hb (by decide)
 have e : B6 ⟨k,c,s,d,ky,sl,dn,pl,pr,l,⟨ik,iv,ir,ig⟩,co⟩ b = (⟨k,c,s,d,ky,sl,dn,pl,pr,l,⟨ik,iv,ir,ig⟩,co⟩,true):=by
  unfold B6;simp only [Cg,h4,h10,h11,h7,h5,h6,h12,if_false,B9]
 rw [e];have hp : B9 0 b = some ([],b):=rfl;rw [hp] at hn;unfold D3 at hn;have f4:=eq_false' h4;have f5:=eq_false' h5;have f6:=eq_false' h6;have f7:=eq_false' h7;have f10:=eq_false' h10;have f11:=eq_false' h11;have f12:=eq_false' h12;refine wd BB [] [] (zq7 f4 f5 f6 f7 f10 f11 f12) (AF @hn) ?_;with_reducible repeat' first|constructor|intro hc;try simp only[AD] at hc
 exact zE
theorem DO : ∀ (l : List Int) (r : List UInt8),l.all fits = true → B9 l.length (A9 l ++ r) = some (l,r)
 | [],r,_ => rfl
 | n :: l,r,h => by
  simp only [List.all_cons,Bool.and_eq_true] at h;have e : A9 (n :: l) ++ r = A9 [n] ++ (A9 l ++ r):=by simp [A9]
  rw [List.length_cons,B9,e,Ca h.1];simp only;rw [DO l r h.2];simp only [(Aq h.1).1]
theorem N4 (g : Bool) : (CH g == 1) = g:=by cases g <;> rfl
theorem M1 (x : Item) (hk : x.key.length ≤ 255) (hv : fits x.value = true) (hn : fits x.version = true) : DR (BE x) = (x,true):=by
 obtain ⟨k,v,n,g⟩:=x
 have ht : AN (BE ⟨k,v,n,g⟩) = (k,A9 [v,n,CH g],0):=by
  rw [show BE ⟨k,v,n,g⟩ = UInt8.ofNat k.length :: k ++ A9 [v,n,CH g] by simp [Nu,BM,A9]];exact Lj k _ hk
 have hp : B9 3 (A9 [v,n,CH g]) = some ([v,n,CH g],[]):=by
  have:=DO [v,n,CH g] [] (by simp only [List.all_cons,List.all_nil,hv,hn,Ct,Bool.and_self]);rw [List.append_nil] at this;exact this
 unfold DR;rw [ht];simp only [hp,if_true,N4]
theorem X1 (m : A8) (h : m.right = true) : B6 m.empty (BC m) = (m,true):=by
 obtain ⟨_,_,_,_,hb,hh⟩:=FO h;clear h;obtain ⟨k,c,s,d,ky,sl,dn,pl,pr,l,⟨ik,iv,ir,ig⟩,co⟩:=m;unfold B6 BC;simp only [A8.empty] at hb ⊢;unfold A8.bare A8.has at *;simp only at hb hh
 by_cases h4 : k = 4
 ·subst h4;simp only [if_true,A8.mk.injEq,AE,Item.mk.injEq] at hb hh ⊢
  have hp : B9 2 (A9 [ky,CH sl]) = some ([ky,CH sl],[]):=by
   have:=DO [ky,CH sl] [] (by simp only [List.all_cons,List.all_nil,BG hh,Ct,Bool.and_self]);rw [List.append_nil] at this;exact this
  simp only [Cg,if_true,hp,List.getD_cons_zero,List.getD_cons_succ,N4]
  simp_all
 by_cases h5 : k = 5
 ·subst h5;simp only [Int.reduceEq,if_false,if_true,A8.mk.injEq,AE,Item.mk.injEq] at hb hh ⊢;obtain ⟨a1,a2,a3⟩:=F4 hh;simp only [Cg,Int.reduceEq,if_false,B9,M1 _ a1 a2 a3]
  simp_all
 by_cases h6 : k = 6
 ·subst h6;simp only [Int.reduceEq,if_false,if_true,A8.mk.injEq,AE,Item.mk.injEq,Bool.and_eq_true,decide_eq_true_eq] at hb hh ⊢;obtain ⟨a1,a2,a3⟩:=F4 hh.1
  have ht : AN (BM ik) = (ik,[],0):=by
   have:=Lj ik [] a1;rw [List.append_nil] at this;exact this
  simp only [Cg,Int.reduceEq,if_false,B9,ht]
  simp_all
 by_cases h7 : k = 7
 ·subst h7;simp only [Int.reduceEq,if_false,if_true,A8.mk.injEq,AE,Item.mk.injEq,Bool.and_eq_true,Bool.or_eq_true,decide_eq_true_eq] at hb hh ⊢;obtain ⟨b1,b2⟩:=IS hh.2
  have hf : fits (pr + 1) = true:=by
   rcases hh.1 with h | h
   ·subst h;rfl
   ·exact CR (by have:=Dj h;omega)
  have hp : B9 1 (A9 [pr + 1] ++ UInt8.ofNat l.length :: A9 l) = some ([pr + 1],UInt8.ofNat l.length :: A9 l):=DO [pr + 1] _ (by simp only [List.all_cons,List.all_nil,hf,Bool.and_self])
  have ht : AZ (UInt8.ofNat l.length :: A9 l) = (l,[],0):=by
   have:=Ow l [] (by omega) b2;rw [List.append_nil] at this;exact this
  have e1 : pr + 1 - 1 = pr:=by omega
  simp only [Cg,Int.reduceEq,if_false,if_true,hp,ht,List.getD_cons_zero,e1]
  simp_all
 by_cases h10 : k = 10
 ·subst h10;simp only [Int.reduceEq,if_false,if_true,A8.mk.injEq,AE,Item.mk.injEq] at hb hh ⊢
  have hp : B9 2 (A9 [pl,CH dn]) = some ([pl,CH dn],[]):=by
   have:=DO [pl,CH dn] [] (by simp only [List.all_cons,List.all_nil,BG hh,Ct,Bool.and_self]);rw [List.append_nil] at this;exact this
  simp only [Cg,Int.reduceEq,if_false,if_true,hp,List.getD_cons_zero,List.getD_cons_succ,N4]
  simp_all
 by_cases h11 : k = 11
 ·subst h11;simp only [Int.reduceEq,if_false,if_true,A8.mk.injEq,AE,Item.mk.injEq,Bool.or_eq_true,decide_eq_true_eq] at hb hh ⊢;have hf : fits co = true:=by rcases hh with h | h <;> rw [h] <;> rfl
  have hp : B9 1 (A9 [co]) = some ([co],[]):=by
   have:=DO [co] [] (by simp only [List.all_cons,List.all_nil,hf,Bool.and_self]);rw [List.append_nil] at this;exact this
  simp only [Cg,Int.reduceEq,if_false,if_true,hp,List.getD_cons_zero]
  simp_all
 by_cases h12 : k = 12
 ·subst h12;simp only [Int.reduceEq,if_false,if_true,A8.mk.injEq,AE,Item.mk.injEq,Bool.or_eq_true,Bool.and_eq_true,decide_eq_true_eq] at hb hh ⊢;rcases hh with ⟨h0,h1⟩ | ⟨h0,h1⟩
  ·subst h0;obtain ⟨a1,a2,a3⟩:=F4 h1;have hp : B9 1 (A9 [0] ++ BE ⟨ik,iv,ir,ig⟩) = some ([0],BE ⟨ik,iv,ir,ig⟩):=DO [0] _ rfl;simp only [Cg,Int.reduceEq,if_false,if_true,hp,List.getD_cons_zero,M1 _ a1 a2 a3]
   simp_all
  ·subst h0;have hp : B9 1 (A9 [201]) = some ([201],[]):=DO [201] [] rfl;simp only [Cg,Int.reduceEq,if_false,if_true,hp,List.getD_cons_zero,List.append_nil]
   simp_all
 simp only [h4,h5,h6,h7,h10,h11,h12,if_false,A8.mk.injEq,Cg,B9] at hb ⊢
 simp_all
theorem U5 (m : A8) (b : List UInt8) (h : m.list.length ≤ 255) : (B6 m b).1.list.length ≤ 255:=by
 unfold B6;split
 ·exact h
 ·repeat' split
  all_goals first | exact h | exact OR _
def FA (b : List UInt8) : A8 × Int:=match B9 4 b with
 | some ([k,c,s,d],r) => if k ≥ 13 then (AC,12) else
  if (B6 ⟨k,c,s,d,0,false,false,0,0,[],AE,0⟩ r).2 = true ∧ (B6 ⟨k,c,s,d,0,false,false,0,0,[],AE,0⟩ r).1.right = true ∧ Ay (B6 ⟨k,c,s,d,0,false,false,0,0,[],AE,0⟩ r).1 = b
  then ((B6 ⟨k,c,s,d,0,false,false,0,0,[],AE,0⟩ r).1,0) else (AC,12)
 | _ => (AC,12)
theorem Sv (b : List UInt8) : (∃ m,FA b = (m,0) ∧ m.right = true ∧ Ay m = b) ∨ FA b = (AC,12):=by
 unfold FA;split
 ·split
  ·exact .inr rfl
  ·split
   ·rename_i h;exact .inl ⟨_,rfl,h.2.1,h.2.2⟩
   ·exact .inr rfl
 ·exact .inr rfl
theorem XS {m : A8} (h : m.right = true) : FA (Ay m) = (m,0):=by
 obtain ⟨⟨k1,k2⟩,⟨p1,p2⟩,_,⟨c1,c2⟩,hb,hh⟩:=FO h;have ha:=KG h;have fk : fits m.kind = true:=CR (by omega);have fc : fits m.call = true:=CR (by omega);have hp : B9 4 (Ay m) = some ([m.kind,m.call,m.src,m.dst],BC m):=DO [m.kind,m.call,m.src,m.dst] (BC m) (by simp only [List.all_cons,List.all_nil,fk,fc,BG p1,BG p2,Bool.and_self]);have hm:=X1 m h;unfold A8.empty at hm;unfold FA;rw [hp];simp only [hm];rw [if_neg (by omega),if_pos (And.intro trivial (And.intro h trivial))]
theorem bJ (b : List UInt8) : FA b = Da b:=by
 rcases Sv b with ⟨m,h1,h2,h3⟩ | h1
 ·rw [h1,← h3,Sw h2]
 ·obtain ⟨m,e,h⟩ : ∃ m e,Da b = (m,e):=⟨_,_,rfl⟩;rcases bK h with ⟨h2,h3,h4⟩ | ⟨h2,h3⟩
  ·have:=XS h3;rw [h4,h1] at this;simp at this
  ·rw [h1,h,h2,h3]
def Nq (b : List UInt8) : List UInt8 × Int:=if b.length < 8 then ([],11) else
 if (BX ((b.take (b.length - 4)).drop 4)).2 = 0 ∧ (BX ((b.take (b.length - 4)).drop 4)).1 = b then ((b.take (b.length - 4)).drop 4,0) else ([],12)
theorem WR {p : List UInt8} (h : (BX p).2 = 0) : p.length ≤ 112:=by
 unfold BX at h;split at h
 ·simp at h
 ·omega
theorem ai (b : List UInt8) : Nq b = As b:=by
 obtain ⟨p,e,h⟩ : ∃ p e,As b = (p,e):=⟨_,_,rfl⟩;unfold Nq;rcases Sc h with ⟨h1,h2,h3⟩ | ⟨h1,h2,h3⟩ | ⟨h1,h2,h3⟩
 ·subst h1;have hb:=h3;rw [FV h2] at hb;simp only at hb;have hl : b.length = p.length + 8:=by rw [← hb];simp [GR,Pm];omega
  have e : (b.take (b.length - 4)).drop 4 = p:=by
   rw [hl,← hb,List.append_assoc,show p.length + 8 - 4 = (hdr p.length).length + p.length by rw [GR];omega,List.take_append,List.drop_append];simp [GR]
  rw [if_neg (by omega),e,if_pos ⟨by rw [FV h2],h3⟩,h]
 ·rw [if_pos h2,h,h1,h3]
 ·rw [if_neg (by omega),if_neg,h,h1,h3];rintro ⟨a,c⟩;have:=Nr (WR a);rw [c,h,h1] at this;simp at this
abbrev GE : List Nat:=[0,2,3,4,5,6,9,30]
abbrev EX : List Nat:=[0,2,3,4,5,6,7,8,9,10,24,46,61]
theorem bB (b : List UInt8) (hb : b.length < 70368744177664) : Go.Gar.Fn Tryz.prog 59 [.by b] (.tup [.by (As b).1,.i .i64 (As b).2]):=by
 rw [← ai];refine zF A6 Tryz.func59 ?_
 by_cases h8 : b.length < 8
 ·have e : Nq b = ([],11):=if_pos h8;refine wk GE [] A0 A0 ?_;with_reducible repeat' first|constructor|intro hc;try simp only[AD] at hc
  refine ⟨_,_,rfl,rfl,?_⟩;simp [AR,AB,A7,A4,e]
 have e1 : ((b.length : Int) - 4).toNat = b.length - 4:=by omega
 have hc:=PD ((b.take (b.length - 4)).drop 4);have e0 : Nq b = if (BX ((b.take (b.length - 4)).drop 4)).2 = 0 ∧ (BX ((b.take (b.length - 4)).drop 4)).1 = b then ((b.take (b.length - 4)).drop 4,0) else ([],12):=if_neg h8
 refine wk GE [] (AF e1) A0 ?_;with_reducible repeat' first|constructor|intro hc;try simp only[AD] at hc
 generalize hp : (b.take (b.length - 4)).drop 4 = p at *
 by_cases hz : (BX p).2 = 0
 ·have f:=CI hz
  by_cases hq : (BX p).1 = b
  ·have e : Nq b = (p,0):=by rw [e0,if_pos ⟨hz,hq⟩]
   have f2 : ((BX p).1 == b) = true:=by simp [hq]
   refine wk GE [] (Aj f f2) (AF @hc) ?_;refine ⟨_,_,rfl,rfl,?_⟩;simp [AR,AB,A7,A4,e]
  ·have e : Nq b = ([],12):=by rw [e0,if_neg (fun h => hq h.2)]
   have f2 : ((BX p).1 == b) = false:=by simp [hq]
   refine wk GE [] (Aj f f2) (AF @hc) ?_;refine ⟨_,_,rfl,rfl,?_⟩;simp [AR,AB,A7,A4,e]
 ·have e : Nq b = ([],12):=by rw [e0,if_neg (fun h => hz h.1)]
  have f:=CJ hz;refine wk GE [] (AF f) (AF @hc) ?_;refine ⟨_,_,rfl,rfl,?_⟩;simp [AR,AB,A7,A4,e]
theorem bD (b : List UInt8) (hb : b.length < 70368744177664) : Go.Gar.Fn Tryz.prog 60 [.by b] (.tup [(Da b).1.d,.i .i64 (Da b).2]):=by
 rw [← bJ];have hn:=Bq b 4 hb (by decide);have hg:=@Ex 4 b;have hln:=@Cw 4 b;refine zF A6 Tryz.func60 ?_
 cases hp : B9 4 b with
 | none =>
  have e : FA b = (AC,12):=by unfold FA;rw [hp]
  rw [hp] at hn;unfold D3 at hn;unfold A8.d A8.cells;refine wd EX [] [] A0 (AF @hn) ?_;refine ⟨_,_,rfl,rfl,?_⟩;simp [AR,AB,A7,A4,e,AC,AE]
 | some p =>
  obtain ⟨l,r⟩:=p;obtain ⟨hl1,hl2⟩:=hln hp;have hg:=hg hp
  obtain ⟨k,c,s,d,rfl⟩ : ∃ k c s d,l = [k,c,s,d]:=by
   rcases l with _ | ⟨k,_ | ⟨c,_ | ⟨s,_ | ⟨d,_ | ⟨x,t⟩⟩⟩⟩⟩ <;> first | exact ⟨_,_,_,_,rfl⟩ | (simp at hl1)
  have hk:=hg k (by simp);rw [hp] at hn;unfold D3 at hn
  by_cases h13 : k ≥ 13
  ·have e : FA b = (AC,12):=by unfold FA;rw [hp];exact if_pos h13
   unfold A8.d A8.cells;refine wd EX [] [] A0 (AF @hn) ?_;with_reducible repeat' first|constructor|intro hc;try simp only[AD] at hc
   refine ⟨_,_,rfl,rfl,?_⟩;simp [AR,AB,A7,A4,e,AC,AE]
  have ek : k % 256 = k:=by omega
  have hm:=aS ⟨k,c,s,d,0,false,false,0,0,[],AE,0⟩ r (by omega);have hl:=U5 ⟨k,c,s,d,0,false,false,0,0,[],AE,0⟩ r (Nat.zero_le _)
  have e0 : FA b = if (B6 ⟨k,c,s,d,0,false,false,0,0,[],AE,0⟩ r).2 = true ∧ (B6 ⟨k,c,s,d,0,false,false,0,0,[],AE,0⟩ r).1.right = true ∧ Ay (B6 ⟨k,c,s,d,0,false,false,0,0,[],AE,0⟩ r).1 = b then ((B6 ⟨k,c,s,d,0,false,false,0,0,[],AE,0⟩ r).1,0) else (AC,12):=by
   unfold FA;rw [hp];exact if_neg h13
  rcases hM : B6 ⟨k,c,s,d,0,false,false,0,0,[],AE,0⟩ r with ⟨m,is⟩;rw [hM] at hm hl e0;simp only at hl e0;have hP:=M2 m (by omega);unfold Ha at hP
  cases is with
  | false =>
   have e : FA b = (AC,12):=by rw [e0,if_neg (fun h => Bool.noConfusion h.1)]
   unfold A8.d A8.cells at *;simp only [AE] at hm;have z1:=@hm;refine wd EX [] [] (AF ek) (AF @hn) ?_;clear z1;with_reducible repeat' first|constructor|intro hc;try simp only[AD] at hc
   refine ⟨_,_,rfl,rfl,?_⟩;simp [AR,AB,A7,A4,e,AC,AE]
  | true =>
   cases hr : m.right with
   | false =>
    have e : FA b = (AC,12):=by rw [e0,if_neg (fun h => by rw [hr] at h;exact Bool.noConfusion h.2.1)]
    rw [hr,if_neg (by decide)] at hP;unfold A8.d A8.cells at *;simp only [AE] at hm;have z1:=@hm;refine wd EX [] [] (AF ek) (Aj @hn @hP) ?_;clear z1;with_reducible repeat' first|constructor|intro hc;try simp only[AD] at hc
    refine ⟨_,_,rfl,rfl,?_⟩;simp [AR,AB,A7,A4,e,AC,AE]
   | true =>
    rw [hr,if_pos rfl] at hP
    by_cases hq : Ay m = b
    ·have e : FA b = (m,0):=by rw [e0,if_pos ⟨rfl,hr,hq⟩]
     have f2 : (Ay m == b) = true:=by simp [hq]
     unfold A8.d A8.cells at *;simp only [AE] at hm;have z1:=@hm;refine wd EX [] [] (Aj ek f2) (Aj @hn @hP) ?_;clear z1;with_reducible repeat' first|constructor|intro hc;try simp only[AD] at hc
     refine ⟨_,_,rfl,rfl,?_⟩;simp [AR,AB,A7,A4,e]
    ·have e : FA b = (AC,12):=by rw [e0,if_neg (fun h => hq h.2.2)]
     have f2 : (Ay m == b) = false:=by simp [hq]
     unfold A8.d A8.cells at *;simp only [AE] at hm;have z1:=@hm;refine wd EX [] [] (Aj ek f2) (Aj @hn @hP) ?_;clear z1;with_reducible repeat' first|constructor|intro hc;try simp only[AD] at hc
     refine ⟨_,_,rfl,rfl,?_⟩;simp [AR,AB,A7,A4,e,AC,AE]
theorem bC (m : A8) (hl : m.list.length < 9223372036854775807) : Go.Gar.Fn Tryz.prog 68 [m.d] (.tup [.by (Bn m).1,.i .i64 (Bn m).2]):=by
 have hP:=M2 m hl
 cases h : m.right with
 | false =>
  have e : Bn m = ([],2):=by unfold Bn;rw [h];rfl
  have e2 : Ha m = ([],2):=by unfold Ha;rw [h];rfl
  rw [e2] at hP;unfold A8.d A8.cells at *;refine zF A6 Tryz.func68 ?_;refine wk [0,1,2,3,4,5,12] [] A0 (AF @hP) ?_;refine ⟨_,_,rfl,rfl,?_⟩;simp [AR,AB,A7,A4,e]
 | true =>
  have e : Bn m = BX (Ay m):=by unfold Bn;rw [h];rfl
  have e2 : Ha m = (Ay m,0):=by unfold Ha;rw [h];rfl
  have hC:=PD (Ay m);rw [e2] at hP;unfold A8.d A8.cells at *;refine zF A6 Tryz.func68 ?_;refine wk [0,1,2,3,4,5,12] [] A0 (Aj @hP @hC) ?_;refine ⟨_,_,rfl,rfl,?_⟩;simp [AR,AB,A7,A4,e]
theorem X9 (b : List UInt8) : (As b).1.length ≤ 112:=by
 obtain ⟨p,e,h⟩ : ∃ p e,As b = (p,e):=⟨_,_,rfl⟩;rw [h];rcases Sc h with ⟨_,h2,_⟩ | ⟨_,_,h3⟩ | ⟨_,_,h3⟩
 ·exact h2
 ·rw [h3];exact Nat.zero_le _
 ·rw [h3];exact Nat.zero_le _
theorem PE (b : List UInt8) (hb : b.length < 70368744177664) : Go.Gar.Fn Tryz.prog 17 [.by b] (.tup [(Bl b).1.d,.i .i64 (Bl b).2]):=by
 have hO:=bB b hb;have hol:=X9 b;refine zF A6 Tryz.func17 ?_
 by_cases h : (As b).2 = 0
 ·have e : Bl b = Da (As b).1:=if_pos h;have hR:=bD (As b).1 (by omega);have f:=CI h;unfold A8.d A8.cells at *;refine wk [0,2,3,4,5,12] [] (AF f) (Aj @hO @hR) ?_;refine ⟨_,_,rfl,rfl,?_⟩;simp [AR,AB,A7,A4,e]
 ·have e : Bl b = (AC,(As b).2):=if_neg h;have f:=CJ h;unfold A8.d A8.cells;refine wk [0,2,3,4,5,12] [] (AF f) (AF @hO) ?_;refine ⟨_,_,rfl,rfl,?_⟩;simp [AR,AB,A7,A4,e,AC,AE]
end Wi
end Go.Proofs.YtkljbfejbakooaaGreatDoor
