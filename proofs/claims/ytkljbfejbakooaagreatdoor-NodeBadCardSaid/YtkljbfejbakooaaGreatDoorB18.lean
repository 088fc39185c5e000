/- Part 18 of a proof, put together by a program. Conditions: none beyond those that a theorem states. -/
import Derived.Test.YtkljbfejbakooaaGreatDoorB15
import Derived.Test.YtkljbfejbakooaaGreatDoorB17
set_option linter.unusedSimpArgs false
set_option linter.unusedVariables false
set_option linter.unnecessarySimpa false
set_option maxHeartbeats 40000000
namespace Go.Proofs.YtkljbfejbakooaaGreatDoor
namespace Wi
open Go.Gar
set_option maxRecDepth 4000
def B7 (s : List UInt8) : List UInt8:=UInt8.ofNat s.length :: s
theorem Qa (s o : List UInt8) (hs : s.length ≤ 255) (ho : o.length ≤ 1000000) :
  B4 Tryz.prog 325 [.ptr 0 0 1,.d (.s s)] (wH o) (.tup []) (wH (o ++ B7 s)):=by
 have ht:=Zk s;have e : textS s = (UInt8.ofNat s.length :: s,0):=by unfold textS;rw [if_neg (by omega)]
 rw [e] at ht;refine zD A6 Tryz.func325 ?_;unfold wH;refine wk [0,1,4,5] [] A0 (BM @ht (Ep 2)) ?_;exact ⟨⟨[],wH (o ++ B7 s),Tryz.f325.ntmps⟩,(A1.ck rfl),Nat.le_refl _,_,_,rfl,rfl,rfl,rfl⟩
theorem Wx (l : List Int) (o : List UInt8) (hl : l.length ≤ 255) (hf : l.all fits = true) (ho : o.length ≤ 1000000) :
  B4 Tryz.prog 327 [.ptr 0 0 1,.d (.is l)] (wH o) (.tup []) (wH (o ++ (UInt8.ofNat l.length :: A5 l))):=by
 have ht:=list_fn l;have e : FR l = (UInt8.ofNat l.length :: A5 l,0):=by unfold FR;rw [if_neg (by omega),if_pos hf]
 have hn:=DF l hf;rw [e] at ht;refine zD A6 Tryz.func327 ?_;unfold wH;refine wk [0,1,4,5] [] A0 (BM @ht (Ep 2)) ?_;exact ⟨⟨[],wH (o ++ (UInt8.ofNat l.length :: A5 l)),Tryz.f327.ntmps⟩,(A1.ck rfl),Nat.le_refl _,_,_,rfl,rfl,rfl,rfl⟩
def Ax (x : Item) : List UInt8:=B7 x.key ++ A5 [x.value,x.version,Bq x.gone]
theorem CQ (b : Bool) : fits (Bq b) = true:=by cases b <;> rfl
theorem QA (x : Item) (o : List UInt8) (hs : x.key.length ≤ 255) (h1 : fits x.value = true) (h2 : fits x.version = true) (ho : o.length ≤ 100000) :
  B4 Tryz.prog 323 [.ptr 0 0 1,.d x.d] (wH o) (.tup []) (wH (o ++ Ax x)):=by
 obtain ⟨k,v,n,g⟩:=x;have ht:=Qa k o hs (by omega);have hp:=GU [v,n,Bq g] (o ++ B7 k) (by simp only [List.all_cons,List.all_nil,CQ,Bool.and_true];rw [h1,h2];rfl) (by simp) (by simp only [B7,List.length_append,List.length_cons];simp at hs;omega);have hb:=Qn g;refine zD A6 Tryz.func323 ?_;unfold wH at *;have d1:=Ds.mk [0,1] (ht);have d2:=Ds.mk [0,1] (hp);refine wd [0,1,3] [] [] A0 (AG @hb) ?_;clear d2 d1;exact ⟨⟨[],wH (o ++ B7 k ++ A5 [v,n,Bq g]),Tryz.f323.ntmps⟩,(A1.ck rfl),Nat.le_refl _,_,_,rfl,rfl,rfl,by simp only [wH,Ax,List.append_assoc]⟩
def kH (m : A8) (o : List UInt8) : List A2:=[.c [.ptr 2 0 1],.c (mC m),.c [.sl 3 o.length 1],.a (.by o)]
def Av (m : A8) : List UInt8 :=
 if m.kind = 4 then A5 [m.key,Bq m.slow] else
 if m.kind = 5 then Ax m.item else
 if m.kind = 6 then B7 m.item.key else
 if m.kind = 7 then A5 [m.pred + 1] ++ (UInt8.ofNat m.list.length :: A5 m.list) else
 if m.kind = 10 then A5 [m.place,Bq m.done] else
 if m.kind = 11 then A5 [m.code] else
 if m.kind = 12 then A5 [m.code] ++ (if m.code = 0 then Ax m.item else []) else []
theorem ca (m : A8) (o : List UInt8) (h : fits m.key = true) (ho : o.length ≤ 100000) : B4 Tryz.prog 320 [.ptr 0 0 1,.ptr 1 0 15] (kH m o) (.tup []) (kH m (o ++ A5 [m.key,Bq m.slow])):=by
 have hp:=GU [m.key,Bq m.slow] o (by simp only [List.all_cons,List.all_nil,CQ,Bool.and_true];exact h) (by simp) (by omega);have hb:=Qn m.slow;refine zD A6 Tryz.func320 ?_;unfold kH mC wH at *;have d1:=Ds.mk [2,3] (hp);refine wd [0,1] [] [] A0 (AG @hb) ?_;clear d1;exact ⟨_,A1.refl _,Nat.le_refl _,_,_,rfl,rfl,rfl,rfl⟩
theorem cf (m : A8) (o : List UInt8) (h : fits m.place = true) (ho : o.length ≤ 100000) : B4 Tryz.prog 328 [.ptr 0 0 1,.ptr 1 0 15] (kH m o) (.tup []) (kH m (o ++ A5 [m.place,Bq m.done])):=by
 have hp:=GU [m.place,Bq m.done] o (by simp only [List.all_cons,List.all_nil,CQ,Bool.and_true];exact h) (by simp) (by omega);have hb:=Qn m.done;refine zD A6 Tryz.func328 ?_;unfold kH mC wH at *;have d1:=Ds.mk [2,3] (hp);refine wd [0,1] [] [] A0 (AG @hb) ?_;clear d1;exact ⟨_,A1.refl _,Nat.le_refl _,_,_,rfl,rfl,rfl,rfl⟩
theorem cb (m : A8) (o : List UInt8) (hs : m.item.key.length ≤ 255) (h1 : fits m.item.value = true) (h2 : fits m.item.version = true) (ho : o.length ≤ 100000) : B4 Tryz.prog 322 [.ptr 0 0 1,.ptr 1 0 15] (kH m o) (.tup []) (kH m (o ++ Ax m.item)):=by
 have hp:=QA m.item o hs h1 h2 ho;refine zD A6 Tryz.func322 ?_;unfold kH mC wH at *;have d1:=Ds.mk [2,3] (hp);refine wk [0,1] [] A0 A0 ?_;clear d1;exact ⟨_,A1.refl _,Nat.le_refl _,_,_,rfl,rfl,rfl,rfl⟩
theorem cd (m : A8) (o : List UInt8) (hs : m.item.key.length ≤ 255) (ho : o.length ≤ 100000) : B4 Tryz.prog 324 [.ptr 0 0 1,.ptr 1 0 15] (kH m o) (.tup []) (kH m (o ++ B7 m.item.key)):=by
 have hp:=Qa m.item.key o hs (by omega);refine zD A6 Tryz.func324 ?_;unfold kH mC wH at *;have d1:=Ds.mk [2,3] (hp);refine wk [0,1] [] A0 A0 ?_;clear d1;exact ⟨_,A1.refl _,Nat.le_refl _,_,_,rfl,rfl,rfl,rfl⟩
theorem ce (m : A8) (o : List UInt8) (h : fits (m.pred + 1) = true) (hl : m.list.length ≤ 255) (hf : m.list.all fits = true) (ho : o.length ≤ 100000) :
  B4 Tryz.prog 326 [.ptr 0 0 1,.ptr 1 0 15] (kH m o) (.tup []) (kH m (o ++ A5 [m.pred + 1] ++ (UInt8.ofNat m.list.length :: A5 m.list))):=by
 have hp:=GU [m.pred + 1] o (by simp only [List.all_cons,List.all_nil,Bool.and_true];exact h) (by simp) (by omega);have hn:=DF [m.pred + 1] (by simp only [List.all_cons,List.all_nil,Bool.and_true];exact h);have hp2:=Wx m.list (o ++ A5 [m.pred + 1]) hl hf (by simp only [List.length_append];simp only [List.length_cons,List.length_nil] at hn;omega);have hb : -1 ≤ m.pred ∧ m.pred ≤ 1099511627776:=by simp [fits] at h;omega
 refine zD A6 Tryz.func326 ?_;unfold kH mC wH at *;have d1:=Ds.mk [2,3] (hp);have d2:=Ds.mk [2,3] (hp2);refine wk [0,1] [] A0 A0 ?_;clear d2 d1;exact ⟨_,A1.refl _,Nat.le_refl _,_,_,rfl,rfl,rfl,rfl⟩
theorem cg (m : A8) (o : List UInt8) (h : fits m.code = true) (ho : o.length ≤ 100000) : B4 Tryz.prog 329 [.ptr 0 0 1,.ptr 1 0 15] (kH m o) (.tup []) (kH m (o ++ A5 [m.code])):=by
 have hp:=GU [m.code] o (by simp only [List.all_cons,List.all_nil,Bool.and_true];exact h) (by simp) (by omega);refine zD A6 Tryz.func329 ?_;unfold kH mC wH at *;have d1:=Ds.mk [2,3] (hp);refine wk [0,1] [] A0 A0 ?_;clear d1;exact ⟨_,A1.refl _,Nat.le_refl _,_,_,rfl,rfl,rfl,rfl⟩
theorem ci (m : A8) (o : List UInt8) (h : fits m.code = true) (hI : m.code = 0 → m.item.key.length ≤ 255 ∧ fits m.item.value = true ∧ fits m.item.version = true) (ho : o.length ≤ 10000) :
  B4 Tryz.prog 330 [.ptr 0 0 1,.ptr 1 0 15] (kH m o) (.tup []) (kH m (o ++ (A5 [m.code] ++ (if m.code = 0 then Ax m.item else [])))):=by
 have hp:=GU [m.code] o (by simp only [List.all_cons,List.all_nil,Bool.and_true];exact h) (by simp) (by omega);have hn:=DF [m.code] (by simp only [List.all_cons,List.all_nil,Bool.and_true];exact h);simp only [List.length_cons,List.length_nil] at hn;refine zD A6 Tryz.func330 ?_
 by_cases hc0 : m.code = 0
 ·obtain ⟨a1,a2,a3⟩:=hI hc0;have hp2:=QA m.item (o ++ A5 [m.code]) a1 a2 a3 (by simp only [List.length_append];omega);have f:=B3 hc0;rw [if_pos hc0,← List.append_assoc];unfold kH mC wH at *;have d1:=Ds.mk [2,3] (hp);have d2:=Ds.mk [2,3] (hp2);refine wk [0,1,9] [] (AG f) A0 ?_;clear d2 d1;exact ⟨_,A1.refl _,Nat.le_refl _,_,_,rfl,rfl,rfl,rfl⟩
 ·have f:=eq_false' hc0;rw [if_neg hc0,List.append_nil];unfold kH mC wH at *;have d1:=Ds.mk [2,3] (hp);refine wk [0,1,9] [] (AG f) A0 ?_;clear d1;exact ⟨_,A1.refl _,Nat.le_refl _,_,_,rfl,rfl,rfl,rfl⟩
end Wi
end Go.Proofs.YtkljbfejbakooaaGreatDoor
