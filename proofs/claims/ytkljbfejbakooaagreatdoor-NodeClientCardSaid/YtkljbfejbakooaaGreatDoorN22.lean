/- Part 22 of a proof, put together by a program. Conditions: none beyond those that a theorem states. -/
import Derived.Test.YtkljbfejbakooaaGreatDoorN17
import Derived.Test.YtkljbfejbakooaaGreatDoorN21
set_option linter.unusedSimpArgs false
set_option linter.unusedVariables false
set_option linter.unnecessarySimpa false
set_option maxHeartbeats 40000000
namespace Go.Proofs.YtkljbfejbakooaaGreatDoor
namespace Nd
open Go.Gar
open Wi (A8 B7 AU)
set_option maxRecDepth 4000
abbrev JR : List Nat:=[0,1,4,5,7,8,9,16]
structure Ip (n : Node) : Prop where
 id : i64 n.view.id
 li : ∀ y ∈ n.view.list,i64 y
 vb : n.view.base.length ≤ 1000
 vl : n.view.list.length ≤ 1000
 cl : ∀ x ∈ n.calls.op,C3 x.msg
 cn : n.calls.op.length ≤ 1048576
 sl : ∀ x ∈ n.seen,C3 x.told
 sn : n.seen.length ≤ 1048576
 kn : n.keep.length ≤ 1048576
 fl : n.finger.left.length ≤ 1048576
 ml : n.mirror.left.length ≤ 1048576
 tl : n.client.left.length ≤ 1048576
def LZ (n : Node) : Bool:=!(n.seen.any fun p => decide (p.told.src ≠ n.view.id))
def B0 (n : Node) : Bool:=(decide (0 ≤ n.clock) && decide (n.clock ≤ 1099511627776)) && (decide (0 ≤ n.bad) && ((decide (0 ≤ n.next) && decide (n.next < 16)) && (Aw n.view && ((decide (n.calls.id = n.view.id) && Bh n.calls) && (Hu n.phase n.of_ && (Bp n.keep && (FB n.seen && LZ n)))))))
variable {α : Type}
def S9 (q : α → Bool) (l : List α) : Int:=match l.findIdx? q with
 | some n => (n : Int)
 | none => -1
variable {q : α → Bool}
theorem dT {l : List α} {k : Nat} {x : α} (hx : l[k]? = some x) (h : q x = true) (hn : (l.take k).any q = false) : S9 q l = k:=by
 unfold S9;rw [Lw hx h hn]
theorem VV {l : List α} (hn : l.any q = false) : S9 q l = -1:=by
 unfold S9
 have : l.findIdx? q = none:=by
  rw [List.findIdx?_eq_none_iff];rw [List.any_eq_false] at hn;intro x hx;simpa using hn x hx
 rw [this]
theorem dU (q : α → Bool) (l : List α) : decide (S9 q l ≥ 0) = l.any q:=by
 cases h : l.any q with
 | false => rw [VV h];rfl
 | true =>
  obtain ⟨x,hx,hp⟩:=List.any_eq_true.1 h
  have : l.findIdx? q ≠ none:=by
   rw [Ne,List.findIdx?_eq_none_iff];intro hh;have:=hh x hx;rw [hp] at this;cases this
  unfold S9;split
  ·exact decide_eq_true (by omega)
  ·contradiction
theorem jm (n : Node) : Ao Tryz.prog 89 [.ptr 0 0 76] [.c (AK n)] (.d (.b (decide (0 ≤ n.clock) && decide (n.clock ≤ 1099511627776)))) [.c (AK n)]:=by
 refine zD A6 Tryz.func89 ?_;unfold AK
 by_cases h1 : 0 ≤ n.clock
 ·have f1 : decide (n.clock ≥ 0) = true:=decide_eq_true h1;rw [decide_eq_true h1,Bool.true_and];refine wk [0,1] [] (AF f1) A0 ?_;exact ⟨⟨[(1,.d (.b (decide (n.clock ≤ 1099511627776))))],[.c (AK n)],_⟩,(A3.ck rfl),Nat.le_refl _,_,_,rfl,rfl,rfl,rfl⟩
 ·have f1 : decide (n.clock ≥ 0) = false:=decide_eq_false h1;rw [decide_eq_false h1,Bool.false_and];refine wk [0,1] [] (AF f1) A0 ?_;exact ⟨⟨[(1,.d (.b false))],[.c (AK n)],_⟩,(A3.ck rfl),Nat.le_refl _,_,_,rfl,rfl,rfl,rfl⟩
theorem jn (n : Node) : Ao Tryz.prog 90 [.ptr 0 0 76] [.c (AK n)] (.d (.b (decide (0 ≤ n.bad)))) [.c (AK n)]:=by
 refine zD A6 Tryz.func90 ?_;unfold AK;refine wk [0,1] [] A0 A0 ?_;exact ⟨⟨[(1,.d (.b (decide (0 ≤ n.bad))))],[.c (AK n)],_⟩,(A3.ck rfl),Nat.le_refl _,_,_,rfl,rfl,rfl,rfl⟩
theorem jo (n : Node) : Ao Tryz.prog 91 [.ptr 0 0 76] [.c (AK n)] (.d (.b (decide (0 ≤ n.next) && decide (n.next < 16)))) [.c (AK n)]:=by
 refine zD A6 Tryz.func91 ?_;unfold AK
 by_cases h1 : 0 ≤ n.next
 ·have f1 : decide (n.next ≥ 0) = true:=decide_eq_true h1;rw [decide_eq_true h1,Bool.true_and];refine wk [0,1] [] (AF f1) A0 ?_;exact ⟨⟨[(1,.d (.b (decide (n.next < 16))))],[.c (AK n)],_⟩,(A3.ck rfl),Nat.le_refl _,_,_,rfl,rfl,rfl,rfl⟩
 ·have f1 : decide (n.next ≥ 0) = false:=decide_eq_false h1;rw [decide_eq_false h1,Bool.false_and];refine wk [0,1] [] (AF f1) A0 ?_;exact ⟨⟨[(1,.d (.b false))],[.c (AK n)],_⟩,(A3.ck rfl),Nat.le_refl _,_,_,rfl,rfl,rfl,rfl⟩
theorem jp (n : Node) (h : Ip n) : Ao Tryz.prog 92 [.ptr 0 0 76] [.c (AK n)] (.d (.b (Aw n.view))) [.c (AK n)]:=by
 have c1:=OC n.view (by have:=h.vb;omega) (by have:=h.vl;omega);refine zD A6 Tryz.func92 ?_;generalize Aw n.view = b at *;unfold View.d View.cells at c1;unfold AK;refine wk [0,1] [] A0 (AF @c1) ?_;exact ⟨⟨[(1,.d (.b b))],[.c (AK n)],_⟩,(A3.ck rfl),Nat.le_refl _,_,_,rfl,rfl,rfl,rfl⟩
theorem jq (n : Node) (h : Ip n) : Ao Tryz.prog 94 [.ptr 0 0 76] [.c (AK n)] (.d (.b (decide (n.calls.id = n.view.id) && Bh n.calls))) [.c (AK n)]:=by
 have c1:=RS n.calls h.cl;refine zD A6 Tryz.func94 ?_;generalize Bh n.calls = b at *;unfold Calls.d Calls.cells at c1;unfold AK
 by_cases h1 : n.calls.id = n.view.id
 ·have f1:=AS h1;rw [decide_eq_true h1,Bool.true_and];refine wk [0,1] [] (AF f1) (AF @c1) ?_;exact ⟨⟨[(1,.d (.b b))],[.c (AK n)],_⟩,(A3.ck rfl),Nat.le_refl _,_,_,rfl,rfl,rfl,rfl⟩
 ·have f1:=eq_false' h1;rw [decide_eq_false h1,Bool.false_and];refine wk [0,1] [] (AF f1) (AF @c1) ?_;exact ⟨⟨[(1,.d (.b false))],[.c (AK n)],_⟩,(A3.ck rfl),Nat.le_refl _,_,_,rfl,rfl,rfl,rfl⟩
theorem jr (n : Node) : Ao Tryz.prog 96 [.ptr 0 0 76] [.c (AK n)] (.d (.b (Hu n.phase n.of_))) [.c (AK n)]:=by
 have c1:=eN n.phase n.of_;refine zD A6 Tryz.func96 ?_;generalize Hu n.phase n.of_ = b at *;unfold AK;refine wk [0,1] [] A0 (AF @c1) ?_;exact ⟨⟨[(1,.d (.b b))],[.c (AK n)],_⟩,(A3.ck rfl),Nat.le_refl _,_,_,rfl,rfl,rfl,rfl⟩
theorem js (n : Node) (h : Ip n) : Ao Tryz.prog 98 [.ptr 0 0 76] [.c (AK n)] (.d (.b (Bp n.keep))) [.c (AK n)]:=by
 have c1:=QG n.keep (by have:=h.kn;omega);refine zD A6 Tryz.func98 ?_;generalize Bp n.keep = b at *;unfold AK;refine wk [0,1] [] A0 (AF @c1) ?_;exact ⟨⟨[(1,.d (.b b))],[.c (AK n)],_⟩,(A3.ck rfl),Nat.le_refl _,_,_,rfl,rfl,rfl,rfl⟩
theorem jt (n : Node) (h : Ip n) : Ao Tryz.prog 100 [.ptr 0 0 76] [.c (AK n)] (.d (.b (FB n.seen))) [.c (AK n)]:=by
 have c1:=eK n.seen h.sl (by have:=h.sn;omega);refine zD A6 Tryz.func100 ?_;generalize FB n.seen = b at *;unfold AK;refine wk [0,1] [] A0 (AF @c1) ?_;exact ⟨⟨[(1,.d (.b b))],[.c (AK n)],_⟩,(A3.ck rfl),Nat.le_refl _,_,_,rfl,rfl,rfl,rfl⟩
theorem fp (n : Node) (x : Past) : Ao Tryz.prog 104 [.d x.d,.ptr 0 0 76] [.c (AK n)] (.d (.b (decide (x.told.src ≠ n.view.id)))) [.c (AK n)]:=by
 refine zD A6 Tryz.func104 ?_;unfold AK Past.d Past.cells
 by_cases h1 : x.told.src = n.view.id
 ·have f1:=CI h1;rw [decide_eq_false (fun hh => hh h1)];refine wk [0,1,2,3] [] (AF f1) A0 ?_;exact ⟨⟨[(3,.d (.b false))],[.c (AK n)],_⟩,(A3.ck rfl),Nat.le_refl _,_,_,rfl,rfl,rfl,rfl⟩
 ·have f1:=CJ h1;rw [decide_eq_true h1];refine wk [0,1,2,3] [] (AF f1) A0 ?_;exact ⟨⟨[(3,.d (.b true))],[.c (AK n)],_⟩,(A3.ck rfl),Nat.le_refl _,_,_,rfl,rfl,rfl,rfl⟩
theorem Zm (n : Node) (l : List Past) (hn : l.length ≤ 9223372036854775807) : Ao Tryz.prog 166 [.d (AO l),.fn (.func 104) [] [.ptr 0 0 76]] [.c (AK n)] (.d (.i .i64 (S9 (fun p => decide (p.told.src ≠ n.view.id)) l))) [.c (AK n)]:=by
 refine zD A6 Tryz.func166 ?_;have hC:=fp n;generalize hq : (fun p : Past => decide (p.told.src ≠ n.view.id)) = q at *;have hC' : ∀ x,Ao Tryz.prog 104 [.d x.d,.ptr 0 0 76] [.c (AK n)] (.d (.b (q x))) [.c (AK n)]:=fun x => by have:=hC x;rw [← hq];exact this
 clear hC;refine wk JR [] A0 A0 ?_;refine Cz (fun k => k ≤ l.length ∧ (l.take k).any q = false) (fun k : Nat => [(8,.d (.i .i64 k))]) (fun k => l.length - k) 0 ⟨Nat.zero_le _,rfl⟩ (fun _ => rfl) ?_ ?_
 ·exact A3.ck rfl
 rintro k ⟨hk,hpre⟩
 by_cases hkl : k < l.length
 ·obtain ⟨x,hx⟩:=Aa hkl;have hA:=Fl (p:=q) hx;rw [hpre,Bool.false_or] at hA;have c1:=hC' x;unfold Past.d Past.cells at c1
  cases hb : q x with
  | true =>
   rw [hb] at c1;have ix1:=hx;have d1:=Ds.mk [0] (c1);refine wk JR [] A0 A0 ?_;clear d1 ix1;with_reducible repeat' first|constructor|intro hc;try simp only[AD] at hc
   rw [dT hx hb hpre];exact ⟨⟨[(4,.d (.i .i64 k))],[.c (AK n)],_⟩,(A3.ck rfl),Nat.le_refl _,_,_,rfl,rfl,rfl,rfl⟩
  | false =>
   rw [hb] at c1;have ix1:=hx;have d1:=Ds.mk [0] (c1);refine wk JR [] A0 A0 ?_;clear d1 ix1;with_reducible repeat' first|constructor|intro hc;try simp only[AD] at hc
   refine ⟨k + 1,⟨hkl,by rw [hA,hb]⟩,by omega,Nat.le_refl _,?_⟩;exact A3.ck rfl
 ·have e : k = l.length:=by omega
  subst e;rw [List.take_length] at hpre;refine wk JR [] A0 A0 ?_;with_reducible repeat' first|constructor|intro hc;try simp only[AD] at hc
  rw [VV hpre];exact ⟨⟨[(4,.d (.i .i64 (-1)))],[.c (AK n)],_⟩,(A3.ck rfl),Nat.le_refl _,_,_,rfl,rfl,rfl,rfl⟩
theorem Zi (n : Node) (l : List Past) (hn : l.length ≤ 9223372036854775807) : Ao Tryz.prog 103 [.d (AO l),.fn (.func 104) [] [.ptr 0 0 76]] [.c (AK n)] (.d (.b (l.any fun p => decide (p.told.src ≠ n.view.id)))) [.c (AK n)]:=by
 refine zD A6 Tryz.func103 ?_;have c1:=Zm n l hn;rw [← dU];generalize S9 (fun p : Past => decide (p.told.src ≠ n.view.id)) l = z at *;have d1:=Ds.mk [0] (c1);refine wk [0,1,4] [] A0 A0 ?_;clear d1;exact ⟨⟨[(4,.d (.b (decide (z ≥ 0))))],[.c (AK n)],_⟩,(A3.ck rfl),Nat.le_refl _,_,_,rfl,rfl,rfl,rfl⟩
theorem ju (n : Node) (h : Ip n) : Ao Tryz.prog 102 [.ptr 0 0 76] [.c (AK n)] (.d (.b (LZ n))) [.c (AK n)]:=by
 have c1:=Zi n n.seen (by have:=h.sn;omega);refine zD A6 Tryz.func102 ?_;unfold LZ;generalize (n.seen.any fun p => decide (p.told.src ≠ n.view.id)) = b at *;unfold AK;have d1:=Ds.mk [0] (c1);refine wk [0,1] [] A0 A0 ?_;clear d1;exact ⟨⟨[(1,.d (.b !b))],[.c (AK n)],_⟩,(A3.ck rfl),Nat.le_refl _,_,_,rfl,rfl,rfl,rfl⟩
theorem BA (n : Node) (h : Ip n) : Go.Gar.Fn Tryz.prog 41 [n.d] (.b (B0 n)):=by
 refine zF A6 Tryz.func41 ?_;have c1:=gJ n _ _ _ _ _ _ _ _ _ (jm n) (jn n) (jo n) (jp n h) (jq n h) (jr n) (js n h) (jt n h) (ju n h);unfold B0;generalize ((decide (0 ≤ n.clock) && decide (n.clock ≤ 1099511627776)) && _) = B at *;have d1:=Ds.mk [0,1] (c1);refine wk [0,1,2] [] A0 A0 ?_;clear d1;exact zE
end Nd
end Go.Proofs.YtkljbfejbakooaaGreatDoor
