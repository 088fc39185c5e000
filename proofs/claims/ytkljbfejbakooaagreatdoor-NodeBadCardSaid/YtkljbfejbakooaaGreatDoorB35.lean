/- Part 35 of a proof, put together by a program. Conditions: none beyond those that a theorem states. -/
import Derived.Test.YtkljbfejbakooaaGreatDoorB31
import Derived.Test.YtkljbfejbakooaaGreatDoorB34
set_option linter.unusedSimpArgs false
set_option linter.unusedVariables false
set_option linter.unnecessarySimpa false
set_option maxHeartbeats 40000000
namespace Go.Proofs.YtkljbfejbakooaaGreatDoor
namespace Nd
open Go.Gar
open Wi (A8 B2 Ai)
set_option maxRecDepth 4000
abbrev Hx : List Nat:=[0,1,4,5,7,8,9,16]
structure SK (n : Node) : Prop where
 id : i64 n.view.id
 li : ∀ y ∈ n.view.list,i64 y
 vb : n.view.base.length ≤ 1000
 vl : n.view.list.length ≤ 1000
 cl : ∀ x ∈ n.calls.op,B5 x.msg
 cn : n.calls.op.length ≤ 1048576
 sl : ∀ x ∈ n.seen,B5 x.told
 sn : n.seen.length ≤ 1048576
 kn : n.keep.length ≤ 1048576
 fl : n.finger.left.length ≤ 1048576
 ml : n.mirror.left.length ≤ 1048576
 tl : n.client.left.length ≤ 1048576
def Ju (n : Node) : Bool:=!(n.seen.any fun p => decide (p.told.src ≠ n.view.id))
def Dq (n : Node) : Bool:=(decide (0 ≤ n.clock) && decide (n.clock ≤ 1099511627776)) && (decide (0 ≤ n.bad) && ((decide (0 ≤ n.next) && decide (n.next < 16)) && (Ck n.view && ((decide (n.calls.id = n.view.id) && BB n.calls) && (Gj n.phase n.of_ && (C0 n.keep && (EW n.seen && Ju n)))))))
variable {α : Type}
def Pl (q : α → Bool) (l : List α) : Int:=match l.findIdx? q with
 | some n => (n : Int)
 | none => -1
variable {q : α → Bool}
theorem Z8 {l : List α} {k : Nat} {x : α} (hx : l[k]? = some x) (h : q x = true) (hn : (l.take k).any q = false) : Pl q l = k:=by
 unfold Pl;rw [KH hx h hn]
theorem T8 {l : List α} (hn : l.any q = false) : Pl q l = -1:=by
 unfold Pl
 have : l.findIdx? q = none:=by
  rw [List.findIdx?_eq_none_iff];rw [List.any_eq_false] at hn;intro x hx;simpa using hn x hx
 rw [this]
theorem Z9 (q : α → Bool) (l : List α) : decide (Pl q l ≥ 0) = l.any q:=by
 cases h : l.any q with
 | false => rw [T8 h];rfl
 | true =>
  obtain ⟨x,hx,hp⟩:=List.any_eq_true.1 h
  have : l.findIdx? q ≠ none:=by
   rw [Ne,List.findIdx?_eq_none_iff];intro hh;have:=hh x hx;rw [hp] at this;cases this
  unfold Pl;split
  ·exact decide_eq_true (by omega)
  ·contradiction
theorem dM (n : Node) : B4 Tryz.prog 89 [.ptr 0 0 76] [.c (AH n)] (.d (.b (decide (0 ≤ n.clock) && decide (n.clock ≤ 1099511627776)))) [.c (AH n)]:=by
 refine zD A6 Tryz.func89 ?_;unfold AH
 by_cases h1 : 0 ≤ n.clock
 ·have f1 : decide (n.clock ≥ 0) = true:=decide_eq_true h1;rw [decide_eq_true h1,Bool.true_and];refine wk [0,1] [] (AG f1) A0 ?_;exact ⟨⟨[(1,.d (.b (decide (n.clock ≤ 1099511627776))))],[.c (AH n)],_⟩,(A1.ck rfl),Nat.le_refl _,_,_,rfl,rfl,rfl,rfl⟩
 ·have f1 : decide (n.clock ≥ 0) = false:=decide_eq_false h1;rw [decide_eq_false h1,Bool.false_and];refine wk [0,1] [] (AG f1) A0 ?_;exact ⟨⟨[(1,.d (.b false))],[.c (AH n)],_⟩,(A1.ck rfl),Nat.le_refl _,_,_,rfl,rfl,rfl,rfl⟩
theorem dN (n : Node) : B4 Tryz.prog 90 [.ptr 0 0 76] [.c (AH n)] (.d (.b (decide (0 ≤ n.bad)))) [.c (AH n)]:=by
 refine zD A6 Tryz.func90 ?_;unfold AH;refine wk [0,1] [] A0 A0 ?_;exact ⟨⟨[(1,.d (.b (decide (0 ≤ n.bad))))],[.c (AH n)],_⟩,(A1.ck rfl),Nat.le_refl _,_,_,rfl,rfl,rfl,rfl⟩
theorem dO (n : Node) : B4 Tryz.prog 91 [.ptr 0 0 76] [.c (AH n)] (.d (.b (decide (0 ≤ n.next) && decide (n.next < 16)))) [.c (AH n)]:=by
 refine zD A6 Tryz.func91 ?_;unfold AH
 by_cases h1 : 0 ≤ n.next
 ·have f1 : decide (n.next ≥ 0) = true:=decide_eq_true h1;rw [decide_eq_true h1,Bool.true_and];refine wk [0,1] [] (AG f1) A0 ?_;exact ⟨⟨[(1,.d (.b (decide (n.next < 16))))],[.c (AH n)],_⟩,(A1.ck rfl),Nat.le_refl _,_,_,rfl,rfl,rfl,rfl⟩
 ·have f1 : decide (n.next ≥ 0) = false:=decide_eq_false h1;rw [decide_eq_false h1,Bool.false_and];refine wk [0,1] [] (AG f1) A0 ?_;exact ⟨⟨[(1,.d (.b false))],[.c (AH n)],_⟩,(A1.ck rfl),Nat.le_refl _,_,_,rfl,rfl,rfl,rfl⟩
theorem dP (n : Node) (h : SK n) : B4 Tryz.prog 92 [.ptr 0 0 76] [.c (AH n)] (.d (.b (Ck n.view))) [.c (AH n)]:=by
 have c1:=SF n.view (by have:=h.vb;omega) (by have:=h.vl;omega);refine zD A6 Tryz.func92 ?_;generalize Ck n.view = b at *;unfold View.d View.cells at c1;unfold AH;refine wk [0,1] [] A0 (AG @c1) ?_;exact ⟨⟨[(1,.d (.b b))],[.c (AH n)],_⟩,(A1.ck rfl),Nat.le_refl _,_,_,rfl,rfl,rfl,rfl⟩
theorem dQ (n : Node) (h : SK n) : B4 Tryz.prog 94 [.ptr 0 0 76] [.c (AH n)] (.d (.b (decide (n.calls.id = n.view.id) && BB n.calls))) [.c (AH n)]:=by
 have c1:=PE n.calls h.cl;refine zD A6 Tryz.func94 ?_;generalize BB n.calls = b at *;unfold Calls.d Calls.cells at c1;unfold AH
 by_cases h1 : n.calls.id = n.view.id
 ·have f1:=B3 h1;rw [decide_eq_true h1,Bool.true_and];refine wk [0,1] [] (AG f1) (AG @c1) ?_;exact ⟨⟨[(1,.d (.b b))],[.c (AH n)],_⟩,(A1.ck rfl),Nat.le_refl _,_,_,rfl,rfl,rfl,rfl⟩
 ·have f1:=eq_false' h1;rw [decide_eq_false h1,Bool.false_and];refine wk [0,1] [] (AG f1) (AG @c1) ?_;exact ⟨⟨[(1,.d (.b false))],[.c (AH n)],_⟩,(A1.ck rfl),Nat.le_refl _,_,_,rfl,rfl,rfl,rfl⟩
theorem dR (n : Node) : B4 Tryz.prog 96 [.ptr 0 0 76] [.c (AH n)] (.d (.b (Gj n.phase n.of_))) [.c (AH n)]:=by
 have c1:=Zf n.phase n.of_;refine zD A6 Tryz.func96 ?_;generalize Gj n.phase n.of_ = b at *;unfold AH;refine wk [0,1] [] A0 (AG @c1) ?_;exact ⟨⟨[(1,.d (.b b))],[.c (AH n)],_⟩,(A1.ck rfl),Nat.le_refl _,_,_,rfl,rfl,rfl,rfl⟩
theorem dS (n : Node) (h : SK n) : B4 Tryz.prog 98 [.ptr 0 0 76] [.c (AH n)] (.d (.b (C0 n.keep))) [.c (AH n)]:=by
 have c1:=ZF n.keep (by have:=h.kn;omega);refine zD A6 Tryz.func98 ?_;generalize C0 n.keep = b at *;unfold AH;refine wk [0,1] [] A0 (AG @c1) ?_;exact ⟨⟨[(1,.d (.b b))],[.c (AH n)],_⟩,(A1.ck rfl),Nat.le_refl _,_,_,rfl,rfl,rfl,rfl⟩
theorem dT (n : Node) (h : SK n) : B4 Tryz.prog 100 [.ptr 0 0 76] [.c (AH n)] (.d (.b (EW n.seen))) [.c (AH n)]:=by
 have c1:=Zc n.seen h.sl (by have:=h.sn;omega);refine zD A6 Tryz.func100 ?_;generalize EW n.seen = b at *;unfold AH;refine wk [0,1] [] A0 (AG @c1) ?_;exact ⟨⟨[(1,.d (.b b))],[.c (AH n)],_⟩,(A1.ck rfl),Nat.le_refl _,_,_,rfl,rfl,rfl,rfl⟩
theorem aY (n : Node) (x : Past) : B4 Tryz.prog 104 [.d x.d,.ptr 0 0 76] [.c (AH n)] (.d (.b (decide (x.told.src ≠ n.view.id)))) [.c (AH n)]:=by
 refine zD A6 Tryz.func104 ?_;unfold AH Past.d Past.cells
 by_cases h1 : x.told.src = n.view.id
 ·have f1:=C7 h1;rw [decide_eq_false (fun hh => hh h1)];refine wk [0,1,2,3] [] (AG f1) A0 ?_;exact ⟨⟨[(3,.d (.b false))],[.c (AH n)],_⟩,(A1.ck rfl),Nat.le_refl _,_,_,rfl,rfl,rfl,rfl⟩
 ·have f1:=C2 h1;rw [decide_eq_true h1];refine wk [0,1,2,3] [] (AG f1) A0 ?_;exact ⟨⟨[(3,.d (.b true))],[.c (AH n)],_⟩,(A1.ck rfl),Nat.le_refl _,_,_,rfl,rfl,rfl,rfl⟩
theorem Wh (n : Node) (l : List Past) (hn : l.length ≤ 9223372036854775807) : B4 Tryz.prog 166 [.d (AJ l),.fn (.func 104) [] [.ptr 0 0 76]] [.c (AH n)] (.d (.i .i64 (Pl (fun p => decide (p.told.src ≠ n.view.id)) l))) [.c (AH n)]:=by
 refine zD A6 Tryz.func166 ?_;have hC:=aY n;generalize hq : (fun p : Past => decide (p.told.src ≠ n.view.id)) = q at *;have hC' : ∀ x,B4 Tryz.prog 104 [.d x.d,.ptr 0 0 76] [.c (AH n)] (.d (.b (q x))) [.c (AH n)]:=fun x => by have:=hC x;rw [← hq];exact this
 clear hC;refine wk Hx [] A0 A0 ?_;refine Bg (fun k => k ≤ l.length ∧ (l.take k).any q = false) (fun k : Nat => [(8,.d (.i .i64 k))]) (fun k => l.length - k) 0 ⟨Nat.zero_le _,rfl⟩ (fun _ => rfl) ?_ ?_
 ·exact A1.ck rfl
 rintro k ⟨hk,hpre⟩
 by_cases hkl : k < l.length
 ·obtain ⟨x,hx⟩:=Ah hkl;have hA:=EC (p:=q) hx;rw [hpre,Bool.false_or] at hA;have c1:=hC' x;unfold Past.d Past.cells at c1
  cases hb : q x with
  | true =>
   rw [hb] at c1;have ix1:=hx;have d1:=Ds.mk [0] (c1);refine wk Hx [] A0 A0 ?_;clear d1 ix1;with_reducible repeat' first|constructor|intro hc;try simp only[AB] at hc
   rw [Z8 hx hb hpre];exact ⟨⟨[(4,.d (.i .i64 k))],[.c (AH n)],_⟩,(A1.ck rfl),Nat.le_refl _,_,_,rfl,rfl,rfl,rfl⟩
  | false =>
   rw [hb] at c1;have ix1:=hx;have d1:=Ds.mk [0] (c1);refine wk Hx [] A0 A0 ?_;clear d1 ix1;with_reducible repeat' first|constructor|intro hc;try simp only[AB] at hc
   refine ⟨k + 1,⟨hkl,by rw [hA,hb]⟩,by omega,Nat.le_refl _,?_⟩;exact A1.ck rfl
 ·have e : k = l.length:=by omega
  subst e;rw [List.take_length] at hpre;refine wk Hx [] A0 A0 ?_;with_reducible repeat' first|constructor|intro hc;try simp only[AB] at hc
  rw [T8 hpre];exact ⟨⟨[(4,.d (.i .i64 (-1)))],[.c (AH n)],_⟩,(A1.ck rfl),Nat.le_refl _,_,_,rfl,rfl,rfl,rfl⟩
theorem Wb (n : Node) (l : List Past) (hn : l.length ≤ 9223372036854775807) : B4 Tryz.prog 103 [.d (AJ l),.fn (.func 104) [] [.ptr 0 0 76]] [.c (AH n)] (.d (.b (l.any fun p => decide (p.told.src ≠ n.view.id)))) [.c (AH n)]:=by
 refine zD A6 Tryz.func103 ?_;have c1:=Wh n l hn;rw [← Z9];generalize Pl (fun p : Past => decide (p.told.src ≠ n.view.id)) l = z at *;have d1:=Ds.mk [0] (c1);refine wk [0,1,4] [] A0 A0 ?_;clear d1;exact ⟨⟨[(4,.d (.b (decide (z ≥ 0))))],[.c (AH n)],_⟩,(A1.ck rfl),Nat.le_refl _,_,_,rfl,rfl,rfl,rfl⟩
theorem dU (n : Node) (h : SK n) : B4 Tryz.prog 102 [.ptr 0 0 76] [.c (AH n)] (.d (.b (Ju n))) [.c (AH n)]:=by
 have c1:=Wb n n.seen (by have:=h.sn;omega);refine zD A6 Tryz.func102 ?_;unfold Ju;generalize (n.seen.any fun p => decide (p.told.src ≠ n.view.id)) = b at *;unfold AH;have d1:=Ds.mk [0] (c1);refine wk [0,1] [] A0 A0 ?_;clear d1;exact ⟨⟨[(1,.d (.b !b))],[.c (AH n)],_⟩,(A1.ck rfl),Nat.le_refl _,_,_,rfl,rfl,rfl,rfl⟩
theorem MC (n : Node) (h : SK n) : Go.Gar.Fn Tryz.prog 41 [n.d] (.b (Dq n)):=by
 refine zF A6 Tryz.func41 ?_;have c1:=ax n _ _ _ _ _ _ _ _ _ (dM n) (dN n) (dO n) (dP n h) (dQ n h) (dR n) (dS n h) (dT n h) (dU n h);unfold Dq;generalize ((decide (0 ≤ n.clock) && decide (n.clock ≤ 1099511627776)) && _) = B at *;have d1:=Ds.mk [0,1] (c1);refine wk [0,1,2] [] A0 A0 ?_;clear d1;exact zE
end Nd
end Go.Proofs.YtkljbfejbakooaaGreatDoor
namespace Go.Proofs.YtkljbfejbakooaaGreatDoor
namespace Nd
open Go.Gar
open Wi (A8 B2 Ai AA BN)
set_option maxRecDepth 4000
abbrev ei : Look:=⟨0,0,0,false,false,0⟩
def D7 (k : List Item) (key : List UInt8) : Nat:=(k.takeWhile fun x => decide (x.key < key)).length
def hasK (k : List Item) (key : List UInt8) : Bool:=decide (D7 k key < k.length) && decide ((k.getD (D7 k key) AF).key = key)
def Jr (x y : Item) : Bool:=decide (dy x y > 0)
def Jz (k : List Item) (x : Item) : List Item × Int :=
 if C0 k && Ai x then
  (if hasK k x.key then (if Jr x (k.getD (D7 k x.key) AF) then k.set (D7 k x.key) x else k,0)
   else if k.length ≥ 24 then (k,200) else (k.take (D7 k x.key) ++ x :: k.drop (D7 k x.key),0))
 else (k,2)
def Gn (k : List Item) (key : List UInt8) : Item × Int:=if C0 k && hasK k key then (k.getD (D7 k key) AF,0) else (AF,201)
structure JC where
 job : Job
 asks : List A8
 own : Bool
abbrev eK (j : Job) : Job:=⟨j.what,5,j.look,j.item,j.owner,[],j.code⟩
abbrev Wq (j : Job) (e : Int) : Job:=⟨j.what,j.phase,j.look,j.item,j.owner,j.left,e⟩
abbrev zJob : Job:=⟨0,0,ei,AF,0,[],0⟩
def cN (f : Nat → Int) (i : Nat) (p : Int) : Nat → Int:=fun k => if k = i then p else f k
def WN (v : View) (i owner : Int) : View × Int :=
 if (decide (0 ≤ i) && (decide (i < 16) && Ck v)) && Bc owner then (⟨v.id,v.base,v.list,v.pred,cN v.f i.toNat (if owner = v.id then -1 else owner)⟩,0) else (v,2)
def aP (n : Node) (why : Int) : Option Job:=if why = 5 then some n.finger else if why = 6 then some n.mirror else if why = 7 then some n.client else none
def QD (n : Node) (why : Int) (j : Job) : Node :=
 if why = 5 then { n with finger:=j } else if why = 6 then { n with mirror:=j } else { n with client:=j }
def Fy (k : List Item) (j : Job) : List Item × Job :=
 if j.what = 2 then ((Jz k j.item).1,if (Jz k j.item).2 ≠ 0 then Wq j (Jz k j.item).2 else j)
 else if j.what = 3 then (k,if (Gn k j.item.key).2 = 0 then ⟨j.what,j.phase,j.look,(Gn k j.item.key).1,j.owner,j.left,0⟩ else Wq j (Gn k j.item.key).2)
 else (k,j)
def OA (n : Node) : Node :=
 { n with
  view:=if n.finger.code = 0 then (WN n.view n.next n.finger.owner).1 else n.view
  next:=(n.next + 1).tmod 16 }
def Pg (n : Node) (why : Int) (ended : Bool) (c : JC) : Node × List (A8 × Int) :=
 let s:=if c.own then Fy n.keep c.job else (n.keep,c.job)
 let n1:=QD { n with keep:=s.1 } why s.2
 (if why = 5 ∧ ended = false ∧ s.2.phase = 5 then OA n1 else n1,c.asks.map fun m => (m,why))
def TB (n : Node) (why : Int) : Job:=(aP n why).getD zJob
def LP (n : Node) (why : Int) : Node :=
 if Dq n then
  (if 1 ≤ why ∧ why ≤ 3 then { n with phase:=0,of_:=0 }
   else if (5 ≤ why ∧ why ≤ 7) ∧ (TB n why).phase ≠ 5 then (Pg n why false ⟨eK (Wq (TB n why) 100),[],false⟩).1
   else n)
 else n
theorem Lh {a b c : List UInt8} (h : a < b) (k : b < c) : a < c:=List.lt_trans h k
theorem bW (a b : List UInt8) : a < b ∨ a = b ∨ b < a:=by
 by_cases h : a < b
 ·exact .inl h
 by_cases h2 : b < a
 ·exact .inr (.inr h2)
 exact .inr (.inl (List.le_antisymm (List.not_lt.1 h2) (List.not_lt.1 h)))
abbrev kS (l : List Item) : Prop:=l.Pairwise fun x y => x.key < y.key
theorem Wt : ∀ (l : List Item),(∀ k,k < l.length → k = 0 ∨ (l.getD (k - 1) AF).key < (l.getD k AF).key) → kS l
 | [],_ => List.Pairwise.nil
 | [a],_ => by simp [kS]
 | a :: b :: r,h => by
  have ih:=Wt (b :: r) (fun k hk => by
   rcases Nat.eq_zero_or_pos k with e | e
   ·exact .inl e
   ·have:=h (k + 1) (by simpa using hk);obtain ⟨j,rfl⟩ : ∃ j,k = j + 1:=⟨k - 1,by omega⟩
    simpa using this)
  have hab : a.key < b.key:=by
   have:=h 1 (by simp);simpa using this
  refine List.pairwise_cons.2 ⟨fun x hx => ?_,ih⟩;rcases List.mem_cons.1 hx with rfl | hx
  ·exact hab
  ·exact Lh hab ((List.pairwise_cons.1 ih).1 x hx)
variable {l : List Item}
theorem Er : C0 l = true ↔ l.length ≤ 24 ∧ (∀ x ∈ l,Ai x = true) ∧ kS l:=by
 unfold C0;rw [Bool.and_eq_true,decide_eq_true_eq,Gy];constructor
 ·rintro ⟨h1,h2⟩;refine ⟨h1,fun x hx => ?_,Wt l fun k hk => ?_⟩
  ·obtain ⟨k,hk,rfl⟩:=List.getElem_of_mem hx;have:=h2 k hk;unfold DZ at this;rw [Bool.and_eq_true,getD_at (List.getElem?_eq_getElem hk)] at this;exact this.1
  ·have:=h2 k hk;unfold DZ at this;rw [Bool.and_eq_true,decide_eq_true_eq] at this;exact this.2
 ·rintro ⟨h1,h2,h3⟩;refine ⟨h1,fun k hk => ?_⟩;unfold DZ;rw [Bool.and_eq_true,decide_eq_true_eq,getD_at (List.getElem?_eq_getElem hk)];refine ⟨h2 _ (List.getElem_mem hk),?_⟩;rcases Nat.eq_zero_or_pos k with e | e
  ·exact .inl e
  ·right;rw [getD_at (List.getElem?_eq_getElem (show k - 1 < l.length by omega))];exact List.pairwise_iff_getElem.1 h3 (k - 1) k (by omega) hk (by omega)
theorem Jy (key : List UInt8) : ∀ (l : List Item),kS l → (∀ x ∈ l.take (D7 l key),x.key < key) ∧ (∀ x ∈ l.drop (D7 l key),¬ x.key < key)
 | [],_ => by simp [D7]
 | a :: r,h => by
  obtain ⟨h1,h2⟩:=List.pairwise_cons.1 h
  by_cases e : a.key < key
  ·have hp : D7 (a :: r) key = D7 r key + 1:=by unfold D7;rw [List.takeWhile_cons_of_pos (by simpa using e)];rfl
   obtain ⟨i1,i2⟩:=Jy key r h2;rw [hp];refine ⟨fun x hx => ?_,fun x hx => i2 x (by simpa using hx)⟩;rw [List.take_succ_cons] at hx;rcases List.mem_cons.1 hx with rfl | hx
   ·exact e
   ·exact i1 x hx
  ·have hp : D7 (a :: r) key = 0:=by unfold D7;rw [List.takeWhile_cons_of_neg (by simpa using e)];rfl
   rw [hp];refine ⟨fun x hx => by simp at hx,fun x hx => ?_⟩;rw [List.drop_zero] at hx;rcases List.mem_cons.1 hx with rfl | hx
   ·exact e
   ·exact fun hlt => e (Lh (h1 x hx) hlt)
theorem bo (l : List Item) (key : List UInt8) : D7 l key ≤ l.length:=by
 unfold D7;exact (List.takeWhile_sublist _).length_le
variable {key : List UInt8}
theorem Pk (h : kS l) : hasK l key = true ↔ ∃ x ∈ l,x.key = key:=by
 unfold hasK;rw [Bool.and_eq_true,decide_eq_true_eq,decide_eq_true_eq];constructor
 ·rintro ⟨h1,h2⟩;rw [getD_at (List.getElem?_eq_getElem h1)] at h2;exact ⟨_,List.getElem_mem h1,h2⟩
 ·rintro ⟨x,hx,rfl⟩;obtain ⟨i1,i2⟩:=Jy x.key l h
  have hx' : x ∈ l.drop (D7 l x.key):=by
   rw [← List.take_append_drop (D7 l x.key) l,List.mem_append] at hx;rcases hx with hx | hx
   ·exact absurd (i1 x hx) (List.lt_irrefl _)
   ·exact hx
  have hlt : D7 l x.key < l.length:=by
   rcases Nat.lt_or_ge (D7 l x.key) l.length with h | h
   ·exact h
   ·rw [List.drop_eq_nil_of_le h] at hx';cases hx'
  refine ⟨hlt,?_⟩;rw [getD_at (List.getElem?_eq_getElem hlt)];rw [List.drop_eq_getElem_cons hlt] at hx';have hd:=(h.sublist (List.drop_sublist (D7 l x.key) l));rw [List.drop_eq_getElem_cons hlt] at hd;rcases List.mem_cons.1 hx' with e | hm
  ·rw [← e]
  ·have h1:=(List.pairwise_cons.1 hd).1 x hm;exact absurd h1 (i2 _ (by rw [List.drop_eq_getElem_cons hlt];exact List.mem_cons_self ..))
theorem Ks (h : hasK l key = true) : ∃ x,l[D7 l key]? = some x ∧ x.key = key ∧ l.getD (D7 l key) AF = x:=by
 unfold hasK at h;rw [Bool.and_eq_true,decide_eq_true_eq,decide_eq_true_eq] at h;have e:=List.getElem?_eq_getElem h.1;rw [getD_at e] at h;exact ⟨_,e,h.2,getD_at e⟩
theorem Wu : kS l ↔ (l.map Item.key).Pairwise (· < ·):=by rw [List.pairwise_map]
variable {x y : Item}
theorem Xo {i : Nat} (hy : l[i]? = some y) (h : x.key = y.key) : (l.set i x).map Item.key = l.map Item.key:=by
 rw [List.map_set,h];apply List.ext_getElem?;intro j;rw [List.getElem?_set];split
 ·rename_i e;subst e;rw [List.getElem?_map,hy,List.length_map];have:=(List.getElem?_eq_some_iff.1 hy).1;simp [this]
 ·rfl
theorem QG (h : C0 l = true) : C0 (Jz l x).1 = true:=by
 unfold Jz;split
 ·rename_i hc;rw [Bool.and_eq_true] at hc;obtain ⟨h1,h2,h3⟩:=Er.1 h;split
  ·rename_i hk;split
   ·obtain ⟨y,hy,hyk,_⟩:=Ks hk;refine Er.2 ⟨by simpa using h1,fun z hz => ?_,?_⟩
    ·rcases List.mem_or_eq_of_mem_set hz with hz | rfl
     ·exact h2 z hz
     ·exact hc.2
    ·rw [Wu,Xo hy hyk.symm,← Wu];exact h3
   ·exact h
  ·rename_i hk;split
   ·exact h
   ·rename_i hl;obtain ⟨i1,i2⟩:=Jy x.key l h3;have hn : ∀ z ∈ l,z.key ≠ x.key:=fun z hz e => hk ((Pk h3).2 ⟨z,hz,e⟩)
    refine Er.2 ⟨?_,fun z hz => ?_,?_⟩
    ·have:=bo l x.key;simp only [List.length_append,List.length_cons,List.length_take,List.length_drop];omega
    ·rw [List.mem_append,List.mem_cons] at hz;rcases hz with hz | rfl | hz
     ·exact h2 z (List.mem_of_mem_take hz)
     ·exact hc.2
     ·exact h2 z (List.mem_of_mem_drop hz)
    ·have hd : ∀ z ∈ l.drop (D7 l x.key),x.key < z.key:=fun z hz => by
      rcases bW x.key z.key with e | e | e
      ·exact e
      ·exact absurd e.symm (hn z (List.mem_of_mem_drop hz))
      ·exact absurd e (i2 z hz)
     refine List.pairwise_append.2 ⟨h3.sublist (List.take_sublist _ _),List.pairwise_cons.2 ⟨hd,h3.sublist (List.drop_sublist _ _)⟩,fun a ha b hb => ?_⟩;rcases List.mem_cons.1 hb with rfl | hb
     ·exact i1 a ha
     ·exact Lh (i1 a ha) (hd b hb)
 ·exact h
theorem Ls (h : Jr x y = true) : Jr y x = false:=by
 unfold Jr at *;rw [decide_eq_true_eq] at h;rw [decide_eq_false_iff_not];obtain ⟨k,v,n,g⟩:=x;obtain ⟨k',v',n',g'⟩:=y;unfold dy at *
 revert h
 simp only;intro h
 repeat' split at h
 all_goals (try omega)
 all_goals (repeat' split)
 all_goals (try omega)
 all_goals simp_all
theorem EK (x : Item) : Jr x x = false:=by
 cases h : Jr x x with
 | false => rfl
 | true => rw [Ls h] at h;cases h
theorem QH (h : C0 l = true) (hy : y ∈ l) : (Gn (Jz l x).1 y.key).2 = 0 ∧ Jr y (Gn (Jz l x).1 y.key).1 = false:=by
 have hr:=QG (x:=x) h;obtain ⟨r1,r2,r3⟩:=Er.1 hr
 have key : ∃ z ∈ (Jz l x).1,z.key = y.key ∧ Jr y z = false:=by
  obtain ⟨h1,h2,h3⟩:=Er.1 h;unfold Jz;split
  ·split
   ·rename_i hk;split
    ·rename_i hnew;obtain ⟨w,hw,hwk,hwg⟩:=Ks hk
     by_cases e : y.key = x.key
     ·refine ⟨x,List.mem_iff_getElem?.2 ⟨D7 l x.key,by rw [List.getElem?_set_self (List.getElem?_eq_some_iff.1 hw).1]⟩,e.symm,?_⟩
      have : y = w:=by
       obtain ⟨i,hi,rfl⟩:=List.getElem_of_mem hy;obtain ⟨hj,rfl⟩:=List.getElem?_eq_some_iff.1 hw;rcases Nat.lt_trichotomy i (D7 l x.key) with hlt | he | hlt
       ·have:=List.pairwise_iff_getElem.1 h3 i _ hi hj hlt;rw [e,hwk] at this;exact absurd this (List.lt_irrefl _)
       ·subst he;rfl
       ·have:=List.pairwise_iff_getElem.1 h3 _ i hj hi hlt;rw [e,hwk] at this;exact absurd this (List.lt_irrefl _)
      rw [this];rw [hwg] at hnew;exact Ls hnew
     ·refine ⟨y,?_,rfl,EK y⟩;obtain ⟨i,hi,rfl⟩:=List.getElem_of_mem hy;refine List.mem_iff_getElem?.2 ⟨i,?_⟩;rw [List.getElem?_set]
      have hne : D7 l x.key ≠ i:=by
       rintro rfl;rw [List.getElem?_eq_getElem hi] at hw;cases hw;exact e hwk
      rw [if_neg hne];exact List.getElem?_eq_getElem hi
    ·exact ⟨y,hy,rfl,EK y⟩
   ·split
    ·exact ⟨y,hy,rfl,EK y⟩
    ·refine ⟨y,?_,rfl,EK y⟩;have : y ∈ l.take (D7 l x.key) ++ l.drop (D7 l x.key):=by rw [List.take_append_drop];exact hy
     rw [List.mem_append] at this;rw [List.mem_append,List.mem_cons];rcases this with h | h
     ·exact .inl h
     ·exact .inr (.inr h)
  ·exact ⟨y,hy,rfl,EK y⟩
 obtain ⟨z,hz,hzk,hnew⟩:=key;have hk : hasK (Jz l x).1 y.key = true:=(Pk r3).2 ⟨z,hz,hzk⟩;obtain ⟨w,hw,hwk,hwg⟩:=Ks hk
 have hzw : z = w:=by
  obtain ⟨i,hi,rfl⟩:=List.getElem_of_mem hz;obtain ⟨hj,rfl⟩:=List.getElem?_eq_some_iff.1 hw;rcases Nat.lt_trichotomy i (D7 (Jz l x).1 y.key) with hlt | he | hlt
  ·have:=List.pairwise_iff_getElem.1 r3 i _ hi hj hlt;rw [hzk,hwk] at this;exact absurd this (List.lt_irrefl _)
  ·subst he;rfl
  ·have:=List.pairwise_iff_getElem.1 r3 _ i hj hi hlt;rw [hzk,hwk] at this;exact absurd this (List.lt_irrefl _)
 unfold Gn;rw [hr,hk,hwg];exact ⟨rfl,by rw [← hzw];exact hnew⟩
theorem J3 (h : C0 l = true) (hy : y ∈ l) : (Gn l y.key).2 = 0 ∧ Jr y (Gn l y.key).1 = false:=by
 have:=QH (x:=⟨[],0,0,false⟩) h hy
 have e : (Jz l ⟨[],0,0,false⟩).1 = l:=by
  unfold Jz;rw [show Ai ⟨[],0,0,false⟩ = false from rfl,Bool.and_false];rfl
 rwa [e] at this
structure Tl (v w : View) : Prop where
 id : w.id = v.id
 base : w.base = v.base
 right : Ck v = true → Ck w = true
theorem Tl.refl (v : View) : Tl v v:=⟨rfl,rfl,fun h => h⟩
theorem Tl.trans {a b c : View} (h : Tl a b) (k : Tl b c) : Tl a c:=⟨k.id.trans h.id,k.base.trans h.base,fun r => k.right (h.right r)⟩
theorem Xb {v : View} (h1 : Bc v.id = true) (h2 : C9 v.base = true) (h3 : Bv v.id v.list = true) (h4 : EO v.id v.pred = true) (h5 : (GK v.f).all (EO v.id) = true) : Ck v = true:=by
 unfold Ck;rw [h1,h2,h3,h4,h5];rfl
theorem bL (v : View) (i owner : Int) : Tl v (WN v i owner).1:=by
 unfold WN;split
 ·rename_i h;simp only [Bool.and_eq_true,decide_eq_true_eq] at h;refine ⟨rfl,rfl,fun hv => ?_⟩;obtain ⟨h1,h2,h3,h4,h5⟩:=QS hv;refine Xb h1 h2 h3 h4 ?_
  have hp : EO v.id (if owner = v.id then -1 else owner) = true:=by
   split
   ·simp [EO]
   ·rename_i hne;simp [EO,h.2,hne]
  have h5' : ∀ i,i < 16 → EO v.id (v.f i) = true:=fun i hi => (List.all_eq_true.1 h5) _ (by
    rcases lt16 hi with rfl | rfl | rfl | rfl | rfl | rfl | rfl | rfl | rfl | rfl | rfl | rfl | rfl | rfl | rfl | rfl <;> simp [GK])
  have hq : ∀ k,k < 16 → EO v.id (cN v.f i.toNat (if owner = v.id then -1 else owner) k) = true:=fun k hk => by
   unfold cN;split
   ·exact hp
   ·exact h5' k hk
  rw [List.all_eq_true];intro x hx;simp only [GK,List.mem_cons,List.not_mem_nil,or_false] at hx;rcases hx with rfl | rfl | rfl | rfl | rfl | rfl | rfl | rfl | rfl | rfl | rfl | rfl | rfl | rfl | rfl | rfl <;> exact hq _ (by decide)
 ·exact .refl v
theorem WP (v : View) (i owner : Int) : (WN v i owner).1.list = v.list:=by unfold WN;split <;> rfl
end Nd
end Go.Proofs.YtkljbfejbakooaaGreatDoor
namespace Go.Proofs.YtkljbfejbakooaaGreatDoor
namespace Nd
open Go.Gar
open Wi (A8 B2 Ai AA BN mC)
set_option maxRecDepth 4000
structure HOk (n : Node) : Prop where
 ok : SK n
 h0 : 0 ≤ n.phase
 l5 : n.finger.left.length ≤ 1000
 l6 : n.mirror.left.length ≤ 1000
 l7 : n.client.left.length ≤ 1000
 k5 : 0 ≤ n.finger.item.key.length
 k6 : 0 ≤ n.mirror.item.key.length
 k7 : 0 ≤ n.client.item.key.length
end Nd
end Go.Proofs.YtkljbfejbakooaaGreatDoor
