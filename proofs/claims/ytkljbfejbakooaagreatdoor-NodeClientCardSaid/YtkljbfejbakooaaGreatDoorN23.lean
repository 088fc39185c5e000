/- Part 23 of a proof, put together by a program. Conditions: none beyond those that a theorem states. -/
import Derived.Test.YtkljbfejbakooaaGreatDoorN19
import Derived.Test.YtkljbfejbakooaaGreatDoorN22
set_option linter.unusedSimpArgs false
set_option linter.unusedVariables false
set_option linter.unnecessarySimpa false
set_option maxHeartbeats 40000000
namespace Go.Proofs.YtkljbfejbakooaaGreatDoor
namespace Nd
open Go.Gar
open Wi (A8 B7 AU AC B2)
set_option maxRecDepth 4000
def OB (a x b : Int) : Bool:=Po a x b || decide (Bj x = Bj b)
def F2 (id k p q : Int) : Int:=if Po id q k && decide (Af id q > Af id p) then q else p
def ke (v : View) : List Int:=Ix v :: (v.list ++ (EA v.f).filter fun p => p != -1)
def GH (v : View) (k : Int) (slow : Bool) : Int × Bool :=
 if Aw v then (if OB v.id k (Ix v) then (Ix v,true) else if slow then (Ix v,false) else ((ke v).foldl (F2 v.id k) (Ix v),false)) else (-1,false)
abbrev PR : Look:=⟨0,0,0,false,false,0⟩
def Nb (l : Look) : Bool:=(Am l.key && Am l.at_ && decide (0 ≤ l.hops) && decide (l.hops ≤ 41)) && (if l.hops > 40 then decide (l.code = 211) && !l.found else decide (l.code = 0))
def lookO (l : Look) : Bool:=l.found || decide (l.code ≠ 0)
def jU (v : View) (key : Int) : Look:=if Aw v then ⟨Bj key,(GH v (Bj key) false).1,0,false,(GH v (Bj key) false).2,0⟩ else PR
def TJ (l : Look) : A8:=⟨4,0,0,l.at_,l.key,l.slow,false,0,0,[],AE,0⟩
def T8 (l : Look) : A8 × Bool:=if lookO l || !Nb l then (AC,false) else (TJ l,true)
def aQ (at_ : Int) (b : UInt8) : Int:=Bj (40503 * Bj at_ + (b.toNat : Int) + 1)
def QN (s : List UInt8) : Int:=s.foldl aQ 7
def Nf (s : List UInt8) : Int × Int:=if B2 s then (QN s,0) else (0,2)
def BY (k : List Item) (key : List UInt8) : Nat:=(k.takeWhile fun x => decide (x.key < key)).length
def hasK (k : List Item) (key : List UInt8) : Bool:=decide (BY k key < k.length) && decide ((k.getD (BY k key) AE).key = key)
def Jv (x y : Item) : Bool:=decide (HM x y > 0)
def Hc (k : List Item) (x : Item) : List Item × Int :=
 if Bp k && AU x then
  (if hasK k x.key then (if Jv x (k.getD (BY k x.key) AE) then k.set (BY k x.key) x else k,0)
   else if k.length ≥ 24 then (k,200) else (k.take (BY k x.key) ++ x :: k.drop (BY k x.key),0))
 else (k,2)
def Fu (k : List Item) (key : List UInt8) : Item × Int:=if Bp k && hasK k key then (k.getD (BY k key) AE,0) else (AE,201)
structure JC where
 job : Job
 asks : List A8
 own : Bool
abbrev CX (j : Job) : Job:=⟨j.what,5,j.look,j.item,j.owner,[],j.code⟩
abbrev CW (j : Job) (e : Int) : Job:=⟨j.what,j.phase,j.look,j.item,j.owner,j.left,e⟩
def Hs : List Int → List Int
 | [] => []
 | [a] => [a]
 | [a,b] => a :: (if b = a then [] else [b])
 | a :: b :: c :: _ => a :: ((if b = a then [] else [b]) ++ (if c = a ∨ c = b then [] else [c]))
def D6 (x : Item) (p : Int) : A8:=⟨5,0,0,p,0,false,false,0,0,[],x,0⟩
def IM (id : Int) (j : Job) (owner : Int) (l : List Int) : JC :=
 let ps:=Hs (owner :: l);let left:=ps.filter fun p => p != id
 ⟨⟨j.what,if left = [] then 5 else 3,j.look,j.item,j.owner,left,j.code⟩,left.map (D6 j.item),decide (id ∈ ps)⟩
def KE (p : Int) : A8:=⟨1,0,0,p,0,false,false,0,0,[],AE,0⟩
def Pg (p : Int) (key : List UInt8) : A8:=⟨6,0,0,p,0,false,false,0,0,[],⟨key,0,0,false⟩,0⟩
def F8 (v : View) (j : Job) : JC :=
 if j.look.code ≠ 0 then ⟨CX (CW j j.look.code),[],false⟩
 else if j.look.found = false then ⟨⟨j.what,1,j.look,j.item,j.owner,j.left,j.code⟩,if (T8 j.look).2 then [(T8 j.look).1] else [],false⟩
 else if j.what = 1 then ⟨CX (CW ⟨j.what,j.phase,j.look,j.item,j.look.at_,j.left,j.code⟩ 0),[],false⟩
 else if j.what = 2 ∧ j.look.at_ = v.id then IM v.id ⟨j.what,j.phase,j.look,j.item,j.look.at_,j.left,j.code⟩ j.look.at_ v.list
 else if j.what = 2 then ⟨⟨j.what,2,j.look,j.item,j.look.at_,j.left,j.code⟩,[KE j.look.at_],false⟩
 else if j.look.at_ = v.id then ⟨CX (CW ⟨j.what,j.phase,j.look,j.item,j.look.at_,j.left,j.code⟩ 0),[],true⟩
 else ⟨⟨j.what,4,j.look,j.item,j.look.at_,j.left,j.code⟩,[Pg j.look.at_ j.item.key],false⟩
abbrev zJob : Job:=⟨0,0,PR,AE,0,[],0⟩
def Ga (what place : Int) (x : Item) : Int × Item × Bool :=
 if what = 1 then (place,AE,decide (0 ≤ place) && decide (place < 65536))
 else if what = 2 then ((Nf x.key).1,x,decide ((Nf x.key).2 = 0) && AU x)
 else if what = 3 then ((Nf x.key).1,⟨x.key,0,0,false⟩,decide ((Nf x.key).2 = 0))
 else (0,AE,false)
def C7 (v : View) (what place : Int) (x : Item) : JC :=
 if (Ga what place x).2.2 && Aw v then F8 v ⟨what,0,jU v (Ga what place x).1,(Ga what place x).2.1,0,[],0⟩
 else ⟨⟨what,5,PR,AE,0,[],2⟩,[],false⟩
def bX (f : Nat → Int) (i : Nat) (p : Int) : Nat → Int:=fun k => if k = i then p else f k
def Gs (v : View) (i owner : Int) : View × Int :=
 if (decide (0 ≤ i) && (decide (i < 16) && Aw v)) && Am owner then (⟨v.id,v.base,v.list,v.pred,bX v.f i.toNat (if owner = v.id then -1 else owner)⟩,0) else (v,2)
def fX (n : Node) (why : Int) : Option Job:=if why = 5 then some n.finger else if why = 6 then some n.mirror else if why = 7 then some n.client else none
def MH (n : Node) (why : Int) (j : Job) : Node :=
 if why = 5 then { n with finger:=j } else if why = 6 then { n with mirror:=j } else { n with client:=j }
def Bc (k : List Item) (j : Job) : List Item × Job :=
 if j.what = 2 then ((Hc k j.item).1,if (Hc k j.item).2 ≠ 0 then CW j (Hc k j.item).2 else j)
 else if j.what = 3 then (k,if (Fu k j.item.key).2 = 0 then ⟨j.what,j.phase,j.look,(Fu k j.item.key).1,j.owner,j.left,0⟩ else CW j (Fu k j.item.key).2)
 else (k,j)
def De (n : Node) : Node :=
 { n with
  view:=if n.finger.code = 0 then (Gs n.view n.next n.finger.owner).1 else n.view
  next:=(n.next + 1).tmod 16 }
def Ar (n : Node) (why : Int) (ended : Bool) (c : JC) : Node × List (A8 × Int) :=
 let s:=if c.own then Bc n.keep c.job else (n.keep,c.job)
 let n1:=MH { n with keep:=s.1 } why s.2
 (if why = 5 ∧ ended = false ∧ s.2.phase = 5 then De n1 else n1,c.asks.map fun m => (m,why))
def BI (n : Node) (why what place : Int) (x : Item) : Node × List (A8 × Int) :=
 if (decide (5 ≤ why) && decide (why ≤ 7)) && B0 n then Ar n why false (C7 n.view what place x) else (n,[])
def Ke (n : Node) (why : Int) : Job:=(fX n why).getD zJob
def DY (n : Node) (why : Int) : Node :=
 if B0 n then
  (if 1 ≤ why ∧ why ≤ 3 then { n with phase:=0,of_:=0 }
   else if (5 ≤ why ∧ why ≤ 7) ∧ (Ke n why).phase ≠ 5 then (Ar n why false ⟨CX (CW (Ke n why) 100),[],false⟩).1
   else n)
 else n
theorem NU {a b c : List UInt8} (h : a < b) (k : b < c) : a < c:=List.lt_trans h k
theorem U0 (a b : List UInt8) : a < b ∨ a = b ∨ b < a:=by
 by_cases h : a < b
 ·exact .inl h
 by_cases h2 : b < a
 ·exact .inr (.inr h2)
 exact .inr (.inl (List.le_antisymm (List.not_lt.1 h2) (List.not_lt.1 h)))
abbrev kS (l : List Item) : Prop:=l.Pairwise fun x y => x.key < y.key
theorem Zw : ∀ (l : List Item),(∀ k,k < l.length → k = 0 ∨ (l.getD (k - 1) AE).key < (l.getD k AE).key) → kS l
 | [],_ => List.Pairwise.nil
 | [a],_ => by simp [kS]
 | a :: b :: r,h => by
  have ih:=Zw (b :: r) (fun k hk => by
   rcases Nat.eq_zero_or_pos k with e | e
   ·exact .inl e
   ·have:=h (k + 1) (by simpa using hk);obtain ⟨j,rfl⟩ : ∃ j,k = j + 1:=⟨k - 1,by omega⟩
    simpa using this)
  have hab : a.key < b.key:=by
   have:=h 1 (by simp);simpa using this
  refine List.pairwise_cons.2 ⟨fun x hx => ?_,ih⟩;rcases List.mem_cons.1 hx with rfl | hx
  ·exact hab
  ·exact NU hab ((List.pairwise_cons.1 ih).1 x hx)
variable {l : List Item}
theorem DN : Bp l = true ↔ l.length ≤ 24 ∧ (∀ x ∈ l,AU x = true) ∧ kS l:=by
 unfold Bp;rw [Bool.and_eq_true,decide_eq_true_eq,I8];constructor
 ·rintro ⟨h1,h2⟩;refine ⟨h1,fun x hx => ?_,Zw l fun k hk => ?_⟩
  ·obtain ⟨k,hk,rfl⟩:=List.getElem_of_mem hx;have:=h2 k hk;unfold EC at this;rw [Bool.and_eq_true,getD_at (List.getElem?_eq_getElem hk)] at this;exact this.1
  ·have:=h2 k hk;unfold EC at this;rw [Bool.and_eq_true,decide_eq_true_eq] at this;exact this.2
 ·rintro ⟨h1,h2,h3⟩;refine ⟨h1,fun k hk => ?_⟩;unfold EC;rw [Bool.and_eq_true,decide_eq_true_eq,getD_at (List.getElem?_eq_getElem hk)];refine ⟨h2 _ (List.getElem_mem hk),?_⟩;rcases Nat.eq_zero_or_pos k with e | e
  ·exact .inl e
  ·right;rw [getD_at (List.getElem?_eq_getElem (show k - 1 < l.length by omega))];exact List.pairwise_iff_getElem.1 h3 (k - 1) k (by omega) hk (by omega)
theorem J8 (key : List UInt8) : ∀ (l : List Item),kS l → (∀ x ∈ l.take (BY l key),x.key < key) ∧ (∀ x ∈ l.drop (BY l key),¬ x.key < key)
 | [],_ => by simp [BY]
 | a :: r,h => by
  obtain ⟨h1,h2⟩:=List.pairwise_cons.1 h
  by_cases e : a.key < key
  ·have hp : BY (a :: r) key = BY r key + 1:=by unfold BY;rw [List.takeWhile_cons_of_pos (by simpa using e)];rfl
   obtain ⟨i1,i2⟩:=J8 key r h2;rw [hp];refine ⟨fun x hx => ?_,fun x hx => i2 x (by simpa using hx)⟩;rw [List.take_succ_cons] at hx;rcases List.mem_cons.1 hx with rfl | hx
   ·exact e
   ·exact i1 x hx
  ·have hp : BY (a :: r) key = 0:=by unfold BY;rw [List.takeWhile_cons_of_neg (by simpa using e)];rfl
   rw [hp];refine ⟨fun x hx => by simp at hx,fun x hx => ?_⟩;rw [List.drop_zero] at hx;rcases List.mem_cons.1 hx with rfl | hx
   ·exact e
   ·exact fun hlt => e (NU (h1 x hx) hlt)
theorem QZ (l : List Item) (key : List UInt8) : BY l key ≤ l.length:=by
 unfold BY;exact (List.takeWhile_sublist _).length_le
variable {key : List UInt8}
theorem S7 (h : kS l) : hasK l key = true ↔ ∃ x ∈ l,x.key = key:=by
 unfold hasK;rw [Bool.and_eq_true,decide_eq_true_eq,decide_eq_true_eq];constructor
 ·rintro ⟨h1,h2⟩;rw [getD_at (List.getElem?_eq_getElem h1)] at h2;exact ⟨_,List.getElem_mem h1,h2⟩
 ·rintro ⟨x,hx,rfl⟩;obtain ⟨i1,i2⟩:=J8 x.key l h
  have hx' : x ∈ l.drop (BY l x.key):=by
   rw [← List.take_append_drop (BY l x.key) l,List.mem_append] at hx;rcases hx with hx | hx
   ·exact absurd (i1 x hx) (List.lt_irrefl _)
   ·exact hx
  have hlt : BY l x.key < l.length:=by
   rcases Nat.lt_or_ge (BY l x.key) l.length with h | h
   ·exact h
   ·rw [List.drop_eq_nil_of_le h] at hx';cases hx'
  refine ⟨hlt,?_⟩;rw [getD_at (List.getElem?_eq_getElem hlt)];rw [List.drop_eq_getElem_cons hlt] at hx';have hd:=(h.sublist (List.drop_sublist (BY l x.key) l));rw [List.drop_eq_getElem_cons hlt] at hd;rcases List.mem_cons.1 hx' with e | hm
  ·rw [← e]
  ·have h1:=(List.pairwise_cons.1 hd).1 x hm;exact absurd h1 (i2 _ (by rw [List.drop_eq_getElem_cons hlt];exact List.mem_cons_self ..))
theorem HT (h : hasK l key = true) : ∃ x,l[BY l key]? = some x ∧ x.key = key ∧ l.getD (BY l key) AE = x:=by
 unfold hasK at h;rw [Bool.and_eq_true,decide_eq_true_eq,decide_eq_true_eq] at h;have e:=List.getElem?_eq_getElem h.1;rw [getD_at e] at h;exact ⟨_,e,h.2,getD_at e⟩
theorem Zx : kS l ↔ (l.map Item.key).Pairwise (· < ·):=by rw [List.pairwise_map]
variable {x y : Item}
theorem bY {i : Nat} (hy : l[i]? = some y) (h : x.key = y.key) : (l.set i x).map Item.key = l.map Item.key:=by
 rw [List.map_set,h];apply List.ext_getElem?;intro j;rw [List.getElem?_set];split
 ·rename_i e;subst e;rw [List.getElem?_map,hy,List.length_map];have:=(List.getElem?_eq_some_iff.1 hy).1;simp [this]
 ·rfl
theorem So (h : Bp l = true) : Bp (Hc l x).1 = true:=by
 unfold Hc;split
 ·rename_i hc;rw [Bool.and_eq_true] at hc;obtain ⟨h1,h2,h3⟩:=DN.1 h;split
  ·rename_i hk;split
   ·obtain ⟨y,hy,hyk,_⟩:=HT hk;refine DN.2 ⟨by simpa using h1,fun z hz => ?_,?_⟩
    ·rcases List.mem_or_eq_of_mem_set hz with hz | rfl
     ·exact h2 z hz
     ·exact hc.2
    ·rw [Zx,bY hy hyk.symm,← Zx];exact h3
   ·exact h
  ·rename_i hk;split
   ·exact h
   ·rename_i hl;obtain ⟨i1,i2⟩:=J8 x.key l h3;have hn : ∀ z ∈ l,z.key ≠ x.key:=fun z hz e => hk ((S7 h3).2 ⟨z,hz,e⟩)
    refine DN.2 ⟨?_,fun z hz => ?_,?_⟩
    ·have:=QZ l x.key;simp only [List.length_append,List.length_cons,List.length_take,List.length_drop];omega
    ·rw [List.mem_append,List.mem_cons] at hz;rcases hz with hz | rfl | hz
     ·exact h2 z (List.mem_of_mem_take hz)
     ·exact hc.2
     ·exact h2 z (List.mem_of_mem_drop hz)
    ·have hd : ∀ z ∈ l.drop (BY l x.key),x.key < z.key:=fun z hz => by
      rcases U0 x.key z.key with e | e | e
      ·exact e
      ·exact absurd e.symm (hn z (List.mem_of_mem_drop hz))
      ·exact absurd e (i2 z hz)
     refine List.pairwise_append.2 ⟨h3.sublist (List.take_sublist _ _),List.pairwise_cons.2 ⟨hd,h3.sublist (List.drop_sublist _ _)⟩,fun a ha b hb => ?_⟩;rcases List.mem_cons.1 hb with rfl | hb
     ·exact i1 a ha
     ·exact NU (i1 a ha) (hd b hb)
 ·exact h
theorem Nh (h : Jv x y = true) : Jv y x = false:=by
 unfold Jv at *;rw [decide_eq_true_eq] at h;rw [decide_eq_false_iff_not];obtain ⟨k,v,n,g⟩:=x;obtain ⟨k',v',n',g'⟩:=y;unfold HM at *
 revert h
 simp only;intro h
 repeat' split at h
 all_goals (try omega)
 all_goals (repeat' split)
 all_goals (try omega)
 all_goals simp_all
theorem Ew (x : Item) : Jv x x = false:=by
 cases h : Jv x x with
 | false => rfl
 | true => rw [Nh h] at h;cases h
theorem Sp (h : Bp l = true) (hy : y ∈ l) : (Fu (Hc l x).1 y.key).2 = 0 ∧ Jv y (Fu (Hc l x).1 y.key).1 = false:=by
 have hr:=So (x:=x) h;obtain ⟨r1,r2,r3⟩:=DN.1 hr
 have key : ∃ z ∈ (Hc l x).1,z.key = y.key ∧ Jv y z = false:=by
  obtain ⟨h1,h2,h3⟩:=DN.1 h;unfold Hc;split
  ·split
   ·rename_i hk;split
    ·rename_i hnew;obtain ⟨w,hw,hwk,hwg⟩:=HT hk
     by_cases e : y.key = x.key
     ·refine ⟨x,List.mem_iff_getElem?.2 ⟨BY l x.key,by rw [List.getElem?_set_self (List.getElem?_eq_some_iff.1 hw).1]⟩,e.symm,?_⟩
      have : y = w:=by
       obtain ⟨i,hi,rfl⟩:=List.getElem_of_mem hy;obtain ⟨hj,rfl⟩:=List.getElem?_eq_some_iff.1 hw;rcases Nat.lt_trichotomy i (BY l x.key) with hlt | he | hlt
       ·have:=List.pairwise_iff_getElem.1 h3 i _ hi hj hlt;rw [e,hwk] at this;exact absurd this (List.lt_irrefl _)
       ·subst he;rfl
       ·have:=List.pairwise_iff_getElem.1 h3 _ i hj hi hlt;rw [e,hwk] at this;exact absurd this (List.lt_irrefl _)
      rw [this];rw [hwg] at hnew;exact Nh hnew
     ·refine ⟨y,?_,rfl,Ew y⟩;obtain ⟨i,hi,rfl⟩:=List.getElem_of_mem hy;refine List.mem_iff_getElem?.2 ⟨i,?_⟩;rw [List.getElem?_set]
      have hne : BY l x.key ≠ i:=by
       rintro rfl;rw [List.getElem?_eq_getElem hi] at hw;cases hw;exact e hwk
      rw [if_neg hne];exact List.getElem?_eq_getElem hi
    ·exact ⟨y,hy,rfl,Ew y⟩
   ·split
    ·exact ⟨y,hy,rfl,Ew y⟩
    ·refine ⟨y,?_,rfl,Ew y⟩;have : y ∈ l.take (BY l x.key) ++ l.drop (BY l x.key):=by rw [List.take_append_drop];exact hy
     rw [List.mem_append] at this;rw [List.mem_append,List.mem_cons];rcases this with h | h
     ·exact .inl h
     ·exact .inr (.inr h)
  ·exact ⟨y,hy,rfl,Ew y⟩
 obtain ⟨z,hz,hzk,hnew⟩:=key;have hk : hasK (Hc l x).1 y.key = true:=(S7 r3).2 ⟨z,hz,hzk⟩;obtain ⟨w,hw,hwk,hwg⟩:=HT hk
 have hzw : z = w:=by
  obtain ⟨i,hi,rfl⟩:=List.getElem_of_mem hz;obtain ⟨hj,rfl⟩:=List.getElem?_eq_some_iff.1 hw;rcases Nat.lt_trichotomy i (BY (Hc l x).1 y.key) with hlt | he | hlt
  ·have:=List.pairwise_iff_getElem.1 r3 i _ hi hj hlt;rw [hzk,hwk] at this;exact absurd this (List.lt_irrefl _)
  ·subst he;rfl
  ·have:=List.pairwise_iff_getElem.1 r3 _ i hj hi hlt;rw [hzk,hwk] at this;exact absurd this (List.lt_irrefl _)
 unfold Fu;rw [hr,hk,hwg];exact ⟨rfl,by rw [← hzw];exact hnew⟩
theorem KY (h : Bp l = true) (hy : y ∈ l) : (Fu l y.key).2 = 0 ∧ Jv y (Fu l y.key).1 = false:=by
 have:=Sp (x:=⟨[],0,0,false⟩) h hy
 have e : (Hc l ⟨[],0,0,false⟩).1 = l:=by
  unfold Hc;rw [show AU ⟨[],0,0,false⟩ = false from rfl,Bool.and_false];rfl
 rwa [e] at this
structure Us (v w : View) : Prop where
 id : w.id = v.id
 base : w.base = v.base
 right : Aw v = true → Aw w = true
theorem Us.refl (v : View) : Us v v:=⟨rfl,rfl,fun h => h⟩
theorem Us.trans {a b c : View} (h : Us a b) (k : Us b c) : Us a c:=⟨k.id.trans h.id,k.base.trans h.base,fun r => k.right (h.right r)⟩
theorem bM {v : View} (h1 : Am v.id = true) (h2 : BZ v.base = true) (h3 : C5 v.id v.list = true) (h4 : Eg v.id v.pred = true) (h5 : (EA v.f).all (Eg v.id) = true) : Aw v = true:=by
 unfold Aw;rw [h1,h2,h3,h4,h5];rfl
theorem gf (v : View) (i owner : Int) : Us v (Gs v i owner).1:=by
 unfold Gs;split
 ·rename_i h;simp only [Bool.and_eq_true,decide_eq_true_eq] at h;refine ⟨rfl,rfl,fun hv => ?_⟩;obtain ⟨h1,h2,h3,h4,h5⟩:=Fz hv;refine bM h1 h2 h3 h4 ?_
  have hp : Eg v.id (if owner = v.id then -1 else owner) = true:=by
   split
   ·simp [Eg]
   ·rename_i hne;simp [Eg,h.2,hne]
  have h5' : ∀ i,i < 16 → Eg v.id (v.f i) = true:=fun i hi => (List.all_eq_true.1 h5) _ (by
    rcases aL hi with rfl | rfl | rfl | rfl | rfl | rfl | rfl | rfl | rfl | rfl | rfl | rfl | rfl | rfl | rfl | rfl <;> simp [EA])
  have hq : ∀ k,k < 16 → Eg v.id (bX v.f i.toNat (if owner = v.id then -1 else owner) k) = true:=fun k hk => by
   unfold bX;split
   ·exact hp
   ·exact h5' k hk
  rw [List.all_eq_true];intro x hx;simp only [EA,List.mem_cons,List.not_mem_nil,or_false] at hx;rcases hx with rfl | rfl | rfl | rfl | rfl | rfl | rfl | rfl | rfl | rfl | rfl | rfl | rfl | rfl | rfl | rfl <;> exact hq _ (by decide)
 ·exact .refl v
theorem ZS (v : View) (i owner : Int) : (Gs v i owner).1.list = v.list:=by unfold Gs;split <;> rfl
theorem fB {v : View} (h : Aw v = true) : Am (Ix v) = true ∧ Ix v ≠ v.id:=by
 obtain ⟨r1,r2,r3,-,-⟩:=Fz h;unfold Ix;rw [if_pos h]
 cases hl : v.list with
 | nil => exact ⟨(N1 r1 r2).2.1,(N1 r1 r2).2.2⟩
 | cons p r =>
  rw [hl] at r3;simp only [C5,rT,Bool.and_eq_true,decide_eq_true_eq] at r3;refine ⟨r3.2.1.1,?_⟩;show p ≠ v.id;rintro rfl;have:=r3.2.1.2;unfold Af at this;omega
theorem SF (n : Int) : Am n = B7 n:=by
 unfold Am B7
 by_cases h1 : 0 ≤ n <;> by_cases h2 : n < 65536 <;> simp [h1,h2]
theorem Tx (v : View) (j : Job) : (F8 v j).job.what = j.what:=by
 unfold F8 IM;dsimp only
 repeat' split
 all_goals rfl
theorem Wr (v : View) (what place : Int) (x : Item) : (C7 v what place x).job.what = what:=by
 unfold C7;split
 ·exact Tx ..
 ·rfl
end Nd
end Go.Proofs.YtkljbfejbakooaaGreatDoor
namespace Go.Proofs.YtkljbfejbakooaaGreatDoor
open Go.Gar
set_option maxRecDepth 4000
def fits (n : Int) : Bool:=decide (n ≥ 0) && decide (n ≤ 1099511627776)
theorem MV (n : Int) : Go.Gar.Fn Tryz.prog 366 [.i .i64 n] (.b (fits n)):=by
 refine zF A6 Tryz.func366 ?_;refine wk [0,2] [] A0 A0 ?_;repeat' (first|with_reducible constructor|(with_reducible intro hc;try simp only[AD] at hc)|with_reducible refine Cr ?_ ?_|(with_reducible refine decide_eq_true ?_;first|rfl|omega)|decide)
 all_goals (refine ⟨_,_,rfl,rfl,?_⟩;simp_all [BN,fits] <;> omega)
def CY (n : Nat) : Nat:=if n = 0 then 0 else n.log2 + 1
theorem Gx {n k : Nat} : CY n = k ↔ n < 2 ^ k ∧ (k = 0 ∨ 2 ^ (k - 1) ≤ n):=by
 unfold CY;split
 ·rename_i h;subst h;constructor
  ·intro h;subst h;simp
  ·rintro ⟨h1,h2 | h2⟩
   ·exact h2.symm
   ·have : 0 < 2 ^ (k - 1):=Nat.two_pow_pos _;omega
 ·rename_i h;constructor
  ·intro hk;subst hk;exact ⟨Nat.lt_log2_self,.inr (by simpa using Nat.log2_self_le h)⟩
  ·rintro ⟨h1,h2⟩;have h2' : k ≠ 0:=fun e => by subst e;simp at h1;omega
   have h2 : 2 ^ (k - 1) ≤ n:=by rcases h2 with h2 | h2;exact absurd h2 h2';exact h2
   have:=(Nat.log2_eq_iff h).2 ⟨h2,by rwa [show k - 1 + 1 = k by omega]⟩;omega
theorem SO {n k : Nat} (h : 2 ^ k ≤ n) : CY n = CY (n / 2 ^ k) + k:=by
 rw [Gx];have hp : 0 < 2 ^ k:=Nat.two_pow_pos k;obtain ⟨h1,h2⟩:=(Gx (n:=n / 2 ^ k)).1 rfl;have hne : 0 < n / 2 ^ k:=Nat.div_pos h hp;have hk : CY (n / 2 ^ k) ≠ 0:=fun e => by rw [e] at h1;simp at h1;omega
 have h2 : 2 ^ (CY (n / 2 ^ k) - 1) ≤ n / 2 ^ k:=by rcases h2 with h2 | h2;exact absurd h2 hk;exact h2
 refine ⟨?_,.inr ?_⟩
 ·rw [Nat.pow_add];exact (Nat.div_lt_iff_lt_mul hp).1 h1
 ·rw [show CY (n / 2 ^ k) + k - 1 = (CY (n / 2 ^ k) - 1) + k by omega,Nat.pow_add];exact (Nat.le_div_iff_mul_le hp).1 h2
def Xo : List UInt8:=[0,1,2,2,3,3,3,3,4,4,4,4,4,4,4,4,5,5,5,5,5,5,5,5,5,5,5,5,5,5,5,5,6,6,6,6,6,6,6,6,6,6,6,6,6,6,6,6,6,6,6,6,6,6,6,6,6,6,6,6,6,6,6,6,7,7,7,7,7,7,7,7,7,7,7,7,7,7,7,7,7,7,7,7,7,7,7,7,7,7,7,7,7,7,7,7,7,7,7,7,7,7,7,7,7,7,7,7,7,7,7,7,7,7,7,7,7,7,7,7,7,7,7,7,7,7,7,7,8,8,8,8,8,8,8,8,8,8,8,8,8,8,8,8,8,8,8,8,8,8,8,8,8,8,8,8,8,8,8,8,8,8,8,8,8,8,8,8,8,8,8,8,8,8,8,8,8,8,8,8,8,8,8,8,8,8,8,8,8,8,8,8,8,8,8,8,8,8,8,8,8,8,8,8,8,8,8,8,8,8,8,8,8,8,8,8,8,8,8,8,8,8,8,8,8,8,8,8,8,8,8,8,8,8,8,8,8,8,8,8,8,8,8,8,8,8,8,8,8,8,8,8,8,8,8,8]
theorem eV : ∀ n : Fin 256,(Xo.getD n.1 0).toNat = CY n.1:=by decide +kernel
theorem Q2 (a : Int) (h : (decide (0 ≤ a) && decide (a ≤ 4611686018427387904)) = true) (u : UInt8) : EI .i64 (a + (u.toNat : Int)) = true:=by
 have:=u.toNat_lt;simp [EI] at h ⊢;omega
theorem dV (y : Int) : QB (y % 256) Xo.length = true:=by
 have : Xo.length = 256:=by decide +kernel
 rw [this,DL];omega
theorem W1 (y : Int) (h : 0 ≤ y) (h' : y < 256) : ((Xo.getD (y % 256).toNat 0).toNat : Int) = (CY y.toNat : Int):=by
 have:=eV ⟨y.toNat,by omega⟩;simp only at this;rw [← this];congr 4;omega
theorem HW (x k : Nat) (h : 2 ^ k ≤ x) (h' : x / 2 ^ k < 256) (y : Int) (hy : y = ((x / 2 ^ k : Nat) : Int)) : (CY x : Int) = (k : Int) + ((Xo.getD (y % 256).toNat 0).toNat : Int):=by
 subst hy;have:=SO h;rw [W1 _ (Int.natCast_nonneg _) (Int.ofNat_lt.2 h'),Int.toNat_natCast];omega
theorem SP (x : Nat) (h' : x < 256) : (CY x : Int) = ((Xo.getD ((x : Int) % 256).toNat 0).toNat : Int):=by
 rw [W1 x (by omega) (by omega),Int.toNat_natCast]
theorem aE (x : Nat) (hx : x < 18446744073709551616) : Go.Gar.Fn Tryz.prog 371 [.i .u64 x] (.i .i64 (CY x)):=by
 refine zF A6 Tryz.func371 ?_;refine wk [0,2,4,8,14] [] A0 A0 ?_;repeat' (first|with_reducible constructor|(with_reducible intro hc;try simp only[AD] at hc)|with_reducible refine Cr ?_ ?_|(with_reducible refine decide_eq_true ?_;first|rfl|omega)|decide)
 all_goals first
  | exact AT _
  | exact Q2 _ rfl _
  | exact dV _
  | (refine ⟨_,_,rfl,rfl,?_⟩;simp only [BN];refine congrArg (D.i .i64) ?_
     first
      | exact HW x 56 (by omega) (by omega) _ (by omega)
      | exact HW x 48 (by omega) (by omega) _ (by omega)
      | exact HW x 40 (by omega) (by omega) _ (by omega)
      | exact HW x 32 (by omega) (by omega) _ (by omega)
      | exact HW x 24 (by omega) (by omega) _ (by omega)
      | exact HW x 16 (by omega) (by omega) _ (by omega)
      | exact HW x 8 (by omega) (by omega) _ (by omega)
      | exact (SP x (by omega)).trans (Int.zero_add _).symm
      | exact SP x (by omega))
end Go.Proofs.YtkljbfejbakooaaGreatDoor
