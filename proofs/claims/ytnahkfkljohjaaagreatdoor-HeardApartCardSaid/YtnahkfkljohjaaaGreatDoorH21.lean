/- Part 21 of the texts of this proof, put together by a program and made short.
Conditions: none; what each theorem asks stands in its own hypotheses. -/
import Derived.Test.YtnahkfkljohjaaaGreatDoorH20
import Derived.Sort.Walk0
import Derived.KernelRfl
import Derived.RangeFuncIn
import Derived.OpenShut
import Derived.ProofKit
import Derived.CallsIn
import Derived.RangeFuncLeaves
import Derived.OrdersIn
import Derived.TacticsIn
import Derived.ChangeKeysEq
import Derived.Laws.AppendOwn
import Derived.Laws.OwnMore
import Derived.Laws.MakeOwn
import Derived.Laws.Rows
import Derived.Laws.Cells
import Derived.Laws.Tables
import Derived.Laws.CopyRow
import Derived.Laws.Strings
import Derived.Laws.IdiomStrings
import Derived.Laws.BytesArg
import Derived.Sort.Grow
import Derived.Laws.Cover3
import Derived.RecoverIn
import Derived.Test.YtnahkfkljohjaaaGreatDoorProg
set_option linter.unusedSimpArgs false
set_option linter.unusedVariables false
set_option linter.unnecessarySimpa false
set_option maxHeartbeats 40000000
namespace Go.Proofs.YtnahkfkljohjaaaGreatDoor
namespace Nd
open Go.Gar
open Wi (A8 B0 Ak AX B8)
set_option maxRecDepth 4000
theorem L1 {a b c : List UInt8} (h : a < b) (k : b < c) : a < c:=List.lt_trans h k
theorem Qu (a b : List UInt8) : a < b ∨ a = b ∨ b < a:=by
 by_cases h : a < b
 ·exact .inl h
 by_cases h2 : b < a
 ·exact .inr (.inr h2)
 exact .inr (.inl (List.le_antisymm (List.not_lt.1 h2) (List.not_lt.1 h)))
abbrev kS (l : List Item) : Prop:=l.Pairwise fun x y => x.key < y.key
theorem WI : ∀ (l : List Item),(∀ k,k < l.length → k = 0 ∨ (l.getD (k - 1) AP).key < (l.getD k AP).key) → kS l
 | [],_ => List.Pairwise.nil
 | [a],_ => by simp [kS]
 | a :: b :: r,h => by
  have ih:=WI (b :: r) (fun k hk => by
   rcases Nat.eq_zero_or_pos k with e | e
   ·exact .inl e
   ·have:=h (k + 1) (by simpa using hk)
    obtain ⟨j,rfl⟩ : ∃ j,k = j + 1:=⟨k - 1,by omega⟩
    simpa using this)
  have hab : a.key < b.key:=by
   have:=h 1 (by simp)
   simpa using this
  refine List.pairwise_cons.2 ⟨fun x hx => ?_,ih⟩
  rcases List.mem_cons.1 hx with rfl | hx
  ·exact hab
  ·exact L1 hab ((List.pairwise_cons.1 ih).1 x hx)
theorem Ch {l : List Item} : Bd l = true ↔ l.length ≤ 24 ∧ (∀ x ∈ l,Ak x = true) ∧ kS l:=by
 unfold Bd
 rw [Bool.and_eq_true,decide_eq_true_eq,KL]
 constructor
 ·rintro ⟨h1,h2⟩
  refine ⟨h1,fun x hx => ?_,WI l fun k hk => ?_⟩
  ·obtain ⟨k,hk,rfl⟩:=List.getElem_of_mem hx
   have:=h2 k hk
   unfold DR at this
   rw [Bool.and_eq_true,getD_at (List.getElem?_eq_getElem hk)] at this
   exact this.1
  ·have:=h2 k hk
   unfold DR at this
   rw [Bool.and_eq_true,decide_eq_true_eq] at this
   exact this.2
 ·rintro ⟨h1,h2,h3⟩
  refine ⟨h1,fun k hk => ?_⟩
  unfold DR
  rw [Bool.and_eq_true,decide_eq_true_eq,getD_at (List.getElem?_eq_getElem hk)]
  refine ⟨h2 _ (List.getElem_mem hk),?_⟩
  rcases Nat.eq_zero_or_pos k with e | e
  ·exact .inl e
  ·right
   rw [getD_at (List.getElem?_eq_getElem (show k - 1 < l.length by omega))]
   exact List.pairwise_iff_getElem.1 h3 (k - 1) k (by omega) hk (by omega)
theorem FQ (key : List UInt8) : ∀ (l : List Item),kS l → (∀ x ∈ l.take (BX l key),x.key < key) ∧ (∀ x ∈ l.drop (BX l key),¬ x.key < key)
 | [],_ => by simp [BX]
 | a :: r,h => by
  obtain ⟨h1,h2⟩:=List.pairwise_cons.1 h
  by_cases e : a.key < key
  ·have hp : BX (a :: r) key = BX r key + 1:=by unfold BX;rw [List.takeWhile_cons_of_pos (by simpa using e)];rfl
   obtain ⟨i1,i2⟩:=FQ key r h2
   rw [hp]
   refine ⟨fun x hx => ?_,fun x hx => i2 x (by simpa using hx)⟩
   rw [List.take_succ_cons] at hx
   rcases List.mem_cons.1 hx with rfl | hx
   ·exact e
   ·exact i1 x hx
  ·have hp : BX (a :: r) key = 0:=by unfold BX;rw [List.takeWhile_cons_of_neg (by simpa using e)];rfl
   rw [hp]
   refine ⟨fun x hx => by simp at hx,fun x hx => ?_⟩
   rw [List.drop_zero] at hx
   rcases List.mem_cons.1 hx with rfl | hx
   ·exact e
   ·exact fun hlt => e (L1 (h1 x hx) hlt)
theorem PY (l : List Item) (key : List UInt8) : BX l key ≤ l.length:=by
 unfold BX
 exact (List.takeWhile_sublist _).length_le
theorem OF {l : List Item} (h : kS l) {key : List UInt8} : hasK l key = true ↔ ∃ x ∈ l,x.key = key:=by
 unfold hasK
 rw [Bool.and_eq_true,decide_eq_true_eq,decide_eq_true_eq]
 constructor
 ·rintro ⟨h1,h2⟩
  rw [getD_at (List.getElem?_eq_getElem h1)] at h2
  exact ⟨_,List.getElem_mem h1,h2⟩
 ·rintro ⟨x,hx,rfl⟩
  obtain ⟨i1,i2⟩:=FQ x.key l h
  have hx' : x ∈ l.drop (BX l x.key):=by
   rw [← List.take_append_drop (BX l x.key) l,List.mem_append] at hx
   rcases hx with hx | hx
   ·exact absurd (i1 x hx) (List.lt_irrefl _)
   ·exact hx
  have hlt : BX l x.key < l.length:=by
   rcases Nat.lt_or_ge (BX l x.key) l.length with h | h
   ·exact h
   ·rw [List.drop_eq_nil_of_le h] at hx';cases hx'
  refine ⟨hlt,?_⟩
  rw [getD_at (List.getElem?_eq_getElem hlt)]
  rw [List.drop_eq_getElem_cons hlt] at hx'
  have hd:=(h.sublist (List.drop_sublist (BX l x.key) l))
  rw [List.drop_eq_getElem_cons hlt] at hd
  rcases List.mem_cons.1 hx' with e | hm
  ·rw [← e]
  ·have h1:=(List.pairwise_cons.1 hd).1 x hm
   exact absurd h1 (i2 _ (by rw [List.drop_eq_getElem_cons hlt];exact List.mem_cons_self ..))
theorem Fz {l : List Item} {key : List UInt8} (h : hasK l key = true) : ∃ x,l[BX l key]? = some x ∧ x.key = key ∧ l.getD (BX l key) AP = x:=by
 unfold hasK at h
 rw [Bool.and_eq_true,decide_eq_true_eq,decide_eq_true_eq] at h
 have e:=List.getElem?_eq_getElem h.1
 rw [getD_at e] at h
 exact ⟨_,e,h.2,getD_at e⟩
theorem Vh {l : List Item} : kS l ↔ (l.map Item.key).Pairwise (· < ·):=by rw [List.pairwise_map]
theorem Uk {l : List Item} {i : Nat} {x y : Item} (hy : l[i]? = some y) (h : x.key = y.key) : (l.set i x).map Item.key = l.map Item.key:=by
 rw [List.map_set,h]
 apply List.ext_getElem?
 intro j
 rw [List.getElem?_set]
 split
 ·rename_i e;subst e
  rw [List.getElem?_map,hy,List.length_map]
  have:=(List.getElem?_eq_some_iff.1 hy).1
  simp [this]
 ·rfl
theorem OB {l : List Item} {x : Item} (h : Bd l = true) : Bd (GZ l x).1 = true:=by
 unfold GZ
 split
 ·rename_i hc
  rw [Bool.and_eq_true] at hc
  obtain ⟨h1,h2,h3⟩:=Ch.1 h
  split
  ·rename_i hk
   split
   ·obtain ⟨y,hy,hyk,_⟩:=Fz hk
    refine Ch.2 ⟨by simpa using h1,fun z hz => ?_,?_⟩
    ·rcases List.mem_or_eq_of_mem_set hz with hz | rfl
     ·exact h2 z hz
     ·exact hc.2
    ·rw [Vh,Uk hy hyk.symm,← Vh];exact h3
   ·exact h
  ·rename_i hk
   split
   ·exact h
   ·rename_i hl
    obtain ⟨i1,i2⟩:=FQ x.key l h3
    have hn : ∀ z ∈ l,z.key ≠ x.key:=fun z hz e => hk ((OF h3).2 ⟨z,hz,e⟩)
    refine Ch.2 ⟨?_,fun z hz => ?_,?_⟩
    ·have:=PY l x.key
     simp only [List.length_append,List.length_cons,List.length_take,List.length_drop];omega
    ·rw [List.mem_append,List.mem_cons] at hz
     rcases hz with hz | rfl | hz
     ·exact h2 z (List.mem_of_mem_take hz)
     ·exact hc.2
     ·exact h2 z (List.mem_of_mem_drop hz)
    ·have hd : ∀ z ∈ l.drop (BX l x.key),x.key < z.key:=fun z hz => by
      rcases Qu x.key z.key with e | e | e
      ·exact e
      ·exact absurd e.symm (hn z (List.mem_of_mem_drop hz))
      ·exact absurd e (i2 z hz)
     refine List.pairwise_append.2 ⟨h3.sublist (List.take_sublist _ _),List.pairwise_cons.2 ⟨hd,h3.sublist (List.drop_sublist _ _)⟩,fun a ha b hb => ?_⟩
     rcases List.mem_cons.1 hb with rfl | hb
     ·exact i1 a ha
     ·exact L1 (i1 a ha) (hd b hb)
 ·exact h
theorem LK {x y : Item} (h : HN x y = true) : HN y x = false:=by
 unfold HN at *
 rw [decide_eq_true_eq] at h
 rw [decide_eq_false_iff_not]
 obtain ⟨k,v,n,g⟩:=x
 obtain ⟨k',v',n',g'⟩:=y
 unfold CS at *
 revert h
 simp only
 intro h
 repeat' split at h
 all_goals (try omega)
 all_goals (repeat' split)
 all_goals (try omega)
 all_goals simp_all
theorem EA (x : Item) : HN x x = false:=by
 cases h : HN x x with
 | false => rfl
 | true => rw [LK h] at h;cases h
theorem O7 {l : List Item} {x y : Item} (h : Bd l = true) (hy : y ∈ l) : (Di (GZ l x).1 y.key).2 = 0 ∧ HN y (Di (GZ l x).1 y.key).1 = false:=by
 have hr:=OB (x:=x) h
 obtain ⟨r1,r2,r3⟩:=Ch.1 hr
 have key : ∃ z ∈ (GZ l x).1,z.key = y.key ∧ HN y z = false:=by
  obtain ⟨h1,h2,h3⟩:=Ch.1 h
  unfold GZ
  split
  ·split
   ·rename_i hk
    split
    ·rename_i hnew
     obtain ⟨w,hw,hwk,hwg⟩:=Fz hk
     by_cases e : y.key = x.key
     ·refine ⟨x,List.mem_iff_getElem?.2 ⟨BX l x.key,by rw [List.getElem?_set_self (List.getElem?_eq_some_iff.1 hw).1]⟩,e.symm,?_⟩
      have : y = w:=by
       obtain ⟨i,hi,rfl⟩:=List.getElem_of_mem hy
       obtain ⟨hj,rfl⟩:=List.getElem?_eq_some_iff.1 hw
       rcases Nat.lt_trichotomy i (BX l x.key) with hlt | he | hlt
       ·have:=List.pairwise_iff_getElem.1 h3 i _ hi hj hlt
        rw [e,hwk] at this;exact absurd this (List.lt_irrefl _)
       ·subst he;rfl
       ·have:=List.pairwise_iff_getElem.1 h3 _ i hj hi hlt
        rw [e,hwk] at this;exact absurd this (List.lt_irrefl _)
      rw [this]
      rw [hwg] at hnew
      exact LK hnew
     ·refine ⟨y,?_,rfl,EA y⟩
      obtain ⟨i,hi,rfl⟩:=List.getElem_of_mem hy
      refine List.mem_iff_getElem?.2 ⟨i,?_⟩
      rw [List.getElem?_set]
      have hne : BX l x.key ≠ i:=by
       rintro rfl
       rw [List.getElem?_eq_getElem hi] at hw
       cases hw
       exact e hwk
      rw [if_neg hne];exact List.getElem?_eq_getElem hi
    ·exact ⟨y,hy,rfl,EA y⟩
   ·split
    ·exact ⟨y,hy,rfl,EA y⟩
    ·refine ⟨y,?_,rfl,EA y⟩
     have : y ∈ l.take (BX l x.key) ++ l.drop (BX l x.key):=by rw [List.take_append_drop];exact hy
     rw [List.mem_append] at this
     rw [List.mem_append,List.mem_cons]
     rcases this with h | h
     ·exact .inl h
     ·exact .inr (.inr h)
  ·exact ⟨y,hy,rfl,EA y⟩
 obtain ⟨z,hz,hzk,hnew⟩:=key
 have hk : hasK (GZ l x).1 y.key = true:=(OF r3).2 ⟨z,hz,hzk⟩
 obtain ⟨w,hw,hwk,hwg⟩:=Fz hk
 have hzw : z = w:=by
  obtain ⟨i,hi,rfl⟩:=List.getElem_of_mem hz
  obtain ⟨hj,rfl⟩:=List.getElem?_eq_some_iff.1 hw
  rcases Nat.lt_trichotomy i (BX (GZ l x).1 y.key) with hlt | he | hlt
  ·have:=List.pairwise_iff_getElem.1 r3 i _ hi hj hlt
   rw [hzk,hwk] at this;exact absurd this (List.lt_irrefl _)
  ·subst he;rfl
  ·have:=List.pairwise_iff_getElem.1 r3 _ i hj hi hlt
   rw [hzk,hwk] at this;exact absurd this (List.lt_irrefl _)
 unfold Di
 rw [hr,hk,hwg]
 exact ⟨rfl,by rw [← hzw];exact hnew⟩
theorem Em {l : List Item} {y : Item} (h : Bd l = true) (hy : y ∈ l) : (Di l y.key).2 = 0 ∧ HN y (Di l y.key).1 = false:=by
 have:=O7 (x:=⟨[],0,0,false⟩) h hy
 have e : (GZ l ⟨[],0,0,false⟩).1 = l:=by
  unfold GZ
  rw [show Ak ⟨[],0,0,false⟩ = false from rfl,Bool.and_false];rfl
 rwa [e] at this
theorem BZ {n : Node} : AG n = true ↔ (0 ≤ n.clock ∧ n.clock ≤ 1099511627776) ∧ 0 ≤ n.bad ∧ (0 ≤ n.next ∧ n.next < 16) ∧ AF n.view = true ∧ (n.calls.id = n.view.id ∧ Cp n.calls = true) ∧ Bp n.phase n.of_ = true ∧ Bd n.keep = true ∧ FM n.seen = true ∧ KU n = true:=by
 unfold AG
 simp only [Bool.and_eq_true,decide_eq_true_eq]
structure PP (n w : Node) : Prop where
 view : QS n.view w.view
 clock : w.clock = n.clock
 calls : w.calls = n.calls
 seen : w.seen = n.seen
 last : w.last = n.last
 bad : w.bad = n.bad
 right : AG n = true → AG w = true
 keep : Bd n.keep = true → ∀ y ∈ n.keep,(Di w.keep y.key).2 = 0 ∧ HN y (Di w.keep y.key).1 = false
theorem PP.refl (n : Node) : PP n n:=⟨.refl _,rfl,rfl,rfl,rfl,rfl,fun h => h,fun h _ hy => Em h hy⟩
theorem T9 (k : List Item) (j : Job) (h : Bd k = true) : Bd (CN k j).1 = true ∧ ∀ y ∈ k,(Di (CN k j).1 y.key).2 = 0 ∧ HN y (Di (CN k j).1 y.key).1 = false:=by
 unfold CN
 split
 ·exact ⟨OB h,fun y hy => O7 h hy⟩
 ·split <;> exact ⟨h,fun y hy => Em h hy⟩
theorem Zb {n w : Node} (h : w.seen = n.seen) (k : w.view.id = n.view.id) : KU w = KU n:=by unfold KU;rw [h,k]
theorem PP.mk' {n w : Node} (hv : QS n.view w.view) (h1 : w.clock = n.clock) (h2 : w.calls = n.calls) (h3 : w.seen = n.seen) (h4 : w.last = n.last) (h5 : w.bad = n.bad)
  (h6 : 0 ≤ n.next ∧ n.next < 16 → 0 ≤ w.next ∧ w.next < 16) (h7 : Bp n.phase n.of_ = true → Bp w.phase w.of_ = true)
  (h8 : Bd n.keep = true → Bd w.keep = true ∧ ∀ y ∈ n.keep,(Di w.keep y.key).2 = 0 ∧ HN y (Di w.keep y.key).1 = false) : PP n w:=by
 refine ⟨hv,h1,h2,h3,h4,h5,fun h => ?_,fun h => (h8 h).2⟩
 rw [BZ] at h ⊢
 obtain ⟨a1,a2,a3,a4,a5,a6,a7,a8,a9⟩:=h
 exact ⟨by rw [h1];exact a1,by rw [h5];exact a2,h6 a3,hv.right a4,by rw [h2,hv.id];exact a5,h7 a6,(h8 a7).1,by rw [h3];exact a8,by rw [Zb h3 hv.id];exact a9⟩
theorem X7 {k : Int} (h : 0 ≤ k ∧ k < 16) : 0 ≤ (k + 1).tmod 16 ∧ (k + 1).tmod 16 < 16:=by
 rw [Int.tmod_eq_emod_of_nonneg (by omega)];omega
structure GOK (n : Node) (why : Int) (c : JC) (w : Node) : Prop where
 st : PP n w
 list : w.view.list = n.view.list
 phase : w.phase = n.phase
 of_ : w.of_ = n.of_
 finger : why ≠ 5 → w.finger = n.finger ∧ w.next = n.next
 mirror : why ≠ 6 → w.mirror = n.mirror
 client : why = 5 ∨ why = 6 → w.client = n.client
theorem XU (n : Node) : QS n.view (D7 n).view ∧ (D7 n).view.list = n.view.list:=by
 unfold D7
 by_cases h : n.finger.code = 0
 ·simp only [if_pos h];exact ⟨Zh ..,U4 ..⟩
 ·refine ⟨?_,by simp only [if_neg h]⟩
  simp only [if_neg h];exact .refl _
theorem YW (n : Node) (j : Job) : P1 n 5 j = { n with finger:=j }:=if_pos rfl
theorem az (n : Node) (j : Job) : P1 n 6 j = { n with mirror:=j }:=by unfold P1;rw [if_neg (by decide),if_pos rfl]
theorem bF (n : Node) {why : Int} (j : Job) (h5 : why ≠ 5) (h6 : why ≠ 6) : P1 n why j = { n with client:=j }:=by unfold P1;rw [if_neg h5,if_neg h6]
theorem Cn (n : Node) (why : Int) (ended : Bool) (c : JC) : GOK n why c (AK n why ended c).1:=by
 unfold AK
 have hs : Bd n.keep = true → Bd (if c.own then CN n.keep c.job else (n.keep,c.job)).1 = true ∧ ∀ y ∈ n.keep,(Di (if c.own then CN n.keep c.job else (n.keep,c.job)).1 y.key).2 = 0 ∧ HN y (Di (if c.own then CN n.keep c.job else (n.keep,c.job)).1 y.key).1 = false:=by
  intro h
  split
  ·exact T9 _ _ h
  ·exact ⟨h,fun y hy => Em h hy⟩
 generalize (if c.own then CN n.keep c.job else (n.keep,c.job)) = s at *
 obtain ⟨k,j⟩:=s
 dsimp only at hs ⊢
 by_cases h5 : why = 5
 ·subst h5
  rw [YW]
  have hg:=XU { n with keep:=k,finger:=j }
  by_cases hc : (5 : Int) = 5 ∧ ended = false ∧ j.phase = 5
  ·rw [if_pos hc]
   exact ⟨.mk' hg.1 rfl rfl rfl rfl rfl X7 id hs,hg.2,rfl,rfl,fun h => absurd rfl h,fun _ => rfl,fun _ => rfl⟩
  ·rw [if_neg hc]
   exact ⟨.mk' (.refl _) rfl rfl rfl rfl rfl id id hs,rfl,rfl,rfl,fun h => absurd rfl h,fun _ => rfl,fun _ => rfl⟩
 ·rw [if_neg (fun h => h5 h.1)]
  by_cases h6 : why = 6
  ·subst h6
   rw [az]
   exact ⟨.mk' (.refl _) rfl rfl rfl rfl rfl id id hs,rfl,rfl,rfl,fun _ => ⟨rfl,rfl⟩,fun h => absurd rfl h,fun _ => rfl⟩
  ·rw [bF _ _ h5 h6]
   exact ⟨.mk' (.refl _) rfl rfl rfl rfl rfl id id hs,rfl,rfl,rfl,fun _ => ⟨rfl,rfl⟩,fun _ => rfl,fun h => by omega⟩
theorem FR (n : Node) (why what place : Int) (x : Item) : PP n (B6 n why what place x).1 ∧ (B6 n why what place x).1.view.list = n.view.list:=by
 unfold B6
 split
 ·exact ⟨(Cn ..).st,(Cn ..).list⟩
 ·exact ⟨.refl _,rfl⟩
theorem PG (n : Node) (c : Call) (m : A8) : PP n (Aw n c m).1:=by
 unfold Aw
 split
 ·rename_i hr
  split
  ·have h:=BZ.1 hr
   have ht:=Ro (v:=n.view) (m:=m) h.2.2.2.2.2.1
   exact .mk' ht.1 rfl rfl rfl rfl rfl id (fun _ => ht.2) (fun hk => ⟨hk,fun y hy => Em hk hy⟩)
  ·split
   ·exact (Cn ..).st
   ·exact .refl _
 ·exact .refl _
theorem RZ (n : Node) (c : Call) : PP n (Be n c).1:=by
 unfold Be
 have hd:=Fg n.view c.msg.dst
 split
 ·rename_i hr
  have h:=BZ.1 hr
  dsimp only
  split
  ·have ht:=XY (v:=Ad n.view c.msg.dst) (d:=c.msg.dst) h.2.2.2.2.2.1
   exact .mk' (hd.trans ht.1) rfl rfl rfl rfl rfl id (fun _ => ht.2) (fun hk => ⟨hk,fun y hy => Em hk hy⟩)
  ·have n1 : PP n { n with view:=Ad n.view c.msg.dst }:=.mk' hd rfl rfl rfl rfl rfl id id (fun hk => ⟨hk,fun y hy => Em hk hy⟩)
   split
   ·have g:=(Cn { n with view:=Ad n.view c.msg.dst } c.why (decide ((Ct n c.why).phase = 5)) (Az (Ad n.view c.msg.dst) (Ct n c.why) c.msg.dst)).st
    exact ⟨n1.view.trans g.view,g.clock,g.calls,g.seen,g.last,g.bad,fun h => g.right (n1.right h),g.keep⟩
   ·exact n1
 ·exact .refl _
theorem NH (n : Node) (why : Int) : PP n (E9 n why):=by
 unfold E9
 split
 ·split
  ·exact .mk' (.refl _) rfl rfl rfl rfl rfl id (fun _ => rfl) (fun hk => ⟨hk,fun y hy => Em hk hy⟩)
  ·split
   ·exact (Cn ..).st
   ·exact .refl _
 ·exact .refl _
abbrev PT (n : Node) : Bool:=Fy n.view.id n.view.list n.view.base
theorem Md {n w : Node} (h : QS n.view w.view) (hl : w.view.list = n.view.list) : PT w = PT n:=by unfold PT;rw [h.id,h.base,hl]
theorem V7 (n : Node) (why what place : Int) (x : Item) : PT (B6 n why what place x).1 = PT n:=Md (FR n why what place x).1.view (FR n why what place x).2
theorem XJ (n : Node) (why : Int) : PT (E9 n why) = PT n:=by
 refine Md (NH n why).view ?_
 unfold E9
 split
 ·split
  ·rfl
  ·split
   ·exact (Cn ..).list
   ·rfl
 ·rfl
theorem Vj {n : Node} {c : Call} {m : A8} (h0 : 0 ≤ n.phase) (h : PT n = false) (hm : Fy m.src m.list n.view.base = false) (ho : n.phase = 1 ∨ n.phase = 2 → Fy n.view.id [n.of_] n.view.base = false) : PT (Aw n c m).1 = false:=by
 unfold Aw
 split
 ·split
  ·exact Xc h0 h hm ho
  ·split
   ·rw [Md (Cn ..).st.view (Cn ..).list];exact h
   ·exact h
 ·exact h
theorem XM {n : Node} {c : Call} (h : PT n = false) : PT (Be n c).1 = false:=by
 unfold Be
 split
 ·rename_i hr
  have hv:=(BZ.1 hr).2.2.2.1
  have h1:=Oy c.msg.dst hv h
  have hv1:=(Fg n.view c.msg.dst).right hv
  dsimp only
  split
  ·exact Xz hv1 h1
  ·split
   ·rw [Md (Cn ..).st.view (Cn ..).list];exact h1
   ·exact h1
 ·exact h
theorem W7 {v : View} {k : Int} {slow : Bool} (hv : AF v = true) (hf : (CV v k slow).2 = false) : (CV v k slow).1 ≠ v.id:=by
 have hfi:=Ow hv
 unfold CV at hf ⊢
 rw [if_pos hv] at hf ⊢
 split at hf
 ·cases hf
 ·rename_i hu
  rw [if_neg hu]
  split
  ·exact hfi.2
  ·have key : ∀ (l : List Int) (p : Int),p ≠ v.id → l.foldl (Dn v.id k) p ≠ v.id:=by
    intro l
    induction l with
    | nil => exact fun p h => h
    | cons q r ih =>
     intro p hp
     rw [List.foldl_cons]
     refine ih _ ?_
     unfold Dn
     split
     ·rename_i hc
      rw [Bool.and_eq_true,decide_eq_true_eq] at hc
      rintro rfl
      have:=hc.2
      have h2:=(Mt v.id p).1
      have h3 : AU v.id v.id = 0:=by unfold AU;omega
      rw [h3] at this
      omega
     ·exact hp
   exact key _ _ hfi.2
theorem ZA {l : Look} {m : A8} (h : m ∈ (if (PS l).2 then [(PS l).1] else [])) : m.dst = l.at_ ∧ DU l = true ∧ lookO l = false:=by
 unfold PS at h
 split at h
 ·simp at h
 ·rename_i hc
  simp only [if_true,List.mem_singleton] at h
  subst h
  simp only [Bool.or_eq_true,Bool.not_eq_true',not_or,Bool.not_eq_false,Bool.not_eq_true] at hc
  exact ⟨rfl,hc.2,hc.1⟩
theorem Rp {v : View} {j : Job} (h : DU j.look = true → lookO j.look = false → j.look.at_ ≠ v.id) : ∀ m ∈ (BU v j).asks,m.dst ≠ v.id:=by
 intro m hm
 unfold BU at hm
 split at hm
 ·cases hm
 split at hm
 ·obtain ⟨h1,h2,h3⟩:=ZA hm
  rw [h1];exact h h2 h3
 split at hm
 ·cases hm
 split at hm
 ·unfold Ev at hm
  dsimp only at hm
  obtain ⟨p,hp,rfl⟩:=List.mem_map.1 hm
  have:=(List.mem_filter.1 hp).2
  simpa [CK] using this
 split at hm
 ·rename_i h1 h2
  have : j.look.at_ ≠ v.id:=fun e => h1 ⟨h2,e⟩
  rw [List.mem_singleton] at hm
  subst hm
  exact this
 split at hm
 ·cases hm
 ·rename_i h1
  rw [List.mem_singleton] at hm
  subst hm
  exact h1
theorem Zj {v : View} {l : Look} {m : A8} (hv : AF v = true) (ht : Gd v l m = true) (h1 : DU (HW v l m) = true) (h2 : lookO (HW v l m) = false) : (HW v l m).at_ ≠ v.id:=by
 unfold HW at h1 h2 ⊢
 rw [hv,Bool.true_and] at h1 h2 ⊢
 split at h1
 ·rename_i hc
  rw [if_pos hc] at h2 ⊢
  rw [if_pos ht] at h2 ⊢
  split at h1
  ·rename_i hh
   rw [if_pos hh] at h2
   unfold GQ lookO at h2
   rw [if_pos hh] at h2
   simp at h2
  ·rename_i hh
   rw [if_neg hh] at h2 ⊢
   show (We v l m).1 ≠ v.id
   have hf : (We v l m).2 = false:=by
    unfold lookO at h2
    simp only [Bool.or_eq_false_iff] at h2
    exact h2.1
   unfold We at hf ⊢
   split
   ·rename_i hp
    rw [if_pos hp] at hf
    exact W7 hv hf
   ·rename_i hp
    rw [if_neg hp] at hf
    exact fun e => hp ⟨e,hf⟩
 ·rename_i hc
  rw [if_neg hc] at h2
  exact absurd (by rw [h1,h2];rfl) hc
theorem Zs {v : View} {l : Look} (hv : AF v = true) (h1 : DU (PR v l) = true) (h2 : lookO (PR v l) = false) : (PR v l).at_ ≠ v.id:=by
 unfold PR at h1 h2 ⊢
 rw [hv,Bool.true_and] at h1 h2 ⊢
 split at h1
 ·rename_i hc
  rw [if_pos hc] at h2 ⊢
  split at h1
  ·rename_i hh
   rw [if_pos hh] at h2
   unfold GQ lookO at h2
   rw [if_pos hh] at h2
   simp at h2
  ·rename_i hh
   rw [if_neg hh] at h2 ⊢
   refine W7 hv ?_
   unfold lookO at h2
   simp only [Bool.or_eq_false_iff] at h2
   exact h2.1
 ·rename_i hc
  rw [if_neg hc] at h2
  exact absurd (by rw [h1,h2];rfl) hc
theorem Zt {id owner : Int} {j : Job} {l : List Int} : ∀ m ∈ (Ev id j owner l).asks,m.dst ≠ id:=by
 intro m hm
 unfold Ev at hm
 dsimp only at hm
 obtain ⟨p,hp,rfl⟩:=List.mem_map.1 hm
 have:=(List.mem_filter.1 hp).2
 simpa [CK] using this
theorem UC {v : View} {j : Job} {m : A8} : ∀ a ∈ (As v j m).asks,a.dst ≠ v.id:=by
 unfold As
 split
 ·rename_i h
  simp only [Bool.and_eq_true,decide_eq_true_eq] at h
  split
  ·split
   ·rename_i hk
    exact Rp fun h1 h2 => Zj h.1 (by unfold Gd;rw [hk.1,hk.2,h.2.1,h.2.2];simp) h1 h2
   ·intro a ha;cases ha
  split
  ·split
   ·exact Zt
   ·intro a ha;cases ha
  split
  ·split <;> (intro a ha;cases ha)
  split
  ·split <;> (intro a ha;cases ha)
  ·intro a ha;cases ha
 ·intro a ha;cases ha
theorem WF {v : View} {j : Job} {d : Int} : ∀ a ∈ (Az v j d).asks,a.dst ≠ v.id:=by
 unfold Az
 split
 ·rename_i h
  split
  ·split
   ·exact Rp fun h1 h2 => Zs h h1 h2
   ·intro a ha;cases ha
  split
  ·split <;> (intro a ha;cases ha)
  split
  ·intro a ha;cases ha
  ·intro a ha;cases ha
 ·intro a ha;cases ha
theorem H4 {n : Node} {why : Int} {ended : Bool} {c : JC} : (AK n why ended c).2 = c.asks.map fun m => (m,why):=rfl
theorem aA {a x b : Int} (h : D6 a x b = true) : x ≠ a:=by
 rintro rfl
 unfold D6 at h
 split at h
 ·simp at h
 ·have : AU x x = 0:=by unfold AU;omega
  rw [this] at h;simp at h
theorem El {n : Node} {c : Call} {m : A8} : ∀ a ∈ (Aw n c m).2,a.1.dst ≠ n.view.id ∧ ((1 ≤ c.why ∧ c.why ≤ 3) ∧ 1 ≤ a.2 ∧ a.2 ≤ 3 ∨ (5 ≤ c.why ∧ c.why ≤ 7) ∧ a.2 = c.why):=by
 intro a ha
 unfold Aw at ha
 split at ha
 ·rename_i hr
  have hv:=(BZ.1 hr).2.2.2.1
  split at ha
  ·rename_i hw
   dsimp only at ha
   unfold BW at ha
   split at ha
   ·split at ha
    ·cases ha
    ·dsimp only at ha
     split at ha
     ·rename_i hb
      unfold Fc at ha
      simp only [or_true,if_true,List.mem_singleton] at ha
      subst ha
      exact ⟨aA hb.2.2,.inl ⟨hw,(by decide : (1 : Int) ≤ 2),(by decide : (2 : Int) ≤ 3)⟩⟩
     ·unfold Fc at ha
      rw [if_neg (by decide),if_pos rfl,List.mem_singleton] at ha
      subst ha
      have hl:=HD n.view (E5 n.view.id m.src m.list)
      refine ⟨?_,.inl ⟨hw,(by decide : (1 : Int) ≤ 3),Int.le_refl _⟩⟩
      have hf:=(Ow (hl.right hv)).2
      rw [hl.id] at hf
      exact hf
   ·cases ha
  ·split at ha
   ·rename_i hw
    rw [H4] at ha
    obtain ⟨b,hb,rfl⟩:=List.mem_map.1 ha
    exact ⟨UC b hb,.inr ⟨hw,rfl⟩⟩
   ·cases ha
 ·cases ha
theorem Fh {n : Node} {c : Call} : ∀ a ∈ (Be n c).2,a.1.dst ≠ n.view.id ∧ (5 ≤ c.why ∧ c.why ≤ 7) ∧ a.2 = c.why:=by
 intro a ha
 unfold Be at ha
 split at ha
 ·dsimp only at ha
  split at ha
  ·cases ha
  ·split at ha
   ·rename_i hw
    rw [H4] at ha
    obtain ⟨b,hb,rfl⟩:=List.mem_map.1 ha
    have:=WF b hb
    rw [(Fg n.view c.msg.dst).id] at this
    exact ⟨this,hw,rfl⟩
   ·cases ha
 ·cases ha
end Nd
end Go.Proofs.YtnahkfkljohjaaaGreatDoor
