/- Part 20 of the texts of this proof, put together by a program and made short.
Conditions: none; what each theorem asks stands in its own hypotheses. -/
import Derived.Test.YtnahkfkljohjaaaGreatDoorH17
import Derived.Test.YtnahkfkljohjaaaGreatDoorH19
import Derived.Sort.Walk0
import Derived.Shelf.SlicesE.DeleteFunc
import Derived.Ground.SlgfProg
import Derived.Test.YtnahkfkljohjaaaGreatDoorProg
import Derived.KernelRfl
import Derived.RangeFuncIn
import Derived.OpenShut
import Derived.ProofKit
import Derived.CallsIn
import Derived.RangeFuncLeaves
import Derived.OrdersIn
import Derived.TacticsIn
import Derived.ChangeKeysEq
import Derived.Laws.AppendOwn
import Derived.Laws.OwnMore
import Derived.Laws.MakeOwn
import Derived.Laws.Rows
import Derived.Laws.Cells
import Derived.Laws.Tables
import Derived.Laws.CopyRow
import Derived.Laws.Strings
import Derived.Laws.IdiomStrings
import Derived.Laws.BytesArg
import Derived.Sort.Grow
import Derived.Laws.Cover3
import Derived.RecoverIn
set_option linter.unusedSimpArgs false
set_option linter.unusedVariables false
set_option linter.unnecessarySimpa false
set_option maxHeartbeats 40000000
namespace Go.Proofs.YtnahkfkljohjaaaGreatDoor
namespace Nd
open Go.Gar
open Wi (A8 B0 Ak AX B8)
set_option maxRecDepth 4000
def LO (a x b : Int) : Bool:=D6 a x b || decide (Ba x = Ba b)
def Dn (id k p q : Int) : Int:=if D6 id q k && decide (AU id q > AU id p) then q else p
def bX (v : View) : List Int:=Hd v :: (v.list ++ (CL v.f).filter fun p => p != -1)
def CV (v : View) (k : Int) (slow : Bool) : Int × Bool :=
 if AF v then (if LO v.id k (Hd v) then (Hd v,true) else if slow then (Hd v,false) else ((bX v).foldl (Dn v.id k) (Hd v),false)) else (-1,false)
abbrev GK : Look:=⟨0,0,0,false,false,0⟩
def DU (l : Look) : Bool:=(Ag l.key && Ag l.at_ && decide (0 ≤ l.hops) && decide (l.hops ≤ 41)) && (if l.hops > 40 then decide (l.code = 211) && !l.found else decide (l.code = 0))
def lookO (l : Look) : Bool:=l.found || decide (l.code ≠ 0)
def Wa (v : View) (key : Int) : Look:=if AF v then ⟨Ba key,(CV v (Ba key) false).1,0,false,(CV v (Ba key) false).2,0⟩ else GK
def GQ (l : Look) : Look:=⟨l.key,l.at_,l.hops + 1,l.slow,l.found,if l.hops + 1 > 40 then 211 else l.code⟩
def Gd (v : View) (l : Look) (m : A8) : Bool:=decide (m.kind = 10) && (decide (m.src = l.at_) && (decide (m.dst = v.id) && m.right))
def We (v : View) (l : Look) (m : A8) : Int × Bool:=if m.place = v.id ∧ m.done = false then CV v l.key l.slow else (m.place,m.done)
def HW (v : View) (l : Look) (m : A8) : Look :=
 if AF v && (DU l && !lookO l) then (if Gd v l m then (if l.hops + 1 > 40 then GQ l else ⟨l.key,(We v l m).1,l.hops + 1,l.slow,(We v l m).2,l.code⟩) else l) else l
def PR (v : View) (l : Look) : Look :=
 if AF v && (DU l && !lookO l) then (if l.hops + 1 > 40 then GQ l else ⟨l.key,(CV v l.key true).1,l.hops + 1,true,(CV v l.key true).2,l.code⟩) else l
def QM (l : Look) : A8:=⟨4,0,0,l.at_,l.key,l.slow,false,0,0,[],AP,0⟩
def PS (l : Look) : A8 × Bool:=if lookO l || !DU l then (AX,false) else (QM l,true)
def WU (at_ : Int) (b : UInt8) : Int:=Ba (40503 * Ba at_ + (b.toNat : Int) + 1)
def Ng (s : List UInt8) : Int:=s.foldl WU 7
def Nw (s : List UInt8) : Int × Int:=if B8 s then (Ng s,0) else (0,2)
def BX (k : List Item) (key : List UInt8) : Nat:=(k.takeWhile fun x => decide (x.key < key)).length
def hasK (k : List Item) (key : List UInt8) : Bool:=decide (BX k key < k.length) && decide ((k.getD (BX k key) AP).key = key)
def HN (x y : Item) : Bool:=decide (CS x y > 0)
def GZ (k : List Item) (x : Item) : List Item × Int :=
 if Bd k && Ak x then
  (if hasK k x.key then (if HN x (k.getD (BX k x.key) AP) then k.set (BX k x.key) x else k,0)
   else if k.length ≥ 24 then (k,200) else (k.take (BX k x.key) ++ x :: k.drop (BX k x.key),0))
 else (k,2)
def Di (k : List Item) (key : List UInt8) : Item × Int:=if Bd k && hasK k key then (k.getD (BX k key) AP,0) else (AP,201)
structure JC where
 job : Job
 asks : List A8
 own : Bool
abbrev BG (j : Job) : Job:=⟨j.what,5,j.look,j.item,j.owner,[],j.code⟩
abbrev BH (j : Job) (e : Int) : Job:=⟨j.what,j.phase,j.look,j.item,j.owner,j.left,e⟩
def GF : List Int → List Int
 | [] => []
 | [a] => [a]
 | [a,b] => a :: (if b = a then [] else [b])
 | a :: b :: c :: _ => a :: ((if b = a then [] else [b]) ++ (if c = a ∨ c = b then [] else [c]))
def CK (x : Item) (p : Int) : A8:=⟨5,0,0,p,0,false,false,0,0,[],x,0⟩
def Ev (id : Int) (j : Job) (owner : Int) (l : List Int) : JC :=
 let ps:=GF (owner :: l)
 let left:=ps.filter fun p => p != id
 ⟨⟨j.what,if left = [] then 5 else 3,j.look,j.item,j.owner,left,j.code⟩,left.map (CK j.item),decide (id ∈ ps)⟩
def Ic (p : Int) : A8:=⟨1,0,0,p,0,false,false,0,0,[],AP,0⟩
def Qe (p : Int) (key : List UInt8) : A8:=⟨6,0,0,p,0,false,false,0,0,[],⟨key,0,0,false⟩,0⟩
def BU (v : View) (j : Job) : JC :=
 if j.look.code ≠ 0 then ⟨BG (BH j j.look.code),[],false⟩
 else if j.look.found = false then ⟨⟨j.what,1,j.look,j.item,j.owner,j.left,j.code⟩,if (PS j.look).2 then [(PS j.look).1] else [],false⟩
 else if j.what = 1 then ⟨BG (BH ⟨j.what,j.phase,j.look,j.item,j.look.at_,j.left,j.code⟩ 0),[],false⟩
 else if j.what = 2 ∧ j.look.at_ = v.id then Ev v.id ⟨j.what,j.phase,j.look,j.item,j.look.at_,j.left,j.code⟩ j.look.at_ v.list
 else if j.what = 2 then ⟨⟨j.what,2,j.look,j.item,j.look.at_,j.left,j.code⟩,[Ic j.look.at_],false⟩
 else if j.look.at_ = v.id then ⟨BG (BH ⟨j.what,j.phase,j.look,j.item,j.look.at_,j.left,j.code⟩ 0),[],true⟩
 else ⟨⟨j.what,4,j.look,j.item,j.look.at_,j.left,j.code⟩,[Qe j.look.at_ j.item.key],false⟩
def Bz (j : Job) (p e : Int) : Job :=
 if p ∈ j.left then
  ⟨j.what,if Au j.left p = [] then 5 else j.phase,j.look,j.item,j.owner,Au j.left p,if e ≠ 0 then e else j.code⟩
 else j
abbrev TL : Job:=⟨0,0,GK,AP,0,[],0⟩
def J4 (what place : Int) (x : Item) : Int × Item × Bool :=
 if what = 1 then (place,AP,decide (0 ≤ place) && decide (place < 65536))
 else if what = 2 then ((Nw x.key).1,x,decide ((Nw x.key).2 = 0) && Ak x)
 else if what = 3 then ((Nw x.key).1,⟨x.key,0,0,false⟩,decide ((Nw x.key).2 = 0))
 else (0,AP,false)
def CE (v : View) (what place : Int) (x : Item) : JC :=
 if (J4 what place x).2.2 && AF v then BU v ⟨what,0,Wa v (J4 what place x).1,(J4 what place x).2.1,0,[],0⟩
 else ⟨⟨what,5,GK,AP,0,[],2⟩,[],false⟩
def As (v : View) (j : Job) (m : A8) : JC :=
 if AF v && (m.right && decide (m.dst = v.id)) then
  (if j.phase = 1 then (if m.kind = 10 ∧ m.src = j.look.at_ then BU v ⟨j.what,j.phase,HW v j.look m,j.item,j.owner,j.left,j.code⟩ else ⟨j,[],false⟩)
   else if j.phase = 2 then (if m.kind = 7 ∧ m.src = j.owner then Ev v.id j j.owner m.list else ⟨j,[],false⟩)
   else if j.phase = 3 then (if m.kind = 11 then ⟨Bz j m.src m.code,[],false⟩ else ⟨j,[],false⟩)
   else if j.phase = 4 then (if m.kind = 12 ∧ m.src = j.owner then ⟨BG (BH ⟨j.what,j.phase,j.look,if m.code = 0 then m.item else j.item,j.owner,j.left,j.code⟩ m.code),[],false⟩ else ⟨j,[],false⟩)
   else ⟨j,[],false⟩)
 else ⟨j,[],false⟩
def Az (v : View) (j : Job) (d : Int) : JC :=
 if AF v then
  (if j.phase = 1 then (if j.look.at_ = d then BU v ⟨j.what,j.phase,PR v j.look,j.item,j.owner,j.left,j.code⟩ else ⟨j,[],false⟩)
   else if j.phase = 2 ∨ j.phase = 4 then (if j.owner = d then ⟨BG (BH j 210),[],false⟩ else ⟨j,[],false⟩)
   else if j.phase = 3 then ⟨Bz j d 210,[],false⟩
   else ⟨j,[],false⟩)
 else ⟨j,[],false⟩
def E5 (x s : Int) (l : List Int) : List Int :=
 if Ag s && decide (s ≠ Ba x) then s :: makR x s l 2 else []
where makR (x at_ : Int) : List Int → Nat → List Int
 | [],_ => []
 | _ :: _,0 => []
 | p :: r,n + 1 => if Ag p && decide (AU x p > AU x at_) then p :: makR x p r n else []
structure SC where
 view : View
 phase : Int
 of_ : Int
def Fc (phase of_ : Int) : List (A8 × Int) :=
 if phase = 1 ∨ phase = 2 then [(Ic of_,phase)] else if phase = 3 then [(⟨3,0,0,of_,0,false,false,0,0,[],AP,0⟩,3)] else []
def P9 (v : View) (phase of_ : Int) (m : A8) : Bool :=
 decide (phase ≠ 0) && (decide (m.kind = (if phase = 3 then 9 else 7)) && (decide (m.src = of_) && (decide (m.dst = v.id) && m.right)))
def BW (v : View) (phase of_ : Int) (m : A8) : SC × List (A8 × Int) :=
 if AF v && (Bp phase of_ && P9 v phase of_ m) then
  (if phase = 3 then (⟨v,0,0⟩,[])
   else
    let w:=BI v (E5 v.id m.src m.list)
    if phase = 1 ∧ m.pred ≠ -1 ∧ D6 v.id m.pred m.src = true then (⟨w,2,m.pred⟩,Fc 2 m.pred)
    else (⟨w,3,Hd w⟩,Fc 3 (Hd w)))
 else (⟨v,phase,of_⟩,[])
def C8 (v : View) (phase of_ d : Int) : SC :=
 if AF v && Bp phase of_ then (if phase ≠ 0 ∧ of_ = d then ⟨Ad v d,0,0⟩ else ⟨Ad v d,phase,of_⟩) else ⟨v,phase,of_⟩
def Om (f : Nat → Int) (i : Nat) (p : Int) : Nat → Int:=fun k => if k = i then p else f k
def FF (v : View) (i owner : Int) : View × Int :=
 if (decide (0 ≤ i) && (decide (i < 16) && AF v)) && Ag owner then (⟨v.id,v.base,v.list,v.pred,Om v.f i.toNat (if owner = v.id then -1 else owner)⟩,0) else (v,2)
def Yt (n : Node) (why : Int) : Option Job:=if why = 5 then some n.finger else if why = 6 then some n.mirror else if why = 7 then some n.client else none
def P1 (n : Node) (why : Int) (j : Job) : Node :=
 if why = 5 then { n with finger:=j } else if why = 6 then { n with mirror:=j } else { n with client:=j }
def CN (k : List Item) (j : Job) : List Item × Job :=
 if j.what = 2 then ((GZ k j.item).1,if (GZ k j.item).2 ≠ 0 then BH j (GZ k j.item).2 else j)
 else if j.what = 3 then (k,if (Di k j.item.key).2 = 0 then ⟨j.what,j.phase,j.look,(Di k j.item.key).1,j.owner,j.left,0⟩ else BH j (Di k j.item.key).2)
 else (k,j)
def D7 (n : Node) : Node :=
 { n with
  view:=if n.finger.code = 0 then (FF n.view n.next n.finger.owner).1 else n.view
  next:=(n.next + 1).tmod 16 }
def AK (n : Node) (why : Int) (ended : Bool) (c : JC) : Node × List (A8 × Int) :=
 let s:=if c.own then CN n.keep c.job else (n.keep,c.job)
 let n1:=P1 { n with keep:=s.1 } why s.2
 (if why = 5 ∧ ended = false ∧ s.2.phase = 5 then D7 n1 else n1,c.asks.map fun m => (m,why))
def B6 (n : Node) (why what place : Int) (x : Item) : Node × List (A8 × Int) :=
 if (decide (5 ≤ why) && decide (why ≤ 7)) && AG n then AK n why false (CE n.view what place x) else (n,[])
def Ct (n : Node) (why : Int) : Job:=(Yt n why).getD TL
def Aw (n : Node) (c : Call) (m : A8) : Node × List (A8 × Int) :=
 if AG n then
  (if 1 ≤ c.why ∧ c.why ≤ 3 then
   let r:=BW n.view n.phase n.of_ m
   ({ n with view:=r.1.view,phase:=r.1.phase,of_:=r.1.of_ },r.2)
   else if 5 ≤ c.why ∧ c.why ≤ 7 then AK n c.why (decide ((Ct n c.why).phase = 5)) (As n.view (Ct n c.why) m)
   else (n,[]))
 else (n,[])
def Be (n : Node) (c : Call) : Node × List (A8 × Int) :=
 if AG n then
  let n1:={ n with view:=Ad n.view c.msg.dst }
  (if 1 ≤ c.why ∧ c.why ≤ 3 then
   let r:=C8 n1.view n.phase n.of_ c.msg.dst
   ({ n1 with view:=r.view,phase:=r.phase,of_:=r.of_ },[])
   else if 5 ≤ c.why ∧ c.why ≤ 7 then AK n1 c.why (decide ((Ct n c.why).phase = 5)) (Az n1.view (Ct n c.why) c.msg.dst)
   else (n1,[]))
 else (n,[])
def E9 (n : Node) (why : Int) : Node :=
 if AG n then
  (if 1 ≤ why ∧ why ≤ 3 then { n with phase:=0,of_:=0 }
   else if (5 ≤ why ∧ why ≤ 7) ∧ (Ct n why).phase ≠ 5 then (AK n why false ⟨BG (BH (Ct n why) 100),[],false⟩).1
   else n)
 else n
theorem Ov {id n d : Int} (h : Df id n = true) : Df id (if n = d then -1 else n) = true:=by
 split
 ·simp [Df]
 ·exact h
structure QS (v w : View) : Prop where
 id : w.id = v.id
 base : w.base = v.base
 right : AF v = true → AF w = true
theorem QS.refl (v : View) : QS v v:=⟨rfl,rfl,fun h => h⟩
theorem QS.trans {a b c : View} (h : QS a b) (k : QS b c) : QS a c:=⟨k.id.trans h.id,k.base.trans h.base,fun r => k.right (h.right r)⟩
theorem LX {v : View} (h1 : Ag v.id = true) (h2 : Bm v.base = true) (h3 : BD v.id v.list = true) (h4 : Df v.id v.pred = true) (h5 : (CL v.f).all (Df v.id) = true) : AF v = true:=by
 unfold AF;rw [h1,h2,h3,h4,h5];rfl
theorem Fg (v : View) (d : Int) : QS v (Ad v d):=by
 unfold Ad
 split
 ·refine ⟨rfl,rfl,fun hv => ?_⟩
  obtain ⟨h1,h2,h3,h4,h5⟩:=Cv hv
  refine LX h1 h2 ?_ (Ov h4) ?_
  ·simp only [BD,Bool.and_eq_true,decide_eq_true_eq] at h3 ⊢
   exact ⟨Nat.le_trans (M2 _ _) h3.1,J7 _ _ _ _ h3.2 (Int.le_refl _)⟩
  ·show (CL fun i => if v.f i = d then -1 else v.f i).all (Df v.id) = true
   rw [List.all_eq_true] at h5 ⊢
   intro x hx
   simp only [CL,List.mem_cons,List.not_mem_nil,or_false] at hx
   have h5' : ∀ i,i < 16 → Df v.id (v.f i) = true:=fun i hi => h5 _ (by
    rcases Li hi with rfl | rfl | rfl | rfl | rfl | rfl | rfl | rfl | rfl | rfl | rfl | rfl | rfl | rfl | rfl | rfl <;> simp [CL])
   rcases hx with rfl | rfl | rfl | rfl | rfl | rfl | rfl | rfl | rfl | rfl | rfl | rfl | rfl | rfl | rfl | rfl <;> exact Ov (h5' _ (by decide))
 ·exact .refl v
theorem HD (v : View) (l : List Int) : QS v (BI v l):=by
 unfold BI
 split
 ·rename_i h
  rw [Bool.and_eq_true] at h
  refine ⟨rfl,rfl,fun hv => ?_⟩
  obtain ⟨h1,h2,-,h4,h5⟩:=Cv hv
  exact LX h1 h2 h.2 h4 h5
 ·exact .refl v
theorem Zh (v : View) (i owner : Int) : QS v (FF v i owner).1:=by
 unfold FF
 split
 ·rename_i h
  simp only [Bool.and_eq_true,decide_eq_true_eq] at h
  refine ⟨rfl,rfl,fun hv => ?_⟩
  obtain ⟨h1,h2,h3,h4,h5⟩:=Cv hv
  refine LX h1 h2 h3 h4 ?_
  have hp : Df v.id (if owner = v.id then -1 else owner) = true:=by
   split
   ·simp [Df]
   ·rename_i hne;simp [Df,h.2,hne]
  have h5' : ∀ i,i < 16 → Df v.id (v.f i) = true:=fun i hi => (List.all_eq_true.1 h5) _ (by
    rcases Li hi with rfl | rfl | rfl | rfl | rfl | rfl | rfl | rfl | rfl | rfl | rfl | rfl | rfl | rfl | rfl | rfl <;> simp [CL])
  have hq : ∀ k,k < 16 → Df v.id (Om v.f i.toNat (if owner = v.id then -1 else owner) k) = true:=fun k hk => by
   unfold Om;split
   ·exact hp
   ·exact h5' k hk
  rw [List.all_eq_true]
  intro x hx
  simp only [CL,List.mem_cons,List.not_mem_nil,or_false] at hx
  rcases hx with rfl | rfl | rfl | rfl | rfl | rfl | rfl | rfl | rfl | rfl | rfl | rfl | rfl | rfl | rfl | rfl <;> exact hq _ (by decide)
 ·exact .refl v
theorem U4 (v : View) (i owner : Int) : (FF v i owner).1.list = v.list:=by unfold FF;split <;> rfl
theorem Oy {v : View} (d : Int) (hv : AF v = true) (h : Fy v.id v.list v.base = false) : Fy (Ad v d).id (Ad v d).list (Ad v d).base = false:=by
 by_cases hd : d ∈ v.base
 ·have e : Ad v d = v:=by unfold Ad;rw [hv,decide_eq_true hd];rfl
  rw [e];exact h
 ·have e : Ad v d = ⟨v.id,v.base,Au v.list d,if v.pred = d then -1 else v.pred,fun i => if v.f i = d then -1 else v.f i⟩:=by
   unfold Ad;rw [hv,decide_eq_false hd];rfl
  have hr:=(Fg v d).right hv
  rw [e] at hr ⊢
  obtain ⟨r1,r2,r3,-,-⟩:=Cv hv
  obtain ⟨-,-,q3,-,-⟩:=Cv hr
  have hs : AU v.id v.id = 0:=by unfold AU;omega
  have hb:=J0 r2
  simp only [BD,Bool.and_eq_true] at r3 q3
  cases hh : Fy v.id (Au v.list d) v.base with
  | false => rfl
  | true =>
   obtain ⟨b,h1,h2,⟨p,h3,h4⟩,h5⟩:=(Q1 hb (Au v.list d) v.id (by rw [hs];exact q3.2)).1 hh
   have hm : ∀ x : Int,x ∈ Au v.list d ↔ x ∈ v.list ∧ x ≠ d:=fun x => by simp [Au,List.mem_filter]
   rw [(Q1 hb v.list v.id (by rw [hs];exact r3.2)).2 ⟨b,h1,h2,⟨p,((hm p).1 h3).1,h4⟩,fun hx => h5 ((hm b).2 ⟨hx,fun e => hd (e ▸ h1)⟩)⟩] at h
   cases h
theorem VI (x : Int) (base : List Int) : ∀ (l : List Int) (n : Nat) (a : Int),Fy a l base = false → Fy a (E5.makR x a l n) base = false
 | [],n,a,_ => by unfold E5.makR;rfl
 | p :: r,0,a,_ => by unfold E5.makR;rfl
 | p :: r,n + 1,a,h => by
  unfold E5.makR
  simp only [Fy,Bool.or_eq_false_iff] at h
  split
  ·simp only [Fy,Bool.or_eq_false_iff]
   exact ⟨h.1,VI x base r n p h.2⟩
  ·rfl
theorem aX {x s : Int} {l base : List Int} (h1 : Fy x [s] base = false) (h2 : Fy s l base = false) : Fy x (E5 x s l) base = false:=by
 unfold E5
 split
 ·simp only [Fy,Bool.or_eq_false_iff] at h1 ⊢
  exact ⟨h1.1,VI x base l 2 s h2⟩
 ·rfl
theorem T0 {v : View} {l : List Int} (h : Fy v.id v.list v.base = false) (hl : Fy v.id l v.base = false) : Fy (BI v l).id (BI v l).list (BI v l).base = false:=by
 unfold BI;split
 ·exact hl
 ·exact h
theorem Ow {v : View} (h : AF v = true) : Ag (Hd v) = true ∧ Hd v ≠ v.id:=by
 obtain ⟨r1,r2,r3,-,-⟩:=Cv h
 unfold Hd
 rw [if_pos h]
 cases hl : v.list with
 | nil => exact ⟨(Od r1 r2).2.1,(Od r1 r2).2.2⟩
 | cons p r =>
  rw [hl] at r3
  simp only [BD,rT,Bool.and_eq_true,decide_eq_true_eq] at r3
  refine ⟨r3.2.1.1,?_⟩
  show p ≠ v.id
  rintro rfl
  have:=r3.2.1.2
  unfold AU at this;omega
theorem LY (n : Int) : Ag n = B0 n:=by
 unfold Ag B0
 by_cases h1 : 0 ≤ n <;> by_cases h2 : n < 65536 <;> simp [h1,h2]
theorem Ro {v : View} {phase of_ : Int} {m : A8} (hs : Bp phase of_ = true) : QS v (BW v phase of_ m).1.view ∧ Bp (BW v phase of_ m).1.phase (BW v phase of_ m).1.of_ = true:=by
 unfold BW
 split
 ·rename_i h
  simp only [Bool.and_eq_true] at h
  split
  ·exact ⟨.refl v,rfl⟩
  ·have hw:=(HD v (E5 v.id m.src m.list)).right h.1
   simp only
   split
   ·rename_i hp
    refine ⟨HD _ _,?_⟩
    have hc:=h.2.2
    unfold P9 at hc
    simp only [Bool.and_eq_true,decide_eq_true_eq] at hc
    have hk : m.kind = 7:=by rw [hc.2.1,if_neg (by omega)]
    have hr:=hc.2.2.2.2
    unfold A8.right A8.has at hr
    simp only [Bool.and_eq_true] at hr
    have hh:=hr.2.2
    rw [hk] at hh
    have hpl : B0 m.pred = true:=by
     revert hh
     simp only
     intro hh
     simp at hh
     grind
    show Bp 2 m.pred = true
    unfold Bp;rw [if_neg (by decide),hpl];rfl
   ·refine ⟨HD _ _,?_⟩
    show Bp 3 (Hd _) = true
    unfold Bp;rw [if_neg (by decide),← LY,(Ow hw).1];rfl
 ·exact ⟨.refl v,hs⟩
theorem XY {v : View} {phase of_ d : Int} (hs : Bp phase of_ = true) : QS v (C8 v phase of_ d).view ∧ Bp (C8 v phase of_ d).phase (C8 v phase of_ d).of_ = true:=by
 unfold C8
 split
 ·split
  ·exact ⟨Fg v d,rfl⟩
  ·exact ⟨Fg v d,hs⟩
 ·exact ⟨.refl v,hs⟩
theorem Xc {v : View} {phase of_ : Int} {m : A8} (h0 : 0 ≤ phase) (h : Fy v.id v.list v.base = false) (hm : Fy m.src m.list v.base = false) (ho : phase = 1 ∨ phase = 2 → Fy v.id [of_] v.base = false) :
  Fy (BW v phase of_ m).1.view.id (BW v phase of_ m).1.view.list (BW v phase of_ m).1.view.base = false:=by
 unfold BW
 split
 ·rename_i hc
  simp only [Bool.and_eq_true] at hc
  split
  ·exact h
  ·rename_i h3
   have hcn:=hc.2.2
   unfold P9 at hcn
   simp only [Bool.and_eq_true,decide_eq_true_eq] at hcn
   have hst:=hc.2.1
   have hph : phase = 1 ∨ phase = 2:=by
    unfold Bp at hst
    rw [if_neg hcn.1] at hst
    simp only [Bool.and_eq_true,decide_eq_true_eq] at hst
    have h1:=hcn.1
    have hle:=hst.1
    omega
   have ho':=ho hph
   rw [← hcn.2.2.1] at ho'
   have hl:=T0 h (aX ho' hm)
   simp only
   split <;> exact hl
 ·exact h
theorem Xz {v : View} {phase of_ d : Int} (hv : AF v = true) (h : Fy v.id v.list v.base = false) : Fy (C8 v phase of_ d).view.id (C8 v phase of_ d).view.list (C8 v phase of_ d).view.base = false:=by
 unfold C8
 split
 ·split <;> exact Oy d hv h
 ·exact h
end Nd
end Go.Proofs.YtnahkfkljohjaaaGreatDoor
namespace Go.Proofs
open Go.Shelf
def Tryz.Mo : Go.Shelf.Ren:=⟨fun | 10 => 206 | 6 => 223 | n => n,fun | 22 => 22 | 23 => 3 | 25 => 112 | 3 => 3 | 4 => 4 | 0 => 0 | n => n,fun | n => n⟩
theorem Tryz.W9 : Go.Proofs.SlLaysH.n10 Tryz.prog Tryz.Mo:={
 mixed:=by kernel_rfl
 f6:=⟨Tryz.f223.name,by decide,Tryz.func223.trans (congrArg some (by kernel_rfl))⟩
 f10:=⟨Tryz.f206.name,by decide,Tryz.func206.trans (congrArg some (by kernel_rfl))⟩
 t0:=Tryz.underlying0
 a0:=Tryz.isAgg0
 z0:=Tryz.sizeOf0
 v0:=Tryz.zeroValue0
 t3:=Tryz.underlying3
 a3:=Tryz.isAgg3
 z3:=Tryz.sizeOf3
 v3:=Tryz.zeroValue3
 t4:=Tryz.underlying4
 a4:=Tryz.isAgg4
 z4:=Tryz.sizeOf4
 v4:=Tryz.zeroValue4
 t22:=Tryz.underlying22
 a22:=Tryz.isAgg22
 z22:=Tryz.sizeOf22
 v22:=Tryz.zeroValue22
 a23:=Tryz.isAgg3
 z23:=Tryz.sizeOf3
 t25:=Tryz.underlying112
 a25:=Tryz.isAgg112
 z25:=Tryz.sizeOf112
 v25:=Tryz.zeroValue112 }
end Go.Proofs
