/- Part 48 of the texts of this proof, put together by a program and made short.
Conditions: none; what each theorem asks stands in its own hypotheses. -/
import Derived.Test.YtnahkfkljohjaaaGreatDoorH22
import Derived.Test.YtnahkfkljohjaaaGreatDoorH38
import Derived.Test.YtnahkfkljohjaaaGreatDoorH45
import Derived.Test.YtnahkfkljohjaaaGreatDoorH46
import Derived.Test.YtnahkfkljohjaaaGreatDoorH47
import Derived.Ground.SlgfProg
import Derived.Lib.SliceRun
import Derived.Shelf.SlicesE.DeleteFunc
import Derived.Sort.Walk0
import Derived.KernelRfl
import Derived.RangeFuncIn
import Derived.OpenShut
import Derived.ProofKit
import Derived.CallsIn
import Derived.RangeFuncLeaves
import Derived.OrdersIn
import Derived.TacticsIn
import Derived.ChangeKeysEq
import Derived.Laws.AppendOwn
import Derived.Laws.OwnMore
import Derived.Laws.MakeOwn
import Derived.Laws.Rows
import Derived.Laws.Cells
import Derived.Laws.Tables
import Derived.Laws.CopyRow
import Derived.Laws.Strings
import Derived.Laws.IdiomStrings
import Derived.Laws.BytesArg
import Derived.Sort.Grow
import Derived.Laws.Cover3
import Derived.RecoverIn
import Derived.Test.YtnahkfkljohjaaaGreatDoorProg
set_option linter.unusedSimpArgs false
set_option linter.unusedVariables false
set_option linter.unnecessarySimpa false
set_option maxHeartbeats 40000000
namespace Go.Proofs.YtnahkfkljohjaaaGreatDoor
namespace Nd
open Go.Gar
open Wi (A8 B0 Ak AX B8 mC)
set_option maxRecDepth 4000
theorem XO : ∀ l : List Int,(GF l).length ≤ 3
 | [] => by simp [GF]
 | [a] => by simp [GF]
 | [a,b] => by simp only [GF];split <;> simp
 | a :: b :: c :: _ => by simp only [GF,List.length_cons,List.length_append];split <;> split <;> simp
theorem VZ (id : Int) (j : Job) (owner : Int) (l : List Int) : (Ev id j owner l).asks.length ≤ 3 ∧ (Ev id j owner l).job.item = j.item ∧ (Ev id j owner l).job.left.length ≤ 3:=by
 unfold Ev
 dsimp only
 have h:=XO (owner :: l)
 have h2:=List.length_filter_le (fun p => p != id) (GF (owner :: l))
 rw [List.length_map]
 exact ⟨by omega,rfl,by omega⟩
theorem NG (v : View) (j : Job) : (BU v j).asks.length ≤ 3 ∧ (BU v j).job.item = j.item ∧ (BU v j).job.left.length ≤ j.left.length + 3:=by
 unfold BU
 split
 ·exact ⟨Nat.zero_le _,rfl,Nat.zero_le _⟩
 split
 ·refine ⟨?_,rfl,by dsimp only;omega⟩
  dsimp only
  split <;> simp
 split
 ·exact ⟨Nat.zero_le _,rfl,Nat.zero_le _⟩
 split
 ·have:=VZ v.id ⟨j.what,j.phase,j.look,j.item,j.look.at_,j.left,j.code⟩ j.look.at_ v.list
  exact ⟨this.1,this.2.1,by omega⟩
 split
 ·exact ⟨by simp,rfl,by dsimp only;omega⟩
 split
 ·exact ⟨Nat.zero_le _,rfl,Nat.zero_le _⟩
 ·exact ⟨by simp,rfl,by dsimp only;omega⟩
theorem Rh (j : Job) (p e : Int) : (Bz j p e).item = j.item ∧ (Bz j p e).left.length ≤ j.left.length:=by
 unfold Bz
 split
 ·refine ⟨rfl,?_⟩
  dsimp only
  unfold Au
  exact List.length_filter_le _ _
 ·exact ⟨rfl,Nat.le_refl _⟩
theorem YC (what place : Int) (x : Item) : (J4 what place x).2.1.key.length ≤ x.key.length:=by
 unfold J4
 split
 ·exact Nat.zero_le _
 split
 ·exact Nat.le_refl _
 split
 ·exact Nat.le_refl _
 ·exact Nat.zero_le _
theorem UQ (v : View) (what place : Int) (x : Item) : (CE v what place x).asks.length ≤ 3 ∧ (CE v what place x).job.item.key.length ≤ x.key.length ∧ (CE v what place x).job.left.length ≤ 3:=by
 unfold CE
 split
 ·have:=NG v ⟨what,0,Wa v (J4 what place x).1,(J4 what place x).2.1,0,[],0⟩
  exact ⟨this.1,by rw [this.2.1];exact YC what place x,this.2.2⟩
 ·exact ⟨Nat.zero_le _,Nat.zero_le _,Nat.zero_le _⟩
theorem IR (v : View) (j : Job) (m : A8) (K : Nat) (hj : j.item.key.length ≤ K) (hm : m.item.key.length ≤ K) : (As v j m).asks.length ≤ 3 ∧ (As v j m).job.item.key.length ≤ K ∧ (As v j m).job.left.length ≤ j.left.length + 3:=by
 have h0 : (JC.mk j [] false).asks.length ≤ 3 ∧ (JC.mk j [] false).job.item.key.length ≤ K ∧ (JC.mk j [] false).job.left.length ≤ j.left.length + 3:=⟨Nat.zero_le _,hj,by dsimp only;omega⟩
 unfold As
 split
 ·split
  ·split
   ·have:=NG v ⟨j.what,j.phase,HW v j.look m,j.item,j.owner,j.left,j.code⟩
    exact ⟨this.1,by rw [this.2.1];exact hj,this.2.2⟩
   ·exact h0
  split
  ·split
   ·have:=VZ v.id j j.owner m.list
    exact ⟨this.1,by rw [this.2.1];exact hj,by omega⟩
   ·exact h0
  split
  ·split
   ·have:=Rh j m.src m.code
    exact ⟨Nat.zero_le _,by dsimp only;rw [this.1];exact hj,by dsimp only;omega⟩
   ·exact h0
  split
  ·split
   ·refine ⟨Nat.zero_le _,?_,Nat.zero_le _⟩
    dsimp only
    split
    ·exact hm
    ·exact hj
   ·exact h0
  ·exact h0
 ·exact h0
theorem Io (v : View) (j : Job) (d : Int) : (Az v j d).asks.length ≤ 3 ∧ (Az v j d).job.item = j.item ∧ (Az v j d).job.left.length ≤ j.left.length + 3:=by
 have h0 : (JC.mk j [] false).asks.length ≤ 3 ∧ (JC.mk j [] false).job.item = j.item ∧ (JC.mk j [] false).job.left.length ≤ j.left.length + 3:=⟨Nat.zero_le _,rfl,by dsimp only;omega⟩
 unfold Az
 split
 ·split
  ·split
   ·exact NG v ⟨j.what,j.phase,PR v j.look,j.item,j.owner,j.left,j.code⟩
   ·exact h0
  split
  ·split
   ·exact ⟨Nat.zero_le _,rfl,Nat.zero_le _⟩
   ·exact h0
  split
  ·have:=Rh j d 210
   exact ⟨Nat.zero_le _,this.1,by dsimp only;omega⟩
  ·exact h0
 ·exact h0
structure Oh (n : Node) : Prop where
 ok : Cs n
 h0 : 0 ≤ n.phase
 l5 : n.finger.left.length ≤ 1000
 l6 : n.mirror.left.length ≤ 1000
 l7 : n.client.left.length ≤ 1000
 k5 : n.finger.item.key.length ≤ 9223372036854775807
 k6 : n.mirror.item.key.length ≤ 9223372036854775807
 k7 : n.client.item.key.length ≤ 9223372036854775807
theorem TK (v : View) (d : Int) : (Ad v d).list.length ≤ v.list.length:=by
 unfold Ad
 split
 ·dsimp only
  unfold Au
  exact List.length_filter_le _ _
 ·exact Nat.le_refl _
theorem Gf (n : Node) (h : Oh n) (w what place : Int) (x : Item) (hx : x.key.length ≤ 9223372036854775807) : Go.Gar.Fn Tryz.prog 12 [n.d,.i .u8 w,.i .u8 what,.i .i64 place,x.d] (.tup [(B6 n w what place x).1.d,A9 (B6 n w what place x).2]):=by
 have:=UQ n.view what place x
 exact TC n h.ok w what place x hx (by omega) (by omega)
theorem JN {w : Int} (h1 : ¬ (1 ≤ w ∧ w ≤ 3)) (h2 : ¬ (5 ≤ w ∧ w ≤ 7)) : HP w [1,2,3,5,6,7] = true:=by
 simp only [HP];simp;omega
theorem Cz (n : Node) (h : Oh n) (c : Call) (m : A8) (hm : Ab m) (hk : m.item.key.length ≤ 9223372036854775807) : Go.Gar.Fn Tryz.prog 13 [n.d,c.d,m.d] (.tup [(Aw n c m).1.d,A9 (Aw n c m).2]):=by
 unfold Aw
 cases hr : AG n with
 | false =>
  rw [if_neg (by decide)]
  by_cases a1 : 1 ≤ c.why ∧ c.why ≤ 3
  ·have : c.why = 1 ∨ c.why = 2 ∨ c.why = 3:=by omega
   rcases this with e | e | e
   ·exact hno1 n c m h.ok e hr
   ·exact hno2 n c m h.ok e hr
   ·exact hno3 n c m h.ok e hr
  by_cases a2 : 5 ≤ c.why ∧ c.why ≤ 7
  ·have : c.why = 5 ∨ c.why = 6 ∨ c.why = 7:=by omega
   rcases this with e | e | e
   ·exact hno5 n c m h.ok e hr
   ·exact hno6 n c m h.ok e hr
   ·exact hno7 n c m h.ok e hr
  exact hx n c m h.ok (JN a1 a2)
 | true =>
  obtain ⟨x0,x1⟩:=J6 hr
  rw [if_pos rfl]
  by_cases a1 : 1 ≤ c.why ∧ c.why ≤ 3
  ·rw [if_pos a1]
   have : c.why = 1 ∨ c.why = 2 ∨ c.why = 3:=by omega
   rcases this with e | e | e
   ·exact hok1 n c m h.ok e hr hm h.h0
   ·exact hok2 n c m h.ok e hr hm h.h0
   ·exact hok3 n c m h.ok e hr hm h.h0
  rw [if_neg a1]
  by_cases a2 : 5 ≤ c.why ∧ c.why ≤ 7
  ·rw [if_pos a2]
   have : c.why = 5 ∨ c.why = 6 ∨ c.why = 7:=by omega
   rcases this with e | e | e
   ·have hn:=IR n.view n.finger m 9223372036854775807 h.k5 hk
    have:=hok5 n c m h.ok e hr x0 x1 hm (by have:=h.l5;omega) (by omega) (by omega)
    rw [e];exact this
   ·have hn:=IR n.view n.mirror m 9223372036854775807 h.k6 hk
    have:=hok6 n c m h.ok e hr x0 x1 hm (by have:=h.l6;omega) (by omega) (by omega)
    rw [e];exact this
   ·have hn:=IR n.view n.client m 9223372036854775807 h.k7 hk
    have:=hok7 n c m h.ok e hr x0 x1 hm (by have:=h.l7;omega) (by omega) (by omega)
    rw [e];exact this
  rw [if_neg a2]
  exact hx n c m h.ok (JN a1 a2)
theorem E0 (n : Node) (h : Oh n) (c : Call) : Go.Gar.Fn Tryz.prog 14 [n.d,c.d] (.tup [(Be n c).1.d,A9 (Be n c).2]):=by
 unfold Be
 cases hr : AG n with
 | false =>
  rw [if_neg (by decide)]
  by_cases a1 : 1 ≤ c.why ∧ c.why ≤ 3
  ·have : c.why = 1 ∨ c.why = 2 ∨ c.why = 3:=by omega
   rcases this with e | e | e
   ·exact lno1 n c h.ok e hr
   ·exact lno2 n c h.ok e hr
   ·exact lno3 n c h.ok e hr
  by_cases a2 : 5 ≤ c.why ∧ c.why ≤ 7
  ·have : c.why = 5 ∨ c.why = 6 ∨ c.why = 7:=by omega
   rcases this with e | e | e
   ·exact lno5 n c h.ok e hr
   ·exact lno6 n c h.ok e hr
   ·exact lno7 n c h.ok e hr
  exact lxno n c h.ok (JN a1 a2) hr
 | true =>
  obtain ⟨x0,x1⟩:=J6 hr
  rw [if_pos rfl]
  have v1 : (Ad n.view c.msg.dst).base.length ≤ 1000:=by rw [(Fg n.view c.msg.dst).base];exact h.ok.vb
  have v2 : (Ad n.view c.msg.dst).list.length ≤ 1000:=Nat.le_trans (TK ..) h.ok.vl
  dsimp only
  by_cases a1 : 1 ≤ c.why ∧ c.why ≤ 3
  ·rw [if_pos a1]
   have : c.why = 1 ∨ c.why = 2 ∨ c.why = 3:=by omega
   rcases this with e | e | e
   ·exact lok1 n c h.ok e hr v1 v2
   ·exact lok2 n c h.ok e hr v1 v2
   ·exact lok3 n c h.ok e hr v1 v2
  rw [if_neg a1]
  by_cases a2 : 5 ≤ c.why ∧ c.why ≤ 7
  ·rw [if_pos a2]
   have : c.why = 5 ∨ c.why = 6 ∨ c.why = 7:=by omega
   rcases this with e | e | e
   ·have hn:=Io (Ad n.view c.msg.dst) n.finger c.msg.dst
    have:=lok5 n c h.ok e hr x0 x1 v1 v2 (by have:=h.l5;omega) (by omega) (by rw [hn.2.1];have:=h.k5;omega)
    rw [e];exact this
   ·have hn:=Io (Ad n.view c.msg.dst) n.mirror c.msg.dst
    have:=lok6 n c h.ok e hr x0 x1 v1 v2 (by have:=h.l6;omega) (by omega) (by rw [hn.2.1];have:=h.k6;omega)
    rw [e];exact this
   ·have hn:=Io (Ad n.view c.msg.dst) n.client c.msg.dst
    have:=lok7 n c h.ok e hr x0 x1 v1 v2 (by have:=h.l7;omega) (by omega) (by rw [hn.2.1];have:=h.k7;omega)
    rw [e];exact this
  rw [if_neg a2]
  exact lx n c h.ok (JN a1 a2) hr
theorem KV (n : Node) (w : Int) (j : Job) (hj : Ct n w = j) : (if (5 ≤ w ∧ w ≤ 7) ∧ (Ct n w).phase ≠ 5 then (AK n w false ⟨BG (BH (Ct n w) 100),[],false⟩).1 else n) = if (5 ≤ w ∧ w ≤ 7) then (if j.phase = 5 then n else (AK n w false ⟨BG (BH j 100),[],false⟩).1) else n:=by
 rw [hj]
 by_cases a : 5 ≤ w ∧ w ≤ 7
 ·rw [if_pos a]
  by_cases b : j.phase = 5
  ·rw [if_pos b,if_neg (fun h => h.2 b)]
  ·rw [if_neg b,if_pos ⟨a,b⟩]
 ·rw [if_neg a,if_neg (fun h => a h.1)]
theorem N7 (n : Node) (h : Oh n) (w : Int) : Go.Gar.Fn Tryz.prog 15 [n.d,.i .u8 w] (E9 n w).d:=by
 unfold E9
 cases hr : AG n with
 | false =>
  rw [if_neg (by decide)]
  by_cases a1 : 1 ≤ w ∧ w ≤ 3
  ·have : w = 1 ∨ w = 2 ∨ w = 3:=by omega
   rcases this with e | e | e
   ·subst e;exact bno1 n h.ok hr
   ·subst e;exact bno2 n h.ok hr
   ·subst e;exact bno3 n h.ok hr
  by_cases a2 : 5 ≤ w ∧ w ≤ 7
  ·have : w = 5 ∨ w = 6 ∨ w = 7:=by omega
   rcases this with e | e | e
   ·subst e;exact bno5 n h.ok hr
   ·subst e;exact bno6 n h.ok hr
   ·subst e;exact bno7 n h.ok hr
  exact bx n w h.ok (JN a1 a2)
 | true =>
  obtain ⟨x0,x1⟩:=J6 hr
  rw [if_pos rfl]
  by_cases a1 : 1 ≤ w ∧ w ≤ 3
  ·rw [if_pos a1]
   have : w = 1 ∨ w = 2 ∨ w = 3:=by omega
   rcases this with e | e | e
   ·subst e;exact bok1 n h.ok hr
   ·subst e;exact bok2 n h.ok hr
   ·subst e;exact bok3 n h.ok hr
  rw [if_neg a1]
  by_cases a2 : 5 ≤ w ∧ w ≤ 7
  ·have : w = 5 ∨ w = 6 ∨ w = 7:=by omega
   rcases this with e | e | e
   ·subst e
    rw [KV n 5 n.finger rfl,if_pos a2]
    exact bok5 n h.ok hr x0 x1 (by have:=h.k5;omega)
   ·subst e
    rw [KV n 6 n.mirror rfl,if_pos a2]
    exact bok6 n h.ok hr x0 x1 (by have:=h.k6;omega)
   ·subst e
    rw [KV n 7 n.client rfl,if_pos a2]
    exact bok7 n h.ok hr x0 x1 (by have:=h.k7;omega)
  rw [if_neg (fun h => a2 h.1)]
  exact bx n w h.ok (JN a1 a2)
theorem XA (n : Node) (w : Int) (h5 : w ≠ 5) (h6 : w ≠ 6) (h7 : w ≠ 7) : Go.Gar.Fn Tryz.prog 31 [n.d,.i .u8 w] (.tup [TL.d,.b false]):=by
 have c1:=Su n w h5 h6 h7
 refine A0 AB Tryz.func31 rfl rfl (Nat.le_of_ble_eq_true rfl) ?_
 unfold Node.d Node.cells View.cells Calls.cells Job.cells
 unfold AM at c1
 have d1:=Ds.mk [0] (c1);refine wk [0,1,2,4,5,6,10] [] A1 A1 ?_;clear d1;with_reducible repeat' first|constructor|intro hc;try simp only[A3] at hc
 refine ⟨_,_,rfl,rfl,?_⟩;simp [AE,A6,A5,A4,Job.d,Job.cells,GK,AP]
theorem ZV (n : Node) (hl : n.client.left.length ≤ 1000) : Go.Gar.Fn Tryz.prog 31 [n.d,.i .u8 7] (.tup [n.client.d,.b true]):=by
 have c1:=Tt n
 have c2:=C5 n.client (by omega)
 refine A0 AB Tryz.func31 rfl rfl (Nat.le_of_ble_eq_true rfl) ?_
 unfold Node.d Node.cells View.cells Calls.cells Job.cells
 unfold Job.d Job.cells at c2
 unfold AM at c1
 have d1:=Ds.mk [0] (c1);refine wk [0,1,2,4,5,6,10] [] A1 (AD @c2) ?_;clear d1;with_reducible repeat' first|constructor|intro hc;try simp only[A3] at hc
 refine ⟨_,_,rfl,rfl,?_⟩;simp [AE,A6,A5,A4,Job.d,Job.cells]
end Nd
end Go.Proofs.YtnahkfkljohjaaaGreatDoor
namespace Go.Proofs.YtnahkfkljohjaaaGreatDoor
namespace Nd
open Go.Gar
open Wi (A8 B0 Ak AX B8)
set_option maxRecDepth 4000
structure Apart (n : Node) (why : Int) (w : Node) : Prop where
 f : why ≠ 5 → w.finger = n.finger ∧ w.next = n.next
 m : why ≠ 6 → w.mirror = n.mirror
 c : why ≠ 7 → w.client = n.client
 s : ¬ (1 ≤ why ∧ why ≤ 3) → w.phase = n.phase ∧ w.of_ = n.of_
theorem Apart.refl (n : Node) (why : Int) : Apart n why n:=⟨fun _ => ⟨rfl,rfl⟩,fun _ => rfl,fun _ => rfl,fun _ => ⟨rfl,rfl⟩⟩
theorem Eb (n : Node) (c : Call) (m : A8) : Apart n c.why (Aw n c m).1:=by
 unfold Aw
 split
 ·split
  ·rename_i h
   exact ⟨fun _ => ⟨rfl,rfl⟩,fun _ => rfl,fun _ => rfl,fun k => absurd h k⟩
  ·split
   ·rename_i h
    have g:=Cn n c.why (decide ((Ct n c.why).phase = 5)) (As n.view (Ct n c.why) m)
    exact ⟨g.finger,g.mirror,fun k => g.client (by omega),fun _ => ⟨g.phase,g.of_⟩⟩
   ·exact .refl ..
 ·exact .refl ..
theorem Fl (n : Node) (c : Call) : Apart n c.why (Be n c).1:=by
 unfold Be
 split
 ·dsimp only
  split
  ·rename_i h
   exact ⟨fun _ => ⟨rfl,rfl⟩,fun _ => rfl,fun _ => rfl,fun k => absurd h k⟩
  ·split
   ·rename_i h
    have g:=Cn { n with view:=Ad n.view c.msg.dst } c.why (decide ((Ct n c.why).phase = 5)) (Az (Ad n.view c.msg.dst) (Ct n c.why) c.msg.dst)
    exact ⟨g.finger,g.mirror,fun k => g.client (by omega),fun _ => ⟨g.phase,g.of_⟩⟩
   ·exact ⟨fun _ => ⟨rfl,rfl⟩,fun _ => rfl,fun _ => rfl,fun _ => ⟨rfl,rfl⟩⟩
 ·exact .refl ..
theorem WB (n : Node) (c : Call) (m : A8) (h1 : ¬ (1 ≤ c.why ∧ c.why ≤ 3)) (h2 : ¬ (5 ≤ c.why ∧ c.why ≤ 7)) : Aw n c m = (n,[]):=by
 unfold Aw
 rw [if_neg h1,if_neg h2]
 split <;> rfl
theorem Jz (n : Node) (c : Call) (h2 : ¬ (5 ≤ c.why ∧ c.why ≤ 7)) : (Be n c).2 = []:=by
 unfold Be
 split
 ·dsimp only
  (try rw [if_neg h2])
  split <;> rfl
 ·rfl
theorem Dr (n : Node) (c : Call) (m : A8) : (Aw n c m).2.length ≤ 3:=by
 unfold Aw
 split
 ·split
  ·unfold BW
   split
   ·split
    ·exact Nat.zero_le _
    ·dsimp only
     split <;> (unfold Fc;repeat' split) <;> simp
   ·exact Nat.zero_le _
  ·split
   ·rw [H4,List.length_map]
    exact (IR n.view (Ct n c.why) m ((Ct n c.why).item.key.length + m.item.key.length) (by omega) (by omega)).1
   ·exact Nat.zero_le _
 ·exact Nat.zero_le _
theorem Ec (n : Node) (c : Call) : (Be n c).2.length ≤ 3:=by
 unfold Be
 split
 ·dsimp only
  split
  ·exact Nat.zero_le _
  ·split
   ·rw [H4,List.length_map]
    exact (Io ..).1
   ·exact Nat.zero_le _
 ·exact Nat.zero_le _
end Nd
end Go.Proofs.YtnahkfkljohjaaaGreatDoor
