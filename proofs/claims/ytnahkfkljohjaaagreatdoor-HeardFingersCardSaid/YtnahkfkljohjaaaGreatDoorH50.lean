/- Part 50 of the texts of this proof, put together by a program and made short.
Conditions: none; what each theorem asks stands in its own hypotheses. -/
import Derived.Test.YtnahkfkljohjaaaGreatDoorH48
import Derived.Test.YtnahkfkljohjaaaGreatDoorH49
import Derived.Ground.SlgfProg
import Derived.Lib.SliceRun
import Derived.Shelf.SlicesE.DeleteFunc
import Derived.Sort.Walk0
import Derived.KernelRfl
import Derived.RangeFuncIn
import Derived.OpenShut
import Derived.ProofKit
import Derived.CallsIn
import Derived.RangeFuncLeaves
import Derived.OrdersIn
import Derived.TacticsIn
import Derived.ChangeKeysEq
import Derived.Laws.AppendOwn
import Derived.Laws.OwnMore
import Derived.Laws.MakeOwn
import Derived.Laws.Rows
import Derived.Laws.Cells
import Derived.Laws.Tables
import Derived.Laws.CopyRow
import Derived.Laws.Strings
import Derived.Laws.IdiomStrings
import Derived.Laws.BytesArg
import Derived.Sort.Grow
import Derived.Laws.Cover3
import Derived.RecoverIn
import Derived.Test.YtnahkfkljohjaaaGreatDoorProg
set_option linter.unusedSimpArgs false
set_option linter.unusedVariables false
set_option linter.unnecessarySimpa false
set_option maxHeartbeats 40000000
namespace Go.Proofs.YtnahkfkljohjaaaGreatDoor
namespace Nd
open Go.Gar
open Wi (A8 B0 Ak AX B8 mC)
set_option maxRecDepth 4000
structure Tv (L K : Nat) (j : Job) : Prop where
 l : j.left.length ≤ L
 k : j.item.key.length ≤ K
structure JB (L K : Nat) (n : Node) : Prop where
 f : Tv L K n.finger
 m : Tv L K n.mirror
 c : Tv L K n.client
theorem Tv.mono {L K M : Nat} {j : Job} (h : Tv L K j) (hm : L ≤ M) : Tv M K j:=⟨Nat.le_trans h.l hm,h.k⟩
theorem JB.mono {L K M : Nat} {n : Node} (h : JB L K n) (hm : L ≤ M) : JB M K n:=⟨h.f.mono hm,h.m.mono hm,h.c.mono hm⟩
theorem Wy {L K : Nat} (k : List Item) (j : Job) (h : Tv L K j) : Tv L K (CN k j).2:=by
 unfold CN
 split
 ·dsimp only
  split
  ·exact ⟨h.l,h.k⟩
  ·exact h
 split
 ·dsimp only
  split
  ·rename_i hg
   refine ⟨h.l,?_⟩
   dsimp only
   have hk : (Di k j.item.key).1.key = j.item.key:=by
    unfold Di at hg ⊢
    split
    ·rename_i hc
     rw [Bool.and_eq_true] at hc
     obtain ⟨x,-,hx,hg2⟩:=Fz hc.2
     dsimp only
     rw [hg2,hx]
    ·rename_i hc
     rw [if_neg hc] at hg
     cases hg
   rw [hk];exact h.k
  ·exact ⟨h.l,h.k⟩
 ·exact h
theorem Mf {L K : Nat} (n : Node) (w : Int) (e : Bool) (c : JC) (h : JB L K n) (hc : Tv L K c.job) : JB L K (AK n w e c).1:=by
 unfold AK
 have hs : Tv L K (if c.own then CN n.keep c.job else (n.keep,c.job)).2:=by
  split
  ·exact Wy _ _ hc
  ·exact hc
 generalize (if c.own then CN n.keep c.job else (n.keep,c.job)) = s at *
 dsimp only
 have h1 : JB L K (P1 { n with keep:=s.1 } w s.2):=by
  unfold P1
  split
  ·exact ⟨hs,h.m,h.c⟩
  split
  ·exact ⟨h.f,hs,h.c⟩
  ·exact ⟨h.f,h.m,hs⟩
 split
 ·exact ⟨h1.f,h1.m,h1.c⟩
 ·exact h1
theorem Jv {L K : Nat} (n : Node) (w what place : Int) (x : Item) (h : JB L K n) (hL : 3 ≤ L) (hx : x.key.length ≤ K) : JB L K (B6 n w what place x).1:=by
 have:=UQ n.view what place x
 unfold B6
 split
 ·exact Mf _ _ _ _ h ⟨by omega,by omega⟩
 ·exact h
theorem Mc {L K : Nat} {n : Node} (w : Int) (h : JB L K n) : Tv L K (Ct n w):=by
 unfold Ct Yt
 split
 ·exact h.f
 split
 ·exact h.m
 split
 ·exact h.c
 ·exact ⟨Nat.zero_le _,Nat.zero_le _⟩
theorem S6 {L K : Nat} (n : Node) (c : Call) (m : A8) (h : JB L K n) (hm : m.item.key.length ≤ K) : JB (L + 3) K (Aw n c m).1:=by
 have hj:=Mc c.why h
 have:=IR n.view (Ct n c.why) m K hj.k hm
 have:=hj.l
 unfold Aw
 split
 ·split
  ·have:=h.mono (Nat.le_add_right L 3);exact ⟨this.f,this.m,this.c⟩
  split
  ·exact Mf _ _ _ _ (h.mono (Nat.le_add_right ..)) ⟨by omega,by omega⟩
  ·exact h.mono (Nat.le_add_right ..)
 ·exact h.mono (Nat.le_add_right ..)
theorem Tz {L K : Nat} (n : Node) (c : Call) (h : JB L K n) : JB (L + 3) K (Be n c).1:=by
 have hj:=Mc c.why h
 have hf:=Io (Ad n.view c.msg.dst) (Ct n c.why) c.msg.dst
 have h1:=hj.l
 have h2:=hj.k
 have hm:=h.mono (Nat.le_add_right L 3)
 unfold Be
 split
 ·dsimp only
  split
  ·exact ⟨hm.f,hm.m,hm.c⟩
  split
  ·exact Mf { n with view:=Ad n.view c.msg.dst } _ _ _ ⟨hm.f,hm.m,hm.c⟩ ⟨by omega,by rw [hf.2.1];exact h2⟩
  ·exact ⟨hm.f,hm.m,hm.c⟩
 ·exact hm
theorem Vk {L K : Nat} (n : Node) (w : Int) (h : JB L K n) : JB L K (E9 n w):=by
 have hj:=Mc w h
 unfold E9
 split
 ·split
  ·exact ⟨h.f,h.m,h.c⟩
  split
  ·exact Mf _ _ _ _ h ⟨Nat.zero_le _,hj.k⟩
  ·exact h
 ·exact h
theorem UG (x : Int) : ∀ (l : List Int) (f : Int),rT x f l = true → ∀ y ∈ l,Ag y = true
 | [],_,_,y,hy => by cases hy
 | p :: r,f,h,y,hy => by
  unfold rT at h
  simp only [Bool.and_eq_true] at h
  rcases List.mem_cons.1 hy with rfl | hy
  ·exact h.1.1
  ·exact UG x r _ h.2 y hy
theorem Hq {y : Int} (h : Ag y = true) : i64 y:=by have:=EG h;unfold i64;omega
theorem Fs {n w : Node} {L K : Nat} (h : Cs n) (s : PP n w) (hr : AG n = true) (j : JB L K w) (hL : L ≤ 1048576) : Cs w:=by
 have hw:=BZ.1 (s.right hr)
 have hv:=Cv hw.2.2.2.1
 have hl : w.view.list.length ≤ 3 ∧ rT w.view.id 0 w.view.list = true:=by
  have:=hv.2.2.1
  unfold BD at this
  rw [Bool.and_eq_true,decide_eq_true_eq] at this
  exact this
 have j1:=j.f.l
 have j2:=j.m.l
 have j3:=j.c.l
 refine ⟨Hq hv.1,fun y hy => Hq (UG _ _ _ hl.2 y hy),by rw [s.view.base];exact h.vb,by omega,by rw [s.calls];exact h.cl,by rw [s.calls];exact h.cn,by rw [s.seen];exact h.sl,by rw [s.seen];exact h.sn,?_,by omega,by omega,by omega⟩
 have:=(Ch.1 hw.2.2.2.2.2.2.1).1
 omega
theorem UP {n w : Node} {L K : Nat} (h : Cs n) (s : PP n w) (hr : AG n = true) (j : JB L K w) (hL : L ≤ 1000) (hK : K ≤ 1048576) (h0 : 0 ≤ w.phase) : Oh w :=
 ⟨Fs h s hr j (by omega),h0,by have:=j.f.l;omega,by have:=j.m.l;omega,by have:=j.c.l;omega,by have:=j.f.k;omega,by have:=j.m.k;omega,by have:=j.c.k;omega⟩
structure KO (n : Node) : Prop where
 id : i64 n.view.id
 li : ∀ y ∈ n.view.list,i64 y
 ph : 0 ≤ n.phase
theorem CB {m : A8} (h : Bc m = false) : m.list.length ≤ 40 ∧ m.item.key.length ≤ 300:=by
 unfold Bc at h
 simp only [Bool.or_eq_false_iff,decide_eq_false_iff_not] at h
 omega
theorem NC {j : Job} (h : NQ j = false) : Tv 40 300 j:=by
 unfold NQ at h
 simp only [Bool.or_eq_false_iff,decide_eq_false_iff_not] at h
 exact ⟨by omega,by omega⟩
theorem G7 {n : Node} (hw : KO n) (h : D8 n = false) : Oh n ∧ JB 40 300 n ∧ n.view.base.length ≤ 20:=by
 rw [MQ] at h
 simp only [Bool.or_eq_false_iff,decide_eq_false_iff_not] at h
 obtain ⟨⟨⟨a1,a2⟩,a3,a4,a5⟩,b1,b2,b3,b4,b5,b6⟩:=h
 have j4:=NC b4
 have j5:=NC b5
 have j6:=NC b6
 have c2 : ∀ x ∈ n.calls.op,Ab x.msg:=fun x hx => by
  have:=CB (Bool.eq_false_iff.2 (List.any_eq_false.1 b2 x hx))
  unfold Ab;omega
 have c3 : ∀ x ∈ n.seen,Ab x.told:=fun x hx => by
  have:=CB (Bool.eq_false_iff.2 (List.any_eq_false.1 b3 x hx))
  unfold Ab;omega
 have:=j4.l;have:=j4.k;have:=j5.l;have:=j5.k;have:=j6.l;have:=j6.k
 exact ⟨⟨⟨hw.id,hw.li,by omega,by omega,c2,by omega,c3,by omega,by omega,by omega,by omega,by omega⟩,hw.ph,by omega,by omega,by omega,by omega,by omega,by omega⟩,⟨j4,j5,j6⟩,by omega⟩
def vA : View:=⟨9,[9,20],[],20,fun _ => -1⟩
def nA : Node:=⟨vA,0,⟨9,0,[]⟩,[],0,0,TL,TL,TL,0,[],[],0⟩
theorem newA : newT 9 [9,20] = (⟨9,[9,20],[],-1,fun _ => -1⟩,0):=if_pos (by decide)
theorem WH : Go.Gar.Fn Tryz.prog 29 [] nA.d:=by
 have c1:=Y5 9 [9,20] (by unfold i64;omega) (by decide)
 rw [newA] at c1
 unfold View.d View.cells at c1
 refine A0 AB Tryz.func29 rfl rfl (Nat.le_of_ble_eq_true rfl) ?_
 refine wk [0,1] [] A1 (AD @c1) ?_;with_reducible repeat' first|constructor|intro hc;try simp only[A3] at hc
 refine ⟨_,_,rfl,rfl,?_⟩;simp [AE,A6,A5,A4,Node.d,Node.cells,nA,vA,View.cells,Calls.cells,Job.cells,GK,AP]
abbrev iA : Item:=⟨[97],0,0,false⟩
abbrev m12 : A8:=⟨0,0,0,12,0,false,false,0,0,[],AP,0⟩
abbrev c12 : Call:=⟨0,m12,4,0,0,0⟩
theorem rA : AG nA = true:=by decide
theorem okA : Oh nA:=by
 refine ⟨⟨by unfold i64;decide,fun y hy => ?_,by decide,by decide,fun y hy => ?_,by decide,fun y hy => ?_,by decide,by decide,by decide,by decide,by decide⟩,by decide,by decide,by decide,by decide,by decide,by decide,by decide⟩
 ·replace hy : y ∈ ([] : List Int):=hy
  cases hy
 ·replace hy : y ∈ ([] : List Call):=hy
  cases hy
 ·replace hy : y ∈ ([] : List Past):=hy
  cases hy
theorem jbA : JB 3 1 nA:=⟨⟨by decide,by decide⟩,⟨by decide,by decide⟩,⟨by decide,by decide⟩⟩
def nF : Node × List (A8 × Int):=B6 nA 5 1 15 AP
def nG : Node × List (A8 × Int):=B6 nA 7 3 0 iA
def nL : Node:={ nA with view:=BI vA [12] }
theorem okG : Oh nG.1:=UP (L:=3) (K:=1) okA.ok (FR nA 7 3 0 iA).1 rA (Jv nA 7 3 0 iA jbA (by decide) (by decide)) (by decide) (by decide) (by decide)
theorem lA : BI vA [12] = ⟨9,[9,20],[12],20,fun _ => -1⟩:=if_pos (by decide)
theorem okL : Oh nL:=by
 unfold nL
 rw [lA]
 refine ⟨⟨by unfold i64;decide,fun y hy => ?_,by decide,by decide,fun y hy => ?_,by decide,fun y hy => ?_,by decide,by decide,by decide,by decide,by decide⟩,by decide,by decide,by decide,by decide,by decide,by decide,by decide⟩
 ·replace hy : y ∈ ([12] : List Int):=hy
  rw [List.mem_singleton] at hy
  subst hy
  unfold i64;omega
 ·replace hy : y ∈ ([] : List Call):=hy
  cases hy
 ·replace hy : y ∈ ([] : List Past):=hy
  cases hy
theorem f1A : nF.2 = []:=by decide
theorem f2A : nF.1.view.f 0 = 20:=by decide
theorem f3A : nF.1.next = 1:=by decide
theorem f4A : nF.1.finger.phase = 5:=by decide
theorem g1A : nG.2.length = 1 ∧ (nG.2.getD 0 (AX,0)).2 = 7:=by decide
theorem g2A : nG.1.client.what = 3:=by decide
theorem b1A : (E9 nG.1 7).client.phase = 5:=by decide
theorem b2A : (E9 nG.1 7).client.code = 100:=by decide
theorem o1A : (Be nL c12).1.view.list = []:=by decide
theorem o2A : (Be nL c12).2 = []:=by decide
theorem Bu : Go.Gar.Fn Tryz.prog 10 [] (.b true):=by
 have c0:=WH
 have cF:=Gf nA okA 5 1 15 AP (by decide)
 have cG:=Gf nA okA 7 3 0 iA (by decide)
 have cB:=N7 nG.1 okG 7
 have cL:=PV nA.view [12] okA.ok.id okA.ok.li (fun y hy => by rw [List.mem_singleton] at hy;subst hy;unfold i64;omega) (by decide) (by decide) (by decide)
 have cO:=E0 nL okL c12
 have cX:=XA nL 4 (by decide) (by decide) (by decide)
 have cY:=ZV nG.1 okG.l7
 have f1:=f1A
 have f2:=AA f2A
 have f3:=AA f3A
 have f4:=AA f4A
 obtain ⟨q,hq⟩ : ∃ q,nG.2 = [(q,7)]:=by
  obtain ⟨h1,h2⟩:=g1A
  generalize nG.2 = l at *
  match l,h1,h2 with
  | [(q,w)],_,h2 => exact ⟨q,by rw [show w = 7 from h2]⟩
 have g2:=AA g2A
 have b1:=AA b1A
 have b2:=AA b2A
 have o1 : (((Be nL c12).1.view.list.length : Int) == 0) = true:=by rw [o1A];rfl
 have o2:=o2A
 change Go.Gar.Fn Tryz.prog _ _ (.tup [nF.1.d,A9 nF.2]) at cF
 change Go.Gar.Fn Tryz.prog _ _ (.tup [nG.1.d,A9 nG.2]) at cG
 rw [f1] at cF
 rw [hq] at cG
 rw [o2] at cO
 clear f1 hq o2
 have e : nL = { nA with view:=BI nA.view [12] }:=rfl
 generalize Be nL c12 = O at *
 rw [e] at cO cX
 clear e
 generalize E9 nG.1 7 = B at *
 generalize nF = F at *
 generalize nG = G at *
 generalize BI nA.view [12] = l at *
 generalize nA = a at *
 obtain ⟨F,F'⟩:=F
 obtain ⟨G,G'⟩:=G
 obtain ⟨O,O'⟩:=O
 dsimp only at *
 unfold AP at cF
 unfold View.d Call.d Call.cells Job.d Item.d Item.cells TL AP at *
 unfold Node.d Node.cells View.cells Calls.cells Job.cells at *
 simp only [List.cons_append,List.nil_append,List.map_cons,List.map_nil,A9,B3] at *
 dsimp only [c12,m12,iA,AP,GK] at *
 refine A0 AB Tryz.func10 rfl rfl (Nat.le_of_ble_eq_true rfl) ?_
 have z1:=@cO;refine wk [0,1,2,3,4,5,6,7,8,9,11,12,13,34] [] (Tu f2 f3 f4 g2 b1 b2 o1) (Tu @c0 @cF @cG @cB @cL @cX @cY) ?_;clear z1;with_reducible repeat' first|constructor|intro hc;try simp only[A3] at hc
 refine ⟨_,_,rfl,rfl,?_⟩;simp [AE,A6,A5,A4]
end Nd
end Go.Proofs.YtnahkfkljohjaaaGreatDoor
namespace Go.Proofs.YtnahkfkljohjaaaGreatDoor
namespace Nd
open Go.Gar
open Wi (A8 B0 Ak AX B8 mC)
set_option maxRecDepth 100000
abbrev EN : List Nat:=[0,1,2,3,4,5,6,7,8,9,10,11,12,13,14,15,16,17,42,84,91,140,145,205]
theorem Wg (n : Node) (c : Call) (m : A8) (hk : Oh n) (hr : AG n = true) (hG : D8 n = false) (hL : Bc m = false) (hL2 : Bc c.msg = false) (hto : c.msg.dst ≠ n.view.id) (hy : c.why = 1) : Go.Gar.Fn Tryz.prog 5 [n.d,c.d,m.d] (.b true):=by
 have cw:=Bu
 have cg:=CZ n
 have cl:=BL m
 have cl2:=BL c.msg
 have cr:=BV n hk.ok
 have hm:=CB hL
 have hF:=hk.ok.fl
 have hM:=hk.ok.ml
 have hC:=hk.ok.tl
 rw [hG] at cg
 rw [hL] at cl
 rw [hL2] at cl2
 rw [hr] at cr
 have f0:=eq_false' hto
 have cB:=Cz n hk c m (by unfold Ab;omega) (by omega)
 have cD:=E0 n hk c
 have aB:=Eb n c m
 have aD:=Fl n c
 have tB:=El (n:=n) (c:=c) (m:=m)
 have tD:=Fh (n:=n) (c:=c)
 have nB:=Dr n c m
 have nD:=Ec n c
 have eD:=Jz n c (by omega)
 clear hG hL hL2 hr hto hm
 generalize Aw n c m = B at *
 generalize Be n c = U at *
 obtain ⟨B,B'⟩:=B
 obtain ⟨U,U'⟩:=U
 dsimp only at *
 have jfB : Go.Gar.Fn Tryz.prog 20 [B.finger.d,n.finger.d] (.b true):=by rw [(aB.f (by omega)).1];exact Ah _ hF
 have jmB : Go.Gar.Fn Tryz.prog 20 [B.mirror.d,n.mirror.d] (.b true):=by rw [(aB.m (by omega))];exact Ah _ hM
 have jcB : Go.Gar.Fn Tryz.prog 20 [B.client.d,n.client.d] (.b true):=by rw [(aB.c (by omega))];exact Ah _ hC
 have xB:=AO (aB.f (by omega)).2
 have jfD : Go.Gar.Fn Tryz.prog 20 [U.finger.d,n.finger.d] (.b true):=by rw [(aD.f (by omega)).1];exact Ah _ hF
 have jmD : Go.Gar.Fn Tryz.prog 20 [U.mirror.d,n.mirror.d] (.b true):=by rw [(aD.m (by omega))];exact Ah _ hM
 have jcD : Go.Gar.Fn Tryz.prog 20 [U.client.d,n.client.d] (.b true):=by rw [(aD.c (by omega))];exact Ah _ hC
 have xD:=AO (aD.f (by omega)).2
 clear aB aD hF hM hC hk
 subst eD
 refine A0 AB Tryz.func5 rfl rfl (Nat.le_of_ble_eq_true rfl) ?_
 unfold Call.d Call.cells Wi.A8.d Wi.A8.cells Job.d Node.d Node.cells View.cells Calls.cells Job.cells at *
 simp only [List.cons_append,List.nil_append] at *
 simp only [hy] at *
 have z1:=@cD;refine wk EN [8] (AD f0) (IF @cg @cl @cl2 @cr @cB) ?_;clear z1;with_reducible repeat' first|constructor|intro hc;try simp only[A3] at hc
 refine B1 (fun k => k ≤ B'.length) (fun k : Nat => [(13,.d (.i .i64 k))]) (fun k => B'.length - k) 0 (Nat.zero_le _) (fun _ => rfl) ?_ ?_
 ·exact A2.ck rfl
 rintro k hk
 by_cases hkl : k < B'.length
 ·obtain ⟨a,ha⟩:=AR hkl
  have ht:=tB a (List.mem_of_getElem? ha)
  have g1:=eq_false' ht.1
  have g2 : decide (a.2 < 1) = false:=decide_eq_false (by omega)
  have g3 : decide (a.2 > 3) = false:=decide_eq_false (by omega)
  have g4 : decide ((k : Int) < (B'.length : Int)) = true:=decide_eq_true (by omega)
  clear ht
  have ix1:=ha;refine wk EN [] (GD g1 g2 g3 g4) A1 ?_;clear ix1;with_reducible repeat' first|constructor|intro hc;try simp only[A3] at hc
  refine ⟨k + 1,hkl,by omega,Nat.le_refl _,?_⟩
  exact A2.ck rfl
 have e : k = B'.length:=by omega
 subst e
 clear hkl hk
 have un : No 3:=trivial;refine wk EN [] (Ao xB xD) (Tu @jfB @jmB @jcB @jfD @jmD @jcD @cw) ?_;clear un;with_reducible repeat' first|constructor|intro hc;try simp only[A3] at hc
 refine ⟨_,_,rfl,rfl,?_⟩;simp [AE,A6,A5,A4]
theorem Ws (n : Node) (c : Call) (m : A8) (hk : Oh n) (hr : AG n = true) (hG : D8 n = false) (hL : Bc m = false) (hL2 : Bc c.msg = false) (hto : c.msg.dst ≠ n.view.id) (hy : c.why = 2) : Go.Gar.Fn Tryz.prog 5 [n.d,c.d,m.d] (.b true):=by
 have cw:=Bu
 have cg:=CZ n
 have cl:=BL m
 have cl2:=BL c.msg
 have cr:=BV n hk.ok
 have hm:=CB hL
 have hF:=hk.ok.fl
 have hM:=hk.ok.ml
 have hC:=hk.ok.tl
 rw [hG] at cg
 rw [hL] at cl
 rw [hL2] at cl2
 rw [hr] at cr
 have f0:=eq_false' hto
 have cB:=Cz n hk c m (by unfold Ab;omega) (by omega)
 have cD:=E0 n hk c
 have aB:=Eb n c m
 have aD:=Fl n c
 have tB:=El (n:=n) (c:=c) (m:=m)
 have tD:=Fh (n:=n) (c:=c)
 have nB:=Dr n c m
 have nD:=Ec n c
 have eD:=Jz n c (by omega)
 clear hG hL hL2 hr hto hm
 generalize Aw n c m = B at *
 generalize Be n c = U at *
 obtain ⟨B,B'⟩:=B
 obtain ⟨U,U'⟩:=U
 dsimp only at *
 have jfB : Go.Gar.Fn Tryz.prog 20 [B.finger.d,n.finger.d] (.b true):=by rw [(aB.f (by omega)).1];exact Ah _ hF
 have jmB : Go.Gar.Fn Tryz.prog 20 [B.mirror.d,n.mirror.d] (.b true):=by rw [(aB.m (by omega))];exact Ah _ hM
 have jcB : Go.Gar.Fn Tryz.prog 20 [B.client.d,n.client.d] (.b true):=by rw [(aB.c (by omega))];exact Ah _ hC
 have xB:=AO (aB.f (by omega)).2
 have jfD : Go.Gar.Fn Tryz.prog 20 [U.finger.d,n.finger.d] (.b true):=by rw [(aD.f (by omega)).1];exact Ah _ hF
 have jmD : Go.Gar.Fn Tryz.prog 20 [U.mirror.d,n.mirror.d] (.b true):=by rw [(aD.m (by omega))];exact Ah _ hM
 have jcD : Go.Gar.Fn Tryz.prog 20 [U.client.d,n.client.d] (.b true):=by rw [(aD.c (by omega))];exact Ah _ hC
 have xD:=AO (aD.f (by omega)).2
 clear aB aD hF hM hC hk
 subst eD
 refine A0 AB Tryz.func5 rfl rfl (Nat.le_of_ble_eq_true rfl) ?_
 unfold Call.d Call.cells Wi.A8.d Wi.A8.cells Job.d Node.d Node.cells View.cells Calls.cells Job.cells at *
 simp only [List.cons_append,List.nil_append] at *
 simp only [hy] at *
 have z1:=@cD;refine wk EN [8] (AD f0) (IF @cg @cl @cl2 @cr @cB) ?_;clear z1;with_reducible repeat' first|constructor|intro hc;try simp only[A3] at hc
 refine B1 (fun k => k ≤ B'.length) (fun k : Nat => [(13,.d (.i .i64 k))]) (fun k => B'.length - k) 0 (Nat.zero_le _) (fun _ => rfl) ?_ ?_
 ·exact A2.ck rfl
 rintro k hk
 by_cases hkl : k < B'.length
 ·obtain ⟨a,ha⟩:=AR hkl
  have ht:=tB a (List.mem_of_getElem? ha)
  have g1:=eq_false' ht.1
  have g2 : decide (a.2 < 1) = false:=decide_eq_false (by omega)
  have g3 : decide (a.2 > 3) = false:=decide_eq_false (by omega)
  have g4 : decide ((k : Int) < (B'.length : Int)) = true:=decide_eq_true (by omega)
  clear ht
  have ix1:=ha;refine wk EN [] (GD g1 g2 g3 g4) A1 ?_;clear ix1;with_reducible repeat' first|constructor|intro hc;try simp only[A3] at hc
  refine ⟨k + 1,hkl,by omega,Nat.le_refl _,?_⟩
  exact A2.ck rfl
 have e : k = B'.length:=by omega
 subst e
 clear hkl hk
 have un : No 3:=trivial;refine wk EN [] (Ao xB xD) (Tu @jfB @jmB @jcB @jfD @jmD @jcD @cw) ?_;clear un;with_reducible repeat' first|constructor|intro hc;try simp only[A3] at hc
 refine ⟨_,_,rfl,rfl,?_⟩;simp [AE,A6,A5,A4]
theorem YH (n : Node) (c : Call) (m : A8) (hk : Oh n) (hr : AG n = true) (hG : D8 n = false) (hL : Bc m = false) (hL2 : Bc c.msg = false) (hto : c.msg.dst ≠ n.view.id) (hy : c.why = 3) : Go.Gar.Fn Tryz.prog 5 [n.d,c.d,m.d] (.b true):=by
 have cw:=Bu
 have cg:=CZ n
 have cl:=BL m
 have cl2:=BL c.msg
 have cr:=BV n hk.ok
 have hm:=CB hL
 have hF:=hk.ok.fl
 have hM:=hk.ok.ml
 have hC:=hk.ok.tl
 rw [hG] at cg
 rw [hL] at cl
 rw [hL2] at cl2
 rw [hr] at cr
 have f0:=eq_false' hto
 have cB:=Cz n hk c m (by unfold Ab;omega) (by omega)
 have cD:=E0 n hk c
 have aB:=Eb n c m
 have aD:=Fl n c
 have tB:=El (n:=n) (c:=c) (m:=m)
 have tD:=Fh (n:=n) (c:=c)
 have nB:=Dr n c m
 have nD:=Ec n c
 have eD:=Jz n c (by omega)
 clear hG hL hL2 hr hto hm
 generalize Aw n c m = B at *
 generalize Be n c = U at *
 obtain ⟨B,B'⟩:=B
 obtain ⟨U,U'⟩:=U
 dsimp only at *
 have jfB : Go.Gar.Fn Tryz.prog 20 [B.finger.d,n.finger.d] (.b true):=by rw [(aB.f (by omega)).1];exact Ah _ hF
 have jmB : Go.Gar.Fn Tryz.prog 20 [B.mirror.d,n.mirror.d] (.b true):=by rw [(aB.m (by omega))];exact Ah _ hM
 have jcB : Go.Gar.Fn Tryz.prog 20 [B.client.d,n.client.d] (.b true):=by rw [(aB.c (by omega))];exact Ah _ hC
 have xB:=AO (aB.f (by omega)).2
 have jfD : Go.Gar.Fn Tryz.prog 20 [U.finger.d,n.finger.d] (.b true):=by rw [(aD.f (by omega)).1];exact Ah _ hF
 have jmD : Go.Gar.Fn Tryz.prog 20 [U.mirror.d,n.mirror.d] (.b true):=by rw [(aD.m (by omega))];exact Ah _ hM
 have jcD : Go.Gar.Fn Tryz.prog 20 [U.client.d,n.client.d] (.b true):=by rw [(aD.c (by omega))];exact Ah _ hC
 have xD:=AO (aD.f (by omega)).2
 clear aB aD hF hM hC hk
 subst eD
 refine A0 AB Tryz.func5 rfl rfl (Nat.le_of_ble_eq_true rfl) ?_
 unfold Call.d Call.cells Wi.A8.d Wi.A8.cells Job.d Node.d Node.cells View.cells Calls.cells Job.cells at *
 simp only [List.cons_append,List.nil_append] at *
 simp only [hy] at *
 have z1:=@cD;refine wk EN [8] (AD f0) (IF @cg @cl @cl2 @cr @cB) ?_;clear z1;with_reducible repeat' first|constructor|intro hc;try simp only[A3] at hc
 refine B1 (fun k => k ≤ B'.length) (fun k : Nat => [(13,.d (.i .i64 k))]) (fun k => B'.length - k) 0 (Nat.zero_le _) (fun _ => rfl) ?_ ?_
 ·exact A2.ck rfl
 rintro k hk
 by_cases hkl : k < B'.length
 ·obtain ⟨a,ha⟩:=AR hkl
  have ht:=tB a (List.mem_of_getElem? ha)
  have g1:=eq_false' ht.1
  have g2 : decide (a.2 < 1) = false:=decide_eq_false (by omega)
  have g3 : decide (a.2 > 3) = false:=decide_eq_false (by omega)
  have g4 : decide ((k : Int) < (B'.length : Int)) = true:=decide_eq_true (by omega)
  clear ht
  have ix1:=ha;refine wk EN [] (GD g1 g2 g3 g4) A1 ?_;clear ix1;with_reducible repeat' first|constructor|intro hc;try simp only[A3] at hc
  refine ⟨k + 1,hkl,by omega,Nat.le_refl _,?_⟩
  exact A2.ck rfl
 have e : k = B'.length:=by omega
 subst e
 clear hkl hk
 have un : No 3:=trivial;refine wk EN [] (Ao xB xD) (Tu @jfB @jmB @jcB @jfD @jmD @jcD @cw) ?_;clear un;with_reducible repeat' first|constructor|intro hc;try simp only[A3] at hc
 refine ⟨_,_,rfl,rfl,?_⟩;simp [AE,A6,A5,A4]
theorem YB (n : Node) (c : Call) (m : A8) (hk : Oh n) (hr : AG n = true) (hG : D8 n = false) (hL : Bc m = false) (hL2 : Bc c.msg = false) (hto : c.msg.dst ≠ n.view.id) (hy1 : ¬ (1 ≤ c.why ∧ c.why ≤ 3)) (hy2 : ¬ (5 ≤ c.why ∧ c.why ≤ 7)) : Go.Gar.Fn Tryz.prog 5 [n.d,c.d,m.d] (.b true):=by
 have cw:=Bu
 have cg:=CZ n
 have cl:=BL m
 have cl2:=BL c.msg
 have cr:=BV n hk.ok
 have hm:=CB hL
 have hF:=hk.ok.fl
 have hM:=hk.ok.ml
 have hC:=hk.ok.tl
 rw [hG] at cg
 rw [hL] at cl
 rw [hL2] at cl2
 rw [hr] at cr
 have f0:=eq_false' hto
 have cB:=Cz n hk c m (by unfold Ab;omega) (by omega)
 have cD:=E0 n hk c
 have aB:=Eb n c m
 have aD:=Fl n c
 have tB:=El (n:=n) (c:=c) (m:=m)
 have tD:=Fh (n:=n) (c:=c)
 have nB:=Dr n c m
 have nD:=Ec n c
 have eD:=Jz n c hy2
 have eB:=WB n c m hy1 hy2
 have cN:=PL n hk.ok
 clear hG hL hL2 hr hto hm
 generalize Aw n c m = B at *
 generalize Be n c = U at *
 obtain ⟨B,B'⟩:=B
 obtain ⟨U,U'⟩:=U
 dsimp only at *
 have jfB : Go.Gar.Fn Tryz.prog 20 [B.finger.d,n.finger.d] (.b true):=by rw [(aB.f (by omega)).1];exact Ah _ hF
 have jmB : Go.Gar.Fn Tryz.prog 20 [B.mirror.d,n.mirror.d] (.b true):=by rw [(aB.m (by omega))];exact Ah _ hM
 have jcB : Go.Gar.Fn Tryz.prog 20 [B.client.d,n.client.d] (.b true):=by rw [(aB.c (by omega))];exact Ah _ hC
 have xB:=AO (aB.f (by omega)).2
 have sB : Cy [.i .u8 B.phase,.i .i64 B.of_] [.i .u8 n.phase,.i .i64 n.of_] = true:=by rw [(aB.s (by omega)).1,(aB.s (by omega)).2];simp [Cy,eq1]
 have jfD : Go.Gar.Fn Tryz.prog 20 [U.finger.d,n.finger.d] (.b true):=by rw [(aD.f (by omega)).1];exact Ah _ hF
 have jmD : Go.Gar.Fn Tryz.prog 20 [U.mirror.d,n.mirror.d] (.b true):=by rw [(aD.m (by omega))];exact Ah _ hM
 have jcD : Go.Gar.Fn Tryz.prog 20 [U.client.d,n.client.d] (.b true):=by rw [(aD.c (by omega))];exact Ah _ hC
 have xD:=AO (aD.f (by omega)).2
 have sD : Cy [.i .u8 U.phase,.i .i64 U.of_] [.i .u8 n.phase,.i .i64 n.of_] = true:=by rw [(aD.s (by omega)).1,(aD.s (by omega)).2];simp [Cy,eq1]
 clear aB aD hF hM hC hk
 subst eD
 cases eB
 have w1 : (c.why == 1) = false:=eq_false' (by omega)
 have w2 : (c.why == 2) = false:=eq_false' (by omega)
 have w3 : (c.why == 3) = false:=eq_false' (by omega)
 have w5 : (c.why != 5) = true:=BJ (by omega)
 have w6 : (c.why != 6) = true:=BJ (by omega)
 have w7 : (c.why != 7) = true:=BJ (by omega)
 have v5 : (decide (c.why ≥ 5) && decide (c.why ≤ 7)) = false:=by rw [Bool.and_eq_false_iff,decide_eq_false_iff_not,decide_eq_false_iff_not];omega
 refine A0 AB Tryz.func5 rfl rfl (Nat.le_of_ble_eq_true rfl) ?_
 unfold Call.d Call.cells Wi.A8.d Wi.A8.cells Job.d Node.d Node.cells View.cells Calls.cells Job.cells at *
 simp only [List.cons_append,List.nil_append] at *
 by_cases hz : 5 ≤ c.why
 case' pos =>
  have y5 : decide (c.why ≥ 5) = true:=decide_eq_true hz
  have y7 : decide (c.why ≤ 7) = false:=decide_eq_false (by omega)
 case' neg =>
  have y5 : decide (c.why ≥ 5) = false:=decide_eq_false hz
  have y7 : True:=trivial
 all_goals
  have z1:=@cB;have z2:=@cD;have un : No 3:=trivial;refine wk [0,1,2,3,4,5,6,7,8,9,10,11,12,13,14,15,16,17,42,84,91,140,145,205] [] (XK f0 w1 w2 w3 w5 w6 w7 y5 y7 xB sB xD sD) (zq12 @cg @cl @cl2 @cr @jfB @jmB @jcB @jfD @jmD @jcD @cN @cw) ?_;clear un z2 z1;with_reducible repeat' first|constructor|intro hc;try simp only[A3] at hc
  refine ⟨_,_,rfl,rfl,?_⟩;simp [AE,A6,A5,A4]
end Nd
end Go.Proofs.YtnahkfkljohjaaaGreatDoor
