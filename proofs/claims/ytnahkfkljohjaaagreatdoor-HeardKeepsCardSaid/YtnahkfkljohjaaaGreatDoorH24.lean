/- Part 24 of the texts of this proof, put together by a program and made short.
Conditions: none; what each theorem asks stands in its own hypotheses. -/
import Derived.Test.YtnahkfkljohjaaaGreatDoorH23
import Derived.Sort.Walk0
import Derived.Ground.SlgfProg
import Derived.Lib.SliceRun
import Derived.Shelf.SlicesE.DeleteFunc
import Derived.KernelRfl
import Derived.RangeFuncIn
import Derived.OpenShut
import Derived.ProofKit
import Derived.CallsIn
import Derived.RangeFuncLeaves
import Derived.OrdersIn
import Derived.TacticsIn
import Derived.ChangeKeysEq
import Derived.Laws.AppendOwn
import Derived.Laws.OwnMore
import Derived.Laws.MakeOwn
import Derived.Laws.Rows
import Derived.Laws.Cells
import Derived.Laws.Tables
import Derived.Laws.CopyRow
import Derived.Laws.Strings
import Derived.Laws.IdiomStrings
import Derived.Laws.BytesArg
import Derived.Sort.Grow
import Derived.Laws.Cover3
import Derived.RecoverIn
import Derived.Test.YtnahkfkljohjaaaGreatDoorProg
set_option linter.unusedSimpArgs false
set_option linter.unusedVariables false
set_option linter.unnecessarySimpa false
set_option maxHeartbeats 40000000
namespace Go.Proofs.YtnahkfkljohjaaaGreatDoor
namespace Nd
open Go.Gar
open Wi (A8 B0 Ak AX B8 mC)
set_option maxRecDepth 4000
abbrev Hx : List Nat:=[0,1,2,3,10]
def Look.cells (l : Look) : List D:=[.i .i64 l.key,.i .i64 l.at_,.i .i64 l.hops,.b l.slow,.b l.found,.i .i64 l.code]
def Look.d (l : Look) : D:=.agg l.cells
def JP (l : Look) : List AV:=[.d (.i .i64 l.key),.d (.i .i64 l.at_),.d (.i .i64 l.hops),.d (.b l.slow),.d (.b l.found),.d (.i .i64 l.code)]
theorem Rr (n : Int) : Go.Gar.Fn Tryz.prog 217 [.i .i64 n] (.b (Ag n)):=by
 refine A0 AB Tryz.func217 rfl rfl (Nat.le_of_ble_eq_true rfl) ?_
 refine wk [0,2] [] A1 A1 ?_;with_reducible repeat' first|constructor|intro hc;try simp only[A3] at hc
 all_goals (refine ⟨_,_,rfl,rfl,?_⟩;simp only [C0];refine congrArg D.b ?_;unfold Ag;grind)
theorem Kl (l : Look) : Go.Gar.Fn Tryz.prog 194 [l.d] (.b (DU l)):=by
 have c1:=Rr l.key
 have c2:=Rr l.at_
 have hT : DU l = ((Ag l.key && Ag l.at_ && decide (0 ≤ l.hops) && decide (l.hops ≤ 41)) && (if l.hops > 40 then decide (l.code = 211) && !l.found else decide (l.code = 0))):=rfl
 refine A0 AB Tryz.func194 rfl rfl (Nat.le_of_ble_eq_true rfl) ?_
 unfold Look.d Look.cells
 generalize Ag l.key = p1 at *
 generalize Ag l.at_ = p2 at *
 generalize DU l = R at *
 refine wk [0,1,2,22,25] [] A1 (Ao @c1 @c2) ?_;with_reducible repeat' first|constructor|intro hc;try simp only[A3] at hc
 all_goals (clear c1 c2;refine ⟨_,_,rfl,rfl,?_⟩;simp only [C0];refine congrArg D.b ?_;rw [hT];clear hT;grind)
theorem Kz (l : Look) : Go.Gar.Fn Tryz.prog 193 [l.d] (.b (lookO l)):=by
 refine A0 AB Tryz.func193 rfl rfl (Nat.le_of_ble_eq_true rfl) ?_
 unfold Look.d Look.cells lookO
 refine wk [0,1,2] [] A1 A1 ?_;with_reducible repeat' first|constructor|intro hc;try simp only[A3] at hc
 all_goals (refine ⟨_,_,rfl,rfl,?_⟩;simp only [C0];refine congrArg D.b ?_;grind)
theorem Z2 (l : Look) : Go.Gar.Fn Tryz.prog 142 [l.d] (.tup [(PS l).1.d,.b (PS l).2]):=by
 have c1:=Kz l
 have c2:=Kl l
 refine A0 AB Tryz.func142 rfl rfl (Nat.le_of_ble_eq_true rfl) ?_
 unfold Look.d Look.cells at *
 cases h : lookO l with
 | true =>
  have hT : PS l = (AX,false):=by unfold PS;rw [h];rfl
  rw [h] at c1
  rw [hT]
  refine wk Hx [] A1 (AD @c1) ?_;with_reducible repeat' first|constructor|intro hc;try simp only[A3] at hc
  refine ⟨_,_,rfl,rfl,?_⟩;simp [AE,A6,A5,A4,Wi.A8.d,Wi.A8.cells,AX,AP]
 | false =>
 rw [h] at c1
 cases h2 : DU l with
 | false =>
  have hT : PS l = (AX,false):=by unfold PS;rw [h,h2];rfl
  rw [h2] at c2
  rw [hT]
  refine wk Hx [] A1 (Ao @c1 @c2) ?_;with_reducible repeat' first|constructor|intro hc;try simp only[A3] at hc
  refine ⟨_,_,rfl,rfl,?_⟩;simp [AE,A6,A5,A4,Wi.A8.d,Wi.A8.cells,AX,AP]
 | true =>
  have hT : PS l = (QM l,true):=by unfold PS;rw [h,h2];rfl
  rw [h2] at c2
  rw [hT]
  refine wk Hx [] A1 (Ao @c1 @c2) ?_;with_reducible repeat' first|constructor|intro hc;try simp only[A3] at hc
  refine ⟨_,_,rfl,rfl,?_⟩;simp [AE,A6,A5,A4,Wi.A8.d,Wi.A8.cells,QM,AP]
theorem Nv (id : Int) (base list : List Int) (pred : Int) (f : Nat → Int) (l : Look) : B4 Tryz.prog 141 [.d (View.d ⟨id,base,list,pred,f⟩),.d l.d] [] (.fn (.func 191) [] [.ptr 0 0 20,.ptr 1 0 6]) [.c (vC id base list pred f),.c (JP l)]:=by
 refine A7 AB Tryz.func141 rfl rfl (Nat.le_of_ble_eq_true rfl) ?_
 unfold vC JP Look.d Look.cells
 refine wk [0,1,2,3,4] [] A1 A1 ?_;with_reducible repeat' first|constructor|intro hc;try simp only[A3] at hc
 exact ⟨_,(A2.ck rfl),Nat.zero_le _,_,_,rfl,rfl,rfl,rfl⟩
theorem KQ (id : Int) (base list : List Int) (pred : Int) (f : Nat → Int) (l : Look) (hb : base.length ≤ 1000) (hl : list.length ≤ 1000) : B4 Tryz.prog 191 [.ptr 0 0 20,.ptr 1 0 6] [.c (vC id base list pred f),.c (JP l)] (.tup [.d (.i .i64 (CV ⟨id,base,list,pred,f⟩ l.key l.slow).1),.d (.b (CV ⟨id,base,list,pred,f⟩ l.key l.slow).2)]) [.c (vC id base list pred f),.c (JP l)]:=by
 have c1:=Wo ⟨id,base,list,pred,f⟩ l.key l.slow hb hl
 refine A7 AB Tryz.func191 rfl rfl (Nat.le_of_ble_eq_true rfl) ?_
 generalize CV ⟨id,base,list,pred,f⟩ l.key l.slow = q at *
 obtain ⟨q1,q2⟩:=q
 unfold vC JP
 refine wk [0,1,2,3] [] A1 (AD @c1) ?_;with_reducible repeat' first|constructor|intro hc;try simp only[A3] at hc
 exact ⟨⟨[(2,.d (.i .i64 q1)),(3,.d (.b q2))],_,_⟩,(A2.ck rfl),Nat.le_refl _,_,_,rfl,rfl,rfl,rfl⟩
theorem Rn (l : Look) (h : 0 ≤ l.hops ∧ l.hops ≤ 41) : Go.Gar.Fn Tryz.prog 205 [l.d] (.tup [(GQ l).d,.b (decide (l.hops + 1 ≤ 40))]):=by
 refine A0 AB Tryz.func205 rfl rfl (Nat.le_of_ble_eq_true rfl) ?_
 unfold Look.d Look.cells
 by_cases hh : l.hops + 1 > 40
 ·have f1 : decide (l.hops + 1 > 40) = true:=decide_eq_true hh
  have hc : (GQ l).code = 211:=if_pos hh
  have hd : decide (l.hops + 1 ≤ 40) = false:=decide_eq_false (by omega)
  rw [hd]
  refine wk Hx [] (AD f1) A1 ?_;with_reducible repeat' first|constructor|intro hc;try simp only[A3] at hc
  refine ⟨_,_,rfl,rfl,?_⟩;simp [AE,A6,A5,A4,GQ,hh]
 ·have f1 : decide (l.hops + 1 > 40) = false:=decide_eq_false hh
  have hd : decide (l.hops + 1 ≤ 40) = true:=decide_eq_true (by omega)
  rw [hd]
  refine wk Hx [] (AD f1) A1 ?_;with_reducible repeat' first|constructor|intro hc;try simp only[A3] at hc
  refine ⟨_,_,rfl,rfl,?_⟩;simp [AE,A6,A5,A4,GQ,hh]
theorem ZL (v : View) (key : Int) (hb : v.base.length ≤ 1000) (hl : v.list.length ≤ 1000) : Go.Gar.Fn Tryz.prog 94 [v.d,.i .i64 key] (Wa v key).d:=by
 have c1:=Am v hb hl
 have c2:=Cw key
 have hT : Wa v key = if AF v then ⟨Ba key,(CV v (Ba key) false).1,0,false,(CV v (Ba key) false).2,0⟩ else GK:=rfl
 generalize Ba key = k at *
 obtain ⟨id,base,list,pred,f⟩:=v
 have c3:=Nv id base list pred f ⟨k,0,0,false,false,0⟩
 have c4:=KQ id base list pred f ⟨k,0,0,false,false,0⟩ hb hl
 refine A0 AB Tryz.func94 rfl rfl (Nat.le_of_ble_eq_true rfl) ?_
 rw [hT]
 clear hT
 dsimp only at c4
 generalize CV ⟨id,base,list,pred,f⟩ k false = q at *
 obtain ⟨q1,q2⟩:=q
 cases h : AF ⟨id,base,list,pred,f⟩ with
 | false =>
  rw [h] at c1
  refine wk [0,1,2,4,5,8] [] A1 (AD @c1) ?_;with_reducible repeat' first|constructor|intro hc;try simp only[A3] at hc
  refine ⟨_,_,rfl,rfl,?_⟩;simp [AE,A6,A5,A4,Look.d,Look.cells]
 | true =>
  rw [h] at c1
  unfold Look.d Look.cells at c3
  unfold JP at c3 c4
  have d1:=Ds.mk [] (c3);have d2:=Ds.mk [3,4] (c4);refine wk [0,1,2,4,5,8] [] A1 (Ao @c1 @c2) ?_;clear d2 d1;with_reducible repeat' first|constructor|intro hc;try simp only[A3] at hc
  refine ⟨_,_,rfl,rfl,?_⟩;simp [AE,A6,A5,A4,Look.d,Look.cells]
end Nd
end Go.Proofs.YtnahkfkljohjaaaGreatDoor
namespace Go.Proofs.YtnahkfkljohjaaaGreatDoor
open Go.Gar Go.Shelf Go.Sort Go.RowKit Go.Lib
set_option maxRecDepth 4000
theorem He : VO (Value.int .i64) D.is (fun x => .i .i64 x) where
 sl _:=rfl
 ok _:=trivial
 c _:=rfl
 n _:=rfl
 z _:=rfl
 r m a v:=by simp only [RD]
 one _:=rfl
theorem bG (p x : Int) (B : Nat) (W : World) (hc : W.cell? ⟨B,0,none⟩ = some (.int .i64 p)) : FnGives Tryz.prog 207 #[.pointer (some ⟨B,0,none⟩)] #[.int .i64 x] (.bool (x == p)) W:=by
 show Calls Tryz.prog 207 #[.int .i64 x,.pointer (some ⟨B,0,none⟩)] W _
 go_enter Tryz.func207,Tryz.ntmps207
 go_wp2
 all_goals (go_ret;exact ⟨by simp_all,0,rfl⟩)
theorem Za (p : Int) (B : Nat) (w : World) (hB : B < w.heap.size) (hcell : w.cell? ⟨B,0,none⟩ = some (.int .i64 p)) :
  PredAt Tryz.prog 207 #[.pointer (some ⟨B,0,none⟩)] (Value.int .i64) (fun x => x == p) w :=
 fun W x hb => bG p x B W ((hb.cell (p:=⟨B,0,none⟩) hB).trans hcell)
theorem WL (p : Int) (B blk off size : Nat) (w : World) (hB : B < w.heap.size) (hne : B ≠ blk) (hcell : w.cell? ⟨B,0,none⟩ = some (.int .i64 p)) :
  PredOver Tryz.prog 207 #[.pointer (some ⟨B,0,none⟩)] (Value.int .i64) (fun x => x == p) blk off size w :=
 fun n os dk x _ => bG p x B _ (by
  unfold sortWorld
  rw [cell?_grow _ _ _ (by show B < (putRow _ _ _ _ _).heap.size;rw [size_putRow];exact hB),cell?_putRow_other _ _ blk off _ _ (Or.inl hne)]
  exact hcell)
theorem Vl (l : List Int) (p : Int) : (Au l p).length ≤ l.length:=List.length_filter_le _ _
theorem UK (p : Int) (zs : List Int) (h0 : zs ≠ []) (h : zs.length ≤ 1048576) :
  B4 Tryz.prog 206 [.sl 1 zs.length 1,.fn (.func 207) [] [.ptr 0 0 1]] [.c [.d (.i .i64 p)],.a (.is zs)] (.sl 2 (Au zs p).length 1) [.c [.d (.i .i64 p)],.gone,.a (.is (Au zs p))]:=by
 refine ⟨⟨_,Tryz.func206,rfl,rfl⟩,fun G w vs hG hR hv => ?_⟩
 rw [callsIn_wide]
 obtain ⟨v,r0,hvs,hv1,u,r1,hr0,hv2,hr1⟩:=hv
 simp only [An] at hr1
 subst hr1
 subst hr0
 have hvs' : vs = #[v,u]:=by rw [← Array.toArray_toList (xs:=vs),hvs]
 subst hvs'
 simp only [RV] at hv1 hv2
 obtain ⟨p',q,rfl,hp0,hq⟩:=hv2
 simp only [An] at hp0 hq
 subst hp0
 obtain ⟨pv,r2,rfl,hpv,rfl⟩:=hq
 simp only [RV] at hpv
 obtain ⟨_,blk0,hb0',hpt⟩:=hpv
 have hbc : G.H[0]? = some (.c [.d (.i .i64 p)]):=by rw [hG];rfl
 rw [hbc] at hb0';cases hb0'
 obtain ⟨_,c,Nc,hρc,rfl⟩:=hpt
 obtain ⟨_,blk,hb,hp⟩:=hv1
 have hb1 : G.H[1]? = some (.a (.is zs)):=by rw [hG];rfl
 rw [hb1] at hb;cases hb
 obtain ⟨_,_,hp⟩:=hp
 have hl:=Vl zs p
 let G' : Gh:={ ρ:=fun id => if id = 2 then G.ρ 1 else G.ρ id,H:=[.c [.d (.i .i64 p)],.gone,.a (.is (Au zs p))],m:=G.m }
 have gle : GI G G':=by
  refine ⟨fun id q hq => ?_,Mem.le_refl _⟩
  rw [hG] at hq
  match id with
  | 0 => cases hq;exact ⟨_,rfl,rfl,rfl⟩
  | 1 => cases hq;exact ⟨.gone,rfl,trivial⟩
  | i + 2 => simp at hq
 have own' : ∀ c,Own G' c ↔ Own G c:=by
  intro c
  constructor
  ·rintro ⟨j,M,q,hq,lq,hr⟩
   match j with
   | 0 => exact ⟨0,M,_,hbc,rfl,hr⟩
   | 1 => cases hq;cases lq
   | 2 => exact ⟨1,M,_,hb1,rfl,hr⟩
   | j + 3 => cases hq
  ·rintro ⟨j,M,q,hq,lq,hr⟩
   rw [hG] at hq
   match j with
   | 0 => exact ⟨0,M,_,rfl,rfl,hr⟩
   | 1 => exact ⟨2,M,_,rfl,rfl,hr⟩
   | j + 2 => simp at hq
 rcases hp (by rw [He.n]) with ⟨hz,a,rfl⟩ | ⟨b,N,cap,hρ,rfl,hnc,hcm,hN⟩
 ·exact absurd (List.length_eq_zero_iff.1 hz) h0
 ·obtain ⟨_,_,hB⟩:=hR.blk 1 _ hb1
  rcases hB with ⟨_,hno⟩ | ⟨b',N',vs,T,hρ',hw,hM,hcell⟩
  ·rw [hρ] at hno;cases hno
  rw [hρ] at hρ';cases hρ'
  have hBc:=hR.blk 0 _ hbc
  obtain ⟨c',Nc',vc,Tc,hρc',hwc,hMc,hlc,hcc⟩:=hBc
  rw [hρc] at hρc';cases hρc'
  have hlt : b < w.heap.size:=(Array.getElem?_eq_some_iff.1 hw).1
  have hltc : c < w.heap.size:=(Array.getElem?_eq_some_iff.1 hwc).1
  have hne : c ≠ b:=fun e => by
   subst e
   have:=hR.inj 0 1 _ _ _ _ _ hbc hb1 rfl rfl hρc hρ
   cases this
  have hcid : w.cell? ⟨c,0,none⟩ = some (.int .i64 p):=by
   obtain ⟨v0,q1,q2⟩:=hcc 0 (.d (.i .i64 p)) rfl
   simp only [RV,RD] at q2
   subst q2
   unfold World.cell?
   simp only [hwc,Option.isSome_none,Bool.false_eq_true,if_false]
   exact q1
  have hrun:=AnyE.slices_DeleteFunc Tryz.W9 (Value.int .i64) (fun _ => rfl) (fun x => x == p) 207 #[.pointer (some ⟨c,0,none⟩)] (enters_of Tryz.func207 (by kernel_rfl) rfl) 0 Tryz.zeroValue3 b 0 cap zs.toArray w (Za p c w hltc hcid) (WL p c b 0 zs.toArray.size w hltc hne hcid) (Sx He hw hcell) (by simp;omega) (by simpa using hnc)
  refine hrun.mono ?_
  rintro e w' ⟨rfl,n,rfl⟩
  have hvl : zs.length ≤ vs.size:=by omega
  have e1 : (zs.toArray.toList.filter fun x => !(x == p)) = Au zs p:=rfl
  rw [e1,putRow_ahead,Pd (Value.int .i64) hw]
  have hoth : ∀ d,¬ Own G d ∨ d = c → (Sort.ahead (w.setRow b (putCells (Value.int .i64) 0 (Au zs p ++ List.replicate (zs.toArray.size - (Au zs p).length) 0).toArray vs)) n).heap[d]? = w.heap[d]?:=fun d hd => setRow_other w b d _ (fun e => by
   rcases hd with hd | hd
   ·exact hd (by rw [e];exact ⟨1,N,_,hb1,rfl,hρ⟩)
   ·exact hne (hd ▸ e))
  have hB' : BR G' (Sort.ahead (w.setRow b (putCells (Value.int .i64) 0 (Au zs p ++ List.replicate (zs.toArray.size - (Au zs p).length) 0).toArray vs)) n) 2 (.a (.is (Au zs p))):=by
   refine ⟨He.sl _,He.ok _,.inr ⟨b,N,_,T,hρ,setRow_heap w b vs _ T _ hw,by simp [putCells];omega,?_⟩⟩
   refine Sy He (fun k hk => ⟨by simp;omega,?_⟩) (by omega)
   rw [getElem!_pos _ k (by simp;omega),List.getD_eq_getElem?_getD,List.getElem?_eq_getElem hk]
   simp [List.getElem_append_left,hk]
  have hH : Af G' (Sort.ahead (w.setRow b (putCells (Value.int .i64) 0 (Au zs p ++ List.replicate (zs.toArray.size - (Au zs p).length) 0).toArray vs)) n):=by
   refine ⟨fun id q hq => ?_,fun i j q r d N1 N2 hq hr lq lr e1 e2 => ?_,fun d k v hv => ?_,fun d hd k => hR.sep d ((own' d).1 hd) k,hR.st⟩
   ·match id with
    | 0 =>
     cases hq
     exact (hR.blk 0 _ hbc).Lq gle (fun d M _ hd => hoth d (.inr (by rw [hρc] at hd;cases hd;rfl))) rfl
    | 1 => cases hq;trivial
    | 2 => cases hq;exact hB'
    | j + 3 => cases hq
   ·match i,j with
    | 0,0 => rfl
    | 2,2 => rfl
    | 0,2 => exact absurd (hR.inj 0 1 _ _ _ _ _ hbc hb1 rfl rfl e1 e2) (by decide)
    | 2,0 => exact absurd (hR.inj 1 0 _ _ _ _ _ hb1 hbc rfl rfl e1 e2) (by decide)
    | 1,_ => cases hq;cases lq
    | _,1 => cases hr;cases lr
    | j + 3,_ => cases hq
    | _,j + 3 => cases hr
   ·have hno : ¬ Own G d:=fun h => by rw [hR.sep d h k] at hv;cases hv
    rw [World.cell?_of_block (w:=w) (hoth d (.inl hno))]
    exact hR.mem d k v hv
  refine ⟨_,.sl 2 (Au zs p).length 1,G',rfl,⟨rfl,rfl⟩,?_,hH,⟨rfl,rfl,rfl,by show w.heap.size ≤ (w.setRow b _).heap.size;simp,fun d hd ho => ⟨hoth d (.inl ho),fun h => ho ((own' d).1 h)⟩,fun _ _ _ hv => .inl hv,gle⟩⟩
  simp only [RV]
  exact ⟨rfl,.a (.is (Au zs p)),rfl,He.z _,by rw [He.n];exact Nat.le_refl _,fun _ => .inr ⟨b,N,cap,hρ,rfl,by omega,hcm,hN⟩⟩
end Go.Proofs.YtnahkfkljohjaaaGreatDoor
namespace Go.Proofs.YtnahkfkljohjaaaGreatDoor
namespace Nd
open Go.Gar
open Wi (A8 B0 Ak AX B8)
set_option maxRecDepth 4000
abbrev N9 : List Nat:=[0,1,2,3,6,7,8,10,25]
def aH (a i : Int) : Int:=if 0 ≤ i ∧ i < 16 then Ba (Ba a + 2 ^ i.toNat) else Ba a
theorem TJ (a i : Int) : Go.Gar.Fn Tryz.prog 198 [.i .i64 a,.i .i64 i] (.i .i64 (aH a i)):=by
 have c1:=Cw a
 have hp:=HY a
 refine A0 AB Tryz.func198 rfl rfl (Nat.le_of_ble_eq_true rfl) ?_
 by_cases hi : 0 ≤ i ∧ i < 16
 ·have hT : aH a i = Ba (Ba a + 2 ^ i.toNat):=if_pos hi
  rw [hT]
  generalize Ba a = p at *
  have : i = 0 ∨ i = 1 ∨ i = 2 ∨ i = 3 ∨ i = 4 ∨ i = 5 ∨ i = 6 ∨ i = 7 ∨ i = 8 ∨ i = 9 ∨ i = 10 ∨ i = 11 ∨ i = 12 ∨ i = 13 ∨ i = 14 ∨ i = 15:=by omega
  clear hT hi
  rcases this with rfl | rfl | rfl | rfl | rfl | rfl | rfl | rfl | rfl | rfl | rfl | rfl | rfl | rfl | rfl | rfl
  all_goals
   refine wd [0,1,4,10] [] [(3,1),(4,1)] A1 (Ao @c1 @Cw) ?_;with_reducible repeat' first|constructor|intro hc;try simp only[A3] at hc
   refine ⟨_,_,rfl,rfl,?_⟩;simp [AE,A6,A5,A4]
 ·have hT : aH a i = Ba a:=if_neg hi
  rw [hT]
  generalize Ba a = p at *
  by_cases h0 : i < 0
  ·have f1 : decide (i < 0) = true:=decide_eq_true h0
   refine wd [0,1,4,10] [] [] (AD f1) (AD @c1) ?_;with_reducible repeat' first|constructor|intro hc;try simp only[A3] at hc
   refine ⟨_,_,rfl,rfl,?_⟩;simp [AE,A6,A5,A4]
  ·have f1 : decide (i < 0) = false:=decide_eq_false h0
   have f2 : decide (i ≥ 16) = true:=decide_eq_true (by omega)
   refine wd [0,1,4,10] [] [] (Ao f1 f2) (AD @c1) ?_;with_reducible repeat' first|constructor|intro hc;try simp only[A3] at hc
   refine ⟨_,_,rfl,rfl,?_⟩;simp [AE,A6,A5,A4]
theorem Zp (n : Int) : Go.Gar.Fn Tryz.prog 150 [.i .i64 n] (.b (Ag n)):=by
 refine A0 AB Tryz.func150 rfl rfl (Nat.le_of_ble_eq_true rfl) ?_
 refine wk [0,2] [] A1 A1 ?_;with_reducible repeat' first|constructor|intro hc;try simp only[A3] at hc
 all_goals (refine ⟨_,_,rfl,rfl,?_⟩;simp only [C0];refine congrArg D.b ?_;unfold Ag;grind)
theorem Xg (v : View) (n : Int) : Go.Gar.Fn Tryz.prog 151 [v.d,.i .i64 n] (.i .i64 (if n = v.id then -1 else n)):=by
 obtain ⟨id,base,list,pred,f⟩:=v
 refine A0 AB Tryz.func151 rfl rfl (Nat.le_of_ble_eq_true rfl) ?_
 by_cases h : n = id
 ·have f1:=AA h
  rw [if_pos h]
  refine wk [0,1,2,4,8] [] (AD f1) A1 ?_;with_reducible repeat' first|constructor|intro hc;try simp only[A3] at hc
  refine ⟨_,_,rfl,rfl,?_⟩;simp [AE,A6,A5,A4]
 ·have f1:=eq_false' h
  rw [if_neg h]
  refine wk [0,1,2,4,8] [] (AD f1) A1 ?_;with_reducible repeat' first|constructor|intro hc;try simp only[A3] at hc
  refine ⟨_,_,rfl,rfl,?_⟩;simp [AE,A6,A5,A4]
abbrev finD (f : Nat → Int) : D:=.agg [.i .i64 (f 0),.i .i64 (f 1),.i .i64 (f 2),.i .i64 (f 3),.i .i64 (f 4),.i .i64 (f 5),.i .i64 (f 6),.i .i64 (f 7),.i .i64 (f 8),.i .i64 (f 9),.i .i64 (f 10),.i .i64 (f 11),.i .i64 (f 12),.i .i64 (f 13),.i .i64 (f 14),.i .i64 (f 15)]
theorem XT {f g : Nat → Int} (h : CL f = CL g) (k : Nat) (hk : k < 16) : f k = g k:=by
 simp only [CL,List.cons.injEq] at h
 obtain ⟨h0,h1,h2,h3,h4,h5,h6,h7,h8,h9,h10,h11,h12,h13,h14,h15,-⟩:=h
 rcases Li hk with rfl | rfl | rfl | rfl | rfl | rfl | rfl | rfl | rfl | rfl | rfl | rfl | rfl | rfl | rfl | rfl <;> assumption
theorem WA (v : View) (g : Nat → Int) (hb : v.base.length ≤ 1000) (hl : v.list.length ≤ 1000) : Go.Gar.Fn Tryz.prog 152 [v.d,finD g] (View.d ⟨v.id,v.base,v.list,v.pred,g⟩):=by
 have c1:=Fw v (by omega) (by omega)
 have hE:=fE v.f g
 obtain ⟨id,base,list,pred,f⟩:=v
 dsimp only at *
 refine A0 AB Tryz.func152 rfl rfl (Nat.le_of_ble_eq_true rfl) ?_
 by_cases h : CL f = CL g
 ·rw [decide_eq_true h] at hE
  have q:=XT h
  refine wk [0,1,2,3,4,5,11] [] (AD hE) (AD @c1) ?_;with_reducible repeat' first|constructor|intro hc;try simp only[A3] at hc
  refine ⟨_,_,rfl,rfl,?_⟩;simp [AE,A6,A5,A4,View.d,View.cells,q 0 (by decide),q 1 (by decide),q 2 (by decide),q 3 (by decide),q 4 (by decide),q 5 (by decide),q 6 (by decide),q 7 (by decide),q 8 (by decide),q 9 (by decide),q 10 (by decide),q 11 (by decide),q 12 (by decide),q 13 (by decide),q 14 (by decide),q 15 (by decide)]
 ·rw [decide_eq_false h] at hE
  refine wk [0,1,2,3,4,5,11] [] (AD hE) (AD @c1) ?_;with_reducible repeat' first|constructor|intro hc;try simp only[A3] at hc
  refine ⟨_,_,rfl,rfl,?_⟩;simp [AE,A6,A5,A4,View.d,View.cells]
theorem Wp (v : View) (i : Int) (hb : v.base.length ≤ 1000) (hl : v.list.length ≤ 1000) : Go.Gar.Fn Tryz.prog 149 [v.d,.i .i64 i] (.tup [.i .i64 (if decide (0 ≤ i) && (decide (i < 16) && AF v) then aH v.id i else 0),.i .i64 (if decide (0 ≤ i) && (decide (i < 16) && AF v) then 0 else 2)]):=by
 have c1:=Am v hb hl
 have c2:=TJ v.id i
 generalize AF v = b at *
 generalize aH v.id i = z at *
 obtain ⟨id,base,list,pred,f⟩:=v
 refine A0 AB Tryz.func149 rfl rfl (Nat.le_of_ble_eq_true rfl) ?_
 by_cases h0 : i < 0
 ·have f1 : decide (i < 0) = true:=decide_eq_true h0
  rw [decide_eq_false (show ¬ 0 ≤ i by omega)]
  have sc : No 3:=trivial;refine wk [0,1,2,4,5,16] [] (AD f1) A1 ?_;clear sc;with_reducible repeat' first|constructor|intro hc;try simp only[A3] at hc
  refine ⟨_,_,rfl,rfl,?_⟩;simp [AE,A6,A5,A4]
 ·have f1 : decide (i < 0) = false:=decide_eq_false h0
  rw [decide_eq_true (show 0 ≤ i by omega)]
  by_cases h1 : i < 16
  ·have f2 : decide (i ≥ 16) = false:=decide_eq_false (by omega)
   rw [decide_eq_true h1]
   cases b with
   | true =>
    have sc : No 3:=trivial;refine wk [0,1,2,4,5,16] [] (Ao f1 f2) (Ao @c1 @c2) ?_;clear sc;with_reducible repeat' first|constructor|intro hc;try simp only[A3] at hc
    refine ⟨_,_,rfl,rfl,?_⟩;simp [AE,A6,A5,A4]
   | false =>
    have sc : No 3:=trivial;refine wk [0,1,2,4,5,16] [] (Ao f1 f2) (AD @c1) ?_;clear sc;with_reducible repeat' first|constructor|intro hc;try simp only[A3] at hc
    refine ⟨_,_,rfl,rfl,?_⟩;simp [AE,A6,A5,A4]
  ·have f2 : decide (i ≥ 16) = true:=decide_eq_true (by omega)
   rw [decide_eq_false h1]
   have sc : No 3:=trivial;refine wk [0,1,2,4,5,16] [] (Ao f1 f2) A1 ?_;clear sc;with_reducible repeat' first|constructor|intro hc;try simp only[A3] at hc
   refine ⟨_,_,rfl,rfl,?_⟩;simp [AE,A6,A5,A4]
theorem Rx (v : View) (i n : Int) (hb : v.base.length ≤ 1000) (hl : v.list.length ≤ 1000) : Go.Gar.Fn Tryz.prog 98 [v.d,.i .i64 i,.i .i64 n] (.tup [(FF v i n).1.d,.i .i64 (FF v i n).2]):=by
 have c1:=Wp v i hb hl
 have c2:=Zp n
 have c3:=Xg v n
 have c4:=WA v (Om v.f i.toNat (if n = v.id then -1 else n)) hb hl
 have c5:=Fw v (by omega) (by omega)
 have hT : FF v i n = if (decide (0 ≤ i) && (decide (i < 16) && AF v)) && Ag n then (⟨v.id,v.base,v.list,v.pred,Om v.f i.toNat (if n = v.id then -1 else n)⟩,0) else (v,2):=rfl
 refine A0 AB Tryz.func98 rfl rfl (Nat.le_of_ble_eq_true rfl) ?_
 have hi : (decide (0 ≤ i) && (decide (i < 16) && AF v)) = true → 0 ≤ i ∧ i < 16:=by
  intro h
  simp only [Bool.and_eq_true,decide_eq_true_eq] at h
  exact ⟨h.1,h.2.1⟩
 generalize (decide (0 ≤ i) && (decide (i < 16) && AF v)) = b at *
 generalize Ag n = b2 at *
 generalize (if n = v.id then -1 else n) = p at *
 generalize aH v.id i = z at *
 obtain ⟨id,base,list,pred,f⟩:=v
 dsimp only at *
 cases b with
 | false =>
  rw [hT]
  simp only [Bool.false_eq_true,if_false] at c1
  clear hT c4
  have sc : No 3:=trivial;refine wk N9 [] A1 (Ao @c1 @c5) ?_;clear sc;with_reducible repeat' first|constructor|intro hc;try simp only[A3] at hc
  refine ⟨_,_,rfl,rfl,?_⟩;simp [AE,A6,A5,A4,View.d,View.cells]
 | true =>
 simp only [if_true] at c1
 cases b2 with
 | false =>
  rw [hT]
  clear hT c4
  have sc : No 3:=trivial;refine wk N9 [] A1 (Bo @c1 @c2 @c5) ?_;clear sc;with_reducible repeat' first|constructor|intro hc;try simp only[A3] at hc
  refine ⟨_,_,rfl,rfl,?_⟩;simp [AE,A6,A5,A4,View.d,View.cells]
 | true =>
  rw [hT]
  have h:=hi rfl
  have : i = 0 ∨ i = 1 ∨ i = 2 ∨ i = 3 ∨ i = 4 ∨ i = 5 ∨ i = 6 ∨ i = 7 ∨ i = 8 ∨ i = 9 ∨ i = 10 ∨ i = 11 ∨ i = 12 ∨ i = 13 ∨ i = 14 ∨ i = 15:=by omega
  clear hT hi h c5
  rcases this with rfl | rfl | rfl | rfl | rfl | rfl | rfl | rfl | rfl | rfl | rfl | rfl | rfl | rfl | rfl | rfl
  all_goals
   have sc : No 3:=trivial;refine wk N9 [] A1 (GD @c1 @c2 @c3 @c4) ?_;clear sc;with_reducible repeat' first|constructor|intro hc;try simp only[A3] at hc
   refine ⟨_,_,rfl,rfl,?_⟩;simp [AE,A6,A5,A4,View.d,View.cells]
end Nd
end Go.Proofs.YtnahkfkljohjaaaGreatDoor
namespace Go.Proofs.YtnahkfkljohjaaaGreatDoor
open Go.Gar
set_option maxRecDepth 4000
abbrev DC : List Nat:=[0,1,2,3,4,5,11,17,23,29,37]
theorem XC (x y : Item) : Go.Gar.Fn Tryz.prog 50 [x.d,y.d] (.i .i64 (CS x y)):=by
 obtain ⟨k,v,n,g⟩:=x
 obtain ⟨k',v',n',g'⟩:=y
 refine A0 AB Tryz.func50 rfl rfl (Nat.le_of_ble_eq_true rfl) ?_
 rcases Int.lt_trichotomy n n' with h | h | h
 ·have eT : CS ⟨k,v,n,g⟩ ⟨k',v',n',g'⟩ = -1:=by simp [CS,h]
  refine wk DC [] A1 A1 ?_;with_reducible repeat' first|constructor|intro hc;try simp only[A3] at hc
  refine ⟨_,_,rfl,rfl,?_⟩;simp [AE,A6,A5,A4,eT]
 ·subst h
  rcases Int.lt_trichotomy v v' with h | h | h
  ·have eT : CS ⟨k,v,n,g⟩ ⟨k',v',n,g'⟩ = -1:=by simp [CS,h]
   refine wk DC [] A1 A1 ?_;with_reducible repeat' first|constructor|intro hc;try simp only[A3] at hc
   refine ⟨_,_,rfl,rfl,?_⟩;simp [AE,A6,A5,A4,eT]
  ·subst h
   cases g <;> cases g'
   ·have eT : CS ⟨k,v,n,false⟩ ⟨k',v,n,false⟩ = 0:=by simp [CS]
    refine wk DC [] A1 A1 ?_;with_reducible repeat' first|constructor|intro hc;try simp only[A3] at hc
    refine ⟨_,_,rfl,rfl,?_⟩;simp [AE,A6,A5,A4,eT]
   ·have eT : CS ⟨k,v,n,false⟩ ⟨k',v,n,true⟩ = -1:=by simp [CS]
    refine wk DC [] A1 A1 ?_;with_reducible repeat' first|constructor|intro hc;try simp only[A3] at hc
    refine ⟨_,_,rfl,rfl,?_⟩;simp [AE,A6,A5,A4,eT]
   ·have eT : CS ⟨k,v,n,true⟩ ⟨k',v,n,false⟩ = 1:=by simp [CS]
    refine wk DC [] A1 A1 ?_;with_reducible repeat' first|constructor|intro hc;try simp only[A3] at hc
    refine ⟨_,_,rfl,rfl,?_⟩;simp [AE,A6,A5,A4,eT]
   ·have eT : CS ⟨k,v,n,true⟩ ⟨k',v,n,true⟩ = 0:=by simp [CS]
    refine wk DC [] A1 A1 ?_;with_reducible repeat' first|constructor|intro hc;try simp only[A3] at hc
    refine ⟨_,_,rfl,rfl,?_⟩;simp [AE,A6,A5,A4,eT]
  ·have eT : CS ⟨k,v,n,g⟩ ⟨k',v',n,g'⟩ = 1:=by simp [CS,h,show ¬ v < v' by omega]
   refine wk DC [] A1 A1 ?_;with_reducible repeat' first|constructor|intro hc;try simp only[A3] at hc
   refine ⟨_,_,rfl,rfl,?_⟩;simp [AE,A6,A5,A4,eT]
 ·have eT : CS ⟨k,v,n,g⟩ ⟨k',v',n',g'⟩ = 1:=by simp [CS,h,show ¬ n < n' by omega]
  refine wk DC [] A1 A1 ?_;with_reducible repeat' first|constructor|intro hc;try simp only[A3] at hc
  refine ⟨_,_,rfl,rfl,?_⟩;simp [AE,A6,A5,A4,eT]
theorem Sz (x y : Item) : Go.Gar.Fn Tryz.prog 17 [x.d,y.d] (.b (decide (CS x y > 0))):=by
 have c:=XC x y
 refine A0 AB Tryz.func17 rfl rfl (Nat.le_of_ble_eq_true rfl) ?_
 refine wk [0,1,2,3,4] [] A1 (AD @c) ?_;with_reducible repeat' first|constructor|intro hc;try simp only[A3] at hc
 refine ⟨_,_,rfl,rfl,?_⟩;simp [AE,A6,A5,A4]
end Go.Proofs.YtnahkfkljohjaaaGreatDoor
