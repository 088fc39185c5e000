/- Part 44 of the texts of this proof, put together by a program and made short.
Conditions: none; what each theorem asks stands in its own hypotheses. -/
import Derived.Test.YtnahkfkljohjaaaGreatDoorH36
import Derived.Test.YtnahkfkljohjaaaGreatDoorH40
import Derived.Test.YtnahkfkljohjaaaGreatDoorH42
import Derived.Test.YtnahkfkljohjaaaGreatDoorH43
import Derived.Ground.SlgfProg
import Derived.Lib.SliceRun
import Derived.Shelf.SlicesE.DeleteFunc
import Derived.Sort.Walk0
import Derived.KernelRfl
import Derived.RangeFuncIn
import Derived.OpenShut
import Derived.ProofKit
import Derived.CallsIn
import Derived.RangeFuncLeaves
import Derived.OrdersIn
import Derived.TacticsIn
import Derived.ChangeKeysEq
import Derived.Laws.AppendOwn
import Derived.Laws.OwnMore
import Derived.Laws.MakeOwn
import Derived.Laws.Rows
import Derived.Laws.Cells
import Derived.Laws.Tables
import Derived.Laws.CopyRow
import Derived.Laws.Strings
import Derived.Laws.IdiomStrings
import Derived.Laws.BytesArg
import Derived.Sort.Grow
import Derived.Laws.Cover3
import Derived.RecoverIn
import Derived.Test.YtnahkfkljohjaaaGreatDoorProg
set_option linter.unusedSimpArgs false
set_option linter.unusedVariables false
set_option linter.unnecessarySimpa false
set_option maxHeartbeats 40000000
namespace Go.Proofs.YtnahkfkljohjaaaGreatDoor
namespace Nd
open Go.Gar
open Wi (A8 B0 Ak AX B8 mC)
set_option maxRecDepth 4000
abbrev KA : List Nat:=[0,1,2,3,5,6,7,8]
theorem Oc {G : Gh} {x : AV} {d : D} (hx : Jl [x] [d]) (suf : List AV) : ∀ (pre : List AV) {vs : List Value},An G (pre ++ x :: suf) vs → An G (pre ++ .d d :: suf) vs
 | [],vs,h => by
  simp only [List.nil_append,An] at h ⊢
  obtain ⟨u,q,e,hu,hq⟩:=h
  have h4 : An G [x] [u]:=by simp only [An];exact ⟨u,[],rfl,hu,rfl⟩
  have h5:=HT.2 (N3 hx h4)
  simp only [List.map_cons,List.map_nil,An] at h5
  obtain ⟨u2,q3,e4,hu2,e5⟩:=h5
  cases e4
  exact ⟨u,q,e,hu2,hq⟩
 | a :: pre,vs,h => by
  simp only [List.cons_append,An] at h ⊢
  obtain ⟨u,q,e,hu,hq⟩:=h
  exact ⟨u,q,e,hu,Oc hx suf pre hq⟩
theorem B4.ap {P : Program} {f : FuncId} (pre : List AV) {x : AV} {d : D} {suf : List AV} {H : List AC} {r : AV} {H' : List AC} (h : B4 P f (pre ++ .d d :: suf) H r H') (hx : Jl [x] [d]) : B4 P f (pre ++ x :: suf) H r H' :=
 ⟨h.1,fun G w vs h1 h2 h3 => h.2 G w vs h1 h2 (Oc hx suf pre h3)⟩
abbrev Yl (n : Node) (m : A8) : Node:={ n with view:=(BW n.view n.phase n.of_ m).1.view,phase:=(BW n.view n.phase n.of_ m).1.phase,of_:=(BW n.view n.phase n.of_ m).1.of_ }
abbrev Yk (n : Node) (d : Int) : Node:={ n with view:=(C8 n.view n.phase n.of_ d).view,phase:=(C8 n.view n.phase n.of_ d).phase,of_:=(C8 n.view n.phase n.of_ d).of_ }
abbrev YQ (n : Node) : Node:={ n with phase:=0,of_:=0 }
theorem Ns (n : Node) (m : A8) (h0 : 0 ≤ n.phase) (hb : n.view.base.length ≤ 1000) (hl : n.view.list.length ≤ 1000) (hm : Ab m) : B4 Tryz.prog 38 [.ptr 0 0 77,.ptr 1 0 15] [.c (hC n .e0),.c (mX m)] (.tup []) [.c (hC (Yl n m) (.d (A9 (BW n.view n.phase n.of_ m).2))),.c (mX m)]:=by
 have c1:=T3 n.view n.phase n.of_ m h0 hb hl hm
 unfold Yl
 generalize BW n.view n.phase n.of_ m = r at *
 obtain ⟨⟨w,p,o⟩,q⟩:=r
 dsimp only at *
 unfold View.d View.cells Wi.A8.d Wi.A8.cells at c1
 unfold mX hC
 refine A7 AB Tryz.func38 rfl rfl (Nat.le_of_ble_eq_true rfl) ?_
 refine wk [0,1] [] A1 (AD @c1) ?_;with_reducible repeat' first|constructor|intro hc;try simp only[A3] at hc
 exact ⟨⟨[],[.c (hC { n with view:=w,phase:=p,of_:=o } (.d (A9 q))),.c (mX m)],_⟩,(A2.ck rfl),Nat.le_of_ble_eq_true rfl,_,_,rfl,rfl,rfl,rfl⟩
theorem Mm (n : Node) (d : Int) (hb : n.view.base.length ≤ 1000) (hl : n.view.list.length ≤ 1000) : B4 Tryz.prog 43 [.ptr 0 0 77,.ptr 1 0 1] [.c (hC n .e0),.c [.d (.i .i64 d)]] (.tup []) [.c (hC (Yk n d) (.d (A9 []))),.c [.d (.i .i64 d)]]:=by
 have c1:=Ss n.view n.phase n.of_ d hb hl
 unfold Yk
 generalize C8 n.view n.phase n.of_ d = r at *
 obtain ⟨w,p,o⟩:=r
 dsimp only at *
 unfold View.d View.cells at c1
 unfold hC
 refine A7 AB Tryz.func43 rfl rfl (Nat.le_of_ble_eq_true rfl) ?_
 refine wk [0,1] [] A1 (AD @c1) ?_;with_reducible repeat' first|constructor|intro hc;try simp only[A3] at hc
 exact ⟨⟨[],[.c (hC { n with view:=w,phase:=p,of_:=o } (.d (A9 []))),.c [.d (.i .i64 d)]],_⟩,(A2.trans' (A2.Ix 0 76 (.sl 16 []) rfl rfl rfl rfl (by simp [A4])) (A2.ck rfl) (Nat.le_of_ble_eq_true rfl)),Nat.le_of_ble_eq_true rfl,_,_,rfl,rfl,rfl,rfl⟩
theorem MW (n : Node) : B4 Tryz.prog 48 [.ptr 0 0 77] [.c (hC n .e0)] (.tup []) [.c (hC (YQ n) (.d (A9 [])))]:=by
 unfold hC
 refine A7 AB Tryz.func48 rfl rfl (Nat.le_of_ble_eq_true rfl) ?_
 refine wk [0] [] A1 A1 ?_;with_reducible repeat' first|constructor|intro hc;try simp only[A3] at hc
 exact ⟨⟨[],[.c (hC (YQ n) (.d (A9 [])))],_⟩,(A2.trans' (A2.Ix 0 76 (.sl 16 []) rfl rfl rfl rfl (by simp [A4])) (A2.ck rfl) (Nat.le_of_ble_eq_true rfl)),Nat.le_of_ble_eq_true rfl,_,_,rfl,rfl,rfl,rfl⟩
theorem NN (n : Node) (m : A8) (w : Int) (was : Job) (hw : w = 5 ∨ w = 6 ∨ w = 7) (hx0 : 0 ≤ n.next) (hx1 : n.next < 16) (hb : n.view.base.length ≤ 1000) (hl : n.view.list.length ≤ 1000) (hn : n.keep.length ≤ 1048576) (hm : Ab m) (hj : was.left.length ≤ 100000) (ha : (As n.view was m).asks.length ≤ 100000) (hs : (As n.view was m).job.item.key.length ≤ 9223372036854775807) : B4 Tryz.prog 40 [.d (.i .u8 w),.d was.d,.ptr 0 0 77,.ptr 1 0 15] [.c (hC n .e0),.c (mX m)] (.tup []) [.c (hC (AK n w (decide (was.phase = 5)) (As n.view was m)).1 (.d (A9 (AK n w (decide (was.phase = 5)) (As n.view was m)).2))),.c (mX m)]:=by
 have c1:=Vn n.view was m hb hl hj hm
 generalize As n.view was m = c at *
 have cG:=HF n w (decide (was.phase = 5)) c hw ha hx0 hx1 hb hl hn hs
 generalize AK n w (decide (was.phase = 5)) c = r at *
 refine A7 AB Tryz.func40 rfl rfl (Nat.le_of_ble_eq_true rfl) ?_
 unfold View.d View.cells Job.d Job.cells Wi.A8.d Wi.A8.cells at c1
 unfold Job.d Job.cells at cG ⊢
 unfold hC at cG ⊢
 by_cases h5 : was.phase = 5
 ·have f1:=AA h5
  rw [decide_eq_true h5] at cG
  have d1:=Ds.mk [0] (cG);refine wk KA [] (AD f1) (AD @c1) ?_;clear d1;with_reducible repeat' first|constructor|intro hc;try simp only[A3] at hc
  exact ⟨⟨[],[.c (hC r.1 (.d (A9 r.2))),.c (mX m)],_⟩,(A2.ck rfl),Nat.le_of_ble_eq_true rfl,_,_,rfl,rfl,rfl,rfl⟩
 ·have f1:=eq_false' h5
  rw [decide_eq_false h5] at cG
  have d1:=Ds.mk [0] (cG);refine wk KA [] (AD f1) (AD @c1) ?_;clear d1;with_reducible repeat' first|constructor|intro hc;try simp only[A3] at hc
  exact ⟨⟨[],[.c (hC r.1 (.d (A9 r.2))),.c (mX m)],_⟩,(A2.ck rfl),Nat.le_of_ble_eq_true rfl,_,_,rfl,rfl,rfl,rfl⟩
theorem Mj (n : Node) (d : Int) (w : Int) (was : Job) (hw : w = 5 ∨ w = 6 ∨ w = 7) (hx0 : 0 ≤ n.next) (hx1 : n.next < 16) (hb : n.view.base.length ≤ 1000) (hl : n.view.list.length ≤ 1000) (hn : n.keep.length ≤ 1048576) (hj : was.left.length ≤ 100000) (ha : (Az n.view was d).asks.length ≤ 100000) (hs : (Az n.view was d).job.item.key.length ≤ 9223372036854775807) : B4 Tryz.prog 45 [.d (.i .u8 w),.d was.d,.ptr 0 0 77,.ptr 1 0 1] [.c (hC n .e0),.c [.d (.i .i64 d)]] (.tup []) [.c (hC (AK n w (decide (was.phase = 5)) (Az n.view was d)).1 (.d (A9 (AK n w (decide (was.phase = 5)) (Az n.view was d)).2))),.c [.d (.i .i64 d)]]:=by
 have c1:=Qq n.view was d hb hl hj
 generalize Az n.view was d = c at *
 have cG:=HF n w (decide (was.phase = 5)) c hw ha hx0 hx1 hb hl hn hs
 generalize AK n w (decide (was.phase = 5)) c = r at *
 refine A7 AB Tryz.func45 rfl rfl (Nat.le_of_ble_eq_true rfl) ?_
 unfold View.d View.cells Job.d Job.cells at c1
 unfold Job.d Job.cells at cG ⊢
 unfold hC at cG ⊢
 by_cases h5 : was.phase = 5
 ·have f1:=AA h5
  rw [decide_eq_true h5] at cG
  have d1:=Ds.mk [0] (cG);refine wk KA [] (AD f1) (AD @c1) ?_;clear d1;with_reducible repeat' first|constructor|intro hc;try simp only[A3] at hc
  exact ⟨⟨[],[.c (hC r.1 (.d (A9 r.2))),.c [.d (.i .i64 d)]],_⟩,(A2.ck rfl),Nat.le_of_ble_eq_true rfl,_,_,rfl,rfl,rfl,rfl⟩
 ·have f1:=eq_false' h5
  rw [decide_eq_false h5] at cG
  have d1:=Ds.mk [0] (cG);refine wk KA [] (AD f1) (AD @c1) ?_;clear d1;with_reducible repeat' first|constructor|intro hc;try simp only[A3] at hc
  exact ⟨⟨[],[.c (hC r.1 (.d (A9 r.2))),.c [.d (.i .i64 d)]],_⟩,(A2.ck rfl),Nat.le_of_ble_eq_true rfl,_,_,rfl,rfl,rfl,rfl⟩
theorem Nl (n : Node) (w : Int) (was : Job) (hw : w = 5 ∨ w = 6 ∨ w = 7) (hx0 : 0 ≤ n.next) (hx1 : n.next < 16) (hb : n.view.base.length ≤ 1000) (hl : n.view.list.length ≤ 1000) (hn : n.keep.length ≤ 1048576) (hs : was.item.key.length ≤ 9223372036854775807) : B4 Tryz.prog 49 [.d (.i .u8 w),.d was.d,.ptr 0 0 77] [.c (hC n .e0)] (.tup []) [.c (hC (if was.phase = 5 then n else (AK n w false ⟨BG (BH was 100),[],false⟩).1) (.d (A9 [])))]:=by
 have cG:=HF n w false ⟨BG (BH was 100),[],false⟩ hw (Nat.zero_le _) hx0 hx1 hb hl hn hs
 have hq : (AK n w false ⟨BG (BH was 100),[],false⟩).2 = []:=rfl
 rw [hq] at cG
 refine A7 AB Tryz.func49 rfl rfl (Nat.le_of_ble_eq_true rfl) ?_
 by_cases h5 : was.phase = 5
 ·have f1:=AA h5
  rw [if_pos h5]
  unfold Job.d Job.cells hC
  refine wk [0,1,2,4,7] [] (AD f1) A1 ?_;with_reducible repeat' first|constructor|intro hc;try simp only[A3] at hc
  exact ⟨⟨[],[.c (hC n (.d (A9 [])))],_⟩,(A2.trans' (A2.Ix 0 76 (.sl 16 []) rfl rfl rfl rfl (by simp [A4])) (A2.ck rfl) (Nat.le_of_ble_eq_true rfl)),Nat.le_of_ble_eq_true rfl,_,_,rfl,rfl,rfl,rfl⟩
 ·have f1:=eq_false' h5
  rw [if_neg h5]
  generalize AK n w false ⟨BG (BH was 100),[],false⟩ = r at *
  unfold Job.d Job.cells hC at *
  dsimp only [BG,BH] at cG
  refine wk [0,1,2,4,7] [3] (AD f1) A1 ?_;with_reducible repeat' first|constructor|intro hc;try simp only[A3] at hc
  refine BN (A2.Ix 1 13 (.is []) rfl rfl rfl rfl trivial) (by simp) ?_
  have cG:=B4.ap (x:=.e0) [.ptr 0 0 77,_,_,_] cG (by repeat' (first | rfl | trivial | refine ⟨rfl,rfl,by simp [A4]⟩ | refine ⟨_,_,rfl,?_,?_⟩ | refine ⟨_,rfl,?_⟩))
  simp only [List.cons_append,List.nil_append] at cG
  have d1:=Ds.mk [0] (cG);refine wk [0,1,2,4,7] [] A1 A1 ?_;clear d1;with_reducible repeat' first|constructor|intro hc;try simp only[A3] at hc
  exact ⟨⟨[],[.c (hC r.1 (.d (A9 [])))],_⟩,(A2.ck rfl),Nat.le_of_ble_eq_true rfl,_,_,rfl,rfl,rfl,rfl⟩
theorem TW (n : Node) (m : A8) (hx0 : 0 ≤ n.next) (hx1 : n.next < 16) (hb : n.view.base.length ≤ 1000) (hl : n.view.list.length ≤ 1000) (hn : n.keep.length ≤ 1048576) (hm : Ab m) (hj : n.finger.left.length ≤ 100000) (ha : (As n.view n.finger m).asks.length ≤ 100000) (hs : (As n.view n.finger m).job.item.key.length ≤ 9223372036854775807) : B4 Tryz.prog 108 [.ptr 3 0 1,.ptr 4 0 1,.ptr 2 0 1] [.c (hC n .e0),.c (mX m),.c [.ptr 0 0 77],.c [Da],.c [.d (.i .u8 5)]] (.tup []) [.c (hC (AK n 5 (decide (n.finger.phase = 5)) (As n.view n.finger m)).1 (.d (A9 (AK n 5 (decide (n.finger.phase = 5)) (As n.view n.finger m)).2))),.c (mX m),.c [.ptr 0 0 77],.c [Da],.c [.d (.i .u8 5)]]:=by
 have cS:=Es n
 have cJ:=NN n m 5 n.finger (by decide) hx0 hx1 hb hl hn hm hj ha hs
 generalize (AK n 5 (decide (n.finger.phase = 5)) (As n.view n.finger m)) = r at *
 unfold Job.d Job.cells at cJ
 unfold hC at cS cJ ⊢
 unfold Da
 refine A7 AB Tryz.func108 rfl rfl (Nat.le_of_ble_eq_true rfl) ?_
 have d1:=Ds.mk [0] (cS);have d2:=Ds.mk [0,1] (cJ);refine wd [0,1,2] [] [(0,6),(1,6)] A1 A1 ?_;clear d2 d1;with_reducible repeat' first|constructor|intro hc;try simp only[A3] at hc
 exact ⟨⟨[],[.c (hC r.1 (.d (A9 r.2))),.c (mX m),.c [.ptr 0 0 77],.c [Da],.c [.d (.i .u8 5)]],_⟩,(A2.ck rfl),Nat.le_of_ble_eq_true rfl,_,_,rfl,rfl,rfl,rfl⟩
theorem Tg (n : Node) (m : A8) (hx0 : 0 ≤ n.next) (hx1 : n.next < 16) (hb : n.view.base.length ≤ 1000) (hl : n.view.list.length ≤ 1000) (hn : n.keep.length ≤ 1048576) (hm : Ab m) (hj : n.mirror.left.length ≤ 100000) (ha : (As n.view n.mirror m).asks.length ≤ 100000) (hs : (As n.view n.mirror m).job.item.key.length ≤ 9223372036854775807) : B4 Tryz.prog 108 [.ptr 3 0 1,.ptr 4 0 1,.ptr 2 0 1] [.c (hC n .e0),.c (mX m),.c [.ptr 0 0 77],.c [Da],.c [.d (.i .u8 6)]] (.tup []) [.c (hC (AK n 6 (decide (n.mirror.phase = 5)) (As n.view n.mirror m)).1 (.d (A9 (AK n 6 (decide (n.mirror.phase = 5)) (As n.view n.mirror m)).2))),.c (mX m),.c [.ptr 0 0 77],.c [Da],.c [.d (.i .u8 6)]]:=by
 have cS:=En n
 have cJ:=NN n m 6 n.mirror (by decide) hx0 hx1 hb hl hn hm hj ha hs
 generalize (AK n 6 (decide (n.mirror.phase = 5)) (As n.view n.mirror m)) = r at *
 unfold Job.d Job.cells at cJ
 unfold hC at cS cJ ⊢
 unfold Da
 refine A7 AB Tryz.func108 rfl rfl (Nat.le_of_ble_eq_true rfl) ?_
 have d1:=Ds.mk [0] (cS);have d2:=Ds.mk [0,1] (cJ);refine wd [0,1,2] [] [(0,6),(1,6)] A1 A1 ?_;clear d2 d1;with_reducible repeat' first|constructor|intro hc;try simp only[A3] at hc
 exact ⟨⟨[],[.c (hC r.1 (.d (A9 r.2))),.c (mX m),.c [.ptr 0 0 77],.c [Da],.c [.d (.i .u8 6)]],_⟩,(A2.ck rfl),Nat.le_of_ble_eq_true rfl,_,_,rfl,rfl,rfl,rfl⟩
theorem Sc (n : Node) (m : A8) (hx0 : 0 ≤ n.next) (hx1 : n.next < 16) (hb : n.view.base.length ≤ 1000) (hl : n.view.list.length ≤ 1000) (hn : n.keep.length ≤ 1048576) (hm : Ab m) (hj : n.client.left.length ≤ 100000) (ha : (As n.view n.client m).asks.length ≤ 100000) (hs : (As n.view n.client m).job.item.key.length ≤ 9223372036854775807) : B4 Tryz.prog 108 [.ptr 3 0 1,.ptr 4 0 1,.ptr 2 0 1] [.c (hC n .e0),.c (mX m),.c [.ptr 0 0 77],.c [Da],.c [.d (.i .u8 7)]] (.tup []) [.c (hC (AK n 7 (decide (n.client.phase = 5)) (As n.view n.client m)).1 (.d (A9 (AK n 7 (decide (n.client.phase = 5)) (As n.view n.client m)).2))),.c (mX m),.c [.ptr 0 0 77],.c [Da],.c [.d (.i .u8 7)]]:=by
 have cS:=Eh n
 have cJ:=NN n m 7 n.client (by decide) hx0 hx1 hb hl hn hm hj ha hs
 generalize (AK n 7 (decide (n.client.phase = 5)) (As n.view n.client m)) = r at *
 unfold Job.d Job.cells at cJ
 unfold hC at cS cJ ⊢
 unfold Da
 refine A7 AB Tryz.func108 rfl rfl (Nat.le_of_ble_eq_true rfl) ?_
 have d1:=Ds.mk [0] (cS);have d2:=Ds.mk [0,1] (cJ);refine wd [0,1,2] [] [(0,6),(1,6)] A1 A1 ?_;clear d2 d1;with_reducible repeat' first|constructor|intro hc;try simp only[A3] at hc
 exact ⟨⟨[],[.c (hC r.1 (.d (A9 r.2))),.c (mX m),.c [.ptr 0 0 77],.c [Da],.c [.d (.i .u8 7)]],_⟩,(A2.ck rfl),Nat.le_of_ble_eq_true rfl,_,_,rfl,rfl,rfl,rfl⟩
theorem TM (n : Node) (d : Int) (hx0 : 0 ≤ n.next) (hx1 : n.next < 16) (hb : n.view.base.length ≤ 1000) (hl : n.view.list.length ≤ 1000) (hn : n.keep.length ≤ 1048576) (hj : n.finger.left.length ≤ 100000) (ha : (Az n.view n.finger d).asks.length ≤ 100000) (hs : (Az n.view n.finger d).job.item.key.length ≤ 9223372036854775807) : B4 Tryz.prog 108 [.ptr 3 0 1,.ptr 4 0 1,.ptr 2 0 1] [.c (hC n .e0),.c [.d (.i .i64 d)],.c [.ptr 0 0 77],.c [DL],.c [.d (.i .u8 5)]] (.tup []) [.c (hC (AK n 5 (decide (n.finger.phase = 5)) (Az n.view n.finger d)).1 (.d (A9 (AK n 5 (decide (n.finger.phase = 5)) (Az n.view n.finger d)).2))),.c [.d (.i .i64 d)],.c [.ptr 0 0 77],.c [DL],.c [.d (.i .u8 5)]]:=by
 have cS:=Es n
 have cJ:=Mj n d 5 n.finger (by decide) hx0 hx1 hb hl hn hj ha hs
 generalize (AK n 5 (decide (n.finger.phase = 5)) (Az n.view n.finger d)) = r at *
 unfold Job.d Job.cells at cJ
 unfold hC at cS cJ ⊢
 unfold DL
 refine A7 AB Tryz.func108 rfl rfl (Nat.le_of_ble_eq_true rfl) ?_
 have d1:=Ds.mk [0] (cS);have d2:=Ds.mk [0,1] (cJ);refine wd [0,1,2] [] [(0,6),(1,6)] A1 A1 ?_;clear d2 d1;with_reducible repeat' first|constructor|intro hc;try simp only[A3] at hc
 exact ⟨⟨[],[.c (hC r.1 (.d (A9 r.2))),.c [.d (.i .i64 d)],.c [.ptr 0 0 77],.c [DL],.c [.d (.i .u8 5)]],_⟩,(A2.ck rfl),Nat.le_of_ble_eq_true rfl,_,_,rfl,rfl,rfl,rfl⟩
theorem Se (n : Node) (d : Int) (hx0 : 0 ≤ n.next) (hx1 : n.next < 16) (hb : n.view.base.length ≤ 1000) (hl : n.view.list.length ≤ 1000) (hn : n.keep.length ≤ 1048576) (hj : n.mirror.left.length ≤ 100000) (ha : (Az n.view n.mirror d).asks.length ≤ 100000) (hs : (Az n.view n.mirror d).job.item.key.length ≤ 9223372036854775807) : B4 Tryz.prog 108 [.ptr 3 0 1,.ptr 4 0 1,.ptr 2 0 1] [.c (hC n .e0),.c [.d (.i .i64 d)],.c [.ptr 0 0 77],.c [DL],.c [.d (.i .u8 6)]] (.tup []) [.c (hC (AK n 6 (decide (n.mirror.phase = 5)) (Az n.view n.mirror d)).1 (.d (A9 (AK n 6 (decide (n.mirror.phase = 5)) (Az n.view n.mirror d)).2))),.c [.d (.i .i64 d)],.c [.ptr 0 0 77],.c [DL],.c [.d (.i .u8 6)]]:=by
 have cS:=En n
 have cJ:=Mj n d 6 n.mirror (by decide) hx0 hx1 hb hl hn hj ha hs
 generalize (AK n 6 (decide (n.mirror.phase = 5)) (Az n.view n.mirror d)) = r at *
 unfold Job.d Job.cells at cJ
 unfold hC at cS cJ ⊢
 unfold DL
 refine A7 AB Tryz.func108 rfl rfl (Nat.le_of_ble_eq_true rfl) ?_
 have d1:=Ds.mk [0] (cS);have d2:=Ds.mk [0,1] (cJ);refine wd [0,1,2] [] [(0,6),(1,6)] A1 A1 ?_;clear d2 d1;with_reducible repeat' first|constructor|intro hc;try simp only[A3] at hc
 exact ⟨⟨[],[.c (hC r.1 (.d (A9 r.2))),.c [.d (.i .i64 d)],.c [.ptr 0 0 77],.c [DL],.c [.d (.i .u8 6)]],_⟩,(A2.ck rfl),Nat.le_of_ble_eq_true rfl,_,_,rfl,rfl,rfl,rfl⟩
theorem SZ (n : Node) (d : Int) (hx0 : 0 ≤ n.next) (hx1 : n.next < 16) (hb : n.view.base.length ≤ 1000) (hl : n.view.list.length ≤ 1000) (hn : n.keep.length ≤ 1048576) (hj : n.client.left.length ≤ 100000) (ha : (Az n.view n.client d).asks.length ≤ 100000) (hs : (Az n.view n.client d).job.item.key.length ≤ 9223372036854775807) : B4 Tryz.prog 108 [.ptr 3 0 1,.ptr 4 0 1,.ptr 2 0 1] [.c (hC n .e0),.c [.d (.i .i64 d)],.c [.ptr 0 0 77],.c [DL],.c [.d (.i .u8 7)]] (.tup []) [.c (hC (AK n 7 (decide (n.client.phase = 5)) (Az n.view n.client d)).1 (.d (A9 (AK n 7 (decide (n.client.phase = 5)) (Az n.view n.client d)).2))),.c [.d (.i .i64 d)],.c [.ptr 0 0 77],.c [DL],.c [.d (.i .u8 7)]]:=by
 have cS:=Eh n
 have cJ:=Mj n d 7 n.client (by decide) hx0 hx1 hb hl hn hj ha hs
 generalize (AK n 7 (decide (n.client.phase = 5)) (Az n.view n.client d)) = r at *
 unfold Job.d Job.cells at cJ
 unfold hC at cS cJ ⊢
 unfold DL
 refine A7 AB Tryz.func108 rfl rfl (Nat.le_of_ble_eq_true rfl) ?_
 have d1:=Ds.mk [0] (cS);have d2:=Ds.mk [0,1] (cJ);refine wd [0,1,2] [] [(0,6),(1,6)] A1 A1 ?_;clear d2 d1;with_reducible repeat' first|constructor|intro hc;try simp only[A3] at hc
 exact ⟨⟨[],[.c (hC r.1 (.d (A9 r.2))),.c [.d (.i .i64 d)],.c [.ptr 0 0 77],.c [DL],.c [.d (.i .u8 7)]],_⟩,(A2.ck rfl),Nat.le_of_ble_eq_true rfl,_,_,rfl,rfl,rfl,rfl⟩
theorem SU (n : Node) (hx0 : 0 ≤ n.next) (hx1 : n.next < 16) (hb : n.view.base.length ≤ 1000) (hl : n.view.list.length ≤ 1000) (hn : n.keep.length ≤ 1048576) (hs : n.finger.item.key.length ≤ 9223372036854775807) : B4 Tryz.prog 108 [.ptr 2 0 1,.ptr 3 0 1,.ptr 1 0 1] [.c (hC n .e0),.c [.ptr 0 0 77],.c [De],.c [.d (.i .u8 5)]] (.tup []) [.c (hC (if n.finger.phase = 5 then n else (AK n 5 false ⟨BG (BH n.finger 100),[],false⟩).1) (.d (A9 []))),.c [.ptr 0 0 77],.c [De],.c [.d (.i .u8 5)]]:=by
 have cS:=Es n
 have cJ:=Nl n  5 n.finger (by decide) hx0 hx1 hb hl hn hs
 generalize (if n.finger.phase = 5 then n else (AK n 5 false ⟨BG (BH n.finger 100),[],false⟩).1) = r at *
 unfold Job.d Job.cells at cJ
 unfold hC at cS cJ ⊢
 unfold De
 refine A7 AB Tryz.func108 rfl rfl (Nat.le_of_ble_eq_true rfl) ?_
 have d1:=Ds.mk [0] (cS);have d2:=Ds.mk [0] (cJ);refine wd [0,1,2] [] [(0,6),(1,6)] A1 A1 ?_;clear d2 d1;with_reducible repeat' first|constructor|intro hc;try simp only[A3] at hc
 exact ⟨⟨[],[.c (hC r (.d (A9 []))),.c [.ptr 0 0 77],.c [De],.c [.d (.i .u8 5)]],_⟩,(A2.ck rfl),Nat.le_of_ble_eq_true rfl,_,_,rfl,rfl,rfl,rfl⟩
theorem SV (n : Node) (hx0 : 0 ≤ n.next) (hx1 : n.next < 16) (hb : n.view.base.length ≤ 1000) (hl : n.view.list.length ≤ 1000) (hn : n.keep.length ≤ 1048576) (hs : n.mirror.item.key.length ≤ 9223372036854775807) : B4 Tryz.prog 108 [.ptr 2 0 1,.ptr 3 0 1,.ptr 1 0 1] [.c (hC n .e0),.c [.ptr 0 0 77],.c [De],.c [.d (.i .u8 6)]] (.tup []) [.c (hC (if n.mirror.phase = 5 then n else (AK n 6 false ⟨BG (BH n.mirror 100),[],false⟩).1) (.d (A9 []))),.c [.ptr 0 0 77],.c [De],.c [.d (.i .u8 6)]]:=by
 have cS:=En n
 have cJ:=Nl n  6 n.mirror (by decide) hx0 hx1 hb hl hn hs
 generalize (if n.mirror.phase = 5 then n else (AK n 6 false ⟨BG (BH n.mirror 100),[],false⟩).1) = r at *
 unfold Job.d Job.cells at cJ
 unfold hC at cS cJ ⊢
 unfold De
 refine A7 AB Tryz.func108 rfl rfl (Nat.le_of_ble_eq_true rfl) ?_
 have d1:=Ds.mk [0] (cS);have d2:=Ds.mk [0] (cJ);refine wd [0,1,2] [] [(0,6),(1,6)] A1 A1 ?_;clear d2 d1;with_reducible repeat' first|constructor|intro hc;try simp only[A3] at hc
 exact ⟨⟨[],[.c (hC r (.d (A9 []))),.c [.ptr 0 0 77],.c [De],.c [.d (.i .u8 6)]],_⟩,(A2.ck rfl),Nat.le_of_ble_eq_true rfl,_,_,rfl,rfl,rfl,rfl⟩
theorem SB (n : Node) (hx0 : 0 ≤ n.next) (hx1 : n.next < 16) (hb : n.view.base.length ≤ 1000) (hl : n.view.list.length ≤ 1000) (hn : n.keep.length ≤ 1048576) (hs : n.client.item.key.length ≤ 9223372036854775807) : B4 Tryz.prog 108 [.ptr 2 0 1,.ptr 3 0 1,.ptr 1 0 1] [.c (hC n .e0),.c [.ptr 0 0 77],.c [De],.c [.d (.i .u8 7)]] (.tup []) [.c (hC (if n.client.phase = 5 then n else (AK n 7 false ⟨BG (BH n.client 100),[],false⟩).1) (.d (A9 []))),.c [.ptr 0 0 77],.c [De],.c [.d (.i .u8 7)]]:=by
 have cS:=Eh n
 have cJ:=Nl n  7 n.client (by decide) hx0 hx1 hb hl hn hs
 generalize (if n.client.phase = 5 then n else (AK n 7 false ⟨BG (BH n.client 100),[],false⟩).1) = r at *
 unfold Job.d Job.cells at cJ
 unfold hC at cS cJ ⊢
 unfold De
 refine A7 AB Tryz.func108 rfl rfl (Nat.le_of_ble_eq_true rfl) ?_
 have d1:=Ds.mk [0] (cS);have d2:=Ds.mk [0] (cJ);refine wd [0,1,2] [] [(0,6),(1,6)] A1 A1 ?_;clear d2 d1;with_reducible repeat' first|constructor|intro hc;try simp only[A3] at hc
 exact ⟨⟨[],[.c (hC r (.d (A9 []))),.c [.ptr 0 0 77],.c [De],.c [.d (.i .u8 7)]],_⟩,(A2.ck rfl),Nat.le_of_ble_eq_true rfl,_,_,rfl,rfl,rfl,rfl⟩
end Nd
end Go.Proofs.YtnahkfkljohjaaaGreatDoor
