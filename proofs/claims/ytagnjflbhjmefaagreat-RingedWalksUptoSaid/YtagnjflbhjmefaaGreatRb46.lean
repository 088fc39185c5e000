/- Part 46 of the texts of this proof, put together by a program and made short.
Conditions: none; what each theorem asks stands in its own hypotheses. -/
import Derived.Test.YtagnjflbhjmefaaGreatRb44
import Derived.Ground.NamesProg
import Derived.Shelf.Slices.In.SortAlone
import Derived.Shelf.Slices.In.SortNone
import Derived.Sort.Walk0
import Derived.KernelRfl
import Derived.RangeFuncIn
import Derived.Sort.Grow
import Derived.Laws.Cover3
import Derived.RecoverIn
import Derived.ProofKit
import Derived.OpenShut
import Derived.CallsIn
import Derived.RangeFuncLeaves
import Derived.OrdersIn
import Derived.TacticsIn
import Derived.ChangeKeysEq
import Derived.Laws.AppendOwn
import Derived.Laws.OwnMore
import Derived.Laws.MakeOwn
import Derived.Laws.Rows
import Derived.Laws.Cells
import Derived.Laws.Tables
import Derived.Laws.CopyRow
import Derived.Laws.Strings
import Derived.Laws.IdiomStrings
import Derived.Laws.BytesArg
import Derived.Test.YtagnjflbhjmefaaGreatProg
set_option linter.unusedSimpArgs false
set_option linter.unusedVariables false
set_option linter.unnecessarySimpa false
set_option maxHeartbeats 40000000
namespace Go.Proofs.YtagnjflbhjmefaaGreat
namespace Nd
open Go.Gar
open Wi (AE Az B7 BC)
set_option maxRecDepth 4000
structure Y8 (n : Node) : Prop where
 id : i64 n.view.id
 li : ∀ y ∈ n.view.list,i64 y
 vb : n.view.base.length ≤ 1048576
 vl : n.view.list.length ≤ 1048576
 cl : ∀ x ∈ n.calls.op,Cj x.msg
 cn : n.calls.op.length ≤ 1048576
 sl : ∀ x ∈ n.seen,Cj x.told
 sn : n.seen.length ≤ 1048576
 kn : n.keep.length ≤ 1048576
 fl : n.finger.left.length ≤ 1048576
 ml : n.mirror.left.length ≤ 1048576
 tl : n.client.left.length ≤ 1048576
structure R5 (c : AD) : Prop where
 nl : c.nodes.length ≤ 1048576
 nn : ∀ n ∈ c.nodes,Y8 n
 gl : c.gone.length ≤ 1048576
 bl : c.base.length ≤ 1048576
 ll : c.grams.length ≤ 1048576
def FL (n : Node) : Bool:=decide (20 < n.view.base.length) || (decide (20 < n.view.list.length) || (decide (40 < n.seen.length) || (decide (16 < n.calls.op.length) || decide (24 < n.keep.length))))
def ND (g : Bu) : Bool:=decide (300 < g.by_.length)
def GJ (c : AD) (gs : List Bu) : Bool:=(decide (12 < c.nodes.length) || (decide (40 < c.gone.length) || (decide (20 < c.base.length) || decide (400 < gs.length)))) || (gs.any ND || c.nodes.any FL)
theorem Jt (c : AD) (gs : List Bu) (hc : R5 c) (hg : c.grams = gs.map Bu.cells) (hb : ∀ g ∈ gs,g.by_.length ≤ 1048576) : Go.Gar.Fn Tryz.prog 8 [c.d] (.b (GJ c gs)):=by
 have hgl : gs.length ≤ 1048576:=by have:=hc.ll;rw [hg,List.length_map] at this;exact this
 obtain ⟨hnl,hnn,hol,hbl,-⟩:=hc
 have hT : GJ c gs = ((decide (12 < c.nodes.length) || (decide (40 < c.gone.length) || (decide (20 < c.base.length) || decide (400 < gs.length)))) || (gs.any ND || c.nodes.any FL)):=rfl
 generalize GJ c gs = R at *
 obtain ⟨nodes,gone,base,grams,lost⟩:=c
 simp only at *
 subst hg
 refine A3 A8 Tryz.func8 rfl rfl (Nat.le_of_ble_eq_true rfl) ?_
 unfold AD.d AD.cells
 simp only
 by_cases h0 : nodes.length ≤ 12 ∧ gone.length ≤ 40 ∧ base.length ≤ 20 ∧ gs.length ≤ 400
 case neg =>
  have hR : R = true:=by
   rw [hT]
   have : (decide (12 < nodes.length) || (decide (40 < gone.length) || (decide (20 < base.length) || decide (400 < gs.length)))) = true:=by
    simp only [Bool.or_eq_true,decide_eq_true_eq];omega
   rw [this];rfl
  subst hR
  clear hT hnn hb
  have nS:=True.intro;obtain ⟨lv,st,ns,nc⟩:=wq [0,1,2,3,4,5,28,34,45,50,88] [];refine wk ?_;clear nc ns st lv;repeat' (first|with_reducible constructor|(with_reducible intro hc;try simp only[A1] at hc))
  all_goals first
   | (refine ⟨_,_,rfl,rfl,?_⟩;simp only [Ao];done)
   | (exfalso;simp only [List.length_map] at *;omega)
 case pos =>
 obtain ⟨h1,h2,h3,h4⟩:=h0
 have f1 : decide ((nodes.length : Int) > 12) = false:=decide_eq_false (by omega)
 have f2 : decide ((gone.length : Int) > 40) = false:=decide_eq_false (by omega)
 have f3 : decide ((base.length : Int) > 20) = false:=decide_eq_false (by omega)
 have f4 : decide ((gs.length : Int) > 400) = false:=decide_eq_false (by omega)
 rw [decide_eq_false (by omega),decide_eq_false (by omega),decide_eq_false (by omega),decide_eq_false (by omega),Bool.false_or,Bool.false_or,Bool.false_or,Bool.false_or] at hT
 have nS:=And.intro f1 (And.intro f2 (And.intro f3 f4));obtain ⟨lv,st,ns,nc⟩:=wq [0,1,2,3,4,5,28,34,45,50,88] [];refine wk ?_;clear nc ns st lv;repeat' (first|with_reducible constructor|(with_reducible intro hc;try simp only[A1] at hc))
 refine AS (fun k => k ≤ gs.length ∧ (gs.take k).any ND = false) (fun k : Nat => [(3,.d (.i .i64 k))]) (fun k => gs.length - k) 0 ⟨Nat.zero_le _,rfl⟩ (fun _ => rfl) ?_ ?_
 ·exact A0.ck rfl
 rintro k ⟨hk,hpre⟩
 by_cases hkl : k < gs.length
 ·obtain ⟨x,hx⟩:=AG hkl
  have hA:=BH (p:=ND) hx
  rw [hpre,Bool.false_or] at hA
  have hbx:=hb x (List.mem_of_getElem? hx)
  by_cases hl : 300 < x.by_.length
  ·have f5 : decide ((x.by_.length : Int) > 300) = true:=decide_eq_true (by omega)
   have hR : R = true:=by rw [hT,E2 hx (decide_eq_true hl)];rfl
   subst hR
   clear hT hA
   have nS:=f5;obtain ⟨lv,st,ns,nc⟩:=wq [0,1,2,3,4,5,28,34,45,50,88] [];have ix1:=hx;refine wk ?_;clear nc ns st lv ix1;repeat' (first|with_reducible constructor|(with_reducible intro hc;try simp only[A1] at hc))
   refine ⟨_,_,rfl,rfl,?_⟩;simp [AH,A6,A5,A4]
  ·have f5 : decide ((x.by_.length : Int) > 300) = false:=decide_eq_false (by omega)
   have nS:=f5;obtain ⟨lv,st,ns,nc⟩:=wq [0,1,2,3,4,5,28,34,45,50,88] [];have ix1:=hx;refine wk ?_;clear nc ns st lv ix1;repeat' (first|with_reducible constructor|(with_reducible intro hc;try simp only[A1] at hc))
   refine ⟨k + 1,⟨hkl,by rw [hA];exact decide_eq_false hl⟩,by omega,Nat.le_refl _,?_⟩
   exact A0.ck rfl
 ·have e : k = gs.length:=by omega
  subst e
  rw [List.take_length] at hpre
  rw [hpre,Bool.false_or] at hT
  clear f1 f2 f3 f4
  have nS:=True.intro;obtain ⟨lv,st,ns,nc⟩:=wq [0,1,2,3,4,5,28,34,45,50,88] [];refine wk ?_;clear nc ns st lv;repeat' (first|with_reducible constructor|(with_reducible intro hc;try simp only[A1] at hc))
  refine AS (fun k => k ≤ nodes.length ∧ (nodes.take k).any FL = false) (fun k : Nat => [(4,.d (.i .i64 k))]) (fun k => nodes.length - k) 0 ⟨Nat.zero_le _,rfl⟩ (fun _ => rfl) ?_ ?_
  ·exact A0.ck rfl
  rintro k ⟨hk,hpre⟩
  by_cases hkl : k < nodes.length
  ·obtain ⟨x,hx⟩:=AG hkl
   have hA:=BH (p:=FL) hx
   rw [hpre,Bool.false_or] at hA
   obtain ⟨-,-,l1,l2,-,l3,-,l4,l5,-,-,-⟩:=hnn x (List.mem_of_getElem? hx)
   by_cases hl : x.view.base.length ≤ 20 ∧ x.view.list.length ≤ 20 ∧ x.seen.length ≤ 40 ∧ x.calls.op.length ≤ 16 ∧ x.keep.length ≤ 24
   ·have hG : FL x = false:=by
     unfold FL
     rw [decide_eq_false (by omega),decide_eq_false (by omega),decide_eq_false (by omega),decide_eq_false (by omega),decide_eq_false (by omega)];rfl
    have f1 : decide ((x.view.base.length : Int) > 20) = false:=decide_eq_false (by omega)
    have f2 : decide ((x.view.list.length : Int) > 20) = false:=decide_eq_false (by omega)
    have f3 : decide ((x.seen.length : Int) > 40) = false:=decide_eq_false (by omega)
    have f4 : decide ((x.calls.op.length : Int) > 16) = false:=decide_eq_false (by omega)
    have f5 : decide ((x.keep.length : Int) > 24) = false:=decide_eq_false (by omega)
    clear hnn hb hT
    have nS:=And.intro f1 (And.intro f2 (And.intro f3 (And.intro f4 f5)));obtain ⟨lv,st,ns,nc⟩:=wq [0,1,2,3,4,5,28,34,45,50,88] [];have ix1:=hx;refine wk ?_;clear nc ns st lv ix1;repeat' (first|with_reducible constructor|(with_reducible intro hc;try simp only[A1] at hc))
    refine ⟨k + 1,⟨hkl,by rw [hA,hG]⟩,by omega,Nat.le_refl _,?_⟩
    exact A0.ck rfl
   ·have hG : FL x = true:=by
     unfold FL
     simp only [Bool.or_eq_true,decide_eq_true_eq];omega
    have hR : R = true:=by rw [hT,E2 hx hG]
    subst hR
    clear hnn hb hT hA
    have nS:=True.intro;obtain ⟨lv,st,ns,nc⟩:=wq [0,1,2,3,4,5,28,34,45,50,88] [];have ix1:=hx;refine wk ?_;clear nc ns st lv ix1;repeat' (first|with_reducible constructor|(with_reducible intro hc;try simp only[A1] at hc))
    all_goals first
     | (refine ⟨_,_,rfl,rfl,?_⟩;simp only [Ao];done)
     | (exfalso;simp only [List.length_map] at *;omega)
  ·have e : k = nodes.length:=by omega
   subst e
   rw [List.take_length] at hpre
   rw [hpre] at hT
   subst hT
   have nS:=True.intro;obtain ⟨lv,st,ns,nc⟩:=wq [0,1,2,3,4,5,28,34,45,50,88] [];refine wk ?_;clear nc ns st lv;repeat' (first|with_reducible constructor|(with_reducible intro hc;try simp only[A1] at hc))
   refine ⟨_,_,rfl,rfl,?_⟩;simp [AH,A6,A5,A4]
theorem Ie {c : AD} {gs : List Bu} (h : R5 c) (hg : GJ c gs = false) : I7 c:=by
 refine ⟨h.nl,fun n hn => ?_,h.gl,h.bl,h.ll⟩
 have k:=h.nn n hn
 unfold GJ at hg
 simp only [Bool.or_eq_false_iff] at hg
 have g:=hg.2.2
 rw [List.any_eq_false] at g
 have g:=g n hn
 unfold FL at g
 simp only [Bool.or_eq_true,decide_eq_true_eq,not_or] at g
 exact ⟨k.id,k.li,by omega,by omega,k.cl,k.cn,k.sl,k.sn,k.kn,k.fl,k.ml,k.tl⟩
theorem MJ (a b : List Int) (ha : a.length ≤ 1048576) (hb : b.length ≤ 1048576) : Go.Gar.Fn Tryz.prog 16 [.is a,.is b] (.b (decide (a = b))):=by
 refine A3 A8 Tryz.func16 rfl rfl (Nat.le_of_ble_eq_true rfl) ?_
 by_cases hl : a.length = b.length
 case neg =>
  have f1 : decide ((a.length : Int) ≠ b.length) = true:=decide_eq_true (by omega)
  rw [decide_eq_false (fun e => hl (by rw [e]))]
  have nS:=True.intro;obtain ⟨lv,st,ns,nc⟩:=wq [0,1,4,5,10,14,25] [];have pr : AC []:=trivial;refine wd ?_;clear nc ns st lv pr;repeat' (first|with_reducible constructor|(with_reducible intro hc;try simp only[A1] at hc))
  all_goals first
   | (refine ⟨_,_,rfl,rfl,?_⟩;simp only [Ao];done)
   | (exfalso;omega)
 case pos =>
 obtain ⟨R,hR⟩ : ∃ R,R = decide (a = b):=⟨_,rfl⟩
 rw [← hR]
 have f1 : decide ((a.length : Int) = b.length) = true:=decide_eq_true (by omega)
 have f2 : ((a.length : Int) == b.length) = true:=by rw [hl];exact beq_self_eq_true _
 have nS:=And.intro f1 f2;obtain ⟨lv,st,ns,nc⟩:=wq [0,1,4,5,10,14,25] [];have pr : AC []:=trivial;refine wd ?_;clear nc ns st lv pr;repeat' (first|with_reducible constructor|(with_reducible intro hc;try simp only[A1] at hc))
 refine AS (fun k => k ≤ a.length ∧ a.take k = b.take k) (fun k : Nat => [(5,.d (.i .i64 k))]) (fun k => a.length - k) 0 ⟨Nat.zero_le _,rfl⟩ (fun _ => rfl) ?_ ?_
 ·exact A0.ck rfl
 rintro k ⟨hk,hpre⟩
 by_cases hkl : k < a.length
 ·obtain ⟨x,hx⟩:=AG hkl
  obtain ⟨y,hy⟩:=AG (show k < b.length by omega)
  have gx:=AY hx
  have gy:=AY hy
  by_cases h : x = y
  ·have f1:=Ar h
   have nS:=And.intro gx (And.intro gy f1);obtain ⟨lv,st,ns,nc⟩:=wq [0,1,4,5,10,14,25] [];have pr : AC []:=trivial;refine wd ?_;clear nc ns st lv pr;repeat' (first|with_reducible constructor|(with_reducible intro hc;try simp only[A1] at hc))
   refine ⟨k + 1,⟨hkl,by rw [AR hx,AR hy,hpre,h]⟩,by omega,Nat.le_refl _,?_⟩
   exact A0.ck rfl
  ·have f1:=eq_false' h
   have : R = false:=by
    rw [hR]
    refine decide_eq_false fun e => h ?_
    subst e
    rw [hx] at hy
    exact Option.some.inj hy
   subst this
   have nS:=And.intro gx (And.intro gy f1);obtain ⟨lv,st,ns,nc⟩:=wq [0,1,4,5,10,14,25] [];have pr : AC []:=trivial;refine wd ?_;clear nc ns st lv pr;repeat' (first|with_reducible constructor|(with_reducible intro hc;try simp only[A1] at hc))
   refine ⟨_,_,rfl,rfl,?_⟩;simp [AH,A6,A5,A4]
 ·have e : k = a.length:=by omega
  subst e
  have : a = b:=by rw [List.take_length] at hpre;rw [hpre,hl,List.take_length]
  have : R = true:=by rw [hR];exact decide_eq_true this
  subst this
  have nS:=True.intro;obtain ⟨lv,st,ns,nc⟩:=wq [0,1,4,5,10,14,25] [];have pr : AC []:=trivial;refine wd ?_;clear nc ns st lv pr;repeat' (first|with_reducible constructor|(with_reducible intro hc;try simp only[A1] at hc))
  refine ⟨_,_,rfl,rfl,?_⟩;simp [AH,A6,A5,A4]
end Nd
end Go.Proofs.YtagnjflbhjmefaaGreat
