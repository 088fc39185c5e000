/- Part 27 of the texts of this proof, put together by a program and made short.
Conditions: none; what each theorem asks stands in its own hypotheses. -/
import Derived.Test.YtagnjflbhjmefaaGreatRb18
import Derived.Test.YtagnjflbhjmefaaGreatRb25
import Derived.Test.YtagnjflbhjmefaaGreatRb26
import Derived.Ground.NamesProg
import Derived.Shelf.Slices.In.SortAlone
import Derived.Shelf.Slices.In.SortNone
import Derived.Sort.Walk0
import Derived.KernelRfl
import Derived.RangeFuncIn
import Derived.Sort.Grow
import Derived.Laws.Cover3
import Derived.RecoverIn
import Derived.ProofKit
import Derived.OpenShut
import Derived.CallsIn
import Derived.RangeFuncLeaves
import Derived.OrdersIn
import Derived.TacticsIn
import Derived.ChangeKeysEq
import Derived.Laws.AppendOwn
import Derived.Laws.OwnMore
import Derived.Laws.MakeOwn
import Derived.Laws.Rows
import Derived.Laws.Cells
import Derived.Laws.Tables
import Derived.Laws.CopyRow
import Derived.Laws.Strings
import Derived.Laws.IdiomStrings
import Derived.Laws.BytesArg
import Derived.Test.YtagnjflbhjmefaaGreatProg
set_option linter.unusedSimpArgs false
set_option linter.unusedVariables false
set_option linter.unnecessarySimpa false
set_option maxHeartbeats 40000000
namespace Go.Proofs.YtagnjflbhjmefaaGreat
namespace Nd
open Go.Gar
open Wi (AE Az B7)
set_option maxRecDepth 4000
def Fg (c : AD) (k : Nat) : Bool:=decide (k = 0 ∨ (c.nodes.getD (k - 1) Di).view.id < (c.nodes.getD k Di).view.id) && GG c (c.nodes.getD k Di)
def N7 (c : AD) : Bool:=(decide (2 ≤ c.base.length) && (decide (c.base.length ≤ 4) && En c.base)) && (decide (c.nodes.length ≤ 12) && (decide (c.grams.length ≤ 400) && (Ba c.nodes.length (Fg c) && (c.base.all (AZ c.nodes) && (decide (c.gone.length ≤ 1000) && Ba c.gone.length (He c.nodes c.gone))))))
theorem RL {n : Node} (h : Cb n = true) : Az n.view.id = true:=by
 simp only [Cb,Bool.and_eq_true] at h
 have:=(Hq h.2.2.2.1).1
 have:=BN this
 exact Wi.QT.2 this
theorem Ur (c : AD) : Ba c.nodes.length (Fg c) = (c.nodes.all (GG c) && En (ids c.nodes)):=by
 rw [Bool.eq_iff_iff,Bool.and_eq_true,EK,List.all_eq_true,En,EK]
 have hl : (ids c.nodes).length = c.nodes.length:=List.length_map _
 have hg : ∀ k,k < c.nodes.length → (ids c.nodes).getD k 0 = (c.nodes.getD k Di).view.id:=fun k hk => by
  obtain ⟨x,hx⟩:=AG hk
  rw [getD_at hx,getD_at (x:=x.view.id) (by unfold ids;rw [List.getElem?_map,hx];rfl)]
 constructor
 ·intro h
  have hN : ∀ x ∈ c.nodes,GG c x = true:=fun x hx => by
   obtain ⟨k,hk⟩:=List.mem_iff_getElem?.1 hx
   have hk':=(List.getElem?_eq_some_iff.1 hk).1
   have:=h k hk'
   simp only [Fg,Bool.and_eq_true] at this
   rw [getD_at hk] at this
   exact this.2
  refine ⟨hN,fun k hk => ?_⟩
  rw [hl] at hk
  have h1:=h k hk
  obtain ⟨x,hx⟩:=AG hk
  have h2:=hN x (List.mem_of_getElem? hx)
  simp only [GG,Bool.and_eq_true] at h2
  have h3:=RL h2.1
  simp only [Fg,Bool.and_eq_true,decide_eq_true_eq] at h1
  simp only [Kx,Bool.and_eq_true,decide_eq_true_eq]
  rw [hg k hk,getD_at hx]
  refine ⟨h3,?_⟩
  rcases h1.1 with h4 | h4
  ·exact .inl h4
  ·by_cases h0 : k = 0
   ·exact .inl h0
   ·rw [hg (k - 1) (by omega)]
    rw [getD_at hx] at h4
    exact .inr h4
 ·rintro ⟨h1,h2⟩ k hk
  have h3:=h2 k (by rw [hl];exact hk)
  obtain ⟨x,hx⟩:=AG hk
  simp only [Kx,Bool.and_eq_true,decide_eq_true_eq] at h3
  simp only [Fg,Bool.and_eq_true,decide_eq_true_eq]
  rw [getD_at hx]
  refine ⟨?_,h1 x (List.mem_of_getElem? hx)⟩
  rcases h3.2 with h4 | h4
  ·exact .inl h4
  ·by_cases h0 : k = 0
   ·exact .inl h0
   ·rw [hg k hk,hg (k - 1) (by omega),getD_at hx] at h4
    exact .inr h4
theorem right_eq (c : AD) : N7 c = AN c:=by
 unfold N7 AN OB
 rw [Ur,show Nf c = He c.nodes c.gone from rfl]
 generalize En c.base = a1
 generalize En (ids c.nodes) = a2
 generalize c.nodes.all (GG c) = a3
 generalize c.base.all (AZ c.nodes) = a4
 generalize Ba c.gone.length (He c.nodes c.gone) = a5
 rw [Bool.eq_iff_iff]
 simp only [Bool.and_eq_true,decide_eq_true_eq]
 constructor
 ·rintro ⟨⟨h1,h2,h3⟩,h4,h5,⟨h6,h7⟩,h8,h9,h10⟩
  exact ⟨⟨h1,h2,h3,h4,h7,h9,h5⟩,h6,h8,h10⟩
 ·rintro ⟨⟨h1,h2,h3,h4,h7,h9,h5⟩,h6,h8,h10⟩
  exact ⟨⟨h1,h2,h3⟩,h4,h5,⟨h6,h7⟩,h8,h9,h10⟩
theorem Ey (c : AD) (h : I7 c) : Go.Gar.Fn Tryz.prog 31 [c.d] (.b (AN c)):=by
 rw [← right_eq]
 have cb:=LJ c.base (by have:=h.bl;omega)
 have cf:=fun p => Nx c.nodes p (by have:=h.nl;omega)
 have cg:=MP c.nodes c.gone h.nl h.gl
 obtain ⟨nodes,gone,base,grams,lost⟩:=c
 obtain ⟨hnl,hnn,hgl,hbl,hll⟩:=h
 simp only at *
 refine A3 A8 Tryz.func31 rfl rfl (Nat.le_of_ble_eq_true rfl) ?_
 unfold AD.d AD.cells
 have hT : N7 ⟨nodes,gone,base,grams,lost⟩ = ((decide (2 ≤ base.length) && (decide (base.length ≤ 4) && En base)) && (decide (nodes.length ≤ 12) && (decide (grams.length ≤ 400) && (Ba nodes.length (Fg ⟨nodes,gone,base,grams,lost⟩) && (base.all (AZ nodes) && (decide (gone.length ≤ 1000) && Ba gone.length (He nodes gone))))))):=rfl
 generalize (decide (2 ≤ base.length) && (decide (base.length ≤ 4) && En base)) = B at *
 generalize (decide (gone.length ≤ 1000) && Ba gone.length (He nodes gone)) = G at *
 generalize N7 ⟨nodes,gone,base,grams,lost⟩ = R at *
 cases B with
 | false =>
  rw [Bool.false_and] at hT
  subst hT
  have nS:=True.intro;obtain ⟨lv,st,ns,nc⟩:=wq [0,1,2,3,4,6,23,26,27,28,64,66,67,68,69,76] [];have c1:=@cb;have pr : AC []:=trivial;refine wd ?_;clear nc ns st lv pr c1;repeat' (first|with_reducible constructor|(with_reducible intro hc;try simp only[A1] at hc))
  refine ⟨_,_,rfl,rfl,?_⟩;simp [AH,A6,A5,A4]
 | true =>
 rw [Bool.true_and] at hT
 by_cases h12 : nodes.length > 12
 ·have f1 : decide ((nodes.length : Int) > 12) = true:=decide_eq_true (by omega)
  rw [decide_eq_false (show ¬ nodes.length ≤ 12 by omega),Bool.false_and] at hT
  subst hT
  have nS:=f1;obtain ⟨lv,st,ns,nc⟩:=wq [0,1,2,3,4,6,23,26,27,28,64,66,67,68,69,76] [];have c1:=@cb;have pr : AC []:=trivial;refine wd ?_;clear nc ns st lv pr c1;repeat' (first|with_reducible constructor|(with_reducible intro hc;try simp only[A1] at hc))
  refine ⟨_,_,rfl,rfl,?_⟩;simp [AH,A6,A5,A4]
 have f1 : decide ((nodes.length : Int) > 12) = false:=decide_eq_false (by omega)
 rw [decide_eq_true (show nodes.length ≤ 12 by omega),Bool.true_and] at hT
 by_cases h400 : grams.length > 400
 ·have f2 : decide ((grams.length : Int) > 400) = true:=decide_eq_true (by omega)
  rw [decide_eq_false (show ¬ grams.length ≤ 400 by omega),Bool.false_and] at hT
  subst hT
  have nS:=And.intro f1 f2;obtain ⟨lv,st,ns,nc⟩:=wq [0,1,2,3,4,6,23,26,27,28,64,66,67,68,69,76] [];have c1:=@cb;have pr : AC []:=trivial;refine wd ?_;clear nc ns st lv pr c1;repeat' (first|with_reducible constructor|(with_reducible intro hc;try simp only[A1] at hc))
  refine ⟨_,_,rfl,rfl,?_⟩;simp [AH,A6,A5,A4]
 have f2 : decide ((grams.length : Int) > 400) = false:=decide_eq_false (by omega)
 rw [decide_eq_true (show grams.length ≤ 400 by omega),Bool.true_and] at hT
 have nS:=And.intro f1 f2;obtain ⟨lv,st,ns,nc⟩:=wq [0,1,2,3,4,6,23,26,27,28,64,66,67,68,69,76] [];have c1:=@cb;have d1:=Ds.mk [] (Oa nodes);have pr : AC []:=trivial;refine wd ?_;clear nc ns st lv pr d1 c1;repeat' (first|with_reducible constructor|(with_reducible intro hc;try simp only[A1] at hc))
 refine Bn (K:=fun r _ H' => (Ba nodes.length (Fg ⟨nodes,gone,base,grams,lost⟩) = true ∧ H' = [.c [.d (A2 nodes),.d (.is gone),.d (.is base),.d (.sl 3 grams),.d (.i .i64 lost)],.c [.d (.b false)],.c [.d (A2 nodes)],.lp r]) ∨
  (Ba nodes.length (Fg ⟨nodes,gone,base,grams,lost⟩) = false ∧ H' = [.c [.d (A2 nodes),.d (.is gone),.d (.is base),.d (.sl 3 grams),.d (.i .i64 lost)],.c [.d (.b false)],.c [.d (A2 nodes)],.lp (r.left .ret)])) rfl (by first | (simp only [Ai,Ae,Nat.reduceAdd,Int.reduceAdd,Int.reduceSub,Int.reduceMul,Int.reduceToNat];done) | (simp only [Ai,Ae,Nat.reduceAdd,Int.reduceAdd,Int.reduceSub,Int.reduceMul,Int.reduceToNat];rfl) | rfl) (by first | (simp only [Ai,Ae,Nat.reduceAdd,Int.reduceAdd,Int.reduceSub,Int.reduceMul,Int.reduceToNat];done) | (simp only [Ai,Ae,Nat.reduceAdd,Int.reduceAdd,Int.reduceSub,Int.reduceMul,Int.reduceToNat];rfl) | rfl) (fun r => (by first | (simp only [Ai,Ae,Nat.reduceAdd,Int.reduceAdd,Int.reduceSub,Int.reduceMul,Int.reduceToNat];done) | (simp only [Ai,Ae,Nat.reduceAdd,Int.reduceAdd,Int.reduceSub,Int.reduceMul,Int.reduceToNat];rfl) | rfl)) ?_ ?_
 ·intro r hr
  refine BP A8 Tryz.func104 rfl rfl (Nat.le_of_ble_eq_true rfl) ?_
  have nS:=True.intro;obtain ⟨lv,st,ns,nc⟩:=wq [0,1,3,5,6,7,15] [];refine wk ?_;clear nc ns st lv;repeat' (first|with_reducible constructor|(with_reducible intro hc;try simp only[A1] at hc))
  have hk:=hr.ok (k:=3) rfl
  refine AS (fun k => k ≤ nodes.length ∧ Ba k (Fg ⟨nodes,gone,base,grams,lost⟩) = true) (fun k : Nat => [(6,.d (.i .i64 k))]) (fun k => nodes.length - k) 0 ⟨Nat.zero_le _,rfl⟩ (fun _ => rfl) ?_ ?_
  ·exact A0.ck rfl
  rintro k ⟨hkk,hpre⟩
  by_cases hkl : k < nodes.length
  ·obtain ⟨x,hx⟩:=AG hkl
   have gx : nodes.getD k Di = x:=getD_at hx
   have hxo:=hnn x (List.mem_of_getElem? hx)
   have c1:=Sl x hxo
   have c2:=Wi.LU x.view.base base (by have:=hxo.vb;omega)
   have hK : Fg ⟨nodes,gone,base,grams,lost⟩ k = (decide (k = 0 ∨ (nodes.getD (k - 1) Di).view.id < x.view.id) && (Cb x && decide (x.view.base = base))):=by
    show (decide (k = 0 ∨ (nodes.getD (k - 1) Di).view.id < (nodes.getD k Di).view.id) && GG _ (nodes.getD k Di)) = _
    rw [gx];rfl
   generalize hKd : Fg ⟨nodes,gone,base,grams,lost⟩ k = K at hK
   have hY : YT Tryz.prog 3 [.d (.i .i64 k),.dp x.cells] [.c [.d (A2 nodes),.d (.is gone),.d (.is base),.d (.sl 3 grams),.d (.i .i64 lost)],.c [.d (.b false)],.c [.d (A2 nodes)],.lp r] fun v K' => v = .d (.b K) ∧ K' = if K then [.c [.d (A2 nodes),.d (.is gone),.d (.is base),.d (.sl 3 grams),.d (.i .i64 lost)],.c [.d (.b false)],.c [.d (A2 nodes)],.lp r] else [.c [.d (A2 nodes),.d (.is gone),.d (.is base),.d (.sl 3 grams),.d (.i .i64 lost)],.c [.d (.b false)],.c [.d (A2 nodes)],.lp (r.left .ret)]:=by
    refine B0 hr rfl rfl rfl ?_
    clear cb cf cg hnn hT hKd hpre
    generalize Cb x = rn at *
    generalize decide (x.view.base = base) = eb at *
    unfold Node.d at c1
    by_cases h0 : k = 0
    ·have f6 : decide ((k : Int) > 0) = false:=decide_eq_false (by omega)
     rw [decide_eq_true (.inl h0)] at hK
     have nS:=True.intro;obtain ⟨lv,st,ns,nc⟩:=wq [0,1,2,3,4,6,23,26,27,28,64,66,67,68,69,76] [];have pr : AC []:=trivial;refine wd ?_;clear nc ns st lv pr;repeat' (first|with_reducible constructor|(with_reducible intro hc;try simp only[A1] at hc))
     refine ⟨rfl,CB (by first | (simp only [Ai,Ae,Nat.reduceAdd,Int.reduceAdd,Int.reduceSub,Int.reduceMul,Int.reduceToNat];done) | (simp only [Ai,Ae,Nat.reduceAdd,Int.reduceAdd,Int.reduceSub,Int.reduceMul,Int.reduceToNat];rfl) | rfl) ?_⟩
     have nS:=f6;obtain ⟨lv,st,ns,nc⟩:=wq [0,1,2,3,4,6,23,26,27,28,64,66,67,68,69,76] [];have c1:=@c1;have c2:=@c2;have pr : AC []:=trivial;refine wd ?_;clear nc ns st lv pr c2 c1;repeat' (first|with_reducible constructor|(with_reducible intro hc;try simp only[A1] at hc))
     all_goals clear c1 c2
     all_goals first
      | (rw [show K = true by grind];exact ⟨⟨[],[.c [.d (A2 nodes),.d (.is gone),.d (.is base),.d (.sl 3 grams),.d (.i .i64 lost)],.c [.d (.b false)],.c [.d (A2 nodes)],.lp r.busy],_⟩,(A0.ck rfl),Nat.le_refl _,rfl,rfl,rfl⟩)
      | (rw [show K = false by grind];exact ⟨⟨[],[.c [.d (A2 nodes),.d (.is gone),.d (.is base),.d (.sl 3 grams),.d (.i .i64 lost)],.c [.d (.b false)],.c [.d (A2 nodes)],.lp r.busy],_⟩,(A0.ck rfl),Nat.le_refl _,rfl,rfl,rfl⟩)
    ·have f6 : decide ((k : Int) > 0) = true:=decide_eq_true (by omega)
     have e1 : (k : Int) - 1 = ((k - 1 : Nat) : Int):=by omega
     obtain ⟨y,hy⟩:=AG (xs:=nodes) (k:=k - 1) (by omega)
     have gy : nodes.getD (k - 1) Di = y:=getD_at hy
     rw [gy] at hK
     have nS:=True.intro;obtain ⟨lv,st,ns,nc⟩:=wq [0,1,2,3,4,6,23,26,27,28,64,66,67,68,69,76] [];have pr : AC []:=trivial;refine wd ?_;clear nc ns st lv pr;repeat' (first|with_reducible constructor|(with_reducible intro hc;try simp only[A1] at hc))
     refine ⟨rfl,CB (by first | (simp only [Ai,Ae,Nat.reduceAdd,Int.reduceAdd,Int.reduceSub,Int.reduceMul,Int.reduceToNat];done) | (simp only [Ai,Ae,Nat.reduceAdd,Int.reduceAdd,Int.reduceSub,Int.reduceMul,Int.reduceToNat];rfl) | rfl) ?_⟩
     have nS:=And.intro f6 e1;obtain ⟨lv,st,ns,nc⟩:=wq [0,1,2,3,4,6,23,26,27,28,64,66,67,68,69,76] [];have c1:=@c1;have c2:=@c2;have ix1:=hy;have pr : AC []:=trivial;refine wd ?_;clear nc ns st lv pr ix1 c2 c1;repeat' (first|with_reducible constructor|(with_reducible intro hc;try simp only[A1] at hc))
     all_goals clear c1 c2
     all_goals first
      | (rw [show K = true by grind];exact ⟨⟨[],[.c [.d (A2 nodes),.d (.is gone),.d (.is base),.d (.sl 3 grams),.d (.i .i64 lost)],.c [.d (.b false)],.c [.d (A2 nodes)],.lp r.busy],_⟩,(A0.ck rfl),Nat.le_refl _,rfl,rfl,rfl⟩)
      | (rw [show K = false by grind];exact ⟨⟨[],[.c [.d (A2 nodes),.d (.is gone),.d (.is base),.d (.sl 3 grams),.d (.i .i64 lost)],.c [.d (.b false)],.c [.d (A2 nodes)],.lp r.busy],_⟩,(A0.ck rfl),Nat.le_refl _,rfl,rfl,rfl⟩)
   cases hb : K with
   | true =>
    rw [hb] at hY
    have nS:=True.intro;obtain ⟨lv,st,ns,nc⟩:=wq [0,1,3,5,6,7,15] [];have ix1:=hx;have q1:=@hY;refine wk ?_;clear nc ns st lv q1 ix1;repeat' (first|with_reducible constructor|(with_reducible intro hc;try simp only[A1] at hc))
    refine ⟨k + 1,⟨hkl,B6 hpre (hKd.trans hb)⟩,by omega,Nat.le_refl _,?_⟩
    exact A0.ck rfl
   | false =>
    rw [hb] at hY
    have nS:=True.intro;obtain ⟨lv,st,ns,nc⟩:=wq [0,1,3,5,6,7,15] [];have ix1:=hx;have q1:=@hY;refine wk ?_;clear nc ns st lv q1 ix1;repeat' (first|with_reducible constructor|(with_reducible intro hc;try simp only[A1] at hc))
    exact ⟨⟨[],[.c [.d (A2 nodes),.d (.is gone),.d (.is base),.d (.sl 3 grams),.d (.i .i64 lost)],.c [.d (.b false)],.c [.d (A2 nodes)],.lp (r.left .ret)],_⟩,(A0.ck rfl),Nat.le_refl _,_,_,rfl,rfl,.inr ⟨C4 hkl (hKd.trans hb),rfl⟩⟩
  ·have e : k = nodes.length:=by omega
   subst e
   have nS:=True.intro;obtain ⟨lv,st,ns,nc⟩:=wq [0,1,3,5,6,7,15] [];refine wk ?_;clear nc ns st lv;repeat' (first|with_reducible constructor|(with_reducible intro hc;try simp only[A1] at hc))
   exact ⟨_,A0.refl _,Nat.le_refl _,_,_,rfl,rfl,.inl ⟨hpre,rfl⟩⟩
 ·rintro r hr y H' (⟨h,rfl⟩ | ⟨h,rfl⟩)
  ·refine .inl ⟨rfl,?_⟩
   rw [h,Bool.true_and] at hT
   have nS:=True.intro;obtain ⟨lv,st,ns,nc⟩:=wq [0,1,2,3,4,6,23,26,27,28,64,66,67,68,69,76] [];have pr : AC []:=trivial;refine wd ?_;clear nc ns st lv pr;repeat' (first|with_reducible constructor|(with_reducible intro hc;try simp only[A1] at hc))
   have hk:=hr.ok (k:=3) rfl
   refine AS (fun k => k ≤ base.length ∧ (base.take k).all (AZ nodes) = true) (fun k : Nat => [(68,.d (.i .i64 k))]) (fun k => base.length - k) 0 ⟨Nat.zero_le _,rfl⟩ (fun _ => rfl) ?_ ?_
   ·exact A0.ck rfl
   rintro k ⟨hkk,hpre⟩
   by_cases hkl : k < base.length
   ·obtain ⟨x,hx⟩:=AG hkl
    have gx:=AY hx
    have c1:=cf x
    have f6:=OJ nodes x
    generalize CN (Do x) nodes = z at *
    cases hb : AZ nodes x with
    | true =>
     rw [hb] at f6
     have nS:=And.intro gx f6;obtain ⟨lv,st,ns,nc⟩:=wq [0,1,2,3,4,6,23,26,27,28,64,66,67,68,69,76] [];have c1:=@c1;have pr : AC []:=trivial;refine wd ?_;clear nc ns st lv pr c1;repeat' (first|with_reducible constructor|(with_reducible intro hc;try simp only[A1] at hc))
     refine ⟨k + 1,⟨hkl,I0 hx hpre hb⟩,by omega,Nat.le_refl _,?_⟩
     exact A0.ck rfl
    | false =>
     rw [hb] at f6
     have nS:=And.intro gx f6;obtain ⟨lv,st,ns,nc⟩:=wq [0,1,2,3,4,6,23,26,27,28,64,66,67,68,69,76] [];have c1:=@c1;have pr : AC []:=trivial;refine wd ?_;clear nc ns st lv pr c1;repeat' (first|with_reducible constructor|(with_reducible intro hc;try simp only[A1] at hc))
     refine ⟨_,_,rfl,rfl,?_⟩
     simp only [Ao];rw [hT,L8 hx hb];rfl
   have e : k = base.length:=by omega
   subst e
   rw [List.take_length] at hpre
   rw [hpre,Bool.true_and] at hT
   subst hT
   have nS:=True.intro;obtain ⟨lv,st,ns,nc⟩:=wq [0,1,2,3,4,6,23,26,27,28,64,66,67,68,69,76] [];have c1:=@cg;have pr : AC []:=trivial;refine wd ?_;clear nc ns st lv pr c1;repeat' (first|with_reducible constructor|(with_reducible intro hc;try simp only[A1] at hc))
   refine ⟨_,_,rfl,rfl,?_⟩;simp [AH,A6,A5,A4]
  ·refine .inr ⟨.ret,rfl,?_⟩
   rw [h,Bool.false_and] at hT
   subst hT
   have nS:=True.intro;obtain ⟨lv,st,ns,nc⟩:=wq [0,1,2,3,4,6,23,26,27,28,64,66,67,68,69,76] [];have pr : AC []:=trivial;refine wd ?_;clear nc ns st lv pr;repeat' (first|with_reducible constructor|(with_reducible intro hc;try simp only[A1] at hc))
   refine ⟨_,_,rfl,rfl,?_⟩;simp [AH,A6,A5,A4]
end Nd
end Go.Proofs.YtagnjflbhjmefaaGreat
