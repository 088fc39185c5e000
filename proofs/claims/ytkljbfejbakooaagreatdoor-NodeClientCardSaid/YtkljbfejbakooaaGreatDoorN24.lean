/- Part 24 of a proof, put together by a program. Conditions: none beyond those that a theorem states. -/
import Derived.Test.YtkljbfejbakooaaGreatDoorN23
set_option linter.unusedSimpArgs false
set_option linter.unusedVariables false
set_option linter.unnecessarySimpa false
set_option maxHeartbeats 40000000
namespace Go.Proofs.YtkljbfejbakooaaGreatDoor
namespace Nd
open Go.Gar
open Wi (A8 B7 AU AC B2)
set_option maxRecDepth 4000
variable {n : Node}
theorem B3 : B0 n = true ↔ (0 ≤ n.clock ∧ n.clock ≤ 1099511627776) ∧ 0 ≤ n.bad ∧ (0 ≤ n.next ∧ n.next < 16) ∧ Aw n.view = true ∧ (n.calls.id = n.view.id ∧ Bh n.calls = true) ∧ Hu n.phase n.of_ = true ∧ Bp n.keep = true ∧ FB n.seen = true ∧ LZ n = true:=by
 unfold B0;simp only [Bool.and_eq_true,decide_eq_true_eq]
structure ed (n w : Node) : Prop where
 view : Us n.view w.view
 clock : w.clock = n.clock
 calls : w.calls = n.calls
 seen : w.seen = n.seen
 last : w.last = n.last
 bad : w.bad = n.bad
 right : B0 n = true → B0 w = true
 keep : Bp n.keep = true → ∀ y ∈ n.keep,(Fu w.keep y.key).2 = 0 ∧ Jv y (Fu w.keep y.key).1 = false
theorem ed.refl (n : Node) : ed n n:=⟨.refl _,rfl,rfl,rfl,rfl,rfl,fun h => h,fun h _ hy => KY h hy⟩
theorem Xc (k : List Item) (j : Job) (h : Bp k = true) : Bp (Bc k j).1 = true ∧ ∀ y ∈ k,(Fu (Bc k j).1 y.key).2 = 0 ∧ Jv y (Fu (Bc k j).1 y.key).1 = false:=by
 unfold Bc;split
 ·exact ⟨So h,fun y hy => Sp h hy⟩
 ·split <;> exact ⟨h,fun y hy => KY h hy⟩
theorem ap {w : Node} (h : w.seen = n.seen) (k : w.view.id = n.view.id) : LZ w = LZ n:=by unfold LZ;rw [h,k]
theorem ed.mk' {w : Node} (hv : Us n.view w.view) (h1 : w.clock = n.clock) (h2 : w.calls = n.calls) (h3 : w.seen = n.seen) (h4 : w.last = n.last) (h5 : w.bad = n.bad) (h6 : 0 ≤ n.next ∧ n.next < 16 → 0 ≤ w.next ∧ w.next < 16) (h7 : Hu n.phase n.of_ = true → Hu w.phase w.of_ = true) (h8 : Bp n.keep = true → Bp w.keep = true ∧ ∀ y ∈ n.keep,(Fu w.keep y.key).2 = 0 ∧ Jv y (Fu w.keep y.key).1 = false) : ed n w:=by
 refine ⟨hv,h1,h2,h3,h4,h5,fun h => ?_,fun h => (h8 h).2⟩;rw [B3] at h ⊢;obtain ⟨a1,a2,a3,a4,a5,a6,a7,a8,a9⟩:=h;exact ⟨by rw [h1];exact a1,by rw [h5];exact a2,h6 a3,hv.right a4,by rw [h2,hv.id];exact a5,h7 a6,(h8 a7).1,by rw [h3];exact a8,by rw [ap h3 hv.id];exact a9⟩
theorem dv {k : Int} (h : 0 ≤ k ∧ k < 16) : 0 ≤ (k + 1).tmod 16 ∧ (k + 1).tmod 16 < 16:=by
 rw [Int.tmod_eq_emod_of_nonneg (by omega)];omega
structure GOK (n : Node) (why : Int) (c : JC) (w : Node) : Prop where
 st : ed n w
 list : w.view.list = n.view.list
 phase : w.phase = n.phase
 of_ : w.of_ = n.of_
 finger : why ≠ 5 → w.finger = n.finger ∧ w.next = n.next
 mirror : why ≠ 6 → w.mirror = n.mirror
 client : why = 5 ∨ why = 6 → w.client = n.client
theorem dQ (n : Node) : Us n.view (De n).view ∧ (De n).view.list = n.view.list:=by
 unfold De
 by_cases h : n.finger.code = 0
 ·simp only [if_pos h];exact ⟨gf ..,ZS ..⟩
 ·refine ⟨?_,by simp only [if_neg h]⟩;simp only [if_neg h];exact .refl _
theorem kj (n : Node) (j : Job) : MH n 5 j = { n with finger:=j }:=if_pos rfl
theorem ko (n : Node) (j : Job) : MH n 6 j = { n with mirror:=j }:=by unfold MH;rw [if_neg (by decide),if_pos rfl]
theorem fO (n : Node) {why : Int} (j : Job) (h5 : why ≠ 5) (h6 : why ≠ 6) : MH n why j = { n with client:=j }:=by unfold MH;rw [if_neg h5,if_neg h6]
theorem Iz (n : Node) (why : Int) (ended : Bool) (c : JC) : GOK n why c (Ar n why ended c).1:=by
 unfold Ar
 have hs : Bp n.keep = true → Bp (if c.own then Bc n.keep c.job else (n.keep,c.job)).1 = true ∧ ∀ y ∈ n.keep,(Fu (if c.own then Bc n.keep c.job else (n.keep,c.job)).1 y.key).2 = 0 ∧ Jv y (Fu (if c.own then Bc n.keep c.job else (n.keep,c.job)).1 y.key).1 = false:=by
  intro h;split
  ·exact Xc _ _ h
  ·exact ⟨h,fun y hy => KY h hy⟩
 generalize (if c.own then Bc n.keep c.job else (n.keep,c.job)) = s at *;obtain ⟨k,j⟩:=s;dsimp only at hs ⊢
 by_cases h5 : why = 5
 ·subst h5;rw [kj];have hg:=dQ { n with keep:=k,finger:=j }
  by_cases hc : (5 : Int) = 5 ∧ ended = false ∧ j.phase = 5
  ·rw [if_pos hc];exact ⟨.mk' hg.1 rfl rfl rfl rfl rfl dv id hs,hg.2,rfl,rfl,fun h => absurd rfl h,fun _ => rfl,fun _ => rfl⟩
  ·rw [if_neg hc];exact ⟨.mk' (.refl _) rfl rfl rfl rfl rfl id id hs,rfl,rfl,rfl,fun h => absurd rfl h,fun _ => rfl,fun _ => rfl⟩
 ·rw [if_neg (fun h => h5 h.1)]
  by_cases h6 : why = 6
  ·subst h6;rw [ko];exact ⟨.mk' (.refl _) rfl rfl rfl rfl rfl id id hs,rfl,rfl,rfl,fun _ => ⟨rfl,rfl⟩,fun h => absurd rfl h,fun _ => rfl⟩
  ·rw [fO _ _ h5 h6];exact ⟨.mk' (.refl _) rfl rfl rfl rfl rfl id id hs,rfl,rfl,rfl,fun _ => ⟨rfl,rfl⟩,fun _ => rfl,fun h => by omega⟩
theorem T1 (n : Node) (why what place : Int) (x : Item) : ed n (BI n why what place x).1 ∧ (BI n why what place x).1.view.list = n.view.list:=by
 unfold BI;split
 ·exact ⟨(Iz ..).st,(Iz ..).list⟩
 ·exact ⟨.refl _,rfl⟩
theorem VA (n : Node) (why : Int) : ed n (DY n why):=by
 unfold DY;split
 ·split
  ·exact .mk' (.refl _) rfl rfl rfl rfl rfl id (fun _ => rfl) (fun hk => ⟨hk,fun y hy => KY hk hy⟩)
  ·split
   ·exact (Iz ..).st
   ·exact .refl _
 ·exact .refl _
abbrev FP : List Nat:=[0,1,2,3,6,7,8,9,12,19,21,28,29,33]
abbrev JH : List Nat:=[0,1,4,6,11,13,14,15,16,22,25,26,27,36]
theorem cN (a x b : Int) : Go.Gar.Fn Tryz.prog 255 [.i .i64 a,.i .i64 x,.i .i64 b] (.b (OB a x b)):=by
 have c1:=Zn a x b;have c2:=E4 x;have c3:=E4 b;refine zF A6 Tryz.func255 ?_
 cases h : Po a x b with
 | true =>
  rw [h] at c1;have hT : OB a x b = true:=by unfold OB;rw [h];rfl
  refine wk [0,1,2,6] [] A0 (AF @c1) ?_;refine ⟨_,_,rfl,rfl,?_⟩;simp [AR,AB,A7,A4,hT]
 | false =>
  rw [h] at c1;have hT : OB a x b = (Bj x == Bj b):=by unfold OB;rw [h,DK];rfl
  refine wk [0,1,2,6] [] A0 (Dl @c1 @c2 @c3) ?_;refine ⟨_,_,rfl,rfl,?_⟩;simp [AR,AB,A7,A4,hT]
theorem lN (id : Int) (base list : List Int) (pred : Int) (f : Nat → Int) (k : Nat) : AV.oks k (vC id base list pred f) = true:=rfl
theorem Zy (id : Int) (base list : List Int) (pred : Int) (f : Nat → Int) : Ao Tryz.prog 317 [.d (View.d ⟨id,base,list,pred,f⟩)] [] (.fn (.func 350) [] [.ptr 0 0 20]) [.c (vC id base list pred f)]:=by
 refine zD A6 Tryz.func317 ?_;unfold vC;refine wk [0,1,2] [] A0 A0 ?_;exact ⟨_,(A3.ck rfl),Nat.zero_le _,_,_,rfl,rfl,rfl,rfl⟩
theorem dP (id k : Int) : Ao Tryz.prog 316 [.d (.i .i64 id),.d (.i .i64 k)] [] (.fn (.func 349) [] [.ptr 0 0 1,.ptr 1 0 1]) [.c [.d (.i .i64 id)],.c [.d (.i .i64 k)]]:=by
 refine zD A6 Tryz.func316 ?_;refine wk [0,1,2,3,4] [] A0 A0 ?_;exact ⟨_,(A3.ck rfl),Nat.zero_le _,_,_,rfl,rfl,rfl,rfl⟩
def Tq (id k q p : Int) : Bool:=Po id q k && decide (Af id q > Af id p)
theorem ZW (id k q p : Int) : Ao Tryz.prog 349 [.d (.i .i64 q),.d (.i .i64 p),.ptr 0 0 1,.ptr 1 0 1] [.c [.d (.i .i64 id)],.c [.d (.i .i64 k)]] (.d (.b (Tq id k q p))) [.c [.d (.i .i64 id)],.c [.d (.i .i64 k)]]:=by
 have c1:=Zn id q k;have c2:=I4 id q;have c3:=I4 id p;refine zD A6 Tryz.func349 ?_
 cases h : Po id q k with
 | true =>
  rw [h] at c1;have hT : Tq id k q p = decide (Af id q > Af id p):=by unfold Tq;rw [h];rfl
  rw [hT];refine wd [0,1,2,3,6] [] [(8,7)] A0 (Dl @c1 @c2 @c3) ?_;exact ⟨⟨[(6,.d (.b (decide (Af id q > Af id p))))],_,_⟩,(A3.ck rfl),Nat.le_refl _,_,_,rfl,rfl,rfl,rfl⟩
 | false =>
  rw [h] at c1;have hT : Tq id k q p = false:=by unfold Tq;rw [h];rfl
  rw [hT];refine wd [0,1,2,3,6] [] [] A0 (Dl @c1 @c2 @c3) ?_;exact ⟨⟨[(6,.d (.b false))],_,_⟩,(A3.ck rfl),Nat.le_refl _,_,_,rfl,rfl,rfl,rfl⟩
theorem dG {f : Nat → Int} {k : Nat} (h : k < 16) : (EA f)[k]? = some (f k):=by
 rcases aL h with rfl | rfl | rfl | rfl | rfl | rfl | rfl | rfl | rfl | rfl | rfl | rfl | rfl | rfl | rfl | rfl <;> rfl
def QA (id k p q : Int) : Int:=if q != -1 then F2 id k p q else p
theorem fold_filter {α : Type} (g : α → Int → α) (c : Int → Bool) : ∀ (l : List Int) (s : α),(l.filter c).foldl g s = l.foldl (fun s x => if c x then g s x else s) s
 | [],s => rfl
 | a :: l,s => by
  cases h : c a with
  | true => rw [List.filter_cons_of_pos h,List.foldl_cons,List.foldl_cons,fold_filter g c l,if_pos h]
  | false => rw [List.filter_cons_of_neg (by rw [h];simp),List.foldl_cons,fold_filter g c l,if_neg (by rw [h];simp)]
theorem kg (v : View) (k p : Int) : (ke v).foldl (F2 v.id k) p = (EA v.f).foldl (QA v.id k) (v.list.foldl (F2 v.id k) (F2 v.id k p (Ix v))):=by
 unfold ke;rw [List.foldl_cons,List.foldl_append,fold_filter];rfl
abbrev hpH (id : Int) (base list : List Int) (pred : Int) (f : Nat → Int) (k p : Int) (r : Lp) : List A5:=[.c (vC id base list pred f),.c [.d (.i .i64 p)],.c [.d (.i .i64 id)],.c [.d (.i .i64 k)],.c [.fn (.func 349) [] [.ptr 2 0 1,.ptr 3 0 1]],.c (vC id base list pred f),.lp r]
theorem cA (v : View) (k : Int) (slow : Bool) (hb : v.base.length ≤ 1000) (hl : v.list.length ≤ 1000) : Go.Gar.Fn Tryz.prog 274 [v.d,.i .i64 k,.b slow] (.tup [.i .i64 (GH v k slow).1,.b (GH v k slow).2]):=by
 have c1:=HA v hb hl;have c2:=PP v hb hl;have c3:=cN v.id k (Ix v);have c4:=Zy v.id v.base v.list v.pred v.f;have c5:=dP v.id k;refine zF A6 Tryz.func274 ?_
 cases h : Aw v with
 | false =>
  have hT : GH v k slow = (-1,false):=by unfold GH;rw [h];rfl
  rw [h] at c1;rw [hT];obtain ⟨id,base,list,pred,f⟩:=v;refine wk FP [] A0 (AF @c1) ?_;exact zE
 | true =>
 rw [h] at c1
 cases hu : OB v.id k (Ix v) with
 | true =>
  have hT : GH v k slow = (Ix v,true):=by unfold GH;rw [h,hu];rfl
  rw [hu] at c3;rw [hT];generalize Ix v = p0 at *;obtain ⟨id,base,list,pred,f⟩:=v;refine wk FP [] A0 (Dl @c1 @c2 @c3) ?_;exact zE
 | false =>
 rw [hu] at c3
 cases slow with
 | true =>
  have hT : GH v k true = (Ix v,false):=by unfold GH;rw [h,hu];rfl
  rw [hT];generalize Ix v = p0 at *;obtain ⟨id,base,list,pred,f⟩:=v;refine wk FP [] A0 (Dl @c1 @c2 @c3) ?_;exact zE
 | false =>
 have hT : GH v k false = ((EA v.f).foldl (QA v.id k) (v.list.foldl (F2 v.id k) (F2 v.id k (Ix v) (Ix v))),false):=by unfold GH;rw [h,hu,kg];rfl
 rw [hT];generalize Ix v = p0 at *;obtain ⟨id,base,list,pred,f⟩:=v;clear hT h hu;dsimp only at *;have d1:=Ds.mk [] (c4);have d2:=Ds.mk [] (c5);refine wk FP [] A0 (Dl @c1 @c2 @c3) ?_;clear d2 d1;refine zG (K:=fun r _ H' => H' = hpH id base list pred f k ((EA f).foldl (QA id k) (list.foldl (F2 id k) (F2 id k p0 p0))) r) ?_ ?_
 ·intro r hr;have hk:=And.intro (lN id base list pred f) (hr.ok (k:=6) rfl)
  have hY : ∀ q p,YT Tryz.prog 6 [.d (.i .i64 q)] (hpH id base list pred f k p r) fun x K => x = .d (.b true) ∧ K = hpH id base list pred f k (F2 id k p q) r:=by
   intro q p;have c6:=ZW id k q p;have hS : F2 id k p q = if Tq id k q p then q else p:=rfl
   rw [hS];refine Az hr rfl rfl rfl ?_
   cases hi : Tq id k q p with
   | true =>
    rw [hi] at c6;refine wk FP [] A0 A0 ?_;refine zR ?_;have d1:=Ds.mk [2,3] (c6);refine wk FP [] A0 A0 ?_;clear d1;exact ⟨_,A3.refl _,Nat.le_refl _,rfl,rfl,rfl⟩
   | false =>
    rw [hi] at c6;refine wk FP [] A0 A0 ?_;refine zR ?_;have d1:=Ds.mk [2,3] (c6);refine wk FP [] A0 A0 ?_;clear d1;exact ⟨_,A3.refl _,Nat.le_refl _,rfl,rfl,rfl⟩
  refine zT A6 Tryz.func350 ?_;have q1:=@hY;refine wk JH [] A0 (AF @c2) ?_;clear q1;refine Cj (fun j => j ≤ list.length) (fun j : Nat => [(15,.d (.i .i64 j))]) (fun j => [(1,.c [.d (.i .i64 ((list.take j).foldl (F2 id k) (F2 id k p0 p0)))])]) (fun j => list.length - j) 0 (Nat.zero_le _) (fun _ => rfl) (fun _ => rfl) ?_ ?_
  ·exact A3.ck rfl
  intro j hj
  by_cases hjl : j < list.length
  ·obtain ⟨q,hq⟩:=Aa hjl;have gq:=Cm hq;have hn : (list.take (j + 1)).foldl (F2 id k) (F2 id k p0 p0) = F2 id k ((list.take j).foldl (F2 id k) (F2 id k p0 p0)) q:=by rw [AP hq,List.foldl_append];rfl
   have q1:=@hY;refine wk JH [] (AF gq) A0 ?_;clear q1;with_reducible repeat' first|constructor|intro hc;try simp only[AD] at hc
   refine ⟨j + 1,hjl,by omega,Nat.le_refl _,?_⟩;exact (have nC:=hn;A3.cn rfl)
  have e : j = list.length:=by omega
  subst e;rw [List.take_length];generalize list.foldl (F2 id k) (F2 id k p0 p0) = p1 at *;refine wk JH [] A0 A0 ?_;with_reducible repeat' first|constructor|intro hc;try simp only[AD] at hc
  refine Cj (fun j => j ≤ 16) (fun j : Nat => [(26,.d (.i .i64 j))]) (fun j => [(1,.c [.d (.i .i64 (((EA f).take j).foldl (QA id k) p1))])]) (fun j => 16 - j) 0 (Nat.zero_le _) (fun _ => rfl) (fun _ => rfl) ?_ ?_
  ·exact A3.ck rfl
  intro j hj
  by_cases hjl : j < 16
  ·have hn : ((EA f).take (j + 1)).foldl (QA id k) p1 = if f j != -1 then F2 id k (((EA f).take j).foldl (QA id k) p1) (f j) else ((EA f).take j).foldl (QA id k) p1:=by rw [AP (dG hjl),List.foldl_append];rfl
   generalize ((EA f).take j).foldl (QA id k) p1 = p2 at *
   cases g : f j != -1 with
   | true =>
    rw [g,if_pos rfl] at hn;rcases aL hjl with rfl | rfl | rfl | rfl | rfl | rfl | rfl | rfl | rfl | rfl | rfl | rfl | rfl | rfl | rfl | rfl
    all_goals
     simp only [Nat.reduceAdd] at hn;have q1:=@hY;refine wk JH [] (AF g) A0 ?_;clear q1;refine ⟨_,hjl,(by omega),Nat.le_refl _,?_⟩;exact (have nC:=hn;A3.cn rfl)
   | false =>
    rw [g,if_neg (by decide)] at hn;rcases aL hjl with rfl | rfl | rfl | rfl | rfl | rfl | rfl | rfl | rfl | rfl | rfl | rfl | rfl | rfl | rfl | rfl
    all_goals
     simp only [Nat.reduceAdd] at hn;have q1:=@hY;refine wk JH [] (AF g) A0 ?_;clear q1;refine ⟨_,hjl,(by omega),Nat.le_refl _,?_⟩;exact (have nC:=hn;A3.cn rfl)
  ·have e16 : j = 16:=by omega
   subst e16;refine wk JH [] A0 A0 ?_;exact ⟨_,A3.refl _,Nat.le_refl _,_,_,rfl,rfl,rfl⟩
 ·rintro r hr x H' rfl;refine .inl ⟨rfl,?_⟩;generalize (EA f).foldl (QA id k) (list.foldl (F2 id k) (F2 id k p0 p0)) = p9 at *;refine wk FP [] A0 A0 ?_;exact zE
end Nd
end Go.Proofs.YtkljbfejbakooaaGreatDoor
