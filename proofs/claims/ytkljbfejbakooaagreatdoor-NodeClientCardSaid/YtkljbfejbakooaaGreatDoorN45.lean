/- Part 45 of a proof, put together by a program. Conditions: none beyond those that a theorem states. -/
import Derived.Test.YtkljbfejbakooaaGreatDoorN44
set_option linter.unusedSimpArgs false
set_option linter.unusedVariables false
set_option linter.unnecessarySimpa false
set_option maxHeartbeats 40000000
namespace Go.Proofs.YtkljbfejbakooaaGreatDoor
namespace Nd
open Go.Gar
open Wi (A8 B7 AU AC B2 Bn Bl)
set_option maxRecDepth 4000
theorem fQ (x : Int) : ∀ (l : List Int) (f : Int),rT x f l = true → (∀ p ∈ l,Am p = true ∧ Af x p > f) ∧ l.Nodup
 | [],_,_ => ⟨fun p hp => (by cases hp),List.nodup_nil⟩
 | p :: r,f,h => by
  unfold rT at h;simp only [Bool.and_eq_true,decide_eq_true_eq] at h;obtain ⟨i1,i2⟩:=fQ x r _ h.2;refine ⟨fun q hq => ?_,List.nodup_cons.2 ⟨fun hp => ?_,i2⟩⟩
  ·rcases List.mem_cons.1 hq with rfl | hq
   ·exact h.1
   ·have:=i1 q hq;have:=h.1.2;exact ⟨(i1 q hq).1,by omega⟩
  ·have:=(i1 p hp).2;omega
theorem kh {id n : Int} (h : Eg id n = true) (h1 : n ≠ -1) : Am n = true:=by
 unfold Eg at h;rw [Bool.or_eq_true,decide_eq_true_eq,Bool.and_eq_true] at h;rcases h with h | h
 ·exact absurd h h1
 ·exact h.1
variable {v : View}
theorem hZ {k : Int} {slow : Bool} (hv : Aw v = true) : Am (GH v k slow).1 = true:=by
 have hfi:=fB hv;obtain ⟨_,_,h3,_,h5⟩:=Fz hv;unfold C5 at h3;rw [Bool.and_eq_true] at h3;have hl:=(fQ v.id v.list 0 h3.2).1;unfold GH;rw [if_pos hv];split
 ·exact hfi.1
 split
 ·exact hfi.1
 ·have hk : ∀ q ∈ ke v,Am q = true:=by
   intro q hq;unfold ke at hq;rcases List.mem_cons.1 hq with rfl | hq
   ·exact hfi.1
   rcases List.mem_append.1 hq with hq | hq
   ·exact (hl q hq).1
   ·have h1:=List.mem_filter.1 hq;exact kh (List.all_eq_true.1 h5 q h1.1) (by simpa using h1.2)
  have key : ∀ (l : List Int) (p : Int),(∀ q ∈ l,Am q = true) → Am p = true → Am (l.foldl (F2 v.id k) p) = true:=by
   intro l
   induction l with
   | nil => exact fun p _ h => h
   | cons q r ih =>
    intro p hq hp;rw [List.foldl_cons];refine ih _ (fun q' h => hq q' (List.mem_cons_of_mem _ h)) ?_;unfold F2;split
    ·exact hq q (List.mem_cons_self ..)
    ·exact hp
  exact key _ _ hk hfi.1
theorem NB.seen {n : Node} (h : NB n) {l : List Past} (hl : FB l = true) (ho : ∀ p ∈ l,p.told.src = n.view.id) : NB { n with seen:=l }:=by
 refine ⟨?_,⟨h.l.f,h.l.m,h.l.c⟩,h.ph⟩;obtain ⟨a1,a2,a3,a4,a5,a6,a7,a8,a9⟩:=B3.1 h.r;refine B3.2 ⟨a1,a2,a3,a4,a5,a6,a7,hl,?_⟩;unfold LZ;rw [Bool.not_eq_true',List.any_eq_false];intro p hp;have:=ho p hp;simpa using this
variable {n : Node}
theorem NB.own (h : NB n) : ∀ p ∈ n.seen,p.told.src = n.view.id:=by
 have:=(B3.1 h.r).2.2.2.2.2.2.2.2;unfold LZ at this;rw [Bool.not_eq_true',List.any_eq_false] at this;intro p hp;simpa using this p hp
theorem Wt (id : Int) (j : Job) (owner : Int) (l : List Int) : (IM id j owner l).asks = [] → (IM id j owner l).job.phase = 5:=by
 unfold IM;dsimp only;intro h;rw [List.map_eq_nil_iff] at h;rw [if_pos h]
theorem Tv {j : Job} (h : j.look.code = 0 → j.look.found = false → Nb j.look = true) : (F8 v j).asks = [] → (F8 v j).job.phase = 5:=by
 unfold F8;split
 ·exact fun _ => rfl
 rename_i h0;split
 ·rename_i h1;intro hn;exfalso;dsimp only at hn;have h0' : j.look.code = 0:=Decidable.not_not.1 h0;have hr:=h h0' h1
  have hl : (T8 j.look).2 = true:=by
   unfold T8 lookO;rw [h1,h0',hr];rfl
  rw [hl] at hn;simp at hn
 split
 ·exact fun _ => rfl
 split
 ·exact Wt _ _ _ _
 split
 ·intro hn;simp at hn
 split
 ·exact fun _ => rfl
 ·intro hn;simp at hn
theorem Wq (v : View) (what place : Int) (x : Item) : (C7 v what place x).asks = [] → (C7 v what place x).job.phase = 5:=by
 unfold C7;split
 ·rename_i hc;rw [Bool.and_eq_true] at hc;refine Tv fun _ _ => ?_
  dsimp only;have e : jU v (Ga what place x).1 = ⟨Bj (Ga what place x).1,(GH v (Bj (Ga what place x).1) false).1,0,false,(GH v (Bj (Ga what place x).1) false).2,0⟩:=if_pos hc.2;rw [e];have h1 : Am (Bj (Ga what place x).1) = true:=by unfold Am Bj;simp;omega
  unfold Nb;rw [h1,hZ hc.2];rfl
 ·exact fun _ => rfl
theorem Tw (v : View) (j : Job) : (F8 v j).job.item = j.item:=(VX v j).2.1
variable {what : Int} {x : Item}
theorem Yr {place : Int} (h : what = 2 ∨ what = 3) : (Ga what place x).2.1.key = x.key:=by
 unfold Ga;rw [if_neg (by omega)];split
 ·rfl
 ·rw [if_pos (by omega)]
theorem Zu {place : Int} (hv : Aw v = true) (h : what = 2 ∧ AU x = true ∨ what = 3 ∧ B2 x.key = true) : (C7 v what place x).job.item.key = x.key:=by
 have hk : B2 x.key = true:=by
  rcases h with ⟨_,h⟩ | ⟨_,h⟩
  ·unfold Wi.AU at h;simp only [Bool.and_eq_true] at h;exact h.1.1
  ·exact h
 have hm : (Nf x.key).2 = 0:=by unfold Nf;rw [if_pos hk]
 have hb : (Ga what place x).2.2 = true:=by
  unfold Ga;rcases h with ⟨e,h⟩ | ⟨e,h⟩
  ·rw [if_neg (by omega),if_pos e,hm,h];rfl
  ·rw [if_neg (by omega),if_neg (by omega),if_pos e,hm];rfl
 unfold C7;rw [hb,hv,Bool.and_self,if_pos rfl,Tw];exact Yr (h.imp And.left And.left)
theorem Xd (k : List Item) (j : Job) : (Bc k j).2.what = j.what ∧ (Bc k j).2.item.key = j.item.key ∧ (Bc k j).2.phase = j.phase:=by
 unfold Bc;split
 ·dsimp only;split <;> exact ⟨rfl,rfl,rfl⟩
 split
 ·dsimp only;split
  ·rename_i hg;refine ⟨rfl,?_,rfl⟩;unfold Fu at hg ⊢;dsimp only;split
   ·rename_i hc;rw [Bool.and_eq_true] at hc;obtain ⟨x,_,hx,hg2⟩:=HT hc.2;dsimp only;rw [hg2,hx]
   ·rename_i hc;rw [if_neg hc] at hg;cases hg
  ·exact ⟨rfl,rfl,rfl⟩
 ·exact ⟨rfl,rfl,rfl⟩
theorem fF (n : Node) (e : Bool) (c : JC) : (Ar n 7 e c).1.client.what = c.job.what ∧ (Ar n 7 e c).1.client.item.key = c.job.item.key ∧ (Ar n 7 e c).1.client.phase = c.job.phase ∧ (Ar n 7 e c).2 = c.asks.map fun m => (m,7):=by
 unfold Ar
 have hs : (if c.own then Bc n.keep c.job else (n.keep,c.job)).2.what = c.job.what ∧ (if c.own then Bc n.keep c.job else (n.keep,c.job)).2.item.key = c.job.item.key ∧ (if c.own then Bc n.keep c.job else (n.keep,c.job)).2.phase = c.job.phase:=by
  split
  ·exact Xd ..
  ·exact ⟨rfl,rfl,rfl⟩
 generalize (if c.own then Bc n.keep c.job else (n.keep,c.job)) = s at *;dsimp only;rw [if_neg (fun h => absurd h.1 (by decide)),fO _ _ (by decide) (by decide)];exact ⟨hs.1,hs.2.1,hs.2.2,rfl⟩
theorem kM (hr : B0 n = true) : (DY n 7).client.what = n.client.what ∧ (DY n 7).client.item.key = n.client.item.key ∧ (DY n 7).client.phase = 5:=by
 unfold DY;rw [if_pos hr,if_neg (by omega)];have ej : Ke n 7 = n.client:=rfl;rw [ej];split
 ·have:=fF n false ⟨CX (CW n.client 100),[],false⟩;exact ⟨this.1,this.2.1,this.2.2.1⟩
 ·rename_i h
  have : n.client.phase = 5:=by
   by_cases h5 : n.client.phase = 5
   ·exact h5
   ·exact absurd ⟨⟨by decide,by decide⟩,h5⟩ h
  exact ⟨rfl,rfl,this⟩
theorem fJ : ∀ (l : List A8) {s : NS},NB s.1 → (DZ s (l.map fun m => (m,7))).1.client.what = s.1.client.what ∧ (DZ s (l.map fun m => (m,7))).1.client.item.key = s.1.client.item.key ∧
  ((DZ s (l.map fun m => (m,7))).2 ≠ [] ∨ (DZ s (l.map fun m => (m,7))).1.client.phase = 5 ∨ (l = [] ∧ (DZ s (l.map fun m => (m,7))).1.client.phase = s.1.client.phase))
 | [],s,h => ⟨rfl,rfl,.inr (.inr ⟨rfl,rfl⟩)⟩
 | m :: r,s,h => by
  have h1:=Np h (m,7);have e : DZ s ((m :: r).map fun m => (m,7)) = DZ (F5 s (m,7)) (r.map fun m => (m,7)):=rfl;obtain ⟨i1,i2,i3⟩:=fJ r h1.nb;have hs:=(Ko (r.map fun m => (m,(7 : Int))) h1.nb).sent;rw [e]
  have key : (F5 s (m,7)).1.client.what = s.1.client.what ∧ (F5 s (m,7)).1.client.item.key = s.1.client.item.key ∧ ((F5 s (m,7)).2 ≠ [] ∨ (F5 s (m,7)).1.client.phase = 5):=by
   unfold F5;split
   ·rename_i he;obtain ⟨_,_,_,q,_,h4,_,e⟩:=QU h.cB.1 he;rw [e];refine ⟨rfl,rfl,.inl ?_⟩;dsimp only;rw [Hb h4];simp
   ·have b:=kM h.r;exact ⟨b.1,b.2.1,.inr b.2.2⟩
  refine ⟨i1.trans key.1,i2.trans key.2.1,?_⟩;obtain ⟨g,g1,_⟩:=hs;rcases i3 with i3 | i3 | ⟨_,i3⟩
  ·exact .inl i3
  ·exact .inr (.inl i3)
  ·rcases key.2.2 with k | k
   ·left;rw [g1];intro hn;exact k (List.append_eq_nil_iff.1 hn).1
   ·right;left;rw [i3];exact k
theorem TK (h : NB n) (hx : x.key.length ≤ big) (hk : (GF n what x).2 = 0) :
  (GF n what x).1.1.client.what = what ∧ (GF n what x).1.1.client.item.key = x.key ∧ ((GF n what x).1.1.client.phase = 5 ∨ (GF n what x).1.2 ≠ []):=by
 unfold GF at hk ⊢;split at hk
 ·rename_i hc;rw [if_pos hc];rw [Bool.and_eq_true] at hc;split at hk
  ·rename_i hf;rw [if_pos hf];dsimp only
   have ha : what = 2 ∧ AU x = true ∨ what = 3 ∧ B2 x.key = true:=by
    have:=hc.2;unfold E6 at this;simpa only [Bool.or_eq_true,Bool.and_eq_true,decide_eq_true_eq] using this
   have es : BI n 7 what 0 x = Ar n 7 false (C7 n.view what 0 x):=by unfold BI;rw [h.r];rfl
   have hn:=h.start (w:=7) (what:=what) (place:=0) hx;unfold Jh;have g:=fF n false (C7 n.view what 0 x);rw [es] at hn ⊢;rw [g.2.2.2];obtain ⟨o1,o2,o3⟩:=fJ (C7 n.view what 0 x).asks (s:=((Ar n 7 false (C7 n.view what 0 x)).1,[])) hn;dsimp only at o1 o2 o3;refine ⟨o1.trans (g.1.trans (Wr ..)),o2.trans (g.2.1.trans (Zu h.rv ha)),?_⟩;rcases o3 with o | o | ⟨o,p⟩
   ·exact .inr o
   ·exact .inl o
   ·left;rw [p,g.2.2.1];exact Wq _ _ _ _ o
  ·cases hk
 ·cases hk
end Nd
end Go.Proofs.YtkljbfejbakooaaGreatDoor
namespace Go.Proofs.YtkljbfejbakooaaGreatDoor
namespace Nd
open Go.Gar
open Wi (A8 B7 AU)
set_option maxRecDepth 4000
theorem eJ (n : Node) (h : Ip n) : Go.Gar.Fn Tryz.prog 30 [n.d] (.b (LZ n)):=by
 refine zF A6 Tryz.func30 ?_;have hn : n.seen.length ≤ 1048576:=h.sn;have hT : LZ n = !(n.seen.any fun p => decide (p.told.src ≠ n.view.id)):=rfl;generalize hq : (fun p : Past => decide (p.told.src ≠ n.view.id)) = q at *;have hq' : ∀ x : Past,(x.told.src != n.view.id) = q x:=fun x => by rw [← hq];by_cases e : x.told.src = n.view.id <;> simp [e]
 refine wd [0,1,2,3,8,21] [] [] A0 A0 ?_;refine Cz (fun k => k ≤ n.seen.length ∧ (n.seen.take k).any q = false) (fun k : Nat => [(3,.d (.i .i64 k))]) (fun k => n.seen.length - k) 0 ⟨Nat.zero_le _,rfl⟩ (fun _ => rfl) ?_ ?_
 ·exact A3.ck rfl
 rintro k ⟨hk,hpre⟩
 by_cases hkl : k < n.seen.length
 ·obtain ⟨x,hx⟩:=Aa hkl;have hA:=Fl (p:=q) hx;rw [hpre,Bool.false_or] at hA;have f1:=hq' x
  cases hb : q x with
  | true =>
   rw [hb] at f1;have ix1:=hx;refine wd [0,1,2,3,8,21] [] [] (AF f1) A0 ?_;clear ix1;with_reducible repeat' first|constructor|intro hc;try simp only[AD] at hc
   refine ⟨_,_,rfl,rfl,?_⟩;simp only [Bi];rw [hT,V7 hx hb];rfl
  | false =>
   rw [hb] at f1;have ix1:=hx;refine wd [0,1,2,3,8,21] [] [] (AF f1) A0 ?_;clear ix1;with_reducible repeat' first|constructor|intro hc;try simp only[AD] at hc
   refine ⟨k + 1,⟨hkl,by rw [hA,hb]⟩,by omega,Nat.le_refl _,?_⟩;exact A3.ck rfl
 ·have e : k = n.seen.length:=by omega
  subst e;rw [List.take_length] at hpre;refine wd [0,1,2,3,8,21] [] [] A0 A0 ?_;with_reducible repeat' first|constructor|intro hc;try simp only[AD] at hc
  refine ⟨_,_,rfl,rfl,?_⟩;simp only [Bi];rw [hT,hpre];rfl
theorem XW (n : Node) (h : Ip n) : Go.Gar.Fn Tryz.prog 9 [n.d] (.b (B0 n)):=by
 have c1:=eJ n h;have c2:=M3 n.view h.id h.li (by have:=h.vb;omega) (by have:=h.vl;omega);have c3:=XR n.calls h.cl (by have:=h.cn;omega);have c4:=bR n.seen h.sl (by have:=h.sn;omega);have c5:=bS n.phase n.of_;have c6:=bN n.keep (by have:=h.kn;omega);have hT : B0 n = ((decide (0 ≤ n.clock) && decide (n.clock ≤ 1099511627776)) && (decide (0 ≤ n.bad) && ((decide (0 ≤ n.next) && decide (n.next < 16)) && (Aw n.view && ((decide (n.calls.id = n.view.id) && Bh n.calls) && (Hu n.phase n.of_ && (Bp n.keep && (FB n.seen && LZ n)))))))):=rfl;unfold View.d View.cells at c2;unfold Calls.d Calls.cells at c3;refine zF A6 Tryz.func9 ?_;generalize B0 n = R at *;generalize LZ n = g1 at *;generalize Aw n.view = g2 at *;generalize Bh n.calls = g3 at *;generalize FB n.seen = g4 at *;generalize Hu n.phase n.of_ = g5 at *;generalize Bp n.keep = g6 at *;clear h;refine wk [0,1,2] [] A0 (zq6 @c1 @c2 @c3 @c4 @c5 @c6) ?_;with_reducible repeat' first|constructor|intro hc;try simp only[AD] at hc
 all_goals (clear c1 c2 c3 c4 c5 c6;refine ⟨_,_,rfl,rfl,?_⟩;simp only [Bi];refine congrArg D.b ?_;rw [hT];clear hT;grind)
end Nd
end Go.Proofs.YtkljbfejbakooaaGreatDoor
namespace Go.Proofs.YtkljbfejbakooaaGreatDoor
namespace Nd
open Go.Gar
open Wi (A8 B7 AU AC B2 mC Bn Bl)
set_option maxRecDepth 4000
abbrev L6 : List Nat:=[0,1,2,3,4,51,56,79,84,94]
structure GB (n : Node) : Prop where
 vb : n.view.base.length ≤ 20
 vl : n.view.list.length ≤ 20
 cn : n.calls.op.length ≤ 30
 cl : ∀ x ∈ n.calls.op,Et x.msg = false
 sn : n.seen.length ≤ 60
 kn : n.keep.length ≤ 40
 ln : n.last.length ≤ 100
 f : n.finger.left.length ≤ 20
 m : n.mirror.left.length ≤ 20
 c : n.client.left.length ≤ 20
 sl : ∀ x ∈ n.seen,Et x.told = false
 kl : ∀ x ∈ n.keep,x.key.length ≤ 100
theorem XO (n : Node) : ∃ b : Bool,Go.Gar.Fn Tryz.prog 8 [n.d] (.b b) ∧ (b = false → GB n):=by
 obtain ⟨g,c2,hg⟩:=UO n.calls;have c1:=Xt n.view;refine ⟨(decide (n.view.base.length > 20 ∨ n.view.list.length > 20) || (g || (decide ((n.seen.length : Int) > 60) || (decide ((n.keep.length : Int) > 40) || (decide ((n.last.length : Int) > 100) || (decide ((n.finger.left.length : Int) > 20) || (decide ((n.mirror.left.length : Int) > 20) || decide ((n.client.left.length : Int) > 20)))))))) || (n.seen.any (fun x => Et x.told) || n.keep.any (fun x => decide (100 < x.key.length))),?_,fun h => ?_⟩
 ·obtain ⟨b1,hb1⟩ : ∃ b1,b1 = decide (n.view.base.length > 20 ∨ n.view.list.length > 20):=⟨_,rfl⟩;rw [← hb1] at c1 ⊢;obtain ⟨S,hS⟩ : ∃ S,S = n.seen.any (fun x => Et x.told):=⟨_,rfl⟩;obtain ⟨K,hK⟩ : ∃ K,K = n.keep.any (fun x => decide (100 < x.key.length)):=⟨_,rfl⟩;rw [← hS,← hK];refine zF A6 Tryz.func8 ?_;unfold View.d View.cells at c1;unfold Calls.d Calls.cells at c2;unfold Node.d Node.cells View.cells Calls.cells Job.cells;clear hb1 hg;refine wk L6 [] A0 (Aj @c1 @c2) ?_;with_reducible repeat' first|constructor|intro hc;try simp only[AD] at hc
  all_goals try (refine ⟨_,_,rfl,rfl,?_⟩;simp only [AR];refine congrArg D.b ?_;grind)
  refine Cz (fun k => k ≤ n.seen.length ∧ (n.seen.take k).any (fun x => Et x.told) = false) (fun k : Nat => [(3,.d (.i .i64 k))]) (fun k => n.seen.length - k) 0 ⟨Nat.zero_le _,rfl⟩ (fun _ => rfl) ?_ ?_
  ·exact A3.ck rfl
  rintro k ⟨hk,hpre⟩
  by_cases hkl : k < n.seen.length
  ·have f1 : decide ((k : Int) < (n.seen.length : Int)) = true:=decide_eq_true (by omega);obtain ⟨x,hx⟩:=Aa hkl;have hA:=Fl (p:=fun x : Past => Et x.told) hx;rw [hpre,Bool.false_or] at hA;have hL : Et x.told = (decide (20 < x.told.list.length) || decide (100 < x.told.item.key.length)):=rfl
   have h2 : Et x.told = true → S = true:=fun e => by
    rw [hS];exact List.any_eq_true.2 ⟨x,List.mem_of_getElem? hx,e⟩
   have ix1:=hx;refine wk L6 [] (AF f1) A0 ?_;clear ix1;with_reducible repeat' first|constructor|intro hc;try simp only[AD] at hc
   all_goals first
    | (refine ⟨_,_,rfl,rfl,?_⟩;simp only [AR];refine congrArg D.b ?_;grind)
    | (refine ⟨k + 1,⟨hkl,by rw [hA];grind⟩,by omega,Nat.le_refl _,?_⟩;exact A3.ck rfl)
  ·have f1 : decide ((k : Int) < (n.seen.length : Int)) = false:=decide_eq_false (by omega);have e : k = n.seen.length:=by omega
   subst e;rw [List.take_length] at hpre;rw [hpre] at hS;refine wk L6 [] (AF f1) A0 ?_;refine Cz (fun k => k ≤ n.keep.length ∧ (n.keep.take k).any (fun x => decide (100 < x.key.length)) = false) (fun k : Nat => [(4,.d (.i .i64 k))]) (fun k => n.keep.length - k) 0 ⟨Nat.zero_le _,rfl⟩ (fun _ => rfl) ?_ ?_
   ·exact A3.ck rfl
   rintro k ⟨hk,hpre⟩
   by_cases hkl : k < n.keep.length
   ·have f1 : decide ((k : Int) < (n.keep.length : Int)) = true:=decide_eq_true (by omega);obtain ⟨x,hx⟩:=Aa hkl;have hA:=Fl (p:=fun x : Item => decide (100 < x.key.length)) hx;rw [hpre,Bool.false_or] at hA
    have h2 : 100 < x.key.length → K = true:=fun e => by
     rw [hK];exact List.any_eq_true.2 ⟨x,List.mem_of_getElem? hx,decide_eq_true e⟩
    have ix1:=hx;refine wk L6 [] (AF f1) A0 ?_;clear ix1;with_reducible repeat' first|constructor|intro hc;try simp only[AD] at hc
    all_goals first
     | (refine ⟨_,_,rfl,rfl,?_⟩;simp only [AR];refine congrArg D.b ?_;grind)
     | (refine ⟨k + 1,⟨hkl,by rw [hA];grind⟩,by omega,Nat.le_refl _,?_⟩;exact A3.ck rfl)
   ·have f1 : decide ((k : Int) < (n.keep.length : Int)) = false:=decide_eq_false (by omega);have e : k = n.keep.length:=by omega
    subst e;rw [List.take_length] at hpre;rw [hpre] at hK;refine wk L6 [] (AF f1) A0 ?_
    all_goals (refine ⟨_,_,rfl,rfl,?_⟩;simp only [AR];refine congrArg D.b ?_;grind)
 ·simp only [Bool.or_eq_false_iff,decide_eq_false_iff_not] at h;obtain ⟨⟨h1,h2,h3,h4,h5,h6,h7,h8⟩,h9,h10⟩:=h;obtain ⟨g1,g2⟩:=hg h2
  exact ⟨by omega,by omega,g1,g2,by omega,by omega,by omega,by omega,by omega,by omega,fun x hx => Bool.eq_false_iff.2 (List.any_eq_false.1 h9 x hx),fun x hx => by
   have:=List.any_eq_false.1 h10 x hx;simp only [decide_eq_true_eq] at this
   omega⟩
end Nd
end Go.Proofs.YtkljbfejbakooaaGreatDoor
namespace Go.Proofs.YtkljbfejbakooaaGreatDoor
namespace Nd
open Go.Gar
open Wi (A8 B7 AU AC B2 mC Bn Bl)
set_option maxRecDepth 100000
theorem Na {m : A8} (h : Et m = false) : C3 m:=by
 unfold Et at h;simp only [Bool.or_eq_false_iff,decide_eq_false_iff_not] at h;unfold C3;omega
theorem kZ {n : Node} (g : GB n) (w : R7 n) : Ip n:=by
 have:=g.vb;have:=g.vl;have:=g.cn;have:=g.sn;have:=g.kn;have:=g.f;have:=g.m;have:=g.c;exact ⟨w.id,w.li,by omega,by omega,fun x hx => Na (g.cl x hx),by omega,fun x hx => Na (g.sl x hx),by omega,by omega,by omega,by omega,by omega⟩
theorem gbNb {n : Node} (g : GB n) (w : R7 n) (r : B0 n = true) : NB n:=by
 have:=g.f;have:=g.m;have:=g.c;exact ⟨r,⟨by omega,by omega,by omega⟩,w.ph⟩
end Nd
end Go.Proofs.YtkljbfejbakooaaGreatDoor
