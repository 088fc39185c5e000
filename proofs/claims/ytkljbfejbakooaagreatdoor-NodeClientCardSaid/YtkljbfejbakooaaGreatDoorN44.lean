/- Part 44 of a proof, put together by a program. Conditions: none beyond those that a theorem states. -/
import Derived.Test.YtkljbfejbakooaaGreatDoorN38
import Derived.Test.YtkljbfejbakooaaGreatDoorN43
set_option linter.unusedSimpArgs false
set_option linter.unusedVariables false
set_option linter.unnecessarySimpa false
set_option maxHeartbeats 40000000
namespace Go.Proofs.YtkljbfejbakooaaGreatDoor
namespace Nd
open Go.Gar
open Wi (A8 B7 AU AC B2 Bn Bl)
set_option maxRecDepth 4000
variable {n : Node} {w what place : Int} {x : Item}
theorem bb (h : 0 ≤ n.phase) : 0 ≤ (BI n w what place x).1.phase:=by
 unfold BI;split
 ·rw [(Iz ..).phase];exact h
 ·exact h
theorem cv (h : 0 ≤ n.phase) : 0 ≤ (DY n w).phase:=by
 unfold DY;split
 ·split
  ·exact Int.le_refl _
  split
  ·rw [(Iz ..).phase];exact h
  ·exact h
 ·exact h
abbrev big : Nat:=9223372036854775807
structure NL (n : Node) : Prop where
 f : n.finger.left.length ≤ 1000
 m : n.mirror.left.length ≤ 1000
 c : n.client.left.length ≤ 1000
theorem NL.of {K : Nat} (h : JB 1000 K n) : NL n:=⟨h.f.l,h.m.l,h.c.l⟩
structure NB (n : Node) : Prop where
 r : B0 n = true
 l : NL n
 ph : 0 ≤ n.phase
theorem NB.j (h : NB n) (K : Nat) : JB 1000 (n.finger.item.key.length + (n.mirror.item.key.length + (n.client.item.key.length + K))) n :=
 ⟨⟨h.l.f,by omega⟩,⟨h.l.m,by omega⟩,⟨h.l.c,by omega⟩⟩
theorem Nz {m : A8} (h : m.right = true) : C3 m:=by
 unfold C3;unfold A8.right at h;rw [Bool.and_eq_true,Bool.and_eq_true] at h
 by_cases h7 : m.kind = 7
 ·have:=h.2.2;unfold A8.has at this;simp only [h7] at this;simp only [show ¬ ((7 : Int) = 4) by decide,show ¬ ((7 : Int) = 5) by decide,show ¬ ((7 : Int) = 6) by decide,if_false,if_true] at this;rw [Bool.and_eq_true] at this;have h3:=this.2;unfold Wi.ED at h3;simp only [Bool.and_eq_true,decide_eq_true_eq] at h3;omega
 ·have hb:=of_decide_eq_true h.2.1
  have e : m.bare.list = m.list:=by
   unfold A8.bare
   repeat' split
   all_goals first | rfl | (exfalso;omega)
  rw [← e,hb];show (A8.empty m).list.length ≤ 1048576;exact Nat.zero_le _
theorem NB.br (h : NB n) : Ip n:=by
 obtain ⟨_,_,_,hv,hc,_,hk,hs,_⟩:=B3.1 h.r;have hv:=Fz hv
 have hl : n.view.list.length ≤ 3 ∧ rT n.view.id 0 n.view.list = true:=by
  have:=hv.2.2.1;unfold C5 at this;rw [Bool.and_eq_true,decide_eq_true_eq] at this;exact this
 have hb : n.view.base.length ≤ 4:=by
  have:=hv.2.1;unfold BZ at this;simp only [Bool.and_eq_true,decide_eq_true_eq] at this;omega
 obtain ⟨⟨_,_,_,c1⟩,c2,_⟩:=CM.1 hc.2;obtain ⟨s1,s2,_⟩:=Xb.1 hs;have:=(DN.1 hk).1;have:=h.l.f;have:=h.l.m;have:=h.l.c;exact ⟨SE hv.1,fun y hy => SE (bG _ _ _ hl.2 y hy),by omega,by omega,fun x hx => Nz (Fo.1 (c2 x hx)).1,by omega,fun x hx => Nz (UK.1 (s2 x hx)).1,by omega,by omega,by omega,by omega,by omega⟩
theorem NB.hok (h : NB n) : HOk n:=⟨h.br,h.ph,h.l.f,h.l.m,h.l.c,Nat.zero_le _,Nat.zero_le _,Nat.zero_le _⟩
theorem NB.start (h : NB n) (hx : x.key.length ≤ big) : NB (BI n w what place x).1 :=
 ⟨(T1 ..).1.right h.r,.of (eQ n w what place x (h.j x.key.length) (by decide) (by omega)),bb h.ph⟩
theorem NB.busy (h : NB n) : NB (DY n w):=⟨(VA ..).right h.r,.of (gR n w (h.j 0)),cv h.ph⟩
theorem NB.calls {n : Node} (h : NB n) {c : Calls} (hi : c.id = n.calls.id) (hc : Bh c = true) : NB { n with calls:=c }:=by
 refine ⟨?_,⟨h.l.f,h.l.m,h.l.c⟩,h.ph⟩;obtain ⟨a1,a2,a3,a4,a5,a6,a7,a8,a9⟩:=B3.1 h.r;exact B3.2 ⟨a1,a2,a3,a4,⟨hi.trans a5.1,hc⟩,a6,a7,a8,a9⟩
theorem NB.cB {n : Node} (h : NB n) : Bh n.calls = true ∧ n.calls.id = n.view.id:=(B3.1 h.r).2.2.2.2.1.symm
def VS (id : Int) (g : Em) : Prop:=∃ m : A8,m.right = true ∧ m.src = id ∧ g = ⟨m.dst,(Bn m).1,false⟩
theorem Hb {m : A8} (h : m.right = true) : MG m = [⟨m.dst,(Bn m).1,false⟩]:=by
 unfold MG;rw [Wi.Qa h,if_pos rfl]
structure YE (s t : NS) : Prop where
 view : Us s.1.view t.1.view
 list : t.1.view.list = s.1.view.list
 clock : t.1.clock = s.1.clock
 seen : t.1.seen = s.1.seen
 last : t.1.last = s.1.last
 bad : t.1.bad = s.1.bad
 many : s.1.calls.many ≤ t.1.calls.many
 keep : t.1.keep = s.1.keep
 nb : NB t.1
 rnd : t.1.phase = 0 ∨ (t.1.phase = s.1.phase ∧ t.1.of_ = s.1.of_)
 sent : ∃ g : List Em,t.2 = s.2 ++ g ∧ (∀ x ∈ g,VS s.1.view.id x) ∧ t.1.calls.op.length = s.1.calls.op.length + g.length
variable {s : NS}
theorem YE.refl (h : NB s.1) : YE s s:=⟨.refl _,rfl,rfl,rfl,rfl,rfl,Int.le_refl _,rfl,h,.inr ⟨rfl,rfl⟩,[],by simp,fun x hx => (by cases hx),rfl⟩
theorem YE.trans {t u : NS} (h : YE s t) (k : YE t u) : YE s u:=by
 obtain ⟨g1,a1,a2,a3⟩:=h.sent;obtain ⟨g2,b1,b2,b3⟩:=k.sent;refine ⟨h.view.trans k.view,k.list.trans h.list,k.clock.trans h.clock,k.seen.trans h.seen,k.last.trans h.last,k.bad.trans h.bad,Int.le_trans h.many k.many,k.keep.trans h.keep,k.nb,?_,g1 ++ g2,by rw [b1,a1,List.append_assoc],fun x hx => ?_,by rw [List.length_append];omega⟩
 ·rcases k.rnd with e | ⟨e1,e2⟩
  ·exact .inl e
  ·rw [e1,e2];exact h.rnd
 ·rcases List.mem_append.1 hx with hx | hx
  ·exact a2 x hx
  ·rw [← h.view.id];exact b2 x hx
theorem TP (n : Node) (w : Int) : (DY n w).view.list = n.view.list ∧ (DY n w).keep = n.keep ∧ ((DY n w).phase = 0 ∨ ((DY n w).phase = n.phase ∧ (DY n w).of_ = n.of_)):=by
 unfold DY;split
 ·split
  ·exact ⟨rfl,rfl,.inl rfl⟩
  split
  ·have g:=Iz n w false ⟨CX (CW (Ke n w) 100),[],false⟩;refine ⟨g.list,?_,.inr ⟨g.phase,g.of_⟩⟩;unfold Ar;simp only [Bool.false_eq_true,if_false]
   have hp : ∀ (a : Node) (j : Job),(MH a w j).keep = a.keep:=fun a j => by
    unfold MH;repeat' split
    all_goals rfl
   split
   ·unfold De;exact hp _ _
   ·exact hp _ _
  ·exact ⟨rfl,rfl,.inr ⟨rfl,rfl⟩⟩
 ·exact ⟨rfl,rfl,.inr ⟨rfl,rfl⟩⟩
theorem Np (h : NB s.1) (a : A8 × Int) : YE s (F5 s a):=by
 unfold F5;split
 ·rename_i he;obtain ⟨h1,h2,h3,q,hq,h4,h5,e⟩:=QU h.cB.1 he;have hr:=UD h.cB.1 he;rw [e] at hr ⊢;refine ⟨.refl _,rfl,rfl,rfl,rfl,rfl,by dsimp only;omega,rfl,h.calls rfl hr,.inr ⟨rfl,rfl⟩,MG q,rfl,fun x hx => ?_,?_⟩
  ·rw [Hb h4,List.mem_singleton] at hx;exact ⟨q,h4,by rw [hq];exact h.cB.2,hx⟩
  ·rw [Hb h4];simp
 ·have b:=VA s.1 a.2;have p:=TP s.1 a.2;exact ⟨b.view,p.1,b.clock,b.seen,b.last,b.bad,by rw [b.calls];exact Int.le_refl _,p.2.1,h.busy,p.2.2,[],by simp,fun x hx => (by cases hx),by rw [b.calls];rfl⟩
theorem Ko : ∀ (l : List (A8 × Int)) {s : NS},NB s.1 → YE s (DZ s l)
 | [],s,h => .refl h
 | a :: r,s,h => (Np h a).trans (Ko r (Np h a).nb)
theorem eG (l : List Item) (x : Item) : l.length ≤ (Hc l x).1.length:=by
 unfold Hc;split
 ·split
  ·split
   ·simp
   ·exact Nat.le_refl _
  ·split
   ·exact Nat.le_refl _
   ·have:=QZ l x.key;simp only [List.length_append,List.length_cons,List.length_take,List.length_drop];omega
 ·exact Nat.le_refl _
theorem bW (k : List Item) (j : Job) : k.length ≤ (Bc k j).1.length:=by
 unfold Bc;split
 ·exact eG ..
 ·split <;> exact Nat.le_refl _
theorem Zd (n : Node) (w : Int) (e : Bool) (c : JC) : n.keep.length ≤ (Ar n w e c).1.keep.length:=by
 unfold Ar
 have hs : n.keep.length ≤ (if c.own then Bc n.keep c.job else (n.keep,c.job)).1.length:=by
  split
  ·exact bW ..
  ·exact Nat.le_refl _
 generalize (if c.own then Bc n.keep c.job else (n.keep,c.job)) = s at *
 have hp : ∀ (a : Node) (j : Job),(MH a w j).keep = a.keep:=fun a j => by
  unfold MH;repeat' split
  all_goals rfl
 dsimp only;split
 ·unfold De;dsimp only;rw [hp];exact hs
 ·rw [hp];exact hs
theorem Xk (n : Node) (w what place : Int) (x : Item) : n.keep.length ≤ (BI n w what place x).1.keep.length:=by
 unfold BI;split
 ·exact Zd ..
 ·exact Nat.le_refl _
structure Um (s t : NS) : Prop where
 view : Us s.1.view t.1.view
 clock : t.1.clock = s.1.clock
 many : s.1.calls.many ≤ t.1.calls.many
 keep : s.1.keep.length ≤ t.1.keep.length
 bad : t.1.bad = s.1.bad
 nb : NB t.1
 sent : ∃ g : List Em,t.2 = s.2 ++ g ∧ (∀ x ∈ g,VS s.1.view.id x) ∧ t.1.calls.op.length = s.1.calls.op.length + g.length
theorem YE.h {s t : NS} (h : YE s t) : Um s t:=⟨h.view,h.clock,h.many,by rw [h.keep];exact Nat.le_refl _,h.bad,h.nb,h.sent⟩
theorem Um.refl (h : NB s.1) : Um s s:=(YE.refl h).h
theorem Um.trans {t u : NS} (h : Um s t) (k : Um t u) : Um s u:=by
 obtain ⟨g1,a1,a2,a3⟩:=h.sent;obtain ⟨g2,b1,b2,b3⟩:=k.sent;refine ⟨h.view.trans k.view,k.clock.trans h.clock,Int.le_trans h.many k.many,Nat.le_trans h.keep k.keep,k.bad.trans h.bad,k.nb,g1 ++ g2,by rw [b1,a1,List.append_assoc],fun x hx => ?_,by rw [List.length_append];omega⟩;rcases List.mem_append.1 hx with hx | hx
 ·exact a2 x hx
 ·rw [← h.view.id];exact b2 x hx
variable {g : List Em}
theorem Um.of {w : Node} (hv : Us n.view w.view) (h1 : w.clock = n.clock) (h2 : w.calls = n.calls) (h3 : n.keep.length ≤ w.keep.length) (h5 : w.bad = n.bad) (h4 : NB w) : Um (n,g) (w,g) :=
 ⟨hv,h1,by rw [h2];exact Int.le_refl _,h3,h5,h4,[],by simp,fun x hx => (by cases hx),by rw [h2];rfl⟩
theorem iq {r : Node × List (A8 × Int)} (s : ed n r.1) (hk : n.keep.length ≤ r.1.keep.length) (h : NB r.1) : Um (n,g) (Jh g r) :=
 (Um.of s.view s.clock s.calls hk s.bad h).trans (Ko r.2 (s:=(r.1,g)) h).h
theorem eP (h : NB n) (hx : x.key.length ≤ big) : Um (n,g) (Jh g (BI n w what place x)):=iq (T1 ..).1 (Xk ..) (h.start hx)
theorem NB.clock {n : Node} (h : NB n) (hc : n.clock < 1099511627776) : NB { n with clock:=n.clock + 1 }:=by
 refine ⟨?_,⟨h.l.f,h.l.m,h.l.c⟩,h.ph⟩;obtain ⟨a1,a2,a3,a4,a5,a6,a7,a8,a9⟩:=B3.1 h.r;exact B3.2 ⟨⟨by dsimp only;omega,by dsimp only;omega⟩,a2,a3,a4,a5,a6,a7,a8,a9⟩
theorem NB.rv (h : NB n) : Aw n.view = true:=(B3.1 h.r).2.2.2.1
theorem NB.view {n : Node} (h : NB n) {v : View} (hv : Us n.view v) {k : Int} (hk : 0 ≤ k ∧ k < 16) : NB { n with view:=v,next:=k }:=by
 refine ⟨?_,⟨h.l.f,h.l.m,h.l.c⟩,h.ph⟩;obtain ⟨a1,a2,a3,a4,a5,a6,a7,a8,a9⟩:=B3.1 h.r;refine B3.2 ⟨a1,a2,hk,hv.right a4,⟨a5.1.trans hv.id.symm,a5.2⟩,a6,a7,a8,?_⟩;exact (ap (n:=n) (w:={ n with view:=v,next:=k }) rfl hv.id).trans a9
theorem NB.last {n : Node} (h : NB n) (k : List UInt8) : NB { n with last:=k }:=by
 refine ⟨?_,⟨h.l.f,h.l.m,h.l.c⟩,h.ph⟩;exact B3.2 (B3.1 h.r)
end Nd
end Go.Proofs.YtkljbfejbakooaaGreatDoor
namespace Go.Proofs.YtkljbfejbakooaaGreatDoor
namespace Nd
open Go.Gar
open Wi (A8 B7 AU AC B2 mC Bn Bl)
set_option maxRecDepth 4000
theorem aV (j : Job) : Go.Gar.Fn Tryz.prog 51 [j.d] (.b (Hr j)):=by
 have hT : Hr j = (decide (j.phase = 0) || decide (j.phase = 5)):=rfl;rw [hT];refine zF A6 Tryz.func51 ?_;unfold Job.d Job.cells
 by_cases h0 : j.phase = 0
 ·have f1:=AS h0;rw [decide_eq_true h0];refine wk [0,1,2] [] (AF f1) A0 ?_;exact zE
 ·have f1:=eq_false' h0;rw [decide_eq_false h0]
  by_cases h5 : j.phase = 5
  ·have f2:=AS h5;rw [decide_eq_true h5];refine wk [0,1,2] [] (Aj f1 f2) A0 ?_;exact zE
  ·have f2:=eq_false' h5;rw [decide_eq_false h5];refine wk [0,1,2] [] (Aj f1 f2) A0 ?_;exact zE
end Nd
end Go.Proofs.YtkljbfejbakooaaGreatDoor
namespace Go.Proofs.YtkljbfejbakooaaGreatDoor
namespace Nd
open Go.Gar
open Wi (A8 B7 AU AC B2 Bn Bl)
set_option maxRecDepth 4000
def V8 (l : List (A8 × Int)) : Prop:=∀ a ∈ l,a.1.list = []
theorem iB (id : Int) (j : Job) (o : Int) (l : List Int) : ∀ m ∈ (IM id j o l).asks,m.list = []:=fun m hm => by
 unfold IM at hm;simp only [List.mem_map] at hm;obtain ⟨p,_,rfl⟩:=hm;rfl
theorem dW (v : View) (j : Job) : ∀ m ∈ (F8 v j).asks,m.list = []:=by
 unfold F8;split
 ·simp
 split
 ·dsimp only;split
  ·intro m hm;rw [List.mem_singleton] at hm;subst hm;unfold T8;split <;> rfl
  ·simp
 split
 ·simp
 split
 ·exact iB _ _ _ _
 split
 ·simp [KE]
 split
 ·simp
 ·simp [Pg]
theorem iA (v : View) (w p : Int) (x : Item) : ∀ m ∈ (C7 v w p x).asks,m.list = []:=by
 unfold C7;split
 ·exact dW _ _
 ·simp
theorem gv (n : Node) (w : Int) (e : Bool) (c : JC) (h : ∀ m ∈ c.asks,m.list = []) : V8 (Ar n w e c).2:=fun a ha => by
 unfold Ar at ha;simp only [List.mem_map] at ha;obtain ⟨m,hm,rfl⟩:=ha;exact h m hm
theorem eO (n : Node) (w what place : Int) (x : Item) : V8 (BI n w what place x).2:=by
 unfold BI;split
 ·exact gv _ _ _ _ (iA _ _ _ _)
 ·exact fun a ha => by cases ha
theorem NB.op16 {n : Node} (h : NB n) : n.calls.op.length ≤ 16:=by
 have:=(CM.1 h.cB.1).1;omega
theorem Um.size {s t : NS} (h : Um s t) : t.2.length ≤ s.2.length + 16:=by
 obtain ⟨g,e,_,e2⟩:=h.sent;have:=h.nb.op16;rw [e,List.length_append];omega
theorem XA {s : NS} (h : NB s.1) (l : List (A8 × Int)) : (DZ s l).2.length ≤ s.2.length + 16:=(Ko l h).h.size
end Nd
end Go.Proofs.YtkljbfejbakooaaGreatDoor
namespace Go.Proofs.YtkljbfejbakooaaGreatDoor
namespace Nd
open Go.Gar
open Wi (A8 B7 AU AC B2 mC Bn Bl)
set_option maxRecDepth 4000
theorem Zc (n : Node) (w : Int) (e : Bool) (c : JC) (h : c.asks.length ≤ 3) : (Ar n w e c).2.length ≤ 3:=by
 unfold Ar;dsimp only;rw [List.length_map];exact h
theorem Xj (n : Node) (w what place : Int) (x : Item) : (BI n w what place x).2.length ≤ 3:=by
 unfold BI;split
 ·exact Zc _ _ _ _ (Tu ..).1
 ·exact Nat.zero_le _
end Nd
end Go.Proofs.YtkljbfejbakooaaGreatDoor
namespace Go.Proofs.YtkljbfejbakooaaGreatDoor
namespace Nd
open Go.Gar
open Wi (A8 B7 AU AC B2 Bn Bl)
set_option maxRecDepth 4000
theorem NB.bad {n : Node} (h : NB n) {k : Int} (hk : 0 ≤ k) : NB { n with bad:=k }:=by
 refine ⟨?_,⟨h.l.f,h.l.m,h.l.c⟩,h.ph⟩;obtain ⟨a1,a2,a3,a4,a5,a6,a7,a8,a9⟩:=B3.1 h.r;exact B3.2 ⟨a1,hk,a3,a4,a5,a6,a7,a8,a9⟩
variable {n : Node}
theorem gO (h : NB n) (what : Int) (x : Item) (hx : x.key.length ≤ big) : NB (GF n what x).1.1 ∧ (GF n what x).1.1.clock = n.clock ∧ (∀ g ∈ (GF n what x).1.2,VS n.view.id g) ∧ (GF n what x).1.2.length ≤ 16 ∧ ((GF n what x).2 = 0 ∨ (GF n what x).1 = (n,[])):=by
 have hself : NB n ∧ n.clock = n.clock ∧ (∀ g ∈ ([] : List Em),VS n.view.id g) ∧ ([] : List Em).length ≤ 16:=⟨h,rfl,fun g hg => (by cases hg),Nat.zero_le _⟩;unfold GF;split
 ·split
  ·have a:=eP (g:=[]) h (w:=7) (what:=what) (place:=0) hx;obtain ⟨g,g1,g2,g3⟩:=a.sent;have h16:=(CM.1 a.nb.cB.1).1.2.2.2;refine ⟨a.nb,a.clock,fun x hx => ?_,?_,.inl rfl⟩
   ·dsimp only at hx;rw [g1] at hx;exact g2 x (by simpa using hx)
   ·dsimp only;rw [g1];simp only [List.nil_append];omega
  ·exact ⟨hself.1,hself.2.1,hself.2.2.1,hself.2.2.2,.inr rfl⟩
 ·exact ⟨hself.1,hself.2.1,hself.2.2.1,hself.2.2.2,.inr rfl⟩
theorem QI (h : NB n) {i : Nat} {x : Item} (hi : (En n.view.id (n.calls.many + 1 + i)).2 = 0) (hx : x ∈ n.keep) : (IP n i x).right = true:=by
 obtain ⟨_,_,_,hv,hc,_,hk,_,_⟩:=B3.1 h.r;have hit:=(DN.1 hk).2.1 x hx;have hp:=(Fz hv).1;have hf:=fB hv;unfold En at hi;split at hi
 ·rename_i hcall;have e : (En n.view.id (n.calls.many + 1 + i)).1 = n.view.id * 1048576 + (n.calls.many + 1 + i):=by unfold En;rw [if_pos hcall]
  have ha : (IP n i x).asker = n.view.id:=rfl;unfold A8.right A8.IL;rw [ha];simp only [Bool.and_eq_true,decide_eq_true_eq];unfold IP;rw [e];refine ⟨⟨⟨⟨⟨⟨⟨(by decide : (1 : Int) ≤ 5),(by decide : (5 : Int) < 13)⟩,hcall.1⟩,by rw [← SF];exact hf.1⟩,fun e => hf.2 e.symm⟩,by dsimp only;omega⟩,by dsimp only;omega⟩,?_,?_⟩
  ·unfold A8.bare A8.empty;simp
  ·unfold A8.has;simp [hit]
 ·cases hi
theorem NY {n : Node} (h : NB n) : ∀ (l : List Item) (i : Nat),(∀ x ∈ l,x ∈ n.keep) → (EQ n i l).length = min l.length (1048576 - (n.calls.many.toNat + i)) ∧ ∀ k g,(EQ n i l)[k]? = some g → ∃ x,l[k]? = some x ∧ (IP n (i + k) x).right = true ∧ g = ⟨Ix n.view,(Bn (IP n (i + k) x)).1,false⟩
 | [],i,_ => ⟨by unfold EQ;simp,fun k g hg => (by unfold EQ at hg;simp at hg)⟩
 | x :: r,i,hl => by
  have hm:=(CM.1 h.cB.1).1;have hp : B7 n.view.id = true:=by rw [← SF];exact (Fz h.rv).1
  obtain ⟨i1,i2⟩:=NY h r (i + 1) (fun y hy => hl y (List.mem_cons_of_mem _ hy));unfold EQ;split
  ·rename_i hi;have hr:=QI h hi (hl x (List.mem_cons_self ..))
   have hle : n.calls.many + 1 + i ≤ 1048576:=by
    unfold En at hi;split at hi
    ·rename_i hc;exact hc.2.2
    ·cases hi
   rw [Hb hr];refine ⟨?_,fun k g hg => ?_⟩
   ·rw [List.length_append,i1];simp only [List.length_cons,List.length_nil];omega
   ·cases k with
    | zero =>
     simp only [List.cons_append,List.nil_append,List.getElem?_cons_zero,Option.some.injEq] at hg;exact ⟨x,rfl,hr,hg.symm⟩
    | succ k =>
     simp only [List.cons_append,List.nil_append,List.getElem?_cons_succ] at hg;obtain ⟨y,h1,h2,h3⟩:=i2 k g hg;rw [show i + 1 + k = i + (k + 1) by omega] at h2 h3;exact ⟨y,by simpa using h1,h2,h3⟩
  ·rename_i hi
   have hgt : ¬ (n.calls.many + 1 + i ≤ 1048576):=fun hle => hi (by
    unfold En
    rw [if_pos ⟨hp,by omega,hle⟩])
   refine ⟨?_,fun k g hg => (by simp at hg)⟩;rw [List.length_nil];omega
theorem Ww (h : NB n) : (Ju n).length = min n.keep.length (1048576 - n.calls.many.toNat) ∧ ∀ (k : Nat) (g : Em),(Ju n)[k]? = some g → ∃ (x : Item) (m : A8),n.keep[k]? = some x ∧ m.right = true ∧ m.kind = 5 ∧ m.item = x ∧ m.dst = Ix n.view ∧ g = ⟨m.dst,(Bn m).1,false⟩:=by
 obtain ⟨h1,h2⟩:=NY h n.keep 0 fun x hx => hx;unfold Ju
 rw [if_pos h.r];refine ⟨by rw [h1];rfl,fun k g hg => ?_⟩;obtain ⟨x,a1,a2,a3⟩:=h2 k g hg;exact ⟨x,_,a1,a2,rfl,rfl,rfl,a3⟩
theorem Xp {m : A8} (h : m.right = true) : Bl (Bn m).1 = (m,0):=by
 rw [Wi.Qa h];exact Wi.bg h
end Nd
end Go.Proofs.YtkljbfejbakooaaGreatDoor
namespace Go.Proofs.YtkljbfejbakooaaGreatDoor
namespace Nd
open Go.Gar
open Wi (A8 B7 AU AC B2 mC Bn Bl)
set_option maxRecDepth 4000
theorem XL {m : A8} (h : m.right = true) : (Bn m).1.length < 70368744177664:=by
 have:=Wi.IW h;rw [Wi.Qa h,Wi.FV (by omega)];simp only [List.length_append];have h1 : (Wi.hdr (Wi.Ay m).length).length ≤ 100:=by unfold Wi.hdr;simp
 have h2 : ∀ n,(Wi.be4 n).length ≤ 100:=fun n => by unfold Wi.be4;simp
 have:=h2 (Wi.I1 (Wi.hdr (Wi.Ay m).length ++ Wi.Ay m));omega
abbrev Mn : List Nat:=[0,1,2,3,12,35]
def Et (m : A8) : Bool:=decide (20 < m.list.length) || decide (100 < m.item.key.length)
theorem UO (c : Calls) : ∃ b : Bool,Go.Gar.Fn Tryz.prog 29 [c.d] (.b b) ∧ (b = false → c.op.length ≤ 30 ∧ ∀ x ∈ c.op,Et x.msg = false):=by
 refine ⟨(c.op.take 31).any (fun x => Et x.msg) || decide (30 < c.op.length),?_,fun h => ?_⟩
 ·obtain ⟨R,hR⟩ : ∃ R,R = ((c.op.take 31).any (fun x => Et x.msg) || decide (30 < c.op.length)):=⟨_,rfl⟩;rw [← hR];refine zF A6 Tryz.func29 ?_;unfold Calls.d Calls.cells;refine wk Mn [] A0 A0 ?_;refine Cz (fun k => k ≤ c.op.length ∧ k ≤ 31 ∧ (c.op.take k).any (fun x => Et x.msg) = false) (fun k : Nat => [(3,.d (.i .i64 k))]) (fun k => c.op.length - k) 0 ⟨Nat.zero_le _,Nat.zero_le _,rfl⟩ (fun _ => rfl) ?_ ?_
  ·exact A3.ck rfl
  rintro k ⟨hk,hk2,hpre⟩
  by_cases hkl : k < c.op.length
  ·by_cases h31 : k < 31
   ·have f1 : decide ((k : Int) < (c.op.length : Int)) = true:=decide_eq_true (by omega);have f2 : decide ((k : Int) ≤ 30) = true:=decide_eq_true (by omega);obtain ⟨x,hx⟩:=Aa hkl;have hA:=Fl (p:=fun x : Call => Et x.msg) hx;rw [hpre,Bool.false_or] at hA;have hL : Et x.msg = (decide (20 < x.msg.list.length) || decide (100 < x.msg.item.key.length)):=rfl
    have h2 : (c.op.take (k + 1)).any (fun x => Et x.msg) = true → R = true:=fun e => by
     rw [hR,show c.op.take 31 = c.op.take (k + 1) ++ (c.op.drop (k + 1)).take (31 - (k + 1)) by rw [← List.take_add];congr 1;omega,List.any_append,e];rfl
    have ix1:=hx;refine wk Mn [] (Aj f1 f2) A0 ?_;clear ix1;with_reducible repeat' first|constructor|intro hc;try simp only[AD] at hc
    all_goals first
     | (refine ⟨_,_,rfl,rfl,?_⟩;simp only [AR];refine congrArg D.b ?_;grind)
     | (refine ⟨k + 1,⟨hkl,by omega,by rw [hA];grind⟩,by omega,Nat.le_refl _,?_⟩;exact A3.ck rfl)
   ·have f1 : decide ((k : Int) < (c.op.length : Int)) = true:=decide_eq_true (by omega);have f2 : decide ((k : Int) ≤ 30) = false:=decide_eq_false (by omega)
    have hF : decide ((c.op.length : Int) > 30) = R:=by
     have e : k = 31:=by omega
     subst e;rw [hR,hpre,Bool.false_or];exact decide_eq_decide.2 (by omega)
    refine wk Mn [] (Dl f1 f2 hF) A0 ?_;exact zE
  ·have f1 : decide ((k : Int) < (c.op.length : Int)) = false:=decide_eq_false (by omega)
   have hF : decide ((c.op.length : Int) > 30) = R:=by
    have e : k = c.op.length:=by omega
    rw [hR,show c.op.take 31 = c.op.take k by rw [List.take_of_length_le (by omega),List.take_of_length_le (by omega)],hpre,Bool.false_or];exact decide_eq_decide.2 (by omega)
   refine wk Mn [] (Aj f1 hF) A0 ?_;exact zE
 ·rw [Bool.or_eq_false_iff,decide_eq_false_iff_not] at h;refine ⟨by omega,fun x hx => ?_⟩;rw [List.take_of_length_le (by omega)] at h;exact Bool.eq_false_iff.2 (List.any_eq_false.1 h.1 x hx)
end Nd
end Go.Proofs.YtkljbfejbakooaaGreatDoor
