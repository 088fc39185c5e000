/- Part 42 of a proof, put together by a program. Conditions: none beyond those that a theorem states. -/
import Derived.Test.YtkljbfejbakooaaGreatDoorB39
import Derived.Test.YtkljbfejbakooaaGreatDoorB41
set_option linter.unusedSimpArgs false
set_option linter.unusedVariables false
set_option linter.unnecessarySimpa false
set_option maxHeartbeats 40000000
namespace Go.Proofs.YtkljbfejbakooaaGreatDoor
namespace Nd
open Go.Gar
open Wi (A8 B2 Ai AA BN Bs Ar)
set_option maxRecDepth 4000
variable {n : Node}
theorem Yl {w : Int} (h : 0 ≤ n.phase) : 0 ≤ (LP n w).phase:=by
 unfold LP;split
 ·split
  ·exact Int.le_refl _
  split
  ·rw [(T5 ..).phase];exact h
  ·exact h
 ·exact h
structure NL (n : Node) : Prop where
 f : n.finger.left.length ≤ 1000
 m : n.mirror.left.length ≤ 1000
 c : n.client.left.length ≤ 1000
theorem NL.of {K : Nat} (h : JB 1000 K n) : NL n:=⟨h.f.l,h.m.l,h.c.l⟩
structure NB (n : Node) : Prop where
 r : Dq n = true
 l : NL n
 ph : 0 ≤ n.phase
theorem NB.j (h : NB n) (K : Nat) : JB 1000 (n.finger.item.key.length + (n.mirror.item.key.length + (n.client.item.key.length + K))) n :=
 ⟨⟨h.l.f,by omega⟩,⟨h.l.m,by omega⟩,⟨h.l.c,by omega⟩⟩
theorem MD {m : A8} (h : m.right = true) : B5 m:=by
 unfold B5;unfold A8.right at h;rw [Bool.and_eq_true,Bool.and_eq_true] at h
 by_cases h7 : m.kind = 7
 ·have:=h.2.2;unfold A8.has at this;simp only [h7] at this;simp only [show ¬ ((7 : Int) = 4) by decide,show ¬ ((7 : Int) = 5) by decide,show ¬ ((7 : Int) = 6) by decide,if_false,if_true] at this;rw [Bool.and_eq_true] at this;have h3:=this.2;unfold Wi.Da at h3;simp only [Bool.and_eq_true,decide_eq_true_eq] at h3;omega
 ·have hb:=of_decide_eq_true h.2.1
  have e : m.bare.list = m.list:=by
   unfold A8.bare
   repeat' split
   all_goals first | rfl | (exfalso;omega)
  rw [← e,hb];show (A8.empty m).list.length ≤ 1048576;exact Nat.zero_le _
theorem NB.Y8 (h : NB n) : SK n:=by
 obtain ⟨_,_,_,hv,hc,_,hk,hs,_⟩:=Aj.1 h.r;have hv:=QS hv
 have hl : n.view.list.length ≤ 3 ∧ rT n.view.id 0 n.view.list = true:=by
  have:=hv.2.2.1;unfold Bv at this;rw [Bool.and_eq_true,decide_eq_true_eq] at this;exact this
 have hb : n.view.base.length ≤ 4:=by
  have:=hv.2.1;unfold C9 at this;simp only [Bool.and_eq_true,decide_eq_true_eq] at this;omega
 obtain ⟨⟨_,_,_,c1⟩,c2,_⟩:=GE.1 hc.2;obtain ⟨s1,s2,_⟩:=Uv.1 hs;have:=(Er.1 hk).1;have:=h.l.f;have:=h.l.m;have:=h.l.c;exact ⟨Po hv.1,fun y hy => Po (XS _ _ _ hl.2 y hy),by omega,by omega,fun x hx => MD (IK.1 (c2 x hx)).1,by omega,fun x hx => MD (Re.1 (s2 x hx)).1,by omega,by omega,by omega,by omega,by omega⟩
theorem NB.hok (h : NB n) : HOk n:=⟨h.Y8,h.ph,h.l.f,h.l.m,h.l.c,Nat.zero_le _,Nat.zero_le _,Nat.zero_le _⟩
theorem NB.busy (h : NB n) {w : Int} : NB (LP n w):=⟨(Ym ..).right h.r,.of (bE n w (h.j 0)),Yl h.ph⟩
theorem NB.calls {n : Node} (h : NB n) {c : Calls} (hi : c.id = n.calls.id) (hc : BB c = true) : NB { n with calls:=c }:=by
 refine ⟨?_,⟨h.l.f,h.l.m,h.l.c⟩,h.ph⟩;obtain ⟨a1,a2,a3,a4,a5,a6,a7,a8,a9⟩:=Aj.1 h.r;exact Aj.2 ⟨a1,a2,a3,a4,⟨hi.trans a5.1,hc⟩,a6,a7,a8,a9⟩
theorem NB.cB {n : Node} (h : NB n) : BB n.calls = true ∧ n.calls.id = n.view.id:=(Aj.1 h.r).2.2.2.2.1.symm
def aB (id : Int) (g : MR) : Prop:=∃ m : A8,m.right = true ∧ m.src = id ∧ g = ⟨m.dst,(Bs m).1,false⟩
structure YH (s t : NS) : Prop where
 view : Tl s.1.view t.1.view
 list : t.1.view.list = s.1.view.list
 clock : t.1.clock = s.1.clock
 seen : t.1.seen = s.1.seen
 last : t.1.last = s.1.last
 bad : t.1.bad = s.1.bad
 many : s.1.calls.many ≤ t.1.calls.many
 keep : t.1.keep = s.1.keep
 nb : NB t.1
 rnd : t.1.phase = 0 ∨ (t.1.phase = s.1.phase ∧ t.1.of_ = s.1.of_)
 sent : ∃ g : List MR,t.2 = s.2 ++ g ∧ (∀ x ∈ g,aB s.1.view.id x) ∧ t.1.calls.op.length = s.1.calls.op.length + g.length
variable {s : NS}
theorem YH.refl (h : NB s.1) : YH s s:=⟨.refl _,rfl,rfl,rfl,rfl,rfl,Int.le_refl _,rfl,h,.inr ⟨rfl,rfl⟩,[],by simp,fun x hx => (by cases hx),rfl⟩
variable {t : NS}
theorem YH.trans {u : NS} (h : YH s t) (k : YH t u) : YH s u:=by
 obtain ⟨g1,a1,a2,a3⟩:=h.sent;obtain ⟨g2,b1,b2,b3⟩:=k.sent;refine ⟨h.view.trans k.view,k.list.trans h.list,k.clock.trans h.clock,k.seen.trans h.seen,k.last.trans h.last,k.bad.trans h.bad,Int.le_trans h.many k.many,k.keep.trans h.keep,k.nb,?_,g1 ++ g2,by rw [b1,a1,List.append_assoc],fun x hx => ?_,by rw [List.length_append];omega⟩
 ·rcases k.rnd with e | ⟨e1,e2⟩
  ·exact .inl e
  ·rw [e1,e2];exact h.rnd
 ·rcases List.mem_append.1 hx with hx | hx
  ·exact a2 x hx
  ·rw [← h.view.id];exact b2 x hx
structure YG (s t : NS) : Prop where
 view : Tl s.1.view t.1.view
 clock : t.1.clock = s.1.clock
 many : s.1.calls.many ≤ t.1.calls.many
 keep : s.1.keep.length ≤ t.1.keep.length
 bad : t.1.bad = s.1.bad
 nb : NB t.1
 sent : ∃ g : List MR,t.2 = s.2 ++ g ∧ (∀ x ∈ g,aB s.1.view.id x) ∧ t.1.calls.op.length = s.1.calls.op.length + g.length
theorem YH.h {s t : NS} (h : YH s t) : YG s t:=⟨h.view,h.clock,h.many,by rw [h.keep];exact Nat.le_refl _,h.bad,h.nb,h.sent⟩
theorem YG.refl (h : NB s.1) : YG s s:=(YH.refl h).h
theorem YG.trans {u : NS} (h : YG s t) (k : YG t u) : YG s u:=by
 obtain ⟨g1,a1,a2,a3⟩:=h.sent;obtain ⟨g2,b1,b2,b3⟩:=k.sent;refine ⟨h.view.trans k.view,k.clock.trans h.clock,Int.le_trans h.many k.many,Nat.le_trans h.keep k.keep,k.bad.trans h.bad,k.nb,g1 ++ g2,by rw [b1,a1,List.append_assoc],fun x hx => ?_,by rw [List.length_append];omega⟩;rcases List.mem_append.1 hx with hx | hx
 ·exact a2 x hx
 ·rw [← h.view.id];exact b2 x hx
theorem NB.clock {n : Node} (h : NB n) (hc : n.clock < 1099511627776) : NB { n with clock:=n.clock + 1 }:=by
 refine ⟨?_,⟨h.l.f,h.l.m,h.l.c⟩,h.ph⟩;obtain ⟨a1,a2,a3,a4,a5,a6,a7,a8,a9⟩:=Aj.1 h.r;exact Aj.2 ⟨⟨by dsimp only;omega,by dsimp only;omega⟩,a2,a3,a4,a5,a6,a7,a8,a9⟩
theorem NB.view {n : Node} (h : NB n) {v : View} (hv : Tl n.view v) {k : Int} (hk : 0 ≤ k ∧ k < 16) : NB { n with view:=v,next:=k }:=by
 refine ⟨?_,⟨h.l.f,h.l.m,h.l.c⟩,h.ph⟩;obtain ⟨a1,a2,a3,a4,a5,a6,a7,a8,a9⟩:=Aj.1 h.r;refine Aj.2 ⟨a1,a2,hk,hv.right a4,⟨a5.1.trans hv.id.symm,a5.2⟩,a6,a7,a8,?_⟩;exact (XI (n:=n) (w:={ n with view:=v,next:=k }) rfl hv.id).trans a9
theorem NB.last {n : Node} (h : NB n) (k : List UInt8) : NB { n with last:=k }:=by
 refine ⟨?_,⟨h.l.f,h.l.m,h.l.c⟩,h.ph⟩;exact Aj.2 (Aj.1 h.r)
theorem Vq {m : A8} : m.asks = true ↔ 1 ≤ m.kind ∧ m.kind ≤ 6:=by
 unfold A8.asks;rw [Bool.and_eq_true,decide_eq_true_eq,decide_eq_true_eq]
theorem NB.seen {n : Node} (h : NB n) {l : List Past} (hl : EW l = true) (ho : ∀ p ∈ l,p.told.src = n.view.id) : NB { n with seen:=l }:=by
 refine ⟨?_,⟨h.l.f,h.l.m,h.l.c⟩,h.ph⟩;obtain ⟨a1,a2,a3,a4,a5,a6,a7,a8,a9⟩:=Aj.1 h.r;refine Aj.2 ⟨a1,a2,a3,a4,a5,a6,a7,hl,?_⟩;unfold Ju;rw [Bool.not_eq_true',List.any_eq_false];intro p hp;have:=ho p hp;simpa using this
theorem NB.own (h : NB n) : ∀ p ∈ n.seen,p.told.src = n.view.id:=by
 have:=(Aj.1 h.r).2.2.2.2.2.2.2.2;unfold Ju at this;rw [Bool.not_eq_true',List.any_eq_false] at this;intro p hp;simpa using this p hp
theorem NB.bad {n : Node} (h : NB n) {k : Int} (hk : 0 ≤ k) : NB { n with bad:=k }:=by
 refine ⟨?_,⟨h.l.f,h.l.m,h.l.c⟩,h.ph⟩;obtain ⟨a1,a2,a3,a4,a5,a6,a7,a8,a9⟩:=Aj.1 h.r;exact Aj.2 ⟨a1,hk,a3,a4,a5,a6,a7,a8,a9⟩
theorem NB.op16 (h : NB n) : n.calls.op.length ≤ 16:=by
 have:=(GE.1 h.cB.1).1;omega
theorem YG.size (h : YG s t) : t.2.length ≤ s.2.length + 16:=by
 obtain ⟨g,e,_,e2⟩:=h.sent;have:=h.nb.op16;rw [e,List.length_append];omega
end Nd
end Go.Proofs.YtkljbfejbakooaaGreatDoor
namespace Go.Proofs.YtkljbfejbakooaaGreatDoor
namespace Nd
open Go.Gar
open Wi (A8 B2 Ai AA BN mC Bs Ar)
set_option maxRecDepth 4000
theorem PV {α : Type} (p : α → Bool) : ∀ l : List α,(l.findIdx? p = none ∧ l.find? p = none) ∨ ∃ k x,l.findIdx? p = some k ∧ l[k]? = some x ∧ l.find? p = some x
 | [] => .inl ⟨rfl,rfl⟩
 | a :: r => by
  cases h : p a with
  | true => exact .inr ⟨0,a,by rw [List.findIdx?_cons,h];rfl,rfl,by rw [List.find?_cons,h]⟩
  | false =>
   rcases PV p r with ⟨h1,h2⟩ | ⟨k,x,h1,h2,h3⟩
   ·exact .inl ⟨by rw [List.findIdx?_cons,h,h1];rfl,by rw [List.find?_cons,h];exact h2⟩
   ·exact .inr ⟨k + 1,x,by rw [List.findIdx?_cons,h,h1];rfl,by simpa using h2,by rw [List.find?_cons,h];exact h3⟩
abbrev L3 : List Nat:=[0,1,2,3,12,35]
def Fb (m : A8) (x : Call) : Bool:=decide (m.call = x.id) && (decide (m.src = x.msg.dst) && (decide (m.dst = x.msg.src) && decide (m.kind = (x.msg.kind + 6) % 256)))
theorem ZZ (x : Call) (m : A8) : Go.Gar.Fn Tryz.prog 62 [m.d,x.d] (.b (Fb m x)):=by
 have hR : Fb m x = (decide (m.call = x.id) && (decide (m.src = x.msg.dst) && (decide (m.dst = x.msg.src) && decide (m.kind = (x.msg.kind + 6) % 256)))):=rfl;generalize Fb m x = R at *;refine zF A6 Tryz.func62 ?_;unfold Wi.A8.d Wi.A8.cells Call.d Call.cells;refine wk [0,1,2,3,4] [] A0 A0 ?_;with_reducible repeat' first|constructor|intro hc;try simp only[AB] at hc
 all_goals (refine ⟨_,_,rfl,rfl,?_⟩;simp only [Ab];refine congrArg D.b ?_;rw [hR];clear hR;grind)
def EH (m : A8) : Bool:=decide (20 < m.list.length) || decide (100 < m.item.key.length)
theorem Rh (c : Calls) : ∃ b : Bool,Go.Gar.Fn Tryz.prog 29 [c.d] (.b b) ∧ (b = false → c.op.length ≤ 30 ∧ ∀ x ∈ c.op,EH x.msg = false):=by
 refine ⟨(c.op.take 31).any (fun x => EH x.msg) || decide (30 < c.op.length),?_,fun h => ?_⟩
 ·obtain ⟨R,hR⟩ : ∃ R,R = ((c.op.take 31).any (fun x => EH x.msg) || decide (30 < c.op.length)):=⟨_,rfl⟩;rw [← hR];refine zF A6 Tryz.func29 ?_;unfold Calls.d Calls.cells;refine wk L3 [] A0 A0 ?_;refine Bg (fun k => k ≤ c.op.length ∧ k ≤ 31 ∧ (c.op.take k).any (fun x => EH x.msg) = false) (fun k : Nat => [(3,.d (.i .i64 k))]) (fun k => c.op.length - k) 0 ⟨Nat.zero_le _,Nat.zero_le _,rfl⟩ (fun _ => rfl) ?_ ?_
  ·exact A1.ck rfl
  rintro k ⟨hk,hk2,hpre⟩
  by_cases hkl : k < c.op.length
  ·by_cases h31 : k < 31
   ·have f1 : decide ((k : Int) < (c.op.length : Int)) = true:=decide_eq_true (by omega);have f2 : decide ((k : Int) ≤ 30) = true:=decide_eq_true (by omega);obtain ⟨x,hx⟩:=Ah hkl;have hA:=EC (p:=fun x : Call => EH x.msg) hx;rw [hpre,Bool.false_or] at hA;have hL : EH x.msg = (decide (20 < x.msg.list.length) || decide (100 < x.msg.item.key.length)):=rfl
    have h2 : (c.op.take (k + 1)).any (fun x => EH x.msg) = true → R = true:=fun e => by
     rw [hR,show c.op.take 31 = c.op.take (k + 1) ++ (c.op.drop (k + 1)).take (31 - (k + 1)) by rw [← List.take_add];congr 1;omega,List.any_append,e];rfl
    have ix1:=hx;refine wk L3 [] (BM f1 f2) A0 ?_;clear ix1;with_reducible repeat' first|constructor|intro hc;try simp only[AB] at hc
    all_goals first
     | (refine ⟨_,_,rfl,rfl,?_⟩;simp only [Ab];refine congrArg D.b ?_;grind)
     | (refine ⟨k + 1,⟨hkl,by omega,by rw [hA];grind⟩,by omega,Nat.le_refl _,?_⟩;exact A1.ck rfl)
   ·have f1 : decide ((k : Int) < (c.op.length : Int)) = true:=decide_eq_true (by omega);have f2 : decide ((k : Int) ≤ 30) = false:=decide_eq_false (by omega)
    have hF : decide ((c.op.length : Int) > 30) = R:=by
     have e : k = 31:=by omega
     subst e;rw [hR,hpre,Bool.false_or];exact decide_eq_decide.2 (by omega)
    refine wk L3 [] (EP f1 f2 hF) A0 ?_;exact zE
  ·have f1 : decide ((k : Int) < (c.op.length : Int)) = false:=decide_eq_false (by omega)
   have hF : decide ((c.op.length : Int) > 30) = R:=by
    have e : k = c.op.length:=by omega
    rw [hR,show c.op.take 31 = c.op.take k by rw [List.take_of_length_le (by omega),List.take_of_length_le (by omega)],hpre,Bool.false_or];exact decide_eq_decide.2 (by omega)
   refine wk L3 [] (BM f1 hF) A0 ?_;exact zE
 ·rw [Bool.or_eq_false_iff,decide_eq_false_iff_not] at h;refine ⟨by omega,fun x hx => ?_⟩;rw [List.take_of_length_le (by omega)] at h;exact Bool.eq_false_iff.2 (List.any_eq_false.1 h.1 x hx)
end Nd
end Go.Proofs.YtkljbfejbakooaaGreatDoor
namespace Go.Proofs.YtkljbfejbakooaaGreatDoor
namespace Nd
open Go.Gar
open Wi (A8 B2 Ai AA BN Bs Ar)
set_option maxRecDepth 4000
theorem V6 {m : A8} (h : m.right = true) : Ar (Bs m).1 = (m,0):=by
 rw [Wi.TQ h];exact Wi.Xu h
end Nd
end Go.Proofs.YtkljbfejbakooaaGreatDoor
namespace Go.Proofs.YtkljbfejbakooaaGreatDoor
namespace Nd
open Go.Gar
open Wi (A8 B2 Ai)
set_option maxRecDepth 4000
theorem Zb (n : Node) (h : SK n) : Go.Gar.Fn Tryz.prog 30 [n.d] (.b (Ju n)):=by
 refine zF A6 Tryz.func30 ?_;have hn : n.seen.length ≤ 1048576:=h.sn;have hT : Ju n = !(n.seen.any fun p => decide (p.told.src ≠ n.view.id)):=rfl;generalize hq : (fun p : Past => decide (p.told.src ≠ n.view.id)) = q at *;have hq' : ∀ x : Past,(x.told.src != n.view.id) = q x:=fun x => by rw [← hq];by_cases e : x.told.src = n.view.id <;> simp [e]
 refine wd [0,1,2,3,8,21] [] [] A0 A0 ?_;refine Bg (fun k => k ≤ n.seen.length ∧ (n.seen.take k).any q = false) (fun k : Nat => [(3,.d (.i .i64 k))]) (fun k => n.seen.length - k) 0 ⟨Nat.zero_le _,rfl⟩ (fun _ => rfl) ?_ ?_
 ·exact A1.ck rfl
 rintro k ⟨hk,hpre⟩
 by_cases hkl : k < n.seen.length
 ·obtain ⟨x,hx⟩:=Ah hkl;have hA:=EC (p:=q) hx;rw [hpre,Bool.false_or] at hA;have f1:=hq' x
  cases hb : q x with
  | true =>
   rw [hb] at f1;have ix1:=hx;refine wd [0,1,2,3,8,21] [] [] (AG f1) A0 ?_;clear ix1;with_reducible repeat' first|constructor|intro hc;try simp only[AB] at hc
   refine ⟨_,_,rfl,rfl,?_⟩;simp only [By];rw [hT,Sj hx hb];rfl
  | false =>
   rw [hb] at f1;have ix1:=hx;refine wd [0,1,2,3,8,21] [] [] (AG f1) A0 ?_;clear ix1;with_reducible repeat' first|constructor|intro hc;try simp only[AB] at hc
   refine ⟨k + 1,⟨hkl,by rw [hA,hb]⟩,by omega,Nat.le_refl _,?_⟩;exact A1.ck rfl
 ·have e : k = n.seen.length:=by omega
  subst e;rw [List.take_length] at hpre;refine wd [0,1,2,3,8,21] [] [] A0 A0 ?_;with_reducible repeat' first|constructor|intro hc;try simp only[AB] at hc
  refine ⟨_,_,rfl,rfl,?_⟩;simp only [By];rw [hT,hpre];rfl
theorem Ur (n : Node) (h : SK n) : Go.Gar.Fn Tryz.prog 9 [n.d] (.b (Dq n)):=by
 have c1:=Zb n h;have c2:=QU n.view h.id h.li (by have:=h.vb;omega) (by have:=h.vl;omega);have c3:=NK n.calls h.cl (by have:=h.cn;omega);have c4:=Xg n.seen h.sl (by have:=h.sn;omega);have c5:=Xh n.phase n.of_;have c6:=Xc n.keep (by have:=h.kn;omega);have hT : Dq n = ((decide (0 ≤ n.clock) && decide (n.clock ≤ 1099511627776)) && (decide (0 ≤ n.bad) && ((decide (0 ≤ n.next) && decide (n.next < 16)) && (Ck n.view && ((decide (n.calls.id = n.view.id) && BB n.calls) && (Gj n.phase n.of_ && (C0 n.keep && (EW n.seen && Ju n)))))))):=rfl;unfold View.d View.cells at c2;unfold Calls.d Calls.cells at c3;refine zF A6 Tryz.func9 ?_;generalize Dq n = R at *;generalize Ju n = g1 at *;generalize Ck n.view = g2 at *;generalize BB n.calls = g3 at *;generalize EW n.seen = g4 at *;generalize Gj n.phase n.of_ = g5 at *;generalize C0 n.keep = g6 at *;clear h;refine wk [0,1,2] [] A0 (zq6 @c1 @c2 @c3 @c4 @c5 @c6) ?_;with_reducible repeat' first|constructor|intro hc;try simp only[AB] at hc
 all_goals (clear c1 c2 c3 c4 c5 c6;refine ⟨_,_,rfl,rfl,?_⟩;simp only [By];refine congrArg D.b ?_;rw [hT];clear hT;grind)
end Nd
end Go.Proofs.YtkljbfejbakooaaGreatDoor
namespace Go.Proofs.YtkljbfejbakooaaGreatDoor
namespace Nd
open Go.Gar
open Wi (A8 B2 Ai AA BN mC Bs Ar)
set_option maxRecDepth 4000
abbrev JV : List Nat:=[0,1,2,3,4,51,56,79,84,94]
structure GB (n : Node) : Prop where
 vb : n.view.base.length ≤ 20
 vl : n.view.list.length ≤ 20
 cn : n.calls.op.length ≤ 30
 cl : ∀ x ∈ n.calls.op,EH x.msg = false
 sn : n.seen.length ≤ 60
 kn : n.keep.length ≤ 40
 ln : n.last.length ≤ 100
 f : n.finger.left.length ≤ 20
 m : n.mirror.left.length ≤ 20
 c : n.client.left.length ≤ 20
 sl : ∀ x ∈ n.seen,EH x.told = false
 kl : ∀ x ∈ n.keep,x.key.length ≤ 100
theorem Uk (n : Node) : ∃ b : Bool,Go.Gar.Fn Tryz.prog 8 [n.d] (.b b) ∧ (b = false → GB n):=by
 obtain ⟨g,c2,hg⟩:=Rh n.calls;have c1:=V8 n.view;refine ⟨(decide (n.view.base.length > 20 ∨ n.view.list.length > 20) || (g || (decide ((n.seen.length : Int) > 60) || (decide ((n.keep.length : Int) > 40) || (decide ((n.last.length : Int) > 100) || (decide ((n.finger.left.length : Int) > 20) || (decide ((n.mirror.left.length : Int) > 20) || decide ((n.client.left.length : Int) > 20)))))))) || (n.seen.any (fun x => EH x.told) || n.keep.any (fun x => decide (100 < x.key.length))),?_,fun h => ?_⟩
 ·obtain ⟨b1,hb1⟩ : ∃ b1,b1 = decide (n.view.base.length > 20 ∨ n.view.list.length > 20):=⟨_,rfl⟩;rw [← hb1] at c1 ⊢;obtain ⟨S,hS⟩ : ∃ S,S = n.seen.any (fun x => EH x.told):=⟨_,rfl⟩;obtain ⟨K,hK⟩ : ∃ K,K = n.keep.any (fun x => decide (100 < x.key.length)):=⟨_,rfl⟩;rw [← hS,← hK];refine zF A6 Tryz.func8 ?_;unfold View.d View.cells at c1;unfold Calls.d Calls.cells at c2;unfold Node.d Node.cells View.cells Calls.cells Job.cells;clear hb1 hg;refine wk JV [] A0 (BM @c1 @c2) ?_;with_reducible repeat' first|constructor|intro hc;try simp only[AB] at hc
  all_goals try (refine ⟨_,_,rfl,rfl,?_⟩;simp only [Ab];refine congrArg D.b ?_;grind)
  refine Bg (fun k => k ≤ n.seen.length ∧ (n.seen.take k).any (fun x => EH x.told) = false) (fun k : Nat => [(3,.d (.i .i64 k))]) (fun k => n.seen.length - k) 0 ⟨Nat.zero_le _,rfl⟩ (fun _ => rfl) ?_ ?_
  ·exact A1.ck rfl
  rintro k ⟨hk,hpre⟩
  by_cases hkl : k < n.seen.length
  ·have f1 : decide ((k : Int) < (n.seen.length : Int)) = true:=decide_eq_true (by omega);obtain ⟨x,hx⟩:=Ah hkl;have hA:=EC (p:=fun x : Past => EH x.told) hx;rw [hpre,Bool.false_or] at hA;have hL : EH x.told = (decide (20 < x.told.list.length) || decide (100 < x.told.item.key.length)):=rfl
   have h2 : EH x.told = true → S = true:=fun e => by
    rw [hS];exact List.any_eq_true.2 ⟨x,List.mem_of_getElem? hx,e⟩
   have ix1:=hx;refine wk JV [] (AG f1) A0 ?_;clear ix1;with_reducible repeat' first|constructor|intro hc;try simp only[AB] at hc
   all_goals first
    | (refine ⟨_,_,rfl,rfl,?_⟩;simp only [Ab];refine congrArg D.b ?_;grind)
    | (refine ⟨k + 1,⟨hkl,by rw [hA];grind⟩,by omega,Nat.le_refl _,?_⟩;exact A1.ck rfl)
  ·have f1 : decide ((k : Int) < (n.seen.length : Int)) = false:=decide_eq_false (by omega);have e : k = n.seen.length:=by omega
   subst e;rw [List.take_length] at hpre;rw [hpre] at hS;refine wk JV [] (AG f1) A0 ?_;refine Bg (fun k => k ≤ n.keep.length ∧ (n.keep.take k).any (fun x => decide (100 < x.key.length)) = false) (fun k : Nat => [(4,.d (.i .i64 k))]) (fun k => n.keep.length - k) 0 ⟨Nat.zero_le _,rfl⟩ (fun _ => rfl) ?_ ?_
   ·exact A1.ck rfl
   rintro k ⟨hk,hpre⟩
   by_cases hkl : k < n.keep.length
   ·have f1 : decide ((k : Int) < (n.keep.length : Int)) = true:=decide_eq_true (by omega);obtain ⟨x,hx⟩:=Ah hkl;have hA:=EC (p:=fun x : Item => decide (100 < x.key.length)) hx;rw [hpre,Bool.false_or] at hA
    have h2 : 100 < x.key.length → K = true:=fun e => by
     rw [hK];exact List.any_eq_true.2 ⟨x,List.mem_of_getElem? hx,decide_eq_true e⟩
    have ix1:=hx;refine wk JV [] (AG f1) A0 ?_;clear ix1;with_reducible repeat' first|constructor|intro hc;try simp only[AB] at hc
    all_goals first
     | (refine ⟨_,_,rfl,rfl,?_⟩;simp only [Ab];refine congrArg D.b ?_;grind)
     | (refine ⟨k + 1,⟨hkl,by rw [hA];grind⟩,by omega,Nat.le_refl _,?_⟩;exact A1.ck rfl)
   ·have f1 : decide ((k : Int) < (n.keep.length : Int)) = false:=decide_eq_false (by omega);have e : k = n.keep.length:=by omega
    subst e;rw [List.take_length] at hpre;rw [hpre] at hK;refine wk JV [] (AG f1) A0 ?_
    all_goals (refine ⟨_,_,rfl,rfl,?_⟩;simp only [Ab];refine congrArg D.b ?_;grind)
 ·simp only [Bool.or_eq_false_iff,decide_eq_false_iff_not] at h;obtain ⟨⟨h1,h2,h3,h4,h5,h6,h7,h8⟩,h9,h10⟩:=h;obtain ⟨g1,g2⟩:=hg h2
  exact ⟨by omega,by omega,g1,g2,by omega,by omega,by omega,by omega,by omega,by omega,fun x hx => Bool.eq_false_iff.2 (List.any_eq_false.1 h9 x hx),fun x hx => by
   have:=List.any_eq_false.1 h10 x hx;simp only [decide_eq_true_eq] at this
   omega⟩
end Nd
end Go.Proofs.YtkljbfejbakooaaGreatDoor
namespace Go.Proofs.YtkljbfejbakooaaGreatDoor
namespace Nd
open Go.Gar
open Wi (A8 B2 Ai AA BN mC Bs Ar)
set_option maxRecDepth 100000
theorem Lm {m : A8} (h : EH m = false) : B5 m:=by
 unfold EH at h;simp only [Bool.or_eq_false_iff,decide_eq_false_iff_not] at h;unfold B5;omega
theorem eG {n : Node} (g : GB n) (w : Ox n) : SK n:=by
 have:=g.vb;have:=g.vl;have:=g.cn;have:=g.sn;have:=g.kn;have:=g.f;have:=g.m;have:=g.c;exact ⟨w.id,w.li,by omega,by omega,fun x hx => Lm (g.cl x hx),by omega,fun x hx => Lm (g.sl x hx),by omega,by omega,by omega,by omega,by omega⟩
theorem gbNb {n : Node} (g : GB n) (w : Ox n) (r : Dq n = true) : NB n:=by
 have:=g.f;have:=g.m;have:=g.c;exact ⟨r,⟨by omega,by omega,by omega⟩,w.ph⟩
end Nd
end Go.Proofs.YtkljbfejbakooaaGreatDoor
