/- Part 20 of a proof, put together by a program. Conditions: none beyond those that a theorem states. -/
import Derived.Test.YtkljbfejbakooaaGreatDoorN18
set_option linter.unusedSimpArgs false
set_option linter.unusedVariables false
set_option linter.unnecessarySimpa false
set_option maxHeartbeats 40000000
namespace Go.Proofs.YtkljbfejbakooaaGreatDoor
namespace Nd
open Go.Gar
open Wi (A8 B7)
set_option maxRecDepth 4000
abbrev JM : List Nat:=[0,1,2,3,5,29,31,32,33,34,46]
abbrev Hw : Call:=⟨0,Wi.AC,0,0,0,0⟩
def F0 (id many : Int) (x : Call) : Bool:=x.msg.right && (x.msg.asks && (decide (x.msg.src = id) && (decide (x.id = x.msg.call) && (decide (x.id ≤ id * 1048576 + many) && (decide (1 ≤ x.tries) && (decide (x.tries ≤ 3) && GX x.sent))))))
def Gp (c : Calls) (k : Nat) : Bool:=F0 c.id c.many (c.op.getD k Hw) && decide (k = 0 ∨ (c.op.getD (k - 1) Hw).id < (c.op.getD k Hw).id)
def Ly (c : Calls) : Bool:=B7 c.id && (decide (0 ≤ c.many) && (decide (c.many ≤ 1048576) && decide (c.op.length ≤ 16)))
def Bh (c : Calls) : Bool:=Ly c && Ez c.op.length (Gp c)
def C3 (m : A8) : Prop:=m.list.length ≤ 1048576
theorem lm {m : A8} (h : C3 m) : m.list.length < 9223372036854775807:=by unfold C3 at h;omega
theorem Ny {m : A8} (h : m.right = true) (ha : m.asks = true) : m.src * 1048576 + 1 ≤ m.call ∧ m.call < m.src * 1048576 + 1 + 1048576 ∧ B7 m.src = true:=by
 unfold A8.right A8.IL at h;simp only [Bool.and_eq_true,decide_eq_true_eq] at h;obtain ⟨⟨⟨⟨⟨⟨⟨_,_⟩,h1⟩,_⟩,_⟩,h2⟩,h3⟩,_⟩:=h;unfold A8.asker at h2 h3;rw [if_pos ha] at h2 h3;exact ⟨h2,h3,h1⟩
theorem getD_at {α : Type} {l : List α} {k : Nat} {x d : α} (hx : l[k]? = some x) : l.getD k d = x:=by rw [List.getD_eq_getElem?_getD,hx];rfl
theorem LQ (id many : Int) (op : List Call) (x : Call) (hi : B7 id = true) (hm : 0 ≤ many ∧ many ≤ 1048576) (hl : C3 x.msg) : Go.Gar.Fn Tryz.prog 163 [Calls.d ⟨id,many,op⟩,x.d] (.b (F0 id many x)):=by
 have hb:=Wi.Dj hi;have c1:=PU id 1;rw [show En id 1 = (id * 1048576 + 1,0) from if_pos ⟨hi,by omega,by omega⟩] at c1;have c2:=Wi.Ki x.msg;have c3:=Wi.Ff x.msg (lm hl);have c4:=Ot x.sent;have hR:=@Ny x.msg;have hT : F0 id many x = (x.msg.right && (x.msg.asks && (decide (x.msg.src = id) && (decide (x.id = x.msg.call) && (decide (x.id ≤ id * 1048576 + many) && (decide (1 ≤ x.tries) && (decide (x.tries ≤ 3) && GX x.sent))))))):=rfl;generalize F0 id many x = R at *;unfold Call.d Call.cells Calls.d Calls.cells;unfold A8.d A8.cells at c2 c3;generalize x.msg.right = rr at *;generalize x.msg.asks = aa at *;generalize GX x.sent = tt at *;obtain ⟨xid,⟨k,c,s,d,ky,sl,dn,pl,pr,l,⟨ik,iv,ir,ig⟩,co⟩,wh,rf,se,tr⟩:=x;simp only at *;refine zF A6 Tryz.func163 ?_;refine wk [0,1,2,3,4,5,6,29] [] A0 (M9 @c1 @c2 @c3 @c4) ?_;with_reducible repeat' first|constructor|intro hc;try simp only[AD] at hc
 all_goals (clear c1 c2 c3 c4;refine ⟨_,_,rfl,rfl,?_⟩;simp only [Bi];refine congrArg D.b ?_;rw [hT];clear hT;grind)
theorem RS (c : Calls) (hl : ∀ x ∈ c.op,C3 x.msg) : Go.Gar.Fn Tryz.prog 95 [c.d] (.b (Bh c)):=by
 obtain ⟨id,many,op⟩:=c;replace hl : ∀ x ∈ op,C3 x.msg:=hl;refine zF A6 Tryz.func95 ?_;unfold Calls.d Calls.cells
 cases hh : Ly ⟨id,many,op⟩ with
 | false =>
  have hT : Bh ⟨id,many,op⟩ = false:=by unfold Bh;rw [hh];rfl
  have sc : No 3:=trivial;refine wk JM [] A0 A0 ?_;clear sc;with_reducible repeat' first|constructor|intro hc;try simp only[AD] at hc
  all_goals first
   | (refine ⟨_,_,rfl,rfl,?_⟩;simp only [Bi];rw [hT];done)
   | (exfalso;simp [Ly,B7] at hh;omega)
 | true =>
 have hT : Bh ⟨id,many,op⟩ = Ez op.length (Gp ⟨id,many,op⟩):=by unfold Bh;rw [hh];rfl
 simp only [Ly,B7,Bool.and_eq_true,decide_eq_true_eq] at hh;obtain ⟨⟨h1,h2⟩,h3,h4,h5⟩:=hh;have hp : B7 id = true:=Wi.eF.2 ⟨h1,h2⟩;have f1 : decide (id < 0) = false:=decide_eq_false (by omega);have f2 : decide (id ≥ 65536) = false:=decide_eq_false (by omega);have f3 : decide (many < 0) = false:=decide_eq_false (by omega);have f4 : decide (many > 1048576) = false:=decide_eq_false (by omega);have f5 : decide ((op.length : Int) > 16) = false:=decide_eq_false (by omega);have sc : No 3:=trivial;refine wk JM [] (R2 f1 f2 f3 f4 f5) A0 ?_;clear sc;refine Cz (fun k => k ≤ op.length ∧ Ez k (Gp ⟨id,many,op⟩) = true) (fun k : Nat => [(33,.d (.i .i64 k)),(3,.d (.i .i64 (if k = 0 then 0 else (op.getD (k - 1) Hw).id)))]) (fun k => op.length - k) 0 ⟨Nat.zero_le _,rfl⟩ (fun _ => rfl) ?_ ?_
 ·exact A3.ck rfl
 rintro k ⟨hk,hpre⟩
 by_cases hkl : k < op.length
 ·obtain ⟨x,hx⟩:=Aa hkl;have gx : op.getD k Hw = x:=getD_at hx;have c1:=LQ id many op x hp ⟨h3,h4⟩ (hl x (List.mem_of_getElem? hx));have hK : Gp ⟨id,many,op⟩ k = (F0 id many x && decide (k = 0 ∨ (op.getD (k - 1) Hw).id < x.id)):=by unfold Gp;rw [gx]
  have hpos : F0 id many x = true → 1 ≤ x.id:=by
   intro h;simp only [F0,Bool.and_eq_true,decide_eq_true_eq] at h;have:=Ny h.1 h.2.1;have:=Wi.Dj this.2.2;omega
  generalize hlast : (op.getD (k - 1) Hw).id = la at *;generalize F0 id many x = ok at *;unfold Calls.d Calls.cells Call.d Call.cells at c1;have hix:=CN (f:=Call.cells) hx;unfold Call.cells at hix;have ix1:=hx;have sc : No 3:=trivial;refine wk JM [] A0 (AF @c1) ?_;clear sc ix1;with_reducible repeat' first|constructor|intro hc;try simp only[AD] at hc
  all_goals first
   | (refine ⟨k + 1,⟨hkl,Du hpre (by rw [hK];grind)⟩,by omega,Nat.le_refl _,?_⟩
      exact (have nC:=gx;A3.co rfl))
   | (refine ⟨_,_,rfl,rfl,?_⟩;simp only [Bi];rw [hT,Fj hkl (by rw [hK];grind)])
 ·have e : k = op.length:=by omega
  subst e;rw [hpre] at hT;have sc : No 3:=trivial;refine wk JM [] A0 A0 ?_;clear sc;with_reducible repeat' first|constructor|intro hc;try simp only[AD] at hc
  refine ⟨_,_,rfl,rfl,?_⟩;simp [AR,AB,A7,A4,hT]
end Nd
end Go.Proofs.YtkljbfejbakooaaGreatDoor
namespace Go.Proofs.YtkljbfejbakooaaGreatDoor
namespace Nd
open Go.Gar Go.Sort
open Wi (A8 B7 AU)
set_option maxRecDepth 4000
abbrev Dy : List Nat:=[0,1,2,3,4,7,9,10,11,29]
abbrev JN : List Nat:=[0,1,3,4,5,6,7,8,16]
def EC (l : List Item) (k : Nat) : Bool:=AU (l.getD k AE) && decide (k = 0 ∨ (l.getD (k - 1) AE).key < (l.getD k AE).key)
def Bp (l : List Item) : Bool:=decide (l.length ≤ 24) && Ez l.length (EC l)
theorem gj (a b : List UInt8) : (!(Op.bytesLess a b)) = (Op.bytesLess b a || b == a):=by
 rw [bytesLess_eq,bytesLess_eq,DK,Bool.eq_iff_iff];simp only [Bool.not_eq_true',decide_eq_false_iff_not,Bool.or_eq_true,decide_eq_true_eq];constructor
 ·intro h
  by_cases e : b = a
  ·exact .inr e
  ·left
   by_cases h2 : b < a
   ·exact h2
   ·exact absurd (List.le_antisymm (List.not_lt.1 h) (List.not_lt.1 h2)) e
 ·rintro (h | rfl)
  ·exact List.lt_asymm h
  ·exact List.lt_irrefl _
theorem bN (l : List Item) (hn : l.length ≤ 9223372036854775807) : Go.Gar.Fn Tryz.prog 35 [AW l] (.b (Bp l)):=by
 refine zF A6 Tryz.func35 ?_;have hT : Bp l = (decide (l.length ≤ 24) && Ez l.length (EC l)):=rfl;refine wd [0,2,3,7,33] [] [] A0 A0 ?_;refine Cz (fun k => k ≤ l.length ∧ Ez k (EC l) = true) (fun k : Nat => [(3,.d (.i .i64 k))]) (fun k => l.length - k) 0 ⟨Nat.zero_le _,rfl⟩ (fun _ => rfl) ?_ ?_
 ·exact A3.ck rfl
 rintro k ⟨hk,hpre⟩
 by_cases hkl : k < l.length
 ·obtain ⟨x,hx⟩:=Aa hkl;have gx : l.getD k AE = x:=getD_at hx;have c1:=Wi.IY x;have hK : EC l k = (AU x && decide (k = 0 ∨ (l.getD (k - 1) AE).key < x.key)):=by unfold EC;rw [gx]
  unfold Item.d Item.cells at c1;generalize AU x = ok at *
  by_cases h0 : k = 0
  ·have f6 : decide ((k : Int) > 0) = false:=decide_eq_false (by omega);have ix1:=hx;refine wd [0,2,3,7,33] [] [] (AF f6) (AF @c1) ?_;clear ix1;with_reducible repeat' first|constructor|intro hc;try simp only[AD] at hc
   all_goals clear c1
   all_goals first
    | (refine ⟨k + 1,⟨hkl,Du hpre (by rw [hK];grind)⟩,by omega,Nat.le_refl _,?_⟩
       exact A3.ck rfl)
    | (refine ⟨_,_,rfl,rfl,?_⟩;simp only [Bi];rw [hT,Fj hkl (by rw [hK];grind),Bool.and_false])
  ·have f6 : decide ((k : Int) > 0) = true:=decide_eq_true (by omega);have e1 : (k : Int) - 1 = ((k - 1 : Nat) : Int):=by omega
   obtain ⟨y,hy⟩:=Aa (xs:=l) (k:=k - 1) (by omega);have gy : l.getD (k - 1) AE = y:=getD_at hy;rw [gy] at hK
   have hs : decide (k = 0 ∨ y.key < x.key) = !(Op.bytesLess x.key y.key || x.key == y.key):=by
    rw [← gj,bytesLess_eq,Bool.not_not];simp [h0]
   rw [hs] at hK;obtain ⟨q,hq⟩ : ∃ q,(Op.bytesLess x.key y.key || x.key == y.key) = q:=⟨_,rfl⟩;rw [hq] at hK;have ix1:=hx;have ix2:=hy;refine wd [0,2,3,7,33] [] [] (Dl f6 e1 hq) (AF @c1) ?_;clear ix2 ix1;with_reducible repeat' first|constructor|intro hc;try simp only[AD] at hc
   all_goals clear c1
   all_goals first
    | (refine ⟨k + 1,⟨hkl,Du hpre (by rw [hK];grind)⟩,by omega,Nat.le_refl _,?_⟩
       exact A3.ck rfl)
    | (refine ⟨_,_,rfl,rfl,?_⟩;simp only [Bi];rw [hT,Fj hkl (by rw [hK];grind),Bool.and_false])
 ·have e : k = l.length:=by omega
  subst e;rw [hpre] at hT;refine wd [0,2,3,7,33] [] [] A0 A0 ?_;with_reducible repeat' first|constructor|intro hc;try simp only[AD] at hc
  all_goals (refine ⟨_,_,rfl,rfl,?_⟩;simp only [Bi];rw [hT];simp;try omega)
theorem SL (l : List Item) : Ao Tryz.prog 157 [.d (AW l)] [] (.fn (.func 235) [] [.ptr 0 0 1]) [.c [.d (AW l)]]:=by
 refine zD A6 Tryz.func157 ?_;refine wk [0,1,2] [] A0 A0 ?_;exact ⟨_,(A3.ck rfl),Nat.zero_le _,_,_,rfl,rfl,rfl,rfl⟩
theorem QG (l : List Item) (hn : l.length ≤ 9223372036854775807) : Go.Gar.Fn Tryz.prog 99 [AW l] (.b (Bp l)):=by
 refine zF A6 Tryz.func99 ?_
 by_cases h24 : l.length > 24
 ·have f1 : decide ((l.length : Int) > 24) = true:=decide_eq_true (by omega);have hT : Bp l = false:=by unfold Bp;rw [decide_eq_false (by omega)];rfl
  refine wd Dy [] [] (AF f1) A0 ?_;refine ⟨_,_,rfl,rfl,?_⟩;simp [AR,AB,A7,A4,hT]
 have f1 : decide ((l.length : Int) > 24) = false:=decide_eq_false (by omega);have hT : Bp l = Ez l.length (EC l):=by unfold Bp;rw [decide_eq_true (by omega)];rfl
 have d1:=Ds.mk [] (SL l);refine wd Dy [] [] (AF f1) A0 ?_;clear d1
 refine zG (K:=fun r _ H' => (Ez l.length (EC l) = true ∧ H' = [.c [.d (AW l)],.c [.d (.b false)],.c [.d (AW l)],.lp r]) ∨
  (Ez l.length (EC l) = false ∧ H' = [.c [.d (AW l)],.c [.d (.b false)],.c [.d (AW l)],.lp (r.left .ret)])) ?_ ?_
 ·intro r hr;refine zT A6 Tryz.func235 ?_;refine wk JN [] A0 A0 ?_;have hk:=hr.ok (k:=3) rfl;refine Cz (fun k => k ≤ l.length ∧ Ez k (EC l) = true) (fun k : Nat => [(7,.d (.i .i64 k))]) (fun k => l.length - k) 0 ⟨Nat.zero_le _,rfl⟩ (fun _ => rfl) ?_ ?_
  ·exact A3.ck rfl
  rintro k ⟨hkk,hpre⟩
  by_cases hkl : k < l.length
  ·obtain ⟨x,hx⟩:=Aa hkl;have gx : l.getD k AE = x:=getD_at hx;have c1:=Wi.Iq x;have hK : EC l k = (AU x && decide (k = 0 ∨ (l.getD (k - 1) AE).key < x.key)):=by unfold EC;rw [gx]
   unfold Item.d Item.cells at c1
   have hY : YT Tryz.prog 3 [.d (.i .i64 k),.d (.agg [.s x.key,.i .i64 x.value,.i .i64 x.version,.b x.gone])] [.c [.d (AW l)],.c [.d (.b false)],.c [.d (AW l)],.lp r,.c [.d (.s x.key),.d (.i .i64 x.value),.d (.i .i64 x.version),.d (.b x.gone)]] fun v K => v = .d (.b (EC l k)) ∧ K = if EC l k then [.c [.d (AW l)],.c [.d (.b false)],.c [.d (AW l)],.lp r,.c [.d (.s x.key),.d (.i .i64 x.value),.d (.i .i64 x.version),.d (.b x.gone)]] else [.c [.d (AW l)],.c [.d (.b false)],.c [.d (AW l)],.lp (r.left .ret),.c [.d (.s x.key),.d (.i .i64 x.value),.d (.i .i64 x.version),.d (.b x.gone)]]:=by
    refine Az hr rfl rfl rfl ?_
    by_cases h0 : k = 0
    ·have f6 : decide ((k : Int) > 0) = false:=decide_eq_false (by omega);have hK' : EC l k = AU x:=by rw [hK];simp [h0]
     rw [hK'];refine wd Dy [] [] A0 A0 ?_;refine zR ?_;refine wd Dy [] [] (AF f6) (AF @c1) ?_;with_reducible repeat' first|constructor|intro hc;try simp only[AD] at hc
     ·simp only [hc];exact ⟨⟨[],[.c [.d (AW l)],.c [.d (.b false)],.c [.d (AW l)],.lp r.busy,.c [.d (.s x.key),.d (.i .i64 x.value),.d (.i .i64 x.version),.d (.b x.gone)]],_⟩,(A3.ck rfl),Nat.le_refl _,rfl,rfl,rfl⟩
     ·simp only [hc];exact ⟨⟨[],[.c [.d (AW l)],.c [.d (.b false)],.c [.d (AW l)],.lp r.busy,.c [.d (.s x.key),.d (.i .i64 x.value),.d (.i .i64 x.version),.d (.b x.gone)]],_⟩,(A3.ck rfl),Nat.le_refl _,rfl,rfl,rfl⟩
    ·have f6 : decide ((k : Int) > 0) = true:=decide_eq_true (by omega);have e1 : (k : Int) - 1 = ((k - 1 : Nat) : Int):=by omega
     obtain ⟨y,hy⟩:=Aa (xs:=l) (k:=k - 1) (by omega);have gy : l.getD (k - 1) AE = y:=getD_at hy;rw [gy] at hK;obtain ⟨q,hq⟩ : ∃ q,Op.bytesLess y.key x.key = q:=⟨_,rfl⟩;have hK' : EC l k = (AU x && q):=by rw [hK,← hq,bytesLess_eq];simp [h0]
     rw [hK'];refine wd Dy [] [] A0 A0 ?_;refine zR ?_;have ix1:=hy;refine wd Dy [] [] (Dl f6 e1 hq) (AF @c1) ?_;clear ix1;with_reducible repeat' first|constructor|intro hc;try simp only[AD] at hc
     all_goals first
      | (rw [show (AU x && q) = true by grind];exact ⟨⟨[],[.c [.d (AW l)],.c [.d (.b false)],.c [.d (AW l)],.lp r.busy,.c [.d (.s x.key),.d (.i .i64 x.value),.d (.i .i64 x.version),.d (.b x.gone)]],_⟩,(A3.ck rfl),Nat.le_refl _,rfl,rfl,rfl⟩)
      | (rw [show (AU x && q) = false by grind];exact ⟨⟨[],[.c [.d (AW l)],.c [.d (.b false)],.c [.d (AW l)],.lp r.busy,.c [.d (.s x.key),.d (.i .i64 x.value),.d (.i .i64 x.version),.d (.b x.gone)]],_⟩,(A3.ck rfl),Nat.le_refl _,rfl,rfl,rfl⟩)
   cases hb : EC l k with
   | true =>
    rw [hb] at hY;have ix1:=hx;have q1:=@hY;refine wk JN [] A0 A0 ?_;clear q1 ix1;with_reducible repeat' first|constructor|intro hc;try simp only[AD] at hc
    refine ⟨k + 1,⟨hkl,Du hpre hb⟩,by omega,Nat.le_refl _,?_⟩;exact A3.ck rfl
   | false =>
    rw [hb] at hY;have ix1:=hx;have q1:=@hY;refine wk JN [] A0 A0 ?_;clear q1 ix1;with_reducible repeat' first|constructor|intro hc;try simp only[AD] at hc
    exact ⟨⟨[],[.c [.d (AW l)],.c [.d (.b false)],.c [.d (AW l)],.lp (r.left .ret)],_⟩,(A3.ck rfl),Nat.le_refl _,_,_,rfl,rfl,.inr ⟨Fj hkl hb,rfl⟩⟩
  ·have e : k = l.length:=by omega
   subst e;refine wk JN [] A0 A0 ?_;with_reducible repeat' first|constructor|intro hc;try simp only[AD] at hc
   exact ⟨_,A3.refl _,Nat.le_refl _,_,_,rfl,rfl,.inl ⟨hpre,rfl⟩⟩
 ·rintro r hr y H' (⟨h,rfl⟩ | ⟨h,rfl⟩)
  ·refine .inl ⟨rfl,?_⟩;rw [h] at hT;refine wd Dy [] [] A0 A0 ?_;refine ⟨_,_,rfl,rfl,?_⟩;simp [AR,AB,A7,A4,hT]
  ·refine .inr ⟨.ret,rfl,?_⟩;rw [h] at hT;refine wd Dy [] [] A0 A0 ?_;refine ⟨_,_,rfl,rfl,?_⟩;simp [AR,AB,A7,A4,hT]
end Nd
end Go.Proofs.YtkljbfejbakooaaGreatDoor
namespace Go.Proofs.YtkljbfejbakooaaGreatDoor
namespace Nd
open Go.Gar
open Wi (A8 B7 AU)
set_option maxRecDepth 4000
abbrev JO : List Nat:=[0,1,2,6,7,8,12,30]
abbrev PT : Past:=⟨0,0,Wi.AC⟩
def Je (s c : Int) (p : Past) : Bool:=decide (p.src = s) && decide (p.call = c)
def Jz (p : Past) : Bool:=p.told.right && (!p.told.asks && (decide (p.told.dst = p.src) && decide (p.told.call = p.call)))
def Di (l : List Past) (k : Nat) : Bool:=Jz (l.getD k PT) && !((l.take k).any (Je (l.getD k PT).src (l.getD k PT).call))
def FB (l : List Past) : Bool:=decide (l.length ≤ 40) && Ez l.length (Di l)
theorem Sy (m : A8) (h : C3 m) : Go.Gar.Fn Tryz.prog 146 [m.d] m.d:=by
 obtain ⟨k,c,s,d,ky,sl,dn,pl,pr,l,⟨ik,iv,ir,ig⟩,co⟩:=m;replace h : l.length ≤ 1048576:=h;refine zF A6 Tryz.func146 ?_;unfold A8.d A8.cells;refine wk [0,1,2] [] A0 A0 ?_;exact zE
theorem il (m : A8) (h : C3 m) : Go.Gar.Fn Tryz.prog 78 [m.d] (.tup [(if m.right && !m.asks then Past.d ⟨m.dst,m.call,m⟩ else PT.d),.i .i64 (if m.right && !m.asks then 0 else 2)]):=by
 have c1:=Wi.J9 m (lm h);have c2:=Wi.Nv m;have c3:=Sy m h;unfold Past.d Past.cells;unfold A8.d A8.cells at *;generalize m.right = rr at *;generalize m.asks = aa at *;obtain ⟨k,c,s,d,ky,sl,dn,pl,pr,l,⟨ik,iv,ir,ig⟩,co⟩:=m;refine zF A6 Tryz.func78 ?_;simp only at *;cases rr <;> cases aa
 all_goals
  refine wd [0,1,2,3,10] [] [] A0 (Dl @c1 @c2 @c3) ?_;refine ⟨_,_,rfl,rfl,?_⟩;simp [AR,AB,A7,A4,Wi.AC,AE]
variable {k : Nat}
theorem Fl {α : Type} {p : α → Bool} {l : List α} {x : α} (hx : l[k]? = some x) : (l.take (k + 1)).any p = ((l.take k).any p || p x):=by
 rw [AP hx,List.any_append];simp
theorem V7 {α : Type} {p : α → Bool} {l : List α} {x : α} (hx : l[k]? = some x) (h : p x = true) : l.any p = true:=List.any_eq_true.2 ⟨x,List.mem_of_getElem? hx,h⟩
def Ol (l : List Past) (s c : Int) : A8:=match l.find? (Je s c) with
 | some p => p.told
 | none => Wi.AC
theorem ZT {l : List Past} {s c : Int} {x : Past} (hx : l[k]? = some x) (h : Je s c x = true) (hn : (l.take k).any (Je s c) = false) : Ol l s c = x.told:=by
 have e : l = l.take k ++ x :: l.drop (k + 1):=by
  have hk:=(List.getElem?_eq_some_iff.1 hx).1;have hv:=(List.getElem?_eq_some_iff.1 hx).2;rw [← hv,← List.drop_eq_getElem_cons hk,List.take_append_drop]
 unfold Ol;rw [e,List.find?_append]
 have : (l.take k).find? (Je s c) = none:=by
  rw [List.find?_eq_none];intro y hy;rw [List.any_eq_false] at hn;simpa using hn y hy
 rw [this];simp [List.find?_cons,h]
theorem XN (l : List Past) (s c : Int) (hl : ∀ x ∈ l,C3 x.told) (hn : l.length ≤ 9223372036854775807) : Go.Gar.Fn Tryz.prog 79 [AO l,.i .i64 s,.i .i64 c] (.tup [(Ol l s c).d,.b (l.any (Je s c))]):=by
 refine zF A6 Tryz.func79 ?_;refine wk JO [] A0 A0 ?_;refine Cz (fun k => k ≤ l.length ∧ (l.take k).any (Je s c) = false) (fun k : Nat => [(8,.d (.i .i64 k))]) (fun k => l.length - k) 0 ⟨Nat.zero_le _,rfl⟩ (fun _ => rfl) ?_ ?_
 ·exact A3.ck rfl
 rintro k ⟨hk,hpre⟩
 by_cases hkl : k < l.length
 ·obtain ⟨x,hx⟩:=Aa hkl;have c1:=Sy x.told (hl x (List.mem_of_getElem? hx));have hA:=Fl (p:=Je s c) hx;rw [hpre,Bool.false_or] at hA;unfold A8.d A8.cells at c1
  cases hi : Je s c x with
  | true =>
   have h1 : x.src = s ∧ x.call = c:=by simpa [Je] using hi
   have f1 : (x.src == s) = true:=by simp [h1.1]
   have f2 : (x.call == c) = true:=by simp [h1.2]
   have hF:=ZT hx hi hpre;have hT:=V7 hx hi;have ix1:=hx;refine wk JO [] (Aj f1 f2) (AF @c1) ?_;clear ix1;with_reducible repeat' first|constructor|intro hc;try simp only[AD] at hc
   all_goals (clear c1;refine ⟨_,_,rfl,rfl,?_⟩;rw [hT,hF];simp [FG,Bu,CU,Bi,LC,A8.d,A8.cells])
  | false =>
   have h1 : ¬ (x.src = s ∧ x.call = c):=by simpa [Je] using hi
   have ix1:=hx;refine wk JO [] A0 (AF @c1) ?_;clear ix1;with_reducible repeat' first|constructor|intro hc;try simp only[AD] at hc
   all_goals first
    | (exfalso;exact h1 ⟨by assumption,by assumption⟩)
    | (refine ⟨k + 1,⟨hkl,by rw [hA,hi]⟩,by omega,Nat.le_refl _,?_⟩
       exact A3.ck rfl)
 ·have e : k = l.length:=by omega
  subst e;rw [List.take_length] at hpre
  have hF : Ol l s c = Wi.AC:=by
   unfold Ol
   have : l.find? (Je s c) = none:=by
    rw [List.find?_eq_none];intro y hy;rw [List.any_eq_false] at hpre;simpa using hpre y hy
   rw [this]
  refine wk JO [] A0 A0 ?_;with_reducible repeat' first|constructor|intro hc;try simp only[AD] at hc
  all_goals (refine ⟨_,_,rfl,rfl,?_⟩;rw [hpre,hF];simp [FG,Bu,CU,Bi,LC,LD,A7,AB,A4,A8.d,A8.cells,Wi.AC,AE])
end Nd
end Go.Proofs.YtkljbfejbakooaaGreatDoor
