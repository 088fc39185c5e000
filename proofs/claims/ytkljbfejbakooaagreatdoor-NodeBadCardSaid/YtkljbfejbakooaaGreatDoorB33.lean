/- Part 33 of a proof, put together by a program. Conditions: none beyond those that a theorem states. -/
import Derived.Test.YtkljbfejbakooaaGreatDoorB32
set_option linter.unusedSimpArgs false
set_option linter.unusedVariables false
set_option linter.unnecessarySimpa false
set_option maxHeartbeats 40000000
namespace Go.Proofs.YtkljbfejbakooaaGreatDoor
namespace Nd
open Go.Gar
open Wi (A8 B2)
set_option maxRecDepth 4000
abbrev Hs : List Nat:=[0,1,2,3,5,29,31,32,33,34,46]
abbrev Gl : Call:=⟨0,Wi.AA,0,0,0,0⟩
def DX (id many : Int) (x : Call) : Bool:=x.msg.right && (x.msg.asks && (decide (x.msg.src = id) && (decide (x.id = x.msg.call) && (decide (x.id ≤ id * 1048576 + many) && (decide (1 ≤ x.tries) && (decide (x.tries ≤ 3) && HQ x.sent))))))
def Fh (c : Calls) (k : Nat) : Bool:=DX c.id c.many (c.op.getD k Gl) && decide (k = 0 ∨ (c.op.getD (k - 1) Gl).id < (c.op.getD k Gl).id)
def KJ (c : Calls) : Bool:=B2 c.id && (decide (0 ≤ c.many) && (decide (c.many ≤ 1048576) && decide (c.op.length ≤ 16)))
def BB (c : Calls) : Bool:=KJ c && EQ c.op.length (Fh c)
def B5 (m : A8) : Prop:=m.list.length ≤ 1048576
theorem lm {m : A8} (h : B5 m) : m.list.length < 9223372036854775807:=by unfold B5 at h;omega
theorem MB {m : A8} (h : m.right = true) (ha : m.asks = true) : m.src * 1048576 + 1 ≤ m.call ∧ m.call < m.src * 1048576 + 1 + 1048576 ∧ B2 m.src = true:=by
 unfold A8.right A8.IP at h;simp only [Bool.and_eq_true,decide_eq_true_eq] at h;obtain ⟨⟨⟨⟨⟨⟨⟨_,_⟩,h1⟩,_⟩,_⟩,h2⟩,h3⟩,_⟩:=h;unfold A8.asker at h2 h3;rw [if_pos ha] at h2 h3;exact ⟨h2,h3,h1⟩
theorem getD_at {α : Type} {l : List α} {k : Nat} {x d : α} (hx : l[k]? = some x) : l.getD k d = x:=by rw [List.getD_eq_getElem?_getD,hx];rfl
theorem Jn (id many : Int) (op : List Call) (x : Call) (hi : B2 id = true) (hm : 0 ≤ many ∧ many ≤ 1048576) (hl : B5 x.msg) : Go.Gar.Fn Tryz.prog 163 [Calls.d ⟨id,many,op⟩,x.d] (.b (DX id many x)):=by
 have hb:=Wi.DG hi;have c1:=YB id 1;rw [show PD id 1 = (id * 1048576 + 1,0) from if_pos ⟨hi,by omega,by omega⟩] at c1;have c2:=Wi.J9 x.msg;have c3:=Wi.Ex x.msg (lm hl);have c4:=UJ x.sent;have hR:=@MB x.msg;have hT : DX id many x = (x.msg.right && (x.msg.asks && (decide (x.msg.src = id) && (decide (x.id = x.msg.call) && (decide (x.id ≤ id * 1048576 + many) && (decide (1 ≤ x.tries) && (decide (x.tries ≤ 3) && HQ x.sent))))))):=rfl;generalize DX id many x = R at *;unfold Call.d Call.cells Calls.d Calls.cells;unfold A8.d A8.cells at c2 c3;generalize x.msg.right = rr at *;generalize x.msg.asks = aa at *;generalize HQ x.sent = tt at *;obtain ⟨xid,⟨k,c,s,d,ky,sl,dn,pl,pr,l,⟨ik,iv,ir,ig⟩,co⟩,wh,rf,se,tr⟩:=x;simp only at *;refine zF A6 Tryz.func163 ?_;refine wk [0,1,2,3,4,5,6,29] [] A0 (VH @c1 @c2 @c3 @c4) ?_;with_reducible repeat' first|constructor|intro hc;try simp only[AB] at hc
 all_goals (clear c1 c2 c3 c4;refine ⟨_,_,rfl,rfl,?_⟩;simp only [By];refine congrArg D.b ?_;rw [hT];clear hT;grind)
theorem PE (c : Calls) (hl : ∀ x ∈ c.op,B5 x.msg) : Go.Gar.Fn Tryz.prog 95 [c.d] (.b (BB c)):=by
 obtain ⟨id,many,op⟩:=c;replace hl : ∀ x ∈ op,B5 x.msg:=hl;refine zF A6 Tryz.func95 ?_;unfold Calls.d Calls.cells
 cases hh : KJ ⟨id,many,op⟩ with
 | false =>
  have hT : BB ⟨id,many,op⟩ = false:=by unfold BB;rw [hh];rfl
  have sc : No 3:=trivial;refine wk Hs [] A0 A0 ?_;clear sc;with_reducible repeat' first|constructor|intro hc;try simp only[AB] at hc
  all_goals first
   | (refine ⟨_,_,rfl,rfl,?_⟩;simp only [By];rw [hT];done)
   | (exfalso;simp [KJ,B2] at hh;omega)
 | true =>
 have hT : BB ⟨id,many,op⟩ = EQ op.length (Fh ⟨id,many,op⟩):=by unfold BB;rw [hh];rfl
 simp only [KJ,B2,Bool.and_eq_true,decide_eq_true_eq] at hh;obtain ⟨⟨h1,h2⟩,h3,h4,h5⟩:=hh;have hp : B2 id = true:=Wi.ZX.2 ⟨h1,h2⟩;have f1 : decide (id < 0) = false:=decide_eq_false (by omega);have f2 : decide (id ≥ 65536) = false:=decide_eq_false (by omega);have f3 : decide (many < 0) = false:=decide_eq_false (by omega);have f4 : decide (many > 1048576) = false:=decide_eq_false (by omega);have f5 : decide ((op.length : Int) > 16) = false:=decide_eq_false (by omega);have sc : No 3:=trivial;refine wk Hs [] (L4 f1 f2 f3 f4 f5) A0 ?_;clear sc;refine Bg (fun k => k ≤ op.length ∧ EQ k (Fh ⟨id,many,op⟩) = true) (fun k : Nat => [(33,.d (.i .i64 k)),(3,.d (.i .i64 (if k = 0 then 0 else (op.getD (k - 1) Gl).id)))]) (fun k => op.length - k) 0 ⟨Nat.zero_le _,rfl⟩ (fun _ => rfl) ?_ ?_
 ·exact A1.ck rfl
 rintro k ⟨hk,hpre⟩
 by_cases hkl : k < op.length
 ·obtain ⟨x,hx⟩:=Ah hkl;have gx : op.getD k Gl = x:=getD_at hx;have c1:=Jn id many op x hp ⟨h3,h4⟩ (hl x (List.mem_of_getElem? hx));have hK : Fh ⟨id,many,op⟩ k = (DX id many x && decide (k = 0 ∨ (op.getD (k - 1) Gl).id < x.id)):=by unfold Fh;rw [gx]
  have hpos : DX id many x = true → 1 ≤ x.id:=by
   intro h;simp only [DX,Bool.and_eq_true,decide_eq_true_eq] at h;have:=MB h.1 h.2.1;have:=Wi.DG this.2.2;omega
  generalize hlast : (op.getD (k - 1) Gl).id = la at *;generalize DX id many x = ok at *;unfold Calls.d Calls.cells Call.d Call.cells at c1;have hix:=Bu (f:=Call.cells) hx;unfold Call.cells at hix;have ix1:=hx;have sc : No 3:=trivial;refine wk Hs [] A0 (AG @c1) ?_;clear sc ix1;with_reducible repeat' first|constructor|intro hc;try simp only[AB] at hc
  all_goals first
   | (refine ⟨k + 1,⟨hkl,D9 hpre (by rw [hK];grind)⟩,by omega,Nat.le_refl _,?_⟩
      exact (have nC:=gx;A1.co rfl))
   | (refine ⟨_,_,rfl,rfl,?_⟩;simp only [By];rw [hT,Ey hkl (by rw [hK];grind)])
 ·have e : k = op.length:=by omega
  subst e;rw [hpre] at hT;have sc : No 3:=trivial;refine wk Hs [] A0 A0 ?_;clear sc;with_reducible repeat' first|constructor|intro hc;try simp only[AB] at hc
  refine ⟨_,_,rfl,rfl,?_⟩;simp [Ab,A9,A4,A3,hT]
end Nd
end Go.Proofs.YtkljbfejbakooaaGreatDoor
namespace Go.Proofs.YtkljbfejbakooaaGreatDoor
namespace Nd
open Go.Gar Go.Sort
open Wi (A8 B2 Ai)
set_option maxRecDepth 4000
abbrev DI : List Nat:=[0,1,2,3,4,7,9,10,11,29]
abbrev Ht : List Nat:=[0,1,3,4,5,6,7,8,16]
def DZ (l : List Item) (k : Nat) : Bool:=Ai (l.getD k AF) && decide (k = 0 ∨ (l.getD (k - 1) AF).key < (l.getD k AF).key)
def C0 (l : List Item) : Bool:=decide (l.length ≤ 24) && EQ l.length (DZ l)
theorem bO (a b : List UInt8) : (!(Op.bytesLess a b)) = (Op.bytesLess b a || b == a):=by
 rw [bytesLess_eq,bytesLess_eq,DW,Bool.eq_iff_iff];simp only [Bool.not_eq_true',decide_eq_false_iff_not,Bool.or_eq_true,decide_eq_true_eq];constructor
 ·intro h
  by_cases e : b = a
  ·exact .inr e
  ·left
   by_cases h2 : b < a
   ·exact h2
   ·exact absurd (List.le_antisymm (List.not_lt.1 h) (List.not_lt.1 h2)) e
 ·rintro (h | rfl)
  ·exact List.lt_asymm h
  ·exact List.lt_irrefl _
theorem Xc (l : List Item) (hn : l.length ≤ 9223372036854775807) : Go.Gar.Fn Tryz.prog 35 [AZ l] (.b (C0 l)):=by
 refine zF A6 Tryz.func35 ?_;have hT : C0 l = (decide (l.length ≤ 24) && EQ l.length (DZ l)):=rfl;refine wd [0,2,3,7,33] [] [] A0 A0 ?_;refine Bg (fun k => k ≤ l.length ∧ EQ k (DZ l) = true) (fun k : Nat => [(3,.d (.i .i64 k))]) (fun k => l.length - k) 0 ⟨Nat.zero_le _,rfl⟩ (fun _ => rfl) ?_ ?_
 ·exact A1.ck rfl
 rintro k ⟨hk,hpre⟩
 by_cases hkl : k < l.length
 ·obtain ⟨x,hx⟩:=Ah hkl;have gx : l.getD k AF = x:=getD_at hx;have c1:=Wi.M8 x;have hK : DZ l k = (Ai x && decide (k = 0 ∨ (l.getD (k - 1) AF).key < x.key)):=by unfold DZ;rw [gx]
  unfold Item.d Item.cells at c1;generalize Ai x = ok at *
  by_cases h0 : k = 0
  ·have f6 : decide ((k : Int) > 0) = false:=decide_eq_false (by omega);have ix1:=hx;refine wd [0,2,3,7,33] [] [] (AG f6) (AG @c1) ?_;clear ix1;with_reducible repeat' first|constructor|intro hc;try simp only[AB] at hc
   all_goals clear c1
   all_goals first
    | (refine ⟨k + 1,⟨hkl,D9 hpre (by rw [hK];grind)⟩,by omega,Nat.le_refl _,?_⟩
       exact A1.ck rfl)
    | (refine ⟨_,_,rfl,rfl,?_⟩;simp only [By];rw [hT,Ey hkl (by rw [hK];grind),Bool.and_false])
  ·have f6 : decide ((k : Int) > 0) = true:=decide_eq_true (by omega);have e1 : (k : Int) - 1 = ((k - 1 : Nat) : Int):=by omega
   obtain ⟨y,hy⟩:=Ah (xs:=l) (k:=k - 1) (by omega);have gy : l.getD (k - 1) AF = y:=getD_at hy;rw [gy] at hK
   have hs : decide (k = 0 ∨ y.key < x.key) = !(Op.bytesLess x.key y.key || x.key == y.key):=by
    rw [← bO,bytesLess_eq,Bool.not_not];simp [h0]
   rw [hs] at hK;obtain ⟨q,hq⟩ : ∃ q,(Op.bytesLess x.key y.key || x.key == y.key) = q:=⟨_,rfl⟩;rw [hq] at hK;have ix1:=hx;have ix2:=hy;refine wd [0,2,3,7,33] [] [] (EP f6 e1 hq) (AG @c1) ?_;clear ix2 ix1;with_reducible repeat' first|constructor|intro hc;try simp only[AB] at hc
   all_goals clear c1
   all_goals first
    | (refine ⟨k + 1,⟨hkl,D9 hpre (by rw [hK];grind)⟩,by omega,Nat.le_refl _,?_⟩
       exact A1.ck rfl)
    | (refine ⟨_,_,rfl,rfl,?_⟩;simp only [By];rw [hT,Ey hkl (by rw [hK];grind),Bool.and_false])
 ·have e : k = l.length:=by omega
  subst e;rw [hpre] at hT;refine wd [0,2,3,7,33] [] [] A0 A0 ?_;with_reducible repeat' first|constructor|intro hc;try simp only[AB] at hc
  all_goals (refine ⟨_,_,rfl,rfl,?_⟩;simp only [By];rw [hT];simp;try omega)
theorem Ps (l : List Item) : B4 Tryz.prog 157 [.d (AZ l)] [] (.fn (.func 235) [] [.ptr 0 0 1]) [.c [.d (AZ l)]]:=by
 refine zD A6 Tryz.func157 ?_;refine wk [0,1,2] [] A0 A0 ?_;exact ⟨_,(A1.ck rfl),Nat.zero_le _,_,_,rfl,rfl,rfl,rfl⟩
theorem ZF (l : List Item) (hn : l.length ≤ 9223372036854775807) : Go.Gar.Fn Tryz.prog 99 [AZ l] (.b (C0 l)):=by
 refine zF A6 Tryz.func99 ?_
 by_cases h24 : l.length > 24
 ·have f1 : decide ((l.length : Int) > 24) = true:=decide_eq_true (by omega);have hT : C0 l = false:=by unfold C0;rw [decide_eq_false (by omega)];rfl
  refine wd DI [] [] (AG f1) A0 ?_;refine ⟨_,_,rfl,rfl,?_⟩;simp [Ab,A9,A4,A3,hT]
 have f1 : decide ((l.length : Int) > 24) = false:=decide_eq_false (by omega);have hT : C0 l = EQ l.length (DZ l):=by unfold C0;rw [decide_eq_true (by omega)];rfl
 have d1:=Ds.mk [] (Ps l);refine wd DI [] [] (AG f1) A0 ?_;clear d1
 refine zG (K:=fun r _ H' => (EQ l.length (DZ l) = true ∧ H' = [.c [.d (AZ l)],.c [.d (.b false)],.c [.d (AZ l)],.lp r]) ∨
  (EQ l.length (DZ l) = false ∧ H' = [.c [.d (AZ l)],.c [.d (.b false)],.c [.d (AZ l)],.lp (r.left .ret)])) ?_ ?_
 ·intro r hr;refine zT A6 Tryz.func235 ?_;refine wk Ht [] A0 A0 ?_;have hk:=hr.ok (k:=3) rfl;refine Bg (fun k => k ≤ l.length ∧ EQ k (DZ l) = true) (fun k : Nat => [(7,.d (.i .i64 k))]) (fun k => l.length - k) 0 ⟨Nat.zero_le _,rfl⟩ (fun _ => rfl) ?_ ?_
  ·exact A1.ck rfl
  rintro k ⟨hkk,hpre⟩
  by_cases hkl : k < l.length
  ·obtain ⟨x,hx⟩:=Ah hkl;have gx : l.getD k AF = x:=getD_at hx;have c1:=Wi.NZ x;have hK : DZ l k = (Ai x && decide (k = 0 ∨ (l.getD (k - 1) AF).key < x.key)):=by unfold DZ;rw [gx]
   unfold Item.d Item.cells at c1
   have hY : YT Tryz.prog 3 [.d (.i .i64 k),.d (.agg [.s x.key,.i .i64 x.value,.i .i64 x.version,.b x.gone])] [.c [.d (AZ l)],.c [.d (.b false)],.c [.d (AZ l)],.lp r,.c [.d (.s x.key),.d (.i .i64 x.value),.d (.i .i64 x.version),.d (.b x.gone)]] fun v K => v = .d (.b (DZ l k)) ∧ K = if DZ l k then [.c [.d (AZ l)],.c [.d (.b false)],.c [.d (AZ l)],.lp r,.c [.d (.s x.key),.d (.i .i64 x.value),.d (.i .i64 x.version),.d (.b x.gone)]] else [.c [.d (AZ l)],.c [.d (.b false)],.c [.d (AZ l)],.lp (r.left .ret),.c [.d (.s x.key),.d (.i .i64 x.value),.d (.i .i64 x.version),.d (.b x.gone)]]:=by
    refine BG hr rfl rfl rfl ?_
    by_cases h0 : k = 0
    ·have f6 : decide ((k : Int) > 0) = false:=decide_eq_false (by omega);have hK' : DZ l k = Ai x:=by rw [hK];simp [h0]
     rw [hK'];refine wd DI [] [] A0 A0 ?_;refine zR ?_;refine wd DI [] [] (AG f6) (AG @c1) ?_;with_reducible repeat' first|constructor|intro hc;try simp only[AB] at hc
     ·simp only [hc];exact ⟨⟨[],[.c [.d (AZ l)],.c [.d (.b false)],.c [.d (AZ l)],.lp r.busy,.c [.d (.s x.key),.d (.i .i64 x.value),.d (.i .i64 x.version),.d (.b x.gone)]],_⟩,(A1.ck rfl),Nat.le_refl _,rfl,rfl,rfl⟩
     ·simp only [hc];exact ⟨⟨[],[.c [.d (AZ l)],.c [.d (.b false)],.c [.d (AZ l)],.lp r.busy,.c [.d (.s x.key),.d (.i .i64 x.value),.d (.i .i64 x.version),.d (.b x.gone)]],_⟩,(A1.ck rfl),Nat.le_refl _,rfl,rfl,rfl⟩
    ·have f6 : decide ((k : Int) > 0) = true:=decide_eq_true (by omega);have e1 : (k : Int) - 1 = ((k - 1 : Nat) : Int):=by omega
     obtain ⟨y,hy⟩:=Ah (xs:=l) (k:=k - 1) (by omega);have gy : l.getD (k - 1) AF = y:=getD_at hy;rw [gy] at hK;obtain ⟨q,hq⟩ : ∃ q,Op.bytesLess y.key x.key = q:=⟨_,rfl⟩;have hK' : DZ l k = (Ai x && q):=by rw [hK,← hq,bytesLess_eq];simp [h0]
     rw [hK'];refine wd DI [] [] A0 A0 ?_;refine zR ?_;have ix1:=hy;refine wd DI [] [] (EP f6 e1 hq) (AG @c1) ?_;clear ix1;with_reducible repeat' first|constructor|intro hc;try simp only[AB] at hc
     all_goals first
      | (rw [show (Ai x && q) = true by grind];exact ⟨⟨[],[.c [.d (AZ l)],.c [.d (.b false)],.c [.d (AZ l)],.lp r.busy,.c [.d (.s x.key),.d (.i .i64 x.value),.d (.i .i64 x.version),.d (.b x.gone)]],_⟩,(A1.ck rfl),Nat.le_refl _,rfl,rfl,rfl⟩)
      | (rw [show (Ai x && q) = false by grind];exact ⟨⟨[],[.c [.d (AZ l)],.c [.d (.b false)],.c [.d (AZ l)],.lp r.busy,.c [.d (.s x.key),.d (.i .i64 x.value),.d (.i .i64 x.version),.d (.b x.gone)]],_⟩,(A1.ck rfl),Nat.le_refl _,rfl,rfl,rfl⟩)
   cases hb : DZ l k with
   | true =>
    rw [hb] at hY;have ix1:=hx;have q1:=@hY;refine wk Ht [] A0 A0 ?_;clear q1 ix1;with_reducible repeat' first|constructor|intro hc;try simp only[AB] at hc
    refine ⟨k + 1,⟨hkl,D9 hpre hb⟩,by omega,Nat.le_refl _,?_⟩;exact A1.ck rfl
   | false =>
    rw [hb] at hY;have ix1:=hx;have q1:=@hY;refine wk Ht [] A0 A0 ?_;clear q1 ix1;with_reducible repeat' first|constructor|intro hc;try simp only[AB] at hc
    exact ⟨⟨[],[.c [.d (AZ l)],.c [.d (.b false)],.c [.d (AZ l)],.lp (r.left .ret)],_⟩,(A1.ck rfl),Nat.le_refl _,_,_,rfl,rfl,.inr ⟨Ey hkl hb,rfl⟩⟩
  ·have e : k = l.length:=by omega
   subst e;refine wk Ht [] A0 A0 ?_;with_reducible repeat' first|constructor|intro hc;try simp only[AB] at hc
   exact ⟨_,A1.refl _,Nat.le_refl _,_,_,rfl,rfl,.inl ⟨hpre,rfl⟩⟩
 ·rintro r hr y H' (⟨h,rfl⟩ | ⟨h,rfl⟩)
  ·refine .inl ⟨rfl,?_⟩;rw [h] at hT;refine wd DI [] [] A0 A0 ?_;refine ⟨_,_,rfl,rfl,?_⟩;simp [Ab,A9,A4,A3,hT]
  ·refine .inr ⟨.ret,rfl,?_⟩;rw [h] at hT;refine wd DI [] [] A0 A0 ?_;refine ⟨_,_,rfl,rfl,?_⟩;simp [Ab,A9,A4,A3,hT]
end Nd
end Go.Proofs.YtkljbfejbakooaaGreatDoor
namespace Go.Proofs.YtkljbfejbakooaaGreatDoor
namespace Nd
open Go.Gar
open Wi (A8 B2 Ai)
set_option maxRecDepth 4000
abbrev Hu : List Nat:=[0,1,2,6,7,8,12,30]
abbrev NY : Past:=⟨0,0,Wi.AA⟩
def I9 (s c : Int) (p : Past) : Bool:=decide (p.src = s) && decide (p.call = c)
def IU (p : Past) : Bool:=p.told.right && (!p.told.asks && (decide (p.told.dst = p.src) && decide (p.told.call = p.call)))
def D2 (l : List Past) (k : Nat) : Bool:=IU (l.getD k NY) && !((l.take k).any (I9 (l.getD k NY).src (l.getD k NY).call))
def EW (l : List Past) : Bool:=decide (l.length ≤ 40) && EQ l.length (D2 l)
theorem ME (m : A8) (h : B5 m) : Go.Gar.Fn Tryz.prog 146 [m.d] m.d:=by
 obtain ⟨k,c,s,d,ky,sl,dn,pl,pr,l,⟨ik,iv,ir,ig⟩,co⟩:=m;replace h : l.length ≤ 1048576:=h;refine zF A6 Tryz.func146 ?_;unfold A8.d A8.cells;refine wk [0,1,2] [] A0 A0 ?_;exact zE
theorem cK (m : A8) (h : B5 m) : Go.Gar.Fn Tryz.prog 78 [m.d] (.tup [(if m.right && !m.asks then Past.d ⟨m.dst,m.call,m⟩ else NY.d),.i .i64 (if m.right && !m.asks then 0 else 2)]):=by
 have c1:=Wi.Es m (lm h);have c2:=Wi.JF m;have c3:=ME m h;unfold Past.d Past.cells;unfold A8.d A8.cells at *;generalize m.right = rr at *;generalize m.asks = aa at *;obtain ⟨k,c,s,d,ky,sl,dn,pl,pr,l,⟨ik,iv,ir,ig⟩,co⟩:=m;refine zF A6 Tryz.func78 ?_;simp only at *;cases rr <;> cases aa
 all_goals
  refine wd [0,1,2,3,10] [] [] A0 (EP @c1 @c2 @c3) ?_;refine ⟨_,_,rfl,rfl,?_⟩;simp [Ab,A9,A4,A3,Wi.AA,AF]
variable {k : Nat}
theorem EC {α : Type} {p : α → Bool} {l : List α} {x : α} (hx : l[k]? = some x) : (l.take (k + 1)).any p = ((l.take k).any p || p x):=by
 rw [As hx,List.any_append];simp
theorem Sj {α : Type} {p : α → Bool} {l : List α} {x : α} (hx : l[k]? = some x) (h : p x = true) : l.any p = true:=List.any_eq_true.2 ⟨x,List.mem_of_getElem? hx,h⟩
def My (l : List Past) (s c : Int) : A8:=match l.find? (I9 s c) with
 | some p => p.told
 | none => Wi.AA
theorem WQ {l : List Past} {s c : Int} {x : Past} (hx : l[k]? = some x) (h : I9 s c x = true) (hn : (l.take k).any (I9 s c) = false) : My l s c = x.told:=by
 have e : l = l.take k ++ x :: l.drop (k + 1):=by
  have hk:=(List.getElem?_eq_some_iff.1 hx).1;have hv:=(List.getElem?_eq_some_iff.1 hx).2;rw [← hv,← List.drop_eq_getElem_cons hk,List.take_append_drop]
 unfold My;rw [e,List.find?_append]
 have : (l.take k).find? (I9 s c) = none:=by
  rw [List.find?_eq_none];intro y hy;rw [List.any_eq_false] at hn;simpa using hn y hy
 rw [this];simp [List.find?_cons,h]
theorem Uj (l : List Past) (s c : Int) (hl : ∀ x ∈ l,B5 x.told) (hn : l.length ≤ 9223372036854775807) : Go.Gar.Fn Tryz.prog 79 [AJ l,.i .i64 s,.i .i64 c] (.tup [(My l s c).d,.b (l.any (I9 s c))]):=by
 refine zF A6 Tryz.func79 ?_;refine wk Hu [] A0 A0 ?_;refine Bg (fun k => k ≤ l.length ∧ (l.take k).any (I9 s c) = false) (fun k : Nat => [(8,.d (.i .i64 k))]) (fun k => l.length - k) 0 ⟨Nat.zero_le _,rfl⟩ (fun _ => rfl) ?_ ?_
 ·exact A1.ck rfl
 rintro k ⟨hk,hpre⟩
 by_cases hkl : k < l.length
 ·obtain ⟨x,hx⟩:=Ah hkl;have c1:=ME x.told (hl x (List.mem_of_getElem? hx));have hA:=EC (p:=I9 s c) hx;rw [hpre,Bool.false_or] at hA;unfold A8.d A8.cells at c1
  cases hi : I9 s c x with
  | true =>
   have h1 : x.src = s ∧ x.call = c:=by simpa [I9] using hi
   have f1 : (x.src == s) = true:=by simp [h1.1]
   have f2 : (x.call == c) = true:=by simp [h1.2]
   have hF:=WQ hx hi hpre;have hT:=Sj hx hi;have ix1:=hx;refine wk Hu [] (BM f1 f2) (AG @c1) ?_;clear ix1;with_reducible repeat' first|constructor|intro hc;try simp only[AB] at hc
   all_goals (clear c1;refine ⟨_,_,rfl,rfl,?_⟩;rw [hT,hF];simp [Eb,BS,C4,By,Ja,A8.d,A8.cells])
  | false =>
   have h1 : ¬ (x.src = s ∧ x.call = c):=by simpa [I9] using hi
   have ix1:=hx;refine wk Hu [] A0 (AG @c1) ?_;clear ix1;with_reducible repeat' first|constructor|intro hc;try simp only[AB] at hc
   all_goals first
    | (exfalso;exact h1 ⟨by assumption,by assumption⟩)
    | (refine ⟨k + 1,⟨hkl,by rw [hA,hi]⟩,by omega,Nat.le_refl _,?_⟩
       exact A1.ck rfl)
 ·have e : k = l.length:=by omega
  subst e;rw [List.take_length] at hpre
  have hF : My l s c = Wi.AA:=by
   unfold My
   have : l.find? (I9 s c) = none:=by
    rw [List.find?_eq_none];intro y hy;rw [List.any_eq_false] at hpre;simpa using hpre y hy
   rw [this]
  refine wk Hu [] A0 A0 ?_;with_reducible repeat' first|constructor|intro hc;try simp only[AB] at hc
  all_goals (refine ⟨_,_,rfl,rfl,?_⟩;rw [hpre,hF];simp [Eb,BS,C4,By,Ja,Jb,A4,A9,A3,A8.d,A8.cells,Wi.AA,AF])
end Nd
end Go.Proofs.YtkljbfejbakooaaGreatDoor
