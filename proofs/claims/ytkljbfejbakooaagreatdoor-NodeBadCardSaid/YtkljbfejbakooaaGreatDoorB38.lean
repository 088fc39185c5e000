/- Part 38 of a proof, put together by a program. Conditions: none beyond those that a theorem states. -/
import Derived.Test.YtkljbfejbakooaaGreatDoorB36
set_option linter.unusedSimpArgs false
set_option linter.unusedVariables false
set_option linter.unnecessarySimpa false
set_option maxHeartbeats 40000000
namespace Go.Proofs.YtkljbfejbakooaaGreatDoor
namespace Nd
open Go.Gar
open Wi (A8 B2 Ai AA BN mC)
set_option maxRecDepth 4000
abbrev Tf : List Nat:=[0,1,2,3,4,5,6,7,8,9,10,11,12,33]
theorem hx (n : Node) (c : Call) (m : A8) (h : SK n) (hw : RN c.why [1,2,3,5,6,7] = true) : Go.Gar.Fn Tryz.prog 49 [n.d,c.d,m.d] (.tup [n.d,dw []]):=by
 obtain ⟨cid,msg,why,ref,sent,tries⟩:=c;dsimp only at hw;have cO:=OM n h;have cR:=MC n h;have cT:=UG n m;refine zF A6 Tryz.func49 ?_;unfold Node.d Node.cells View.cells Calls.cells Job.cells Call.d Call.cells Wi.A8.d Wi.A8.cells at *;unfold hC eH Wa WZ at *;have d1:=Ds.mk [4,2] (cT);have lk1:=hw;have sc : No 3:=trivial;refine wd Tf [5] [(3,2),(4,2)] A0 (AG @cO) ?_;clear sc lk1 d1;have sc : No 3:=trivial;refine wd Tf [] [(2,4),(3,4)] A0 A0 ?_;clear sc;exact zE
abbrev Oo : List Nat:=[0,1,2,3,4,5,12,17,30]
theorem Cw {α : Type} [BEq α] [LawfulBEq α] (a : α) : (a == a) = true:=beq_self_eq_true a
theorem Xk (a : Call) (ha : B5 a.msg) : Go.Gar.Fn Tryz.prog 218 [a.d,a.d] (.b true):=by
 have c1:=Wi.QK a.msg a.msg (lm ha);rw [decide_eq_true rfl] at c1;obtain ⟨i,m,w,r,s,t⟩:=a;have f1:=Cw i;have f2:=Cw w;have f3:=Cw r;have f4:=Cw s;have f5:=Cw t;unfold Wi.A8.d Wi.A8.cells at c1;refine zF A6 Tryz.func218 ?_;unfold Call.d Call.cells;refine wk [0,1,2,3,4] [] (L4 f1 f2 f3 f4 f5) (AG @c1) ?_;exact zE
theorem Ut (a : List Call) (ha : ∀ x ∈ a,B5 x.msg) (hn : a.length ≤ 1048576) : Go.Gar.Fn Tryz.prog 141 [AK a,AK a] (.b true):=by
 have f1:=Cw (a.length : Int);refine zF A6 Tryz.func141 ?_;refine wd [0,1,4,5,10,14,26] [] [] (AG f1) A0 ?_;refine Bg (fun k => k ≤ a.length) (fun k : Nat => [(5,.d (.i .i64 k))]) (fun k => a.length - k) 0 (Nat.zero_le _) (fun _ => rfl) ?_ ?_
 ·exact A1.ck rfl
 rintro k hk
 by_cases hkl : k < a.length
 ·obtain ⟨x,hx⟩:=Ah hkl;have c1:=Xk x (ha x (List.mem_of_getElem? hx));unfold Call.d Call.cells at c1;have ix1:=hx;refine wd [0,1,4,5,10,14,26] [] [] A0 (AG @c1) ?_;clear ix1;with_reducible repeat' first|constructor|intro hc;try simp only[AB] at hc
  refine ⟨k + 1,hkl,by omega,Nat.le_refl _,?_⟩;exact A1.ck rfl
 ·have e : k = a.length:=by omega
  subst e;refine wd [0,1,4,5,10,14,26] [] [] A0 A0 ?_;with_reducible repeat' first|constructor|intro hc;try simp only[AB] at hc
  exact zE
theorem Rm (c : Calls) (ha : ∀ x ∈ c.op,B5 x.msg) (hn : c.op.length ≤ 1048576) : Go.Gar.Fn Tryz.prog 56 [c.d,c.d] (.b true):=by
 have c1:=Ut c.op ha hn;obtain ⟨i,m,o⟩:=c;have f1:=Cw i;have f2:=Cw m;refine zF A6 Tryz.func56 ?_;unfold Calls.d Calls.cells;refine wk [0,1,2,3,4] [] (BM f1 f2) (AG @c1) ?_;exact zE
theorem Xm (a : List Past) (ha : ∀ x ∈ a,B5 x.told) (hn : a.length ≤ 1048576) : Go.Gar.Fn Tryz.prog 57 [AJ a,AJ a] (.b true):=by
 have f1:=Cw (a.length : Int);refine zF A6 Tryz.func57 ?_;refine wd [0,1,4,5,10,14,54] [] [] (AG f1) A0 ?_;refine Bg (fun k => k ≤ a.length) (fun k : Nat => [(5,.d (.i .i64 k))]) (fun k => a.length - k) 0 (Nat.zero_le _) (fun _ => rfl) ?_ ?_
 ·exact A1.ck rfl
 rintro k hk
 by_cases hkl : k < a.length
 ·obtain ⟨x,hx⟩:=Ah hkl;have c1:=Wi.QK x.told x.told (lm (ha x (List.mem_of_getElem? hx)));rw [decide_eq_true rfl] at c1;unfold Wi.A8.d Wi.A8.cells at c1;have f2:=Cw x.src;have f3:=Cw x.call;have ix1:=hx;refine wd [0,1,4,5,10,14,54] [] [] (BM f2 f3) (AG @c1) ?_;clear ix1;with_reducible repeat' first|constructor|intro hc;try simp only[AB] at hc
  refine ⟨k + 1,hkl,by omega,Nat.le_refl _,?_⟩;exact A1.ck rfl
 ·have e : k = a.length:=by omega
  subst e;refine wd [0,1,4,5,10,14,54] [] [] A0 A0 ?_;with_reducible repeat' first|constructor|intro hc;try simp only[AB] at hc
  exact zE
theorem Of (j : Job) (hn : j.left.length ≤ 1048576) : Go.Gar.Fn Tryz.prog 58 [j.d,j.d] (.b true):=by
 obtain ⟨what,phase,look,item,owner,left,code⟩:=j;dsimp only at hn;have f1:=Cw (left.length : Int);have f2:=Cw what;have f3:=Cw phase;have f4:=Cw owner;have f5:=Cw code;have f6 : Gf look.cells look.cells = true:=by unfold Look.cells;simp [Gf,eq1]
 have f7 : Gf item.cells item.cells = true:=by unfold Item.cells;simp [Gf,eq1]
 unfold Look.cells at f6;unfold Item.cells at f7;refine zF A6 Tryz.func58 ?_;unfold Job.d Job.cells;refine wd Oo [] [] (AG f1) A0 ?_;refine Bg (fun k => k ≤ left.length) (fun k : Nat => [(5,.d (.i .i64 k))]) (fun k => left.length - k) 0 (Nat.zero_le _) (fun _ => rfl) ?_ ?_
 ·exact A1.ck rfl
 rintro k hk
 by_cases hkl : k < left.length
 ·obtain ⟨x,hx⟩:=Ah hkl;have g1:=Cw x;have ix1:=hx;refine wd Oo [] [] (AG g1) A0 ?_;clear ix1;with_reducible repeat' first|constructor|intro hc;try simp only[AB] at hc
  refine ⟨k + 1,hkl,by omega,Nat.le_refl _,?_⟩;exact A1.ck rfl
 ·have e : k = left.length:=by omega
  subst e;refine wd Oo [] [] (zq6 f2 f3 f4 f5 f6 f7) A0 ?_;with_reducible repeat' first|constructor|intro hc;try simp only[AB] at hc
  exact zE
abbrev Oq : List Nat:=[0,1,2,3,4,5,36,41,54]
theorem Rn (v : View) : TY v v = true:=by unfold TY;simp
theorem Xl (n : Node) (h : SK n) : Go.Gar.Fn Tryz.prog 16 [n.d,n.d] (.b true):=by
 have cV:=Un n.view n.view (by have:=h.vb;omega) (by have:=h.vl;omega);rw [Rn] at cV;have cC:=Rm n.calls h.cl h.cn;have cS:=Xm n.seen h.sl h.sn;have c5:=Of n.finger h.fl;have c6:=Of n.mirror h.ml;have c7:=Of n.client h.tl;have hkn:=h.kn;have f1:=Cw (n.keep.length : Int);have f2:=Cw n.clock;have f3 : Gf [.i .u8 n.phase,.i .i64 n.of_] [.i .u8 n.phase,.i .i64 n.of_] = true:=by simp [Gf,eq1]
 have f4:=Cw n.next;have f5:=Cw n.last;have f6:=Cw n.bad;clear h;refine zF A6 Tryz.func16 ?_;unfold View.d Calls.d Job.d at *;unfold Node.d Node.cells View.cells Calls.cells Job.cells at *;simp only [List.cons_append,List.nil_append] at *;refine wd Oq [] [] (AG f1) (EP @cV @cC @cS) ?_;refine Bg (fun k => k ≤ n.keep.length) (fun k : Nat => [(5,.d (.i .i64 k))]) (fun k => n.keep.length - k) 0 (Nat.zero_le _) (fun _ => rfl) ?_ ?_
 ·exact A1.ck rfl
 rintro k hk
 by_cases hkl : k < n.keep.length
 ·obtain ⟨x,hx⟩:=Ah hkl;have g1 : Gf x.cells x.cells = true:=by unfold Item.cells;simp [Gf,eq1]
  unfold Item.cells at g1;have ix1:=hx;refine wd Oq [] [] (AG g1) A0 ?_;clear ix1;with_reducible repeat' first|constructor|intro hc;try simp only[AB] at hc
  refine ⟨k + 1,hkl,by omega,Nat.le_refl _,?_⟩;exact A1.ck rfl
 ·have e : k = n.keep.length:=by omega
  subst e;refine wd Oq [] [] (L4 f2 f3 f4 f5 f6) (EP @c5 @c6 @c7) ?_;with_reducible repeat' first|constructor|intro hc;try simp only[AB] at hc
  exact zE
end Nd
end Go.Proofs.YtkljbfejbakooaaGreatDoor
namespace Go.Proofs.YtkljbfejbakooaaGreatDoor
namespace Nd
open Go.Gar
open Wi (A8 B2)
set_option maxRecDepth 4000
abbrev G9 : List Nat:=[0,1,2,3,4,28,33,109]
theorem NK (c : Calls) (hl : ∀ x ∈ c.op,B5 x.msg) (hn : c.op.length ≤ 9223372036854775807) : Go.Gar.Fn Tryz.prog 32 [c.d] (.b (BB c)):=by
 obtain ⟨id,many,op⟩:=c;replace hl : ∀ x ∈ op,B5 x.msg:=hl;replace hn : op.length ≤ 9223372036854775807:=hn;refine zF A6 Tryz.func32 ?_;unfold Calls.d Calls.cells
 cases hh : KJ ⟨id,many,op⟩ with
 | false =>
  have hT : BB ⟨id,many,op⟩ = false:=by unfold BB;rw [hh];rfl
  refine wd G9 [] [] A0 A0 ?_;with_reducible repeat' first|constructor|intro hc;try simp only[AB] at hc
  all_goals first
   | (refine ⟨_,_,rfl,rfl,?_⟩;simp only [By];rw [hT];done)
   | (exfalso;simp [KJ,B2] at hh;omega)
 | true =>
 have hT : BB ⟨id,many,op⟩ = EQ op.length (Fh ⟨id,many,op⟩):=by unfold BB;rw [hh];rfl
 simp only [KJ,B2,Bool.and_eq_true,decide_eq_true_eq] at hh;obtain ⟨⟨h1,h2⟩,h3,h4,h5⟩:=hh;have f1 : decide (id < 0) = false:=decide_eq_false (by omega);have f2 : decide (id ≥ 65536) = false:=decide_eq_false (by omega);have f3 : decide (many < 0) = false:=decide_eq_false (by omega);have f4 : decide (many > 1048576) = false:=decide_eq_false (by omega);have f5 : decide ((op.length : Int) > 16) = false:=decide_eq_false (by omega);refine wd G9 [] [] (L4 f1 f2 f3 f4 f5) A0 ?_;refine Bg (fun k => k ≤ op.length ∧ EQ k (Fh ⟨id,many,op⟩) = true) (fun k : Nat => [(3,.d (.i .i64 k))]) (fun k => op.length - k) 0 ⟨Nat.zero_le _,rfl⟩ (fun _ => rfl) ?_ ?_
 ·exact A1.ck rfl
 rintro k ⟨hk,hpre⟩
 by_cases hkl : k < op.length
 ·obtain ⟨x,hx⟩:=Ah hkl;have gx : op.getD k Gl = x:=getD_at hx;have c1:=Wi.JF x.msg;have c2:=Wi.Es x.msg (lm (hl x (List.mem_of_getElem? hx)));have c3:=Xj x.sent;have hK : Fh ⟨id,many,op⟩ k = ((x.msg.right && (x.msg.asks && (decide (x.msg.src = id) && (decide (x.id = x.msg.call) && (decide (x.id ≤ id * 1048576 + many) && (decide (1 ≤ x.tries) && (decide (x.tries ≤ 3) && HQ x.sent))))))) && decide (k = 0 ∨ (op.getD (k - 1) Gl).id < x.id)):=by unfold Fh DX;rw [gx]
  unfold A8.d A8.cells at c1 c2;generalize x.msg.right = rr at *;generalize x.msg.asks = aa at *;generalize HQ x.sent = tt at *;generalize Fh ⟨id,many,op⟩ = K at *
  by_cases h0 : k = 0
  ·have f6 : decide ((k : Int) > 0) = false:=decide_eq_false (by omega);have ix1:=hx;refine wd G9 [] [] (AG f6) (EP @c1 @c2 @c3) ?_;clear ix1;with_reducible repeat' first|constructor|intro hc;try simp only[AB] at hc
   all_goals clear c1 c2 c3
   all_goals first
    | (refine ⟨k + 1,⟨hkl,D9 hpre (by rw [hK];grind)⟩,by omega,Nat.le_refl _,?_⟩
       exact A1.ck rfl)
    | (refine ⟨_,_,rfl,rfl,?_⟩;simp only [By];rw [hT,Ey hkl (by rw [hK];grind)])
  ·have f6 : decide ((k : Int) > 0) = true:=decide_eq_true (by omega);have e1 : (k : Int) - 1 = ((k - 1 : Nat) : Int):=by omega
   obtain ⟨y,hy⟩:=Ah (xs:=op) (k:=k - 1) (by omega);have gy : op.getD (k - 1) Gl = y:=getD_at hy;rw [gy] at hK;have ix1:=hx;have ix2:=hy;refine wd G9 [] [] (BM f6 e1) (EP @c1 @c2 @c3) ?_;clear ix2 ix1;with_reducible repeat' first|constructor|intro hc;try simp only[AB] at hc
   all_goals clear c1 c2 c3
   all_goals first
    | (refine ⟨k + 1,⟨hkl,D9 hpre (by rw [hK];grind)⟩,by omega,Nat.le_refl _,?_⟩
       exact A1.ck rfl)
    | (refine ⟨_,_,rfl,rfl,?_⟩;simp only [By];rw [hT,Ey hkl (by rw [hK];grind)])
 ·have e : k = op.length:=by omega
  subst e;rw [hpre] at hT;refine wd G9 [] [] A0 A0 ?_;with_reducible repeat' first|constructor|intro hc;try simp only[AB] at hc
  refine ⟨_,_,rfl,rfl,?_⟩;simp [Ab,A9,A4,A3,hT]
end Nd
end Go.Proofs.YtkljbfejbakooaaGreatDoor
namespace Go.Proofs.YtkljbfejbakooaaGreatDoor
namespace Nd
open Go.Gar
open Wi (A8 B2 Ai)
set_option maxRecDepth 4000
theorem XV (c : Calls) (hl : ∀ x ∈ c.op,B5 x.msg) (hn : c.op.length ≤ 1048576) : Go.Gar.Fn Tryz.prog 61 [c.d] c.d:=by
 obtain ⟨id,many,l⟩:=c;replace hl : ∀ x ∈ l,B5 x.msg:=hl;replace hn : l.length ≤ 1048576:=hn;refine zF A6 Tryz.func61 ?_;unfold Calls.d Calls.cells;refine wk [0,1,2,3,4,5,10] [] A0 A0 ?_;refine Bp (A1.Sm 3 (.sl 20 []) rfl rfl rfl (by simp [A3])) (by simp) ?_;refine Ik (fun k => k ≤ l.length) (fun k : Nat => [(3,.sl 2 (l.take k).length 20),(4,.d (.i .i64 k))]) (fun k => [(2,.a (AK (l.take k)))]) (fun k => l.length - k) 0 (Nat.zero_le _) (fun _ => rfl) (fun _ => rfl) ?_ ?_
 ·exact A1.ck rfl
 intro k hk;have htl : (l.take k).length ≤ k:=List.length_take_le _ _
 by_cases hkl : k < l.length
 ·obtain ⟨x,hx⟩:=Ah hkl;have c1:=ME x.msg (hl x (List.mem_of_getElem? hx));have hn:=As hx;unfold A8.d A8.cells at c1;have ix1:=hx;refine wk [0,1,2,3,4,5,10] [] A0 (AG @c1) ?_;clear ix1;with_reducible repeat' first|constructor|intro hc;try simp only[AB] at hc
  refine ⟨k + 1,hkl,by omega,Nat.le_refl _,?_⟩;exact (have nC:=And.intro hn (And.intro @AK.eq_1 @Call.cells.eq_1);A1.cn rfl)
 ·have e : k = l.length:=by omega
  subst e;rw [List.take_length];refine wk [0,1,2,3,4,5,10] [] A0 A0 ?_;with_reducible repeat' first|constructor|intro hc;try simp only[AB] at hc
  exact zE
abbrev Eu : List Nat:=[0,2,3,4,5,7,11,44,56]
theorem Xg (l : List Past) (hl : ∀ x ∈ l,B5 x.told) (hn : l.length ≤ 9223372036854775807) : Go.Gar.Fn Tryz.prog 33 [AJ l] (.b (EW l)):=by
 refine zF A6 Tryz.func33 ?_;have hT : EW l = (decide (l.length ≤ 40) && EQ l.length (D2 l)):=rfl;refine wd Eu [] [] A0 A0 ?_;refine Bg (fun k => k ≤ l.length ∧ EQ k (D2 l) = true) (fun k : Nat => [(3,.d (.i .i64 k))]) (fun k => l.length - k) 0 ⟨Nat.zero_le _,rfl⟩ (fun _ => rfl) ?_ ?_
 ·exact A1.ck rfl
 rintro k ⟨hk,hpre⟩
 by_cases hkl : k < l.length
 ·obtain ⟨x,hx⟩:=Ah hkl;have gx : l.getD k NY = x:=getD_at hx;have hlx:=hl x (List.mem_of_getElem? hx);have hK : D2 l k = (IU x && !((l.take k).any (I9 x.src x.call))):=by unfold D2;rw [gx]
  have c1:=cK x.told hlx;have hO : IU x = (x.told.right && (!x.told.asks && (decide (x.told.dst = x.src) && decide (x.told.call = x.call)))):=rfl;have c2:=Uj (l.take k) x.told.dst x.told.call (fun y hy => hl y (List.mem_of_mem_take hy)) (by rw [List.length_take];omega);unfold Past.d Past.cells at c1;unfold A8.d A8.cells at c1 c2;have e1 : List.take k (List.map Past.cells l) = List.map Past.cells (List.take k l):=(List.map_take ..).symm;generalize My (l.take k) x.told.dst x.told.call = fm at *
  cases hb : x.told.right && !x.told.asks with
  | false =>
   rw [hb] at c1;simp only [Bool.false_eq_true,if_false] at c1;have hN : D2 l k = false:=by rw [hK,hO];revert hb;cases x.told.right <;> cases x.told.asks <;> simp
   have ix1:=hx;refine wd Eu [] [] A0 (AG @c1) ?_;clear ix1;with_reducible repeat' first|constructor|intro hc;try simp only[AB] at hc
   all_goals (clear c1 c2;refine ⟨_,_,rfl,rfl,?_⟩;simp only [By];rw [hT,Ey hkl hN,Bool.and_false])
  | true =>
   rw [hb] at c1;simp only [if_true] at c1;rw [Bool.and_eq_true] at hb;rw [hb.1,hb.2,Bool.true_and,Bool.true_and] at hO
   by_cases h1 : x.told.dst = x.src
   ·by_cases h2 : x.told.call = x.call
    ·have f1 : (x.told.dst != x.src) = false:=C7 h1;have f2 : (x.told.call != x.call) = false:=C7 h2;have hN : D2 l k = !((l.take k).any (I9 x.told.dst x.told.call)):=by rw [hK,hO,h1,h2];simp
     generalize (l.take k).any (I9 x.told.dst x.told.call) = tw at *;have ix1:=hx;refine wd Eu [] [(3,11),(4,11),(5,11),(6,11)] (EP f1 f2 e1) (BM @c1 @c2) ?_;clear ix1;with_reducible repeat' first|constructor|intro hc;try simp only[AB] at hc
     all_goals clear c1 c2
     all_goals first
      | (refine ⟨k + 1,⟨hkl,D9 hpre (by rw [hN];grind)⟩,by omega,Nat.le_refl _,?_⟩
         exact A1.ck rfl)
      | (refine ⟨_,_,rfl,rfl,?_⟩;simp only [By];rw [hT,Ey hkl (by rw [hN];grind),Bool.and_false])
    ·have f1 : (x.told.dst != x.src) = false:=C7 h1;have f2 : (x.told.call != x.call) = true:=C2 h2;have hN : D2 l k = false:=by rw [hK,hO];simp [h2]
     have ix1:=hx;refine wd Eu [] [] (BM f1 f2) (AG @c1) ?_;clear ix1;with_reducible repeat' first|constructor|intro hc;try simp only[AB] at hc
     all_goals (clear c1 c2;refine ⟨_,_,rfl,rfl,?_⟩;simp only [By];rw [hT,Ey hkl hN,Bool.and_false])
   ·have f1 : (x.told.dst != x.src) = true:=C2 h1;have hN : D2 l k = false:=by rw [hK,hO];simp [h1]
    have ix1:=hx;refine wd Eu [] [] (AG f1) (AG @c1) ?_;clear ix1;with_reducible repeat' first|constructor|intro hc;try simp only[AB] at hc
    all_goals (clear c1 c2;refine ⟨_,_,rfl,rfl,?_⟩;simp only [By];rw [hT,Ey hkl hN,Bool.and_false])
 ·have e : k = l.length:=by omega
  subst e;rw [hpre] at hT;refine wd Eu [] [] A0 A0 ?_;with_reducible repeat' first|constructor|intro hc;try simp only[AB] at hc
  all_goals (refine ⟨_,_,rfl,rfl,?_⟩;simp only [By];rw [hT];simp;try omega)
end Nd
end Go.Proofs.YtkljbfejbakooaaGreatDoor
