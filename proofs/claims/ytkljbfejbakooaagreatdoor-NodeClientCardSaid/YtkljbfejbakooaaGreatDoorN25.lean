/- Part 25 of a proof, put together by a program. Conditions: none beyond those that a theorem states. -/
import Derived.Test.YtkljbfejbakooaaGreatDoorN24
set_option linter.unusedSimpArgs false
set_option linter.unusedVariables false
set_option linter.unnecessarySimpa false
set_option maxHeartbeats 40000000
namespace Go.Proofs.YtkljbfejbakooaaGreatDoor
namespace Nd
open Go.Gar
open Wi (A8 B7 AU AC B2 mC)
set_option maxRecDepth 4000
abbrev Qt : List Nat:=[0,1,2,3,10]
def Look.cells (l : Look) : List D:=[.i .i64 l.key,.i .i64 l.at_,.i .i64 l.hops,.b l.slow,.b l.found,.i .i64 l.code]
def Look.d (l : Look) : D:=.agg l.cells
def jV (l : Look) : List AV:=[.d (.i .i64 l.key),.d (.i .i64 l.at_),.d (.i .i64 l.hops),.d (.b l.slow),.d (.b l.found),.d (.i .i64 l.code)]
theorem VZ (n : Int) : Go.Gar.Fn Tryz.prog 358 [.i .i64 n] (.b (Am n)):=by
 refine zF A6 Tryz.func358 ?_;refine wk [0,2] [] A0 A0 ?_;with_reducible repeat' first|constructor|intro hc;try simp only[AD] at hc
 all_goals (refine ⟨_,_,rfl,rfl,?_⟩;simp only [Bi];refine congrArg D.b ?_;unfold Am;grind)
theorem aI (l : Look) : Go.Gar.Fn Tryz.prog 331 [l.d] (.b (Nb l)):=by
 have c1:=VZ l.key;have c2:=VZ l.at_;have hT : Nb l = ((Am l.key && Am l.at_ && decide (0 ≤ l.hops) && decide (l.hops ≤ 41)) && (if l.hops > 40 then decide (l.code = 211) && !l.found else decide (l.code = 0))):=rfl;refine zF A6 Tryz.func331 ?_;unfold Look.d Look.cells;generalize Am l.key = p1 at *;generalize Am l.at_ = p2 at *;generalize Nb l = R at *;refine wk [0,1,2,22,25] [] A0 (Aj @c1 @c2) ?_;with_reducible repeat' first|constructor|intro hc;try simp only[AD] at hc
 all_goals (clear c1 c2;refine ⟨_,_,rfl,rfl,?_⟩;simp only [Bi];refine congrArg D.b ?_;rw [hT];clear hT;grind)
theorem aH (l : Look) : Go.Gar.Fn Tryz.prog 332 [l.d] (.b (lookO l)):=by
 refine zF A6 Tryz.func332 ?_;unfold Look.d Look.cells lookO;refine wk [0,1,2] [] A0 A0 ?_;with_reducible repeat' first|constructor|intro hc;try simp only[AD] at hc
 all_goals (refine ⟨_,_,rfl,rfl,?_⟩;simp only [Bi];refine congrArg D.b ?_;grind)
theorem iF (l : Look) : Go.Gar.Fn Tryz.prog 294 [l.d] (.tup [(T8 l).1.d,.b (T8 l).2]):=by
 have c1:=aH l;have c2:=aI l;refine zF A6 Tryz.func294 ?_;unfold Look.d Look.cells at *
 cases h : lookO l with
 | true =>
  have hT : T8 l = (AC,false):=by unfold T8;rw [h];rfl
  rw [h] at c1;rw [hT];refine wk Qt [] A0 (AF @c1) ?_;refine ⟨_,_,rfl,rfl,?_⟩;simp [AR,AB,A7,A4,Wi.A8.d,Wi.A8.cells,AC,AE]
 | false =>
 rw [h] at c1
 cases h2 : Nb l with
 | false =>
  have hT : T8 l = (AC,false):=by unfold T8;rw [h,h2];rfl
  rw [h2] at c2;rw [hT];refine wk Qt [] A0 (Aj @c1 @c2) ?_;refine ⟨_,_,rfl,rfl,?_⟩;simp [AR,AB,A7,A4,Wi.A8.d,Wi.A8.cells,AC,AE]
 | true =>
  have hT : T8 l = (TJ l,true):=by unfold T8;rw [h,h2];rfl
  rw [h2] at c2;rw [hT];refine wk Qt [] A0 (Aj @c1 @c2) ?_;refine ⟨_,_,rfl,rfl,?_⟩;simp [AR,AB,A7,A4,Wi.A8.d,Wi.A8.cells,TJ,AE]
theorem dk (id : Int) (base list : List Int) (pred : Int) (f : Nat → Int) (l : Look) : Ao Tryz.prog 293 [.d (View.d ⟨id,base,list,pred,f⟩),.d l.d] [] (.fn (.func 339) [] [.ptr 0 0 20,.ptr 1 0 6]) [.c (vC id base list pred f),.c (jV l)]:=by
 refine zD A6 Tryz.func293 ?_;unfold vC jV Look.d Look.cells;refine wk [0,1,2,3,4] [] A0 A0 ?_;exact ⟨_,(A3.ck rfl),Nat.zero_le _,_,_,rfl,rfl,rfl,rfl⟩
theorem aK (id : Int) (base list : List Int) (pred : Int) (f : Nat → Int) (l : Look) (hb : base.length ≤ 1000) (hl : list.length ≤ 1000) : Ao Tryz.prog 339 [.ptr 0 0 20,.ptr 1 0 6] [.c (vC id base list pred f),.c (jV l)] (.tup [.d (.i .i64 (GH ⟨id,base,list,pred,f⟩ l.key l.slow).1),.d (.b (GH ⟨id,base,list,pred,f⟩ l.key l.slow).2)]) [.c (vC id base list pred f),.c (jV l)]:=by
 have c1:=cA ⟨id,base,list,pred,f⟩ l.key l.slow hb hl;refine zD A6 Tryz.func339 ?_;generalize GH ⟨id,base,list,pred,f⟩ l.key l.slow = q at *;obtain ⟨q1,q2⟩:=q;unfold vC jV;refine wk [0,1,2,3] [] A0 (AF @c1) ?_;exact ⟨⟨[(2,.d (.i .i64 q1)),(3,.d (.b q2))],_,_⟩,(A3.ck rfl),Nat.le_refl _,_,_,rfl,rfl,rfl,rfl⟩
theorem iG (v : View) (key : Int) (hb : v.base.length ≤ 1000) (hl : v.list.length ≤ 1000) : Go.Gar.Fn Tryz.prog 214 [v.d,.i .i64 key] (jU v key).d:=by
 have c1:=HA v hb hl;have c2:=E4 key;have hT : jU v key = if Aw v then ⟨Bj key,(GH v (Bj key) false).1,0,false,(GH v (Bj key) false).2,0⟩ else PR:=rfl
 generalize Bj key = k at *;obtain ⟨id,base,list,pred,f⟩:=v;have c3:=dk id base list pred f ⟨k,0,0,false,false,0⟩;have c4:=aK id base list pred f ⟨k,0,0,false,false,0⟩ hb hl;refine zF A6 Tryz.func214 ?_;rw [hT];clear hT;dsimp only at c4;generalize GH ⟨id,base,list,pred,f⟩ k false = q at *;obtain ⟨q1,q2⟩:=q
 cases h : Aw ⟨id,base,list,pred,f⟩ with
 | false =>
  rw [h] at c1;refine wk [0,1,2,4,5,8] [] A0 (AF @c1) ?_;refine ⟨_,_,rfl,rfl,?_⟩;simp [AR,AB,A7,A4,Look.d,Look.cells]
 | true =>
  rw [h] at c1;unfold Look.d Look.cells at c3;unfold jV at c3 c4;have d1:=Ds.mk [] (c3);have d2:=Ds.mk [3,4] (c4);refine wk [0,1,2,4,5,8] [] A0 (Aj @c1 @c2) ?_;clear d2 d1;refine ⟨_,_,rfl,rfl,?_⟩;simp [AR,AB,A7,A4,Look.d,Look.cells]
abbrev Mk : List Nat:=[0,2,3,5,7,8,9]
abbrev Qy : List Nat:=[0,1,3,4,5,6,7,8,16]
abbrev Hk : List Nat:=[0,1,2,3,4,5,6,17,18,20]
theorem Ma (m : A8) (h : C3 m) : Go.Gar.Fn Tryz.prog 122 [m.d] m.d:=by
 unfold C3 at h;refine zF A6 Tryz.func122 ?_;unfold Wi.A8.d Wi.A8.cells;refine wk [0,1,2] [] A0 A0 ?_;exact zE
theorem UG (x : Call) (h : C3 x.msg) : Go.Gar.Fn Tryz.prog 252 [x.d] x.d:=by
 have c1:=Ma x.msg h;refine zF A6 Tryz.func252 ?_;unfold Call.d Call.cells;unfold Wi.A8.d Wi.A8.cells at c1;refine wk [0,1,2] [] A0 (AF @c1) ?_;exact zE
theorem LH (l : List Int) (hl : l.length ≤ 1048576) : Go.Gar.Fn Tryz.prog 151 [.is l] (.is l):=by
 refine zF A6 Tryz.func151 ?_;have nS:=True.intro
 repeat' (first | ((with_reducible refine sg ?_);first | with_reducible rfl | ((with_reducible refine Db ?_);first | kernel_rfl | rfl | (simp [Bw,CV,nS];done)) | with_reducible refine Cr ?_ ?_ | with_reducible exact Nat.beq_refl _ | with_reducible exact AT _ | ((with_reducible refine decide_eq_true ?_);first | omega | (simp only [Bm,nS];omega)) | decide | (simp [Bm,slc,AX,D.one,B1,AV.one,nS];done) | (simp [Bm,nS];omega)) | ((with_reducible refine ZZ ?_);first | (refine E5 rfl ?_;refine YZ A6 rfl rfl rfl rfl ?_) | refine kF A6 rfl rfl rfl rfl rfl rfl (fun hnil => ?_) ?_ | refine kG A6 rfl rfl rfl rfl rfl rfl (fun hnil => ?_) ?_ | refine Xq A6 rfl rfl rfl rfl ?_ ?_ | refine Xn [0,2,4] rfl ?_ | refine Xw A6 rfl rfl rfl rfl ?_ ?_) | refine Fi ?_ | refine Df ?_ | refine Dr ?_ | refine Fh ?_ | refine Ci ?_ | refine Dq ?_ | refine C1 rfl ?_ | refine C0 rfl ?_ | (refine Fg rfl (fun hc => ?_) (fun hc => ?_) <;> (try simp only [AD] at hc) <;> (try (exfalso;omega))))
 ·have e:=is_nil hnil;subst e;exact zE
 ·exact zE
theorem QF (j : Job) (h : j.left.length ≤ 1048576) : Go.Gar.Fn Tryz.prog 86 [j.d] j.d:=by
 have c1:=LH j.left h;refine zF A6 Tryz.func86 ?_;unfold Job.d Job.cells
 by_cases h0 : (j.left.length : Int) = 0
 ·have f1:=AS h0;have e : j.left = []:=List.length_eq_zero_iff.1 (by omega);refine wk [0,1,2,6] [] (AF f1) A0 ?_;refine ⟨_,_,rfl,rfl,?_⟩;simp [AR,AB,A7,A4,e]
 ·have f1:=eq_false' h0;refine wk [0,1,2,6] [] (AF f1) (AF @c1) ?_;exact zE
abbrev Vn (x : Past) : List AV:=[.d (.i .i64 x.src),.d (.i .i64 x.call),.d (.i .u8 x.told.kind),.d (.i .i64 x.told.call),.d (.i .i64 x.told.src),.d (.i .i64 x.told.dst),.d (.i .i64 x.told.key),.d (.b x.told.slow),.d (.b x.told.done),.d (.i .i64 x.told.place),.d (.i .i64 x.told.pred),.d (.is x.told.list),.d (.s x.told.item.key),.d (.i .i64 x.told.item.value),.d (.i .i64 x.told.item.version),.d (.b x.told.item.gone),.d (.i .i64 x.told.code)]
abbrev RR (x : Call) : List AV:=[.d (.i .i64 x.id),.d (.i .u8 x.msg.kind),.d (.i .i64 x.msg.call),.d (.i .i64 x.msg.src),.d (.i .i64 x.msg.dst),.d (.i .i64 x.msg.key),.d (.b x.msg.slow),.d (.b x.msg.done),.d (.i .i64 x.msg.place),.d (.i .i64 x.msg.pred),.d (.is x.msg.list),.d (.s x.msg.item.key),.d (.i .i64 x.msg.item.value),.d (.i .i64 x.msg.item.version),.d (.b x.msg.item.gone),.d (.i .i64 x.msg.code),.d (.i .u8 x.why),.d (.i .i64 x.ref),.d (.i .i64 x.sent),.d (.i .i64 x.tries)]
theorem T0 (l : List Past) (hl : ∀ x ∈ l,C3 x.told) (hn : l.length ≤ 1048576) : Ao Tryz.prog 85 [.d (AO l)] [] (.sl 2 l.length 17) [.gone,.gone,.a (AO l)]:=by
 have c1:=O4 l;refine zD A6 Tryz.func85 ?_;have d1:=Ds.mk [] (c1);refine wk Mk [] A0 A0 ?_;clear d1;refine Ap (A3.EO 0 0 (.sl 17 []) rfl rfl rfl rfl (by simp [A4])) (by simp) ?_;refine zG (K:=fun r _ H' => H' = [.c [.sl 2 l.length 17],.c [.d (AO l)],.a (AO l),.lp r]) ?_ ?_
 ·intro r hr;have hk:=hr.ok (k:=3) rfl
  have hY : ∀ (k : Nat) (x : Past) (o : List Past),C3 x.told → o.length ≤ 1048576 → YT Tryz.prog 3 [.d (.i .i64 k),.d (.agg [.i .i64 x.src,.i .i64 x.call,.i .u8 x.told.kind,.i .i64 x.told.call,.i .i64 x.told.src,.i .i64 x.told.dst,.i .i64 x.told.key,.b x.told.slow,.b x.told.done,.i .i64 x.told.place,.i .i64 x.told.pred,.is x.told.list,.s x.told.item.key,.i .i64 x.told.item.value,.i .i64 x.told.item.version,.b x.told.item.gone,.i .i64 x.told.code])] [.c [.sl 2 o.length 17],.c [.d (AO l)],.a (AO o),.lp r,.c (Vn x)] fun v K => v = .d (.b true) ∧ K = [.c [.sl 2 (o ++ [x]).length 17],.c [.d (AO l)],.a (AO (o ++ [x])),.lp r,.c (Vn x)]:=by
   intro k x o hx ho;have c2:=Ma x.told hx;unfold Wi.A8.d Wi.A8.cells at c2;refine Az hr rfl rfl rfl ?_;unfold Vn;refine wk Mk [] A0 A0 ?_;refine zR ?_;refine wk Mk [] A0 (AF @c2) ?_;refine ⟨⟨[],[.c [.sl 2 (o ++ [x]).length 17],.c [.d (AO l)],.a (AO (o ++ [x])),.lp r.busy,.c (Vn x)],_⟩,(have nC:=And.intro @AO.eq_1 @Past.cells.eq_1;A3.cn rfl),Nat.le_refl _,rfl,rfl,rfl⟩
  refine zT A6 Tryz.func234 ?_;refine wk Qy [] A0 A0 ?_;refine Cj (fun j : Nat => j ≤ l.length) (fun j : Nat => [(7,.d (.i .i64 j))]) (fun j => [(0,.c [.sl 2 (l.take j).length 17]),(2,.a (AO (l.take j)))]) (fun j => l.length - j) 0 (Nat.zero_le _) (fun _ => rfl) (fun _ => rfl) ?_ ?_
  ·exact A3.ck rfl
  intro j hj
  by_cases hjl : j < l.length
  ·obtain ⟨x,hx⟩:=Aa hjl;have hy:=hY j x (l.take j) (hl x (List.mem_of_getElem? hx)) (by rw [List.length_take];omega);have hn:=AP hx;rw [← hn] at hy;have ix1:=hx;have q1:=@hy;refine wk Qy [] A0 A0 ?_;clear q1 ix1;with_reducible repeat' first|constructor|intro hc;try simp only[AD] at hc
   refine ⟨j + 1,hjl,by omega,Nat.le_refl _,?_⟩;exact A3.ck rfl
  ·have e : j = l.length:=by omega
   subst e;rw [List.take_length];refine wk Qy [] A0 A0 ?_;with_reducible repeat' first|constructor|intro hc;try simp only[AD] at hc
   exact ⟨_,A3.refl _,Nat.le_refl _,_,_,rfl,rfl,rfl⟩
 ·rintro r hr x H' rfl;refine .inl ⟨rfl,?_⟩;refine wk Mk [] A0 A0 ?_;exact ⟨⟨[(2,.sl 2 l.length 17)],[.gone,.gone,.a (AO l)],_⟩,(A3.ck rfl),Nat.zero_le _,_,_,rfl,rfl,rfl,rfl⟩
theorem UV (l : List Past) (hl : ∀ x ∈ l,C3 x.told) (hn : l.length ≤ 1048576) : Go.Gar.Fn Tryz.prog 85 [AO l] (AO l):=by
 refine E3 (ds:=[AO l]) (T0 l hl hn) ?_;simp [BN,AB,B8,A7,A4,AO]
theorem Yz (c : Calls) : Ao Tryz.prog 170 [.d c.d] [] (.fn (.func 251) [] [.ptr 0 0 3]) [.c [.d (.i .i64 c.id),.d (.i .i64 c.many),.d (BW c.op)]]:=by
 refine zD A6 Tryz.func170 ?_;unfold Calls.d Calls.cells;refine wk [0,1,2] [] A0 A0 ?_;exact ⟨_,(A3.ck rfl),Nat.zero_le _,_,_,rfl,rfl,rfl,rfl⟩
theorem Z0 (cs : List AV) : Ao Tryz.prog 155 [.ptr 0 0 20] [.c cs] (.d (.b true)) [.c cs]:=by
 refine zD A6 Tryz.func155 ?_;refine wk [2] [] A0 A0 ?_;exact ⟨_,A3.refl _,Nat.le_refl _,_,_,rfl,rfl,rfl,rfl⟩
theorem RQ (id many : Int) (l : List Call) (hl : ∀ x ∈ l,C3 x.msg) (hn : l.length ≤ 1048576) : Ao Tryz.prog 125 [.d (Calls.d ⟨id,many,l⟩),.fn (.func 155) [] []] [] (.ag [.d (.i .i64 id),.d (.i .i64 many),.sl 3 l.length 20]) [.gone,.gone,.c [.d (.i .i64 id),.d (.i .i64 many),.sl 3 l.length 20],.a (BW l)]:=by
 have c1:=Yz ⟨id,many,l⟩;refine zD A6 Tryz.func125 ?_;unfold Calls.d Calls.cells at *;refine wd Hk [1] [] A0 A0 ?_;refine TF T.get 7 9 3 4 ⟨[(0,.d (.agg [.i .i64 id,.i .i64 many,BW l])),(1,.fn (.func 155) [] []),(2,.ptr 0 0 3),(3,.ptr 1 0 1),(4,.ptr 2 0 3),(5,.ptr 4 0 3)],[.c [.d (.i .i64 id),.d (.i .i64 many),.d (BW l)],.c [.fn (.func 155) [] []],.c [.d (.i .i64 0),.d (.i .i64 0),.e0],.a (BW []),.c [.d (.i .i64 id),.d (.i .i64 many),.sl 3 0 20]],28⟩ mixed rfl rfl rfl ?_ ?_ ?_
 ·refine wd Hk [] [(0,7),(1,7),(2,7),(3,7),(0,9),(1,9),(2,9),(3,9)] A0 A0 ?_;exact ⟨rfl,.inl rfl⟩
 ·refine wd Hk [] [(0,7),(1,7),(2,7),(3,7),(4,7),(5,7),(0,8),(1,8),(2,8),(3,8)] A0 A0 ?_;exact ⟨rfl,.inr rfl⟩
 have d1:=Ds.mk [] (c1);refine wd Hk [] [] A0 A0 ?_;clear d1;refine zG (K:=fun r _ H' => H' = [.c [.d (.i .i64 id),.d (.i .i64 many),.d (BW l)],.c [.fn (.func 155) [] []],.c [.d (.i .i64 0),.d (.i .i64 0),.e0],.a (BW l),.c [.d (.i .i64 id),.d (.i .i64 many),.sl 3 l.length 20],.c [.d (.i .i64 id),.d (.i .i64 many),.d (BW l)],.lp r]) ?_ ?_
 ·intro r hr;have hk:=hr.ok (k:=6) rfl
  have hY : ∀ (x : Call) (o : List Call) (B : A5),o.length ≤ 1048576 → A5.ok 7 B = true → YT Tryz.prog 6 [.d (.agg [.i .i64 x.id,.i .u8 x.msg.kind,.i .i64 x.msg.call,.i .i64 x.msg.src,.i .i64 x.msg.dst,.i .i64 x.msg.key,.b x.msg.slow,.b x.msg.done,.i .i64 x.msg.place,.i .i64 x.msg.pred,.is x.msg.list,.s x.msg.item.key,.i .i64 x.msg.item.value,.i .i64 x.msg.item.version,.b x.msg.item.gone,.i .i64 x.msg.code,.i .u8 x.why,.i .i64 x.ref,.i .i64 x.sent,.i .i64 x.tries])] [.c [.d (.i .i64 id),.d (.i .i64 many),.d (BW l)],.c [.fn (.func 155) [] []],.c [.d (.i .i64 0),.d (.i .i64 0),.e0],.a (BW o),.c [.d (.i .i64 id),.d (.i .i64 many),.sl 3 o.length 20],.c [.d (.i .i64 id),.d (.i .i64 many),.d (BW l)],.lp r,.c (RR x)] fun v K => v = .d (.b true) ∧ K = [.c [.d (.i .i64 id),.d (.i .i64 many),.d (BW l)],.c [.fn (.func 155) [] []],.c [.d (.i .i64 0),.d (.i .i64 0),.e0],.a (BW (o ++ [x])),.c [.d (.i .i64 id),.d (.i .i64 many),.sl 3 (o ++ [x]).length 20],.c [.d (.i .i64 id),.d (.i .i64 many),.d (BW l)],.lp r,.c (RR x)]:=by
   intro x o B ho hB;have c2:=Z0 (RR x);refine Az hr rfl rfl rfl ?_;unfold RR at *;refine wd Hk [] [] A0 A0 ?_;refine zR ?_;have d1:=Ds.mk [8] (c2);refine wd Hk [] [] A0 A0 ?_;clear d1;refine ⟨⟨[],[.c [.d (.i .i64 id),.d (.i .i64 many),.d (BW l)],.c [.fn (.func 155) [] []],.c [.d (.i .i64 0),.d (.i .i64 0),.e0],.a (BW (o ++ [x])),.c [.d (.i .i64 id),.d (.i .i64 many),.sl 3 (o ++ [x]).length 20],.c [.d (.i .i64 id),.d (.i .i64 many),.d (BW l)],.lp r.busy,.c (RR x)],_⟩,(have nC:=And.intro @BW.eq_1 @Call.cells.eq_1;A3.cn rfl),Nat.le_refl _,rfl,rfl,rfl⟩
  refine zT A6 Tryz.func251 ?_;refine wk [0,1,4,6,7,8,9,16] [] A0 A0 ?_;refine Cj (fun j : Nat => j ≤ l.length) (fun j : Nat => [(8,.d (.i .i64 j))]) (fun j => [(3,.a (BW (l.take j))),(4,.c [.d (.i .i64 id),.d (.i .i64 many),.sl 3 (l.take j).length 20])]) (fun j => l.length - j) 0 (Nat.zero_le _) (fun _ => rfl) (fun _ => rfl) ?_ ?_
  ·exact A3.ck rfl
  intro j hj
  by_cases hjl : j < l.length
  ·obtain ⟨x,hx⟩:=Aa hjl;have c3:=UG x (hl x (List.mem_of_getElem? hx));unfold Call.d Call.cells at c3;have hy:=hY x (l.take j) .gone (by rw [List.length_take];omega) rfl;have hn:=AP hx;rw [← hn] at hy;have ix1:=hx;have q1:=@hy;refine wk [0,1,4,6,7,8,9,16] [] A0 (AF @c3) ?_;clear q1 ix1;with_reducible repeat' first|constructor|intro hc;try simp only[AD] at hc
   refine ⟨j + 1,hjl,by omega,Nat.le_refl _,?_⟩;exact A3.ck rfl
  ·have e : j = l.length:=by omega
   subst e;rw [List.take_length];refine wk [0,1,4,6,7,8,9,16] [] A0 A0 ?_;with_reducible repeat' first|constructor|intro hc;try simp only[AD] at hc
   exact ⟨_,A3.refl _,Nat.le_refl _,_,_,rfl,rfl,rfl⟩
 ·rintro r hr x H' rfl;refine .inl ⟨rfl,?_⟩;refine wd Hk [] [] A0 A0 ?_;exact ⟨⟨[(4,.ptr 2 0 3)],[.gone,.gone,.c [.d (.i .i64 id),.d (.i .i64 many),.sl 3 l.length 20],.a (BW l)],_⟩,(A3.ck rfl),Nat.zero_le _,_,_,rfl,rfl,rfl,rfl⟩
abbrev BK (l : List A8) : D:=.sl 15 (l.map Wi.A8.cells)
abbrev jC (v : View) (j : Job) (lf aq : AV) (own : Bool) : List AV:=[.d (.i .i64 v.id),.d (.is v.base),.d (.is v.list),.d (.i .i64 v.pred),.d (.i .i64 (v.f 0)),.d (.i .i64 (v.f 1)),.d (.i .i64 (v.f 2)),.d (.i .i64 (v.f 3)),.d (.i .i64 (v.f 4)),.d (.i .i64 (v.f 5)),.d (.i .i64 (v.f 6)),.d (.i .i64 (v.f 7)),.d (.i .i64 (v.f 8)),.d (.i .i64 (v.f 9)),.d (.i .i64 (v.f 10)),.d (.i .i64 (v.f 11)),.d (.i .i64 (v.f 12)),.d (.i .i64 (v.f 13)),.d (.i .i64 (v.f 14)),.d (.i .i64 (v.f 15)),.d (.i .u8 j.what),.d (.i .u8 j.phase),.d (.i .i64 j.look.key),.d (.i .i64 j.look.at_),.d (.i .i64 j.look.hops),.d (.b j.look.slow),.d (.b j.look.found),.d (.i .i64 j.look.code),.d (.s j.item.key),.d (.i .i64 j.item.value),.d (.i .i64 j.item.version),.d (.b j.item.gone),.d (.i .i64 j.owner),lf,.d (.i .i64 j.code),aq,.d (.b own)]
theorem Me (v : View) (j : Job) (aq : AV) (own : Bool) (ha : AV.ok 1 aq = true) : Ao Tryz.prog 289 [.ptr 0 0 37] [.c (jC v j (.d (.is j.left)) aq own)] (.tup []) [.c (jC v (CX j) (.d (.is [])) aq own)]:=by
 have hk:=ha;refine zD A6 Tryz.func289 ?_;unfold jC;refine wk [0] [] A0 A0 ?_;exact ⟨⟨[],[.c (jC v (CX j) (.d (.is [])) aq own)],_⟩,(A3.trans' (A3.TQ 0 33 (.is []) rfl rfl rfl rfl trivial) (A3.ck rfl) (Nat.le_refl _)),Nat.le_refl _,_,_,rfl,rfl,rfl,rfl⟩
theorem Pf (v : View) (j : Job) (own : Bool) (m : A8) : Ao Tryz.prog 295 [.ptr 0 0 37,.d m.d] [.c (jC v j (.d (.is j.left)) .e0 own)] (.tup []) [.c (jC v j (.d (.is j.left)) (.d (BK [m])) own)]:=by
 refine zD A6 Tryz.func295 ?_;unfold jC Wi.A8.d Wi.A8.cells;refine wd [0,1,3] [] [(2,6),(3,6),(4,6)] A0 A0 ?_;exact ⟨⟨[],[.c (jC v j (.d (.is j.left)) (.d (BK [m])) own)],_⟩,(A3.ck rfl),Nat.le_of_ble_eq_true rfl,_,_,rfl,rfl,rfl,rfl⟩
theorem cg (v : View) (j : Job) (lf : List Int) (l : List A8) (own : Bool) (m : A8) (hn : l.length ≤ 1048576) : Ao Tryz.prog 295 [.ptr 0 0 37,.d m.d] [.c (jC v j (.sl 1 lf.length 1) (.sl 2 l.length 15) own),.a (.is lf),.a (BK l)] (.tup []) [.c (jC v j (.sl 1 lf.length 1) (.sl 2 (l ++ [m]).length 15) own),.a (.is lf),.a (BK (l ++ [m]))]:=by
 refine zD A6 Tryz.func295 ?_;unfold jC Wi.A8.d Wi.A8.cells;refine wd [0,1,3] [] [(2,6),(3,6),(4,6)] A0 A0 ?_;refine ⟨⟨[],[.c (jC v j (.sl 1 lf.length 1) (.sl 2 (l ++ [m]).length 15) own),.a (.is lf),.a (BK (l ++ [m]))],_⟩,(have nC:=And.intro @BK.eq_1 @Wi.A8.cells.eq_1;A3.cn rfl),Nat.le_of_ble_eq_true rfl,_,_,rfl,rfl,rfl,rfl⟩
theorem Ao.arg {P : Program} {f : FuncId} {a x : AV} {d : D} {H : List A5} {r : AV} {H' : List A5} (h : Ao P f [a,.d d] H r H') (hx : Ho [x] [d]) : Ao P f [a,x] H r H' :=
 ⟨h.1,fun G w vs h1 h2 h3 => h.2 G w vs h1 h2 (by
  simp only [AY] at h3 ⊢;obtain ⟨v,q,e,hv,u,q2,e2,hu,e3⟩:=h3;subst e3;have h4 : AY G [x] [u]:=by simp only [AY];exact ⟨u,[],rfl,hu,rfl⟩
  have h5:=Jc.2 (N2 hx h4);simp only [List.map_cons,List.map_nil,AY] at h5;obtain ⟨u2,q3,e4,hu2,e5⟩:=h5;cases e4
  exact ⟨v,q,e,hv,u,[],e2,hu2,rfl⟩)⟩
abbrev mAV (k dst key : Int) (slow : Bool) (x : Item) : AV:=.ag [.d (.i .u8 k),.d (.i .i64 0),.d (.i .i64 0),.d (.i .i64 dst),.d (.i .i64 key),.d (.b slow),.d (.b false),.d (.i .i64 0),.d (.i .i64 0),.e0,.d (.s x.key),.d (.i .i64 x.value),.d (.i .i64 x.version),.d (.b x.gone),.d (.i .i64 0)]
theorem aM (k dst key : Int) (slow : Bool) (x : Item) : Ho [mAV k dst key slow x] [Wi.A8.d ⟨k,0,0,dst,key,slow,false,0,0,[],x,0⟩]:=by
 unfold Wi.A8.d Wi.A8.cells
 repeat' (first | rfl | trivial | refine ⟨rfl,rfl,by simp [A4]⟩ | refine ⟨_,_,rfl,?_,?_⟩ | refine ⟨_,rfl,?_⟩)
end Nd
end Go.Proofs.YtkljbfejbakooaaGreatDoor
namespace Go.Proofs.YtkljbfejbakooaaGreatDoor
namespace Nd
open Go.Gar
set_option maxRecDepth 4000
structure Em where
 to : Int
 by_ : List UInt8
 harmed : Bool
def Em.cells (g : Em) : List D:=[.i .i64 g.to,.by g.by_,.b g.harmed]
def Em.d (g : Em) : D:=.agg g.cells
end Nd
end Go.Proofs.YtkljbfejbakooaaGreatDoor
