/- Part 43 of a proof, put together by a program. Conditions: none beyond those that a theorem states. -/
import Derived.Test.YtkljbfejbakooaaGreatDoorB42
set_option linter.unusedSimpArgs false
set_option linter.unusedVariables false
set_option linter.unnecessarySimpa false
set_option maxHeartbeats 40000000
namespace Go.Proofs.YtkljbfejbakooaaGreatDoor
namespace Nd
open Go.Gar
open Wi (A8 B2 Ai AA BN mC Bs Ar)
set_option maxRecDepth 4000
abbrev Ek : List Nat:=[0,1,2,3,4,5,6,17,18,20]
abbrev Ot : List Nat:=[0,1,4,6,7,8,9,16]
abbrev Ia:=Call × Bool × List Call
def BE (id : Int) (m : A8) (s : Ia) (x : Call) : Ia:=if KN id m x then (x,true,s.2.2) else (s.1,s.2.1,s.2.2 ++ [x])
abbrev HK (id many : Int) (l0 : List Call) (m : A8) (cl : Call) (fd : Bool) : List A2:=[.c [.d (.i .i64 id),.d (.i .i64 many),.d (AK l0)],.c (mX m),.c (BZ cl),.c [.d (.b fd)]]
theorem closeD (id many : Int) (l0 : List Call) (m : A8) (cl : Call) (fd : Bool) (x : Call) (hk : 1 ≤ x.msg.kind ∧ x.msg.kind ≤ 6) (b : Bool) (hb : KN id m x = b) :
  B4 Tryz.prog 126 [.ptr 4 0 20,.ptr 0 0 3,.ptr 1 0 15,.ptr 2 0 20,.ptr 3 0 1] (HK id many l0 m cl fd ++ [.c (BZ x)]) (.d (.b !b)) (HK id many l0 m (if b then x else cl) (fd || b) ++ [.c (BZ x)]):=by
 have c1:=ZB ⟨id,many,l0⟩ x m hk;rw [hb] at c1;refine zD A6 Tryz.func126 ?_;unfold HK BZ;unfold Wi.A8.d Wi.A8.cells Call.d Call.cells Calls.d Calls.cells at c1;simp only [List.cons_append,List.nil_append]
 cases b with
 | true =>
  refine wd [0,1,2,3,4,6,13] [] [] A0 (AG @c1) ?_;rw [Bool.or_true];exact ⟨⟨[(6,.d (.b false))],[.c [.d (.i .i64 id),.d (.i .i64 many),.d (AK l0)],.c (mX m),.c (BZ x),.c [.d (.b true)],.c (BZ x)],_⟩,(A1.ck rfl),Nat.le_of_ble_eq_true rfl,_,_,rfl,rfl,rfl,rfl⟩
 | false =>
  refine wd [0,1,2,3,4,6,13] [] [] A0 (AG @c1) ?_;rw [Bool.or_false];exact ⟨⟨[(6,.d (.b true))],[.c [.d (.i .i64 id),.d (.i .i64 many),.d (AK l0)],.c (mX m),.c (BZ cl),.c [.d (.b fd)],.c (BZ x)],_⟩,(A1.ck rfl),Nat.le_of_ble_eq_true rfl,_,_,rfl,rfl,rfl,rfl⟩
theorem Tz (id many : Int) (l : List Call) (l0 : List Call) (m : A8) (hl : ∀ x ∈ l,B5 x.msg) (hn : l.length ≤ 1048576) (hc : ∀ x ∈ l,DX id many x = true) (hs : ∀ j,(fun s : Ia => s.2.2.length ≤ 1048576) ((l.take j).foldl (BE id m) ((Bf,false,[]) : Ia))) : B4 Tryz.prog 125 [.d (Calls.d ⟨id,many,l⟩),.fn (.func 126) [] [.ptr 0 0 3,.ptr 1 0 15,.ptr 2 0 20,.ptr 3 0 1]] [.c [.d (.i .i64 id),.d (.i .i64 many),.d (AK l0)],.c (mX m),.c (BZ Bf),.c [.d (.b false)]] (.ag [.d (.i .i64 id),.d (.i .i64 many),.sl 7 (l.foldl (BE id m) ((Bf,false,[]) : Ia)).2.2.length 20]) [.c [.d (.i .i64 id),.d (.i .i64 many),.d (AK l0)],.c (mX m),.c (BZ (l.foldl (BE id m) ((Bf,false,[]) : Ia)).1),.c [.d (.b (l.foldl (BE id m) ((Bf,false,[]) : Ia)).2.1)],.gone,.gone,.c [.d (.i .i64 id),.d (.i .i64 many),.sl 7 (l.foldl (BE id m) ((Bf,false,[]) : Ia)).2.2.length 20],.a (AK (l.foldl (BE id m) ((Bf,false,[]) : Ia)).2.2)]:=by
 have c1:=PC ⟨id,many,l⟩;refine zD A6 Tryz.func125 ?_;unfold Calls.d Calls.cells at *;refine wd Ek [1] [] A0 A0 ?_;refine VS T.get 7 9 7 8 ⟨[(0,.d (.agg [.i .i64 id,.i .i64 many,AK l])),(1,.fn (.func 126) [] [.ptr 0 0 3,.ptr 1 0 15,.ptr 2 0 20,.ptr 3 0 1]),(2,.ptr 4 0 3),(3,.ptr 5 0 1),(4,.ptr 6 0 3),(5,.ptr 8 0 3)],[.c [.d (.i .i64 id),.d (.i .i64 many),.d (AK l0)],.c (mX m),.c (BZ Bf),.c [.d (.b false)],.c [.d (.i .i64 id),.d (.i .i64 many),.d (AK l)],.c [.fn (.func 126) [] [.ptr 0 0 3,.ptr 1 0 15,.ptr 2 0 20,.ptr 3 0 1]],.c [.d (.i .i64 0),.d (.i .i64 0),.e0],.a (AK []),.c [.d (.i .i64 id),.d (.i .i64 many),.sl 7 0 20]],28⟩ mixed rfl rfl rfl ?_ ?_ ?_
 ·refine wd Ek [] [(0,7),(1,7),(2,7),(3,7),(0,9),(1,9),(2,9),(3,9)] A0 A0 ?_;exact ⟨rfl,.inl rfl⟩
 ·refine wd Ek [] [(0,7),(1,7),(2,7),(3,7),(4,7),(5,7),(0,8),(1,8),(2,8),(3,8)] A0 A0 ?_;exact ⟨rfl,.inr rfl⟩
 have d1:=Ds.mk [] (c1);refine wd Ek [] [] A0 A0 ?_;clear d1;refine zG (K:=fun r _ H' => H' = [.c [.d (.i .i64 id),.d (.i .i64 many),.d (AK l0)],.c (mX m),.c (BZ (l.foldl (BE id m) ((Bf,false,[]) : Ia)).1),.c [.d (.b (l.foldl (BE id m) ((Bf,false,[]) : Ia)).2.1)],.c [.d (.i .i64 id),.d (.i .i64 many),.d (AK l)],.c [.fn (.func 126) [] [.ptr 0 0 3,.ptr 1 0 15,.ptr 2 0 20,.ptr 3 0 1]],.c [.d (.i .i64 0),.d (.i .i64 0),.e0],.a (AK (l.foldl (BE id m) ((Bf,false,[]) : Ia)).2.2),.c [.d (.i .i64 id),.d (.i .i64 many),.sl 7 (l.foldl (BE id m) ((Bf,false,[]) : Ia)).2.2.length 20],.c [.d (.i .i64 id),.d (.i .i64 many),.d (AK l)],.lp r]) ?_ ?_
 ·intro r hr;have hk:=hr.ok (k:=10) rfl
  have hY : ∀ (x : Call) (s : Ia),DX id many x = true → B5 x.msg → (s.2.2.length ≤ 1048576) → YT Tryz.prog 10 [.d (.agg [.i .i64 x.id,.i .u8 x.msg.kind,.i .i64 x.msg.call,.i .i64 x.msg.src,.i .i64 x.msg.dst,.i .i64 x.msg.key,.b x.msg.slow,.b x.msg.done,.i .i64 x.msg.place,.i .i64 x.msg.pred,.is x.msg.list,.s x.msg.item.key,.i .i64 x.msg.item.value,.i .i64 x.msg.item.version,.b x.msg.item.gone,.i .i64 x.msg.code,.i .u8 x.why,.i .i64 x.ref,.i .i64 x.sent,.i .i64 x.tries])] [.c [.d (.i .i64 id),.d (.i .i64 many),.d (AK l0)],.c (mX m),.c (BZ s.1),.c [.d (.b s.2.1)],.c [.d (.i .i64 id),.d (.i .i64 many),.d (AK l)],.c [.fn (.func 126) [] [.ptr 0 0 3,.ptr 1 0 15,.ptr 2 0 20,.ptr 3 0 1]],.c [.d (.i .i64 0),.d (.i .i64 0),.e0],.a (AK s.2.2),.c [.d (.i .i64 id),.d (.i .i64 many),.sl 7 s.2.2.length 20],.c [.d (.i .i64 id),.d (.i .i64 many),.d (AK l)],.lp r,.c (BZ x)] fun v K => v = .d (.b true) ∧ K = [.c [.d (.i .i64 id),.d (.i .i64 many),.d (AK l0)],.c (mX m),.c (BZ (BE id m s x).1),.c [.d (.b (BE id m s x).2.1)],.c [.d (.i .i64 id),.d (.i .i64 many),.d (AK l)],.c [.fn (.func 126) [] [.ptr 0 0 3,.ptr 1 0 15,.ptr 2 0 20,.ptr 3 0 1]],.c [.d (.i .i64 0),.d (.i .i64 0),.e0],.a (AK (BE id m s x).2.2),.c [.d (.i .i64 id),.d (.i .i64 many),.sl 7 (BE id m s x).2.2.length 20],.c [.d (.i .i64 id),.d (.i .i64 many),.d (AK l)],.lp r,.c (BZ x)]:=by
   intro x s hx hm hsz;obtain ⟨b1,b2,b3,b4,b5,b6,b7,b8⟩:=IK.1 hx
   have hk6 : 1 ≤ x.msg.kind ∧ x.msg.kind ≤ 6:=by
    unfold A8.asks at b2;simpa only [Bool.and_eq_true,decide_eq_true_eq] using b2
   obtain ⟨cl,fd,o⟩:=s;dsimp only at hsz
   cases hof : KN id m x with
   | true =>
    have c2:=closeD id many l0 m cl fd x hk6 true hof;rw [Bool.or_true,if_pos rfl] at c2;have e : BE id m (cl,fd,o) x = (x,true,o):=by unfold BE;rw [hof];rfl
    rw [e];clear e;refine BG hr rfl rfl rfl ?_;unfold HK BZ at *;simp only [List.cons_append,List.nil_append] at *;refine wd Ek [] [] A0 A0 ?_;refine zR ?_;have d1:=Ds.mk [0,1,2,3,12] (c2);refine wd Ek [] [] A0 A0 ?_;clear d1;refine ⟨⟨[],[.c [.d (.i .i64 id),.d (.i .i64 many),.d (AK l0)],.c (mX m),.c (BZ x),.c [.d (.b true)],.c [.d (.i .i64 id),.d (.i .i64 many),.d (AK l)],.c [.fn (.func 126) [] [.ptr 0 0 3,.ptr 1 0 15,.ptr 2 0 20,.ptr 3 0 1]],.c [.d (.i .i64 0),.d (.i .i64 0),.e0],.a (AK o),.c [.d (.i .i64 id),.d (.i .i64 many),.sl 7 o.length 20],.c [.d (.i .i64 id),.d (.i .i64 many),.d (AK l)],.lp r.busy,.c (BZ x)],_⟩,(have nC:=And.intro @AK.eq_1 (And.intro @aE.eq_1 @Call.cells.eq_1);A1.cn rfl),Nat.le_refl _,rfl,rfl,rfl⟩
   | false =>
    have c2:=closeD id many l0 m cl fd x hk6 false hof;rw [Bool.or_false,if_neg (by decide)] at c2;have e : BE id m (cl,fd,o) x = (cl,fd,o ++ [x]):=by unfold BE;rw [hof];rfl
    rw [e];clear e;refine BG hr rfl rfl rfl ?_;unfold HK BZ at *;simp only [List.cons_append,List.nil_append] at *;refine wd Ek [] [] A0 A0 ?_;refine zR ?_;have d1:=Ds.mk [0,1,2,3,12] (c2);refine wd Ek [] [] A0 A0 ?_;clear d1;refine ⟨⟨[],[.c [.d (.i .i64 id),.d (.i .i64 many),.d (AK l0)],.c (mX m),.c (BZ cl),.c [.d (.b fd)],.c [.d (.i .i64 id),.d (.i .i64 many),.d (AK l)],.c [.fn (.func 126) [] [.ptr 0 0 3,.ptr 1 0 15,.ptr 2 0 20,.ptr 3 0 1]],.c [.d (.i .i64 0),.d (.i .i64 0),.e0],.a (AK (o ++ [x])),.c [.d (.i .i64 id),.d (.i .i64 many),.sl 7 (o ++ [x]).length 20],.c [.d (.i .i64 id),.d (.i .i64 many),.d (AK l)],.lp r.busy,.c (BZ x)],_⟩,(have nC:=And.intro @AK.eq_1 (And.intro @aE.eq_1 @Call.cells.eq_1);A1.cn rfl),Nat.le_refl _,rfl,rfl,rfl⟩
  refine zT A6 Tryz.func251 ?_;refine wk Ot [] A0 A0 ?_;refine Ik (fun j : Nat => j ≤ l.length) (fun j : Nat => [(8,.d (.i .i64 j))]) (fun j => [(2,.c (BZ ((l.take j).foldl (BE id m) ((Bf,false,[]) : Ia)).1)),(3,.c [.d (.b ((l.take j).foldl (BE id m) ((Bf,false,[]) : Ia)).2.1)]),(7,.a (AK ((l.take j).foldl (BE id m) ((Bf,false,[]) : Ia)).2.2)),(8,.c [.d (.i .i64 id),.d (.i .i64 many),.sl 7 ((l.take j).foldl (BE id m) ((Bf,false,[]) : Ia)).2.2.length 20])]) (fun j => l.length - j) 0 (Nat.zero_le _) (fun _ => rfl) (fun _ => rfl) ?_ ?_
  ·exact A1.ck rfl
  intro j hj
  by_cases hjl : j < l.length
  ·obtain ⟨x,hx⟩:=Ah hjl;have hxm:=List.mem_of_getElem? hx;have c3:=M3 x (hl x hxm);unfold Call.d Call.cells at c3;have hy:=hY x ((l.take j).foldl (BE id m) ((Bf,false,[]) : Ia)) (hc x hxm) (hl x hxm) (hs j);have hf : (BE id m) ((l.take j).foldl (BE id m) ((Bf,false,[]) : Ia)) x = ((l.take (j + 1)).foldl (BE id m) ((Bf,false,[]) : Ia)):=by rw [As hx,List.foldl_append];rfl
   rw [hf] at hy;have ix1:=hx;have q1:=@hy;refine wk Ot [] A0 (AG @c3) ?_;clear q1 ix1;with_reducible repeat' first|constructor|intro hc;try simp only[AB] at hc
   refine ⟨j + 1,hjl,by omega,Nat.le_refl _,?_⟩;exact A1.ck rfl
  ·have e : j = l.length:=by omega
   subst e;rw [List.take_length];refine wk Ot [] A0 A0 ?_;with_reducible repeat' first|constructor|intro hc;try simp only[AB] at hc
   exact ⟨_,A1.refl _,Nat.le_refl _,_,_,rfl,rfl,rfl⟩
 ·rintro r hr x H' rfl;refine .inl ⟨rfl,?_⟩;refine wd Ek [] [] A0 A0 ?_;exact ⟨⟨[(4,.ptr 6 0 3)],[.c [.d (.i .i64 id),.d (.i .i64 many),.d (AK l0)],.c (mX m),.c (BZ (l.foldl (BE id m) ((Bf,false,[]) : Ia)).1),.c [.d (.b (l.foldl (BE id m) ((Bf,false,[]) : Ia)).2.1)],.gone,.gone,.c [.d (.i .i64 id),.d (.i .i64 many),.sl 7 (l.foldl (BE id m) ((Bf,false,[]) : Ia)).2.2.length 20],.a (AK (l.foldl (BE id m) ((Bf,false,[]) : Ia)).2.2)],_⟩,(A1.ck rfl),Nat.le_of_ble_eq_true rfl,_,_,rfl,rfl,rfl,rfl⟩
abbrev FW : List Nat:=[0,1,2,3,4,5,6,7,8,16]
theorem Pb (id : Int) (m : A8) : ∀ (l : List Call) (s : Ia),(∀ x ∈ l,KN id m x = false) → l.foldl (BE id m) s = (s.1,s.2.1,s.2.2 ++ l)
 | [],s,_ => by simp
 | x :: r,s,h => by
  rw [List.foldl_cons,Pb id m r _ (fun y hy => h y (List.mem_cons_of_mem _ hy))];unfold BE;rw [h x (List.mem_cons_self ..)];simp
theorem WU (id : Int) (m : A8) : ∀ (l : List Call) (s : Ia),(l.Pairwise fun x y => x.id < y.id) → l.foldl (BE id m) s = match l.find? (KN id m) with
  | some x => (x,true,s.2.2 ++ l.filter fun y => !KN id m y)
  | none => (s.1,s.2.1,s.2.2 ++ l)
 | [],s,_ => by simp
 | x :: r,s,h => by
  obtain ⟨h1,h2⟩:=List.pairwise_cons.1 h
  cases hx : KN id m x with
  | true =>
   have hr : ∀ y ∈ r,KN id m y = false:=fun y hy => by
    cases e : KN id m y with
    | false => rfl
    | true =>
     exfalso;have:=h1 y hy;unfold KN at hx e;simp only [Bool.and_eq_true,decide_eq_true_eq] at hx e;omega
   rw [List.foldl_cons,Pb id m r _ hr,List.find?_cons,hx];unfold BE;rw [hx];have hf : r.filter (fun y => !KN id m y) = r:=List.filter_eq_self.2 fun y hy => by rw [hr y hy];rfl
   simp [hx,hf]
  | false =>
   rw [List.foldl_cons,WU id m r _ h2,List.find?_cons,hx];unfold BE;rw [hx];cases r.find? (KN id m) <;> simp [hx]
theorem Ty (c : Calls) (m : A8) (hl : ∀ x ∈ c.op,B5 x.msg) (hn : c.op.length ≤ 1048576) (hm : m.list.length < 9223372036854775807) : Go.Gar.Fn Tryz.prog 47 [c.d,m.d] (.tup [(Cx c m).1.d,(Cx c m).2.1.d,.b (Cx c m).2.2]):=by
 have c1:=PE c hl;have c2:=Wi.Ex m hm;have c3:=Sl c hl hn
 cases hc : BB c && m.right with
 | false =>
  have hT : Cx c m = (c,Bf,false):=by unfold Cx;rw [hc];rfl
  rw [hT];refine zF A6 Tryz.func47 ?_;unfold Wi.A8.d Wi.A8.cells Calls.d Calls.cells Call.d Call.cells at *
  cases h1 : BB c with
  | false =>
   rw [h1] at c1;have sc : No 3:=trivial;refine wd FW [] [] A0 (BM @c1 @c3) ?_;clear sc;refine ⟨_,_,rfl,rfl,?_⟩;simp [Ab,A9,A4,A3,AA,AF]
  | true =>
   rw [h1,Bool.true_and] at hc;rw [h1] at c1;rw [hc] at c2;have sc : No 3:=trivial;refine wd FW [] [] A0 (EP @c1 @c2 @c3) ?_;clear sc;refine ⟨_,_,rfl,rfl,?_⟩;simp [Ab,A9,A4,A3,AA,AF]
 | true =>
  rw [Bool.and_eq_true] at hc;obtain ⟨_,k2,k3⟩:=GE.1 hc.1
  have hsz : ∀ j,(fun s : Ia => s.2.2.length ≤ 1048576) ((c.op.take j).foldl (BE c.id m) ((Bf,false,[]) : Ia)):=fun j => by
   have h0 : (c.op.take j).length ≤ c.op.length:=by rw [List.length_take];omega
   have hp : (c.op.take j).Pairwise fun x y => x.id < y.id:=k3.sublist (List.take_sublist ..);rw [WU c.id m _ _ hp]
   have h1:=List.length_filter_le (fun y => !KN c.id m y) (c.op.take j)
   cases (c.op.take j).find? (KN c.id m) with
   | some x => dsimp only;rw [List.nil_append];omega
   | none => dsimp only;rw [List.nil_append];omega
  have c4:=Tz c.id c.many c.op c.op m hl hn k2 hsz;have hf:=WU c.id m c.op ((Bf,false,[]) : Ia) k3
  have hT : Cx c m = match c.op.find? (KN c.id m) with
    | some x => (⟨c.id,c.many,c.op.filter fun y => !KN c.id m y⟩,x,true)
    | none => (c,Bf,false):=by unfold Cx;rw [hc.1,hc.2];rfl
  rw [hT];rw [hf] at c4;rw [hc.1] at c1;rw [hc.2] at c2;clear hf hT hsz k2 k3;generalize c.op.find? (KN c.id m) = fx at *;generalize (c.op.filter fun y => !KN c.id m y) = fl at *;refine zF A6 Tryz.func47 ?_
  cases fx with
  | some x =>
   dsimp only at c4 ⊢;rw [List.nil_append] at c4;unfold BZ at c4;unfold Wi.A8.d Wi.A8.cells Calls.d Calls.cells Call.d Call.cells at *;have sc : No 3:=trivial;refine wd FW [4] [] A0 (BM @c1 @c2) ?_;clear sc;refine Bp (A1.Zy 4 10 (.is []) rfl rfl rfl rfl trivial) (by simp) ?_;have d1:=Ds.mk [0,1,4,5] (c4);have sc : No 3:=trivial;refine wd FW [5] [] A0 A0 ?_;clear sc d1;have sc : No 3:=trivial;refine wd FW [] [(1,3),(2,3),(2,4)] A0 A0 ?_;clear sc;refine ⟨_,_,rfl,rfl,?_⟩;simp [Ab,A9,A4,A3,AA,AF]
  | none =>
   dsimp only at c4 ⊢;rw [List.nil_append] at c4;unfold BZ at c4;unfold Wi.A8.d Wi.A8.cells Calls.d Calls.cells Call.d Call.cells at *;have sc : No 3:=trivial;refine wd FW [4] [] A0 (BM @c1 @c2) ?_;clear sc;refine Bp (A1.Zy 4 10 (.is []) rfl rfl rfl rfl trivial) (by simp) ?_;have d1:=Ds.mk [0,1,4,5] (c4);have sc : No 3:=trivial;refine wd FW [5] [] A0 A0 ?_;clear sc d1;have sc : No 3:=trivial;refine wd FW [] [(1,3),(2,3),(2,4)] A0 A0 ?_;clear sc;refine ⟨_,_,rfl,rfl,?_⟩;simp [Ab,A9,A4,A3,AA,AF]
end Nd
end Go.Proofs.YtkljbfejbakooaaGreatDoor
