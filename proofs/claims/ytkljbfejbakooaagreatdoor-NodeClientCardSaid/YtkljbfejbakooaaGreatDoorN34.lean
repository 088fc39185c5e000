/- Part 34 of a proof, put together by a program. Conditions: none beyond those that a theorem states. -/
import Derived.Test.YtkljbfejbakooaaGreatDoorN32
set_option linter.unusedSimpArgs false
set_option linter.unusedVariables false
set_option linter.unnecessarySimpa false
set_option maxHeartbeats 40000000
namespace Go.Proofs.YtkljbfejbakooaaGreatDoor
namespace Nd
open Go.Gar
open Wi (A8 B7 AU AC B2 mC)
set_option maxRecDepth 4000
abbrev Bd : List Nat:=[0,1,2,3,4,5,6,9,12,13,14,15,22,23,31,32,52,55,73]
abbrev Dn : List Nat:=[0,1,2,5,6,7,8,9,17]
theorem Gv (why : Int) (l : List A8) : Ao Tryz.prog 209 [.d (.i .u8 why),.d (BK l)] [] (.fn (.func 290) [] [.ptr 1 0 1,.ptr 0 0 1]) [.c [.d (.i .u8 why)],.c [.d (BK l)]]:=by
 refine zD A6 Tryz.func209 ?_;refine wk [0,1,2,3,4] [] A0 A0 ?_;exact ⟨_,(A3.ck rfl),Nat.zero_le _,_,_,rfl,rfl,rfl,rfl⟩
abbrev mX (x : A8) : List AV:=[.d (.i .u8 x.kind),.d (.i .i64 x.call),.d (.i .i64 x.src),.d (.i .i64 x.dst),.d (.i .i64 x.key),.d (.b x.slow),.d (.b x.done),.d (.i .i64 x.place),.d (.i .i64 x.pred),.d (.is x.list),.d (.s x.item.key),.d (.i .i64 x.item.value),.d (.i .i64 x.item.version),.d (.b x.item.gone),.d (.i .i64 x.code)]
abbrev Al (w : Int) (l : List A8) : List (A8 × Int):=l.map fun m => (m,w)
theorem EB (n : Node) (x : D) (k : Nat) (h : k = AB x) : A5.Dc 5 x (.c (hC n (.sl 5 k 16))) = .c (hC n (.d x)):=by
 have e : AV.Dc 5 x (.sl 5 k 16) = .d x:=by simp [AV.Dc,h]
 show A5.c (AV.Gd 5 x (hC n (.sl 5 k 16))) = _;rw [IG];show A5.c (hC n (AV.Dc 5 x (.sl 5 k 16))) = A5.c (hC n (.d x));rw [e]
abbrev gH (n : Node) (j : Job) (w : Int) (l : List A8) (a : List (A8 × Int)) : List A5:=[.c (hC n (.sl 5 a.length 16)),.c [.ptr 0 0 77],.c (Kc j (.d (.is j.left))),.c [.d (.i .u8 w)],.c [.d (BK l)],.a (AI a)]
theorem gn (n : Node) (j : Job) (ended : Bool) (l : List A8) (hl : l.length ≤ 100000) (hn : n.keep.length ≤ 1048576) (hs : 0 ≤ j.item.key.length) (k : List Item) (i : Job) (hT : Bc n.keep j = (k,i)) : Ao Tryz.prog 132 [.ptr 0 0 77,.d (.i .u8 6),.d (.b ended),.d j.d,.d (BK l),.d (.b true)] [.c (hC n .e0)] (.tup []) [.c (hC { n with keep:=k,mirror:=i } (.d (AI (Al 6 l))))]:=by
 have c1:=Ie n;have c3:=Gv 6 l;have c2:=Qm n j hn hs;rw [hT] at c2;dsimp only at c2;refine zD A6 Tryz.func132 ?_;obtain ⟨N,hN⟩ : ∃ N : Node,N = { n with keep:=k,mirror:=i }:=⟨_,rfl⟩;rw [← hN];unfold hC Job.d Job.cells at *;have d1:=Ds.mk [0] (c1);have d2:=Ds.mk [0,2] (c2);have d3:=Ds.mk [] (c3);refine wd Bd [] [] A0 A0 ?_;clear d3 d2 d1;refine Ap (A3.EO 0 76 (.sl 16 []) rfl rfl rfl rfl (by simp [A4])) (by simp) ?_;refine zG (K:=fun r _ H' => H' = gH N i 6 l (Al 6 l) ++ [.lp r]) ?_ ?_
 ·intro r hr;have hk:=hr.ok (k:=6) rfl
  have hY : ∀ (x : A8) (a : List (A8 × Int)),a.length ≤ 1000000 → YT Tryz.prog 6 [.d (.agg (CG (x,6)))] (gH N i 6 l a ++ [.lp r,.c (mX x)]) fun v K => v = .d (.b true) ∧ K = gH N i 6 l (a ++ [(x,6)]) ++ [.lp r,.c (mX x)]:=by
   intro x a ha;refine Az hr rfl rfl rfl ?_;unfold CG mX;unfold gH hC;simp only [List.cons_append,List.nil_append];refine wd Bd [] [] A0 A0 ?_;refine zR ?_;refine wd Bd [] [(0,6),(1,6),(2,6),(3,6),(4,6),(0,7)] A0 A0 ?_;refine ⟨⟨[],[.c (hC N (.sl 5 (a ++ [(x,6)]).length 16)),.c [.ptr 0 0 77],.c (Kc i (.d (.is i.left))),.c [.d (.i .u8 6)],.c [.d (BK l)],.a (AI (a ++ [(x,6)])),.lp r.busy,.c (mX x)],_⟩,(have nC:=And.intro @AI.eq_1 @CG.eq_1;A3.cn rfl),Nat.le_refl _,rfl,rfl,rfl⟩
  refine zT A6 Tryz.func290 ?_;refine wk Dn [] A0 A0 ?_;refine Cj (fun k : Nat => k ≤ l.length) (fun k : Nat => [(8,.d (.i .i64 k))]) (fun k => [(0,.c (hC N (.sl 5 (Al 6 (l.take k)).length 16))),(5,.a (AI (Al 6 (l.take k))))]) (fun k => l.length - k) 0 (Nat.zero_le _) (fun _ => rfl) (fun _ => rfl) ?_ ?_
  ·subst hN;exact A3.ck rfl
  intro k0 hk0
  by_cases hkl : k0 < l.length
  ·obtain ⟨x,hx⟩:=Aa hkl;have hy:=hY x (Al 6 (l.take k0)) (by rw [List.length_map,List.length_take];omega)
   have e1 : Al 6 (l.take k0) ++ [(x,6)] = Al 6 (l.take (k0 + 1)):=by
    rw [AP hx];simp [Al]
   rw [e1] at hy;unfold gH CG mX at hy;simp only [List.cons_append,List.nil_append] at hy;have ix1:=hx;have q1:=@hy;refine wk Dn [] A0 A0 ?_;clear q1 ix1;with_reducible repeat' first|constructor|intro hc;try simp only[AD] at hc
   refine ⟨k0 + 1,hkl,by omega,Nat.le_refl _,?_⟩;exact A3.ck rfl
  ·have e : k0 = l.length:=by omega
   subst e;rw [List.take_length];refine wk Dn [] A0 A0 ?_;with_reducible repeat' first|constructor|intro hc;try simp only[AD] at hc
   exact ⟨_,A3.refl _,Nat.le_refl _,_,_,rfl,rfl,rfl⟩
 ·rintro r hr x H' rfl;refine .inl ⟨rfl,?_⟩;refine wd Bd [9] [] A0 A0 ?_;unfold gH;simp only [List.cons_append,List.nil_append];refine Ap (A3.freeze 5 (x:=AI (Al 6 l)) rfl) (by rw [Cu];exact Nat.le_refl _) ?_;unfold hC at *;simp only [IE,D8];simp only [A5.Dc,AV.Dc,AV.Gd,Hz,Nat.reduceEqDiff,Nat.reduceAdd,decide_true,decide_false,AB,List.length_cons,List.length_nil,List.length_map,if_true,if_false,reduceCtorEq];refine wd Bd [] [] A0 A0 ?_;exact ⟨⟨[],[.c (hC N (.d (AI (Al 6 l))))],_⟩,A3.cut rfl trivial ⟨.inr (EB N (AI (Al 6 l)) _ (by simp [AB])).symm,trivial⟩ rfl rfl,Nat.le_of_ble_eq_true rfl,_,_,rfl,rfl,rfl,rfl⟩
theorem gm (n : Node) (j : Job) (ended : Bool) (l : List A8) (hl : l.length ≤ 100000) : Ao Tryz.prog 132 [.ptr 0 0 77,.d (.i .u8 6),.d (.b ended),.d j.d,.d (BK l),.d (.b false)] [.c (hC n .e0)] (.tup []) [.c (hC { n with mirror:=j } (.d (AI (Al 6 l))))]:=by
 have c1:=Ie n;have c3:=Gv 6 l;refine zD A6 Tryz.func132 ?_;obtain ⟨N,hN⟩ : ∃ N : Node,N = { n with mirror:=j }:=⟨_,rfl⟩;rw [← hN];unfold hC Job.d Job.cells at *;have d1:=Ds.mk [0] (c1);have d2:=Ds.mk [] (c3);refine wd Bd [] [] A0 A0 ?_;clear d2 d1;refine Ap (A3.EO 0 76 (.sl 16 []) rfl rfl rfl rfl (by simp [A4])) (by simp) ?_;refine zG (K:=fun r _ H' => H' = gH N j 6 l (Al 6 l) ++ [.lp r]) ?_ ?_
 ·intro r hr;have hk:=hr.ok (k:=6) rfl
  have hY : ∀ (x : A8) (a : List (A8 × Int)),a.length ≤ 1000000 → YT Tryz.prog 6 [.d (.agg (CG (x,6)))] (gH N j 6 l a ++ [.lp r,.c (mX x)]) fun v K => v = .d (.b true) ∧ K = gH N j 6 l (a ++ [(x,6)]) ++ [.lp r,.c (mX x)]:=by
   intro x a ha;refine Az hr rfl rfl rfl ?_;unfold CG mX;unfold gH hC;simp only [List.cons_append,List.nil_append];refine wd Bd [] [] A0 A0 ?_;refine zR ?_;refine wd Bd [] [(0,6),(1,6),(2,6),(3,6),(4,6),(0,7)] A0 A0 ?_;refine ⟨⟨[],[.c (hC N (.sl 5 (a ++ [(x,6)]).length 16)),.c [.ptr 0 0 77],.c (Kc j (.d (.is j.left))),.c [.d (.i .u8 6)],.c [.d (BK l)],.a (AI (a ++ [(x,6)])),.lp r.busy,.c (mX x)],_⟩,(have nC:=And.intro @AI.eq_1 @CG.eq_1;A3.cn rfl),Nat.le_refl _,rfl,rfl,rfl⟩
  refine zT A6 Tryz.func290 ?_;refine wk Dn [] A0 A0 ?_;refine Cj (fun k : Nat => k ≤ l.length) (fun k : Nat => [(8,.d (.i .i64 k))]) (fun k => [(0,.c (hC N (.sl 5 (Al 6 (l.take k)).length 16))),(5,.a (AI (Al 6 (l.take k))))]) (fun k => l.length - k) 0 (Nat.zero_le _) (fun _ => rfl) (fun _ => rfl) ?_ ?_
  ·subst hN;exact A3.ck rfl
  intro k0 hk0
  by_cases hkl : k0 < l.length
  ·obtain ⟨x,hx⟩:=Aa hkl;have hy:=hY x (Al 6 (l.take k0)) (by rw [List.length_map,List.length_take];omega)
   have e1 : Al 6 (l.take k0) ++ [(x,6)] = Al 6 (l.take (k0 + 1)):=by
    rw [AP hx];simp [Al]
   rw [e1] at hy;unfold gH CG mX at hy;simp only [List.cons_append,List.nil_append] at hy;have ix1:=hx;have q1:=@hy;refine wk Dn [] A0 A0 ?_;clear q1 ix1;with_reducible repeat' first|constructor|intro hc;try simp only[AD] at hc
   refine ⟨k0 + 1,hkl,by omega,Nat.le_refl _,?_⟩;exact A3.ck rfl
  ·have e : k0 = l.length:=by omega
   subst e;rw [List.take_length];refine wk Dn [] A0 A0 ?_;with_reducible repeat' first|constructor|intro hc;try simp only[AD] at hc
   exact ⟨_,A3.refl _,Nat.le_refl _,_,_,rfl,rfl,rfl⟩
 ·rintro r hr x H' rfl;refine .inl ⟨rfl,?_⟩;refine wd Bd [9] [] A0 A0 ?_;unfold gH;simp only [List.cons_append,List.nil_append];refine Ap (A3.freeze 5 (x:=AI (Al 6 l)) rfl) (by rw [Cu];exact Nat.le_refl _) ?_;unfold hC at *;simp only [IE,D8];simp only [A5.Dc,AV.Dc,AV.Gd,Hz,Nat.reduceEqDiff,Nat.reduceAdd,decide_true,decide_false,AB,List.length_cons,List.length_nil,List.length_map,if_true,if_false,reduceCtorEq];refine wd Bd [] [] A0 A0 ?_;exact ⟨⟨[],[.c (hC N (.d (AI (Al 6 l))))],_⟩,A3.cut rfl trivial ⟨.inr (EB N (AI (Al 6 l)) _ (by simp [AB])).symm,trivial⟩ rfl rfl,Nat.le_of_ble_eq_true rfl,_,_,rfl,rfl,rfl,rfl⟩
theorem gu (n : Node) (j : Job) (ended : Bool) (l : List A8) (hl : l.length ≤ 100000) (hn : n.keep.length ≤ 1048576) (hs : 0 ≤ j.item.key.length) (k : List Item) (i : Job) (hT : Bc n.keep j = (k,i)) : Ao Tryz.prog 132 [.ptr 0 0 77,.d (.i .u8 7),.d (.b ended),.d j.d,.d (BK l),.d (.b true)] [.c (hC n .e0)] (.tup []) [.c (hC { n with keep:=k,client:=i } (.d (AI (Al 7 l))))]:=by
 have c1:=If n;have c3:=Gv 7 l;have c2:=Qm n j hn hs;rw [hT] at c2;dsimp only at c2;refine zD A6 Tryz.func132 ?_;obtain ⟨N,hN⟩ : ∃ N : Node,N = { n with keep:=k,client:=i }:=⟨_,rfl⟩;rw [← hN];unfold hC Job.d Job.cells at *;have d1:=Ds.mk [0] (c1);have d2:=Ds.mk [0,2] (c2);have d3:=Ds.mk [] (c3);refine wd Bd [] [] A0 A0 ?_;clear d3 d2 d1;refine Ap (A3.EO 0 76 (.sl 16 []) rfl rfl rfl rfl (by simp [A4])) (by simp) ?_;refine zG (K:=fun r _ H' => H' = gH N i 7 l (Al 7 l) ++ [.lp r]) ?_ ?_
 ·intro r hr;have hk:=hr.ok (k:=6) rfl
  have hY : ∀ (x : A8) (a : List (A8 × Int)),a.length ≤ 1000000 → YT Tryz.prog 6 [.d (.agg (CG (x,7)))] (gH N i 7 l a ++ [.lp r,.c (mX x)]) fun v K => v = .d (.b true) ∧ K = gH N i 7 l (a ++ [(x,7)]) ++ [.lp r,.c (mX x)]:=by
   intro x a ha;refine Az hr rfl rfl rfl ?_;unfold CG mX;unfold gH hC;simp only [List.cons_append,List.nil_append];refine wd Bd [] [] A0 A0 ?_;refine zR ?_;refine wd Bd [] [(0,6),(1,6),(2,6),(3,6),(4,6),(0,7)] A0 A0 ?_;refine ⟨⟨[],[.c (hC N (.sl 5 (a ++ [(x,7)]).length 16)),.c [.ptr 0 0 77],.c (Kc i (.d (.is i.left))),.c [.d (.i .u8 7)],.c [.d (BK l)],.a (AI (a ++ [(x,7)])),.lp r.busy,.c (mX x)],_⟩,(have nC:=And.intro @AI.eq_1 @CG.eq_1;A3.cn rfl),Nat.le_refl _,rfl,rfl,rfl⟩
  refine zT A6 Tryz.func290 ?_;refine wk Dn [] A0 A0 ?_;refine Cj (fun k : Nat => k ≤ l.length) (fun k : Nat => [(8,.d (.i .i64 k))]) (fun k => [(0,.c (hC N (.sl 5 (Al 7 (l.take k)).length 16))),(5,.a (AI (Al 7 (l.take k))))]) (fun k => l.length - k) 0 (Nat.zero_le _) (fun _ => rfl) (fun _ => rfl) ?_ ?_
  ·subst hN;exact A3.ck rfl
  intro k0 hk0
  by_cases hkl : k0 < l.length
  ·obtain ⟨x,hx⟩:=Aa hkl;have hy:=hY x (Al 7 (l.take k0)) (by rw [List.length_map,List.length_take];omega)
   have e1 : Al 7 (l.take k0) ++ [(x,7)] = Al 7 (l.take (k0 + 1)):=by
    rw [AP hx];simp [Al]
   rw [e1] at hy;unfold gH CG mX at hy;simp only [List.cons_append,List.nil_append] at hy;have ix1:=hx;have q1:=@hy;refine wk Dn [] A0 A0 ?_;clear q1 ix1;with_reducible repeat' first|constructor|intro hc;try simp only[AD] at hc
   refine ⟨k0 + 1,hkl,by omega,Nat.le_refl _,?_⟩;exact A3.ck rfl
  ·have e : k0 = l.length:=by omega
   subst e;rw [List.take_length];refine wk Dn [] A0 A0 ?_;with_reducible repeat' first|constructor|intro hc;try simp only[AD] at hc
   exact ⟨_,A3.refl _,Nat.le_refl _,_,_,rfl,rfl,rfl⟩
 ·rintro r hr x H' rfl;refine .inl ⟨rfl,?_⟩;refine wd Bd [9] [] A0 A0 ?_;unfold gH;simp only [List.cons_append,List.nil_append];refine Ap (A3.freeze 5 (x:=AI (Al 7 l)) rfl) (by rw [Cu];exact Nat.le_refl _) ?_;unfold hC at *;simp only [IE,D8];simp only [A5.Dc,AV.Dc,AV.Gd,Hz,Nat.reduceEqDiff,Nat.reduceAdd,decide_true,decide_false,AB,List.length_cons,List.length_nil,List.length_map,if_true,if_false,reduceCtorEq];refine wd Bd [] [] A0 A0 ?_;exact ⟨⟨[],[.c (hC N (.d (AI (Al 7 l))))],_⟩,A3.cut rfl trivial ⟨.inr (EB N (AI (Al 7 l)) _ (by simp [AB])).symm,trivial⟩ rfl rfl,Nat.le_of_ble_eq_true rfl,_,_,rfl,rfl,rfl,rfl⟩
theorem gr (n : Node) (j : Job) (ended : Bool) (l : List A8) (hl : l.length ≤ 100000) : Ao Tryz.prog 132 [.ptr 0 0 77,.d (.i .u8 7),.d (.b ended),.d j.d,.d (BK l),.d (.b false)] [.c (hC n .e0)] (.tup []) [.c (hC { n with client:=j } (.d (AI (Al 7 l))))]:=by
 have c1:=If n;have c3:=Gv 7 l;refine zD A6 Tryz.func132 ?_;obtain ⟨N,hN⟩ : ∃ N : Node,N = { n with client:=j }:=⟨_,rfl⟩;rw [← hN];unfold hC Job.d Job.cells at *;have d1:=Ds.mk [0] (c1);have d2:=Ds.mk [] (c3);refine wd Bd [] [] A0 A0 ?_;clear d2 d1;refine Ap (A3.EO 0 76 (.sl 16 []) rfl rfl rfl rfl (by simp [A4])) (by simp) ?_;refine zG (K:=fun r _ H' => H' = gH N j 7 l (Al 7 l) ++ [.lp r]) ?_ ?_
 ·intro r hr;have hk:=hr.ok (k:=6) rfl
  have hY : ∀ (x : A8) (a : List (A8 × Int)),a.length ≤ 1000000 → YT Tryz.prog 6 [.d (.agg (CG (x,7)))] (gH N j 7 l a ++ [.lp r,.c (mX x)]) fun v K => v = .d (.b true) ∧ K = gH N j 7 l (a ++ [(x,7)]) ++ [.lp r,.c (mX x)]:=by
   intro x a ha;refine Az hr rfl rfl rfl ?_;unfold CG mX;unfold gH hC;simp only [List.cons_append,List.nil_append];refine wd Bd [] [] A0 A0 ?_;refine zR ?_;refine wd Bd [] [(0,6),(1,6),(2,6),(3,6),(4,6),(0,7)] A0 A0 ?_;refine ⟨⟨[],[.c (hC N (.sl 5 (a ++ [(x,7)]).length 16)),.c [.ptr 0 0 77],.c (Kc j (.d (.is j.left))),.c [.d (.i .u8 7)],.c [.d (BK l)],.a (AI (a ++ [(x,7)])),.lp r.busy,.c (mX x)],_⟩,(have nC:=And.intro @AI.eq_1 @CG.eq_1;A3.cn rfl),Nat.le_refl _,rfl,rfl,rfl⟩
  refine zT A6 Tryz.func290 ?_;refine wk Dn [] A0 A0 ?_;refine Cj (fun k : Nat => k ≤ l.length) (fun k : Nat => [(8,.d (.i .i64 k))]) (fun k => [(0,.c (hC N (.sl 5 (Al 7 (l.take k)).length 16))),(5,.a (AI (Al 7 (l.take k))))]) (fun k => l.length - k) 0 (Nat.zero_le _) (fun _ => rfl) (fun _ => rfl) ?_ ?_
  ·subst hN;exact A3.ck rfl
  intro k0 hk0
  by_cases hkl : k0 < l.length
  ·obtain ⟨x,hx⟩:=Aa hkl;have hy:=hY x (Al 7 (l.take k0)) (by rw [List.length_map,List.length_take];omega)
   have e1 : Al 7 (l.take k0) ++ [(x,7)] = Al 7 (l.take (k0 + 1)):=by
    rw [AP hx];simp [Al]
   rw [e1] at hy;unfold gH CG mX at hy;simp only [List.cons_append,List.nil_append] at hy;have ix1:=hx;have q1:=@hy;refine wk Dn [] A0 A0 ?_;clear q1 ix1;with_reducible repeat' first|constructor|intro hc;try simp only[AD] at hc
   refine ⟨k0 + 1,hkl,by omega,Nat.le_refl _,?_⟩;exact A3.ck rfl
  ·have e : k0 = l.length:=by omega
   subst e;rw [List.take_length];refine wk Dn [] A0 A0 ?_;with_reducible repeat' first|constructor|intro hc;try simp only[AD] at hc
   exact ⟨_,A3.refl _,Nat.le_refl _,_,_,rfl,rfl,rfl⟩
 ·rintro r hr x H' rfl;refine .inl ⟨rfl,?_⟩;refine wd Bd [9] [] A0 A0 ?_;unfold gH;simp only [List.cons_append,List.nil_append];refine Ap (A3.freeze 5 (x:=AI (Al 7 l)) rfl) (by rw [Cu];exact Nat.le_refl _) ?_;unfold hC at *;simp only [IE,D8];simp only [A5.Dc,AV.Dc,AV.Gd,Hz,Nat.reduceEqDiff,Nat.reduceAdd,decide_true,decide_false,AB,List.length_cons,List.length_nil,List.length_map,if_true,if_false,reduceCtorEq];refine wd Bd [] [] A0 A0 ?_;exact ⟨⟨[],[.c (hC N (.d (AI (Al 7 l))))],_⟩,A3.cut rfl trivial ⟨.inr (EB N (AI (Al 7 l)) _ (by simp [AB])).symm,trivial⟩ rfl rfl,Nat.le_of_ble_eq_true rfl,_,_,rfl,rfl,rfl,rfl⟩
abbrev Zg : AV:=.fn (.func 128) [] [.ptr 0 0 77,.ptr 1 0 15]
abbrev Zf : AV:=.fn (.func 130) [] [.ptr 0 0 77,.ptr 1 0 15]
theorem Tf (n : Node) (m : A8) (w : Int) : Ao Tryz.prog 211 [.d (.i .u8 w),.ptr 3 0 1,.ptr 2 0 1] ([.c (hC n .e0),.c (mX m),.c [.ptr 0 0 77],.c [Zf]]) (.fn (.func 212) [] [.ptr 3 0 1,.ptr 4 0 1,.ptr 2 0 1]) ([.c (hC n .e0),.c (mX m),.c [.ptr 0 0 77],.c [Zf],.c [.d (.i .u8 w)]]):=by
 refine zD A6 Tryz.func211 ?_;refine wk [0,1,2,3,4] [] A0 A0 ?_;exact ⟨_,(A3.ck rfl),Nat.le_of_ble_eq_true rfl,_,_,rfl,rfl,rfl,rfl⟩
abbrev ka : List (D × AV):=[(.i .u8 1,Zg),(.i .u8 2,Zg),(.i .u8 3,Zg),(.i .u8 5,.fn (.func 212) [] [.ptr 3 0 1,.ptr 5 0 1,.ptr 2 0 1]),(.i .u8 6,.fn (.func 212) [] [.ptr 3 0 1,.ptr 6 0 1,.ptr 2 0 1]),(.i .u8 7,.fn (.func 212) [] [.ptr 3 0 1,.ptr 7 0 1,.ptr 2 0 1])]
theorem Wm (n : Node) (m : A8) : Ao Tryz.prog 133 [.ptr 0 0 77,Zg,Zf] ([.c (hC n .e0),.c (mX m)]) (.mp 4) ([.c (hC n .e0),.c (mX m),.c [.ptr 0 0 77],.c [Zf],.m ka,.c [.d (.i .u8 5)],.c [.d (.i .u8 6)],.c [.d (.i .u8 7)]]):=by
 have c5:=Tf n m 5;have c6:=Tf n m 6;have c7:=Tf n m 7;refine zD A6 Tryz.func133 ?_;have d1:=Ds.mk [0,1,2,3] (c5);have d2:=Ds.mk [0,1,2,3] (c6);have d3:=Ds.mk [0,1,2,3] (c7);refine wk [0,1,2,3,5,6,7] [] A0 A0 ?_;clear d3 d2 d1;exact ⟨_,(A3.ck rfl),Nat.le_of_ble_eq_true rfl,_,_,rfl,rfl,rfl,rfl⟩
abbrev IA : AV:=.fn (.func 232) [] [.ptr 0 0 77]
abbrev E7 : AV:=.fn (.func 233) [] [.ptr 0 0 77]
theorem TL (n : Node)  (w : Int) : Ao Tryz.prog 211 [.d (.i .u8 w),.ptr 2 0 1,.ptr 1 0 1] ([.c (hC n .e0),.c [.ptr 0 0 77],.c [E7]]) (.fn (.func 212) [] [.ptr 2 0 1,.ptr 3 0 1,.ptr 1 0 1]) ([.c (hC n .e0),.c [.ptr 0 0 77],.c [E7],.c [.d (.i .u8 w)]]):=by
 refine zD A6 Tryz.func211 ?_;refine wk [0,1,2,3,4] [] A0 A0 ?_;exact ⟨_,(A3.ck rfl),Nat.le_of_ble_eq_true rfl,_,_,rfl,rfl,rfl,rfl⟩
abbrev KH : List (D × AV):=[(.i .u8 1,IA),(.i .u8 2,IA),(.i .u8 3,IA),(.i .u8 5,.fn (.func 212) [] [.ptr 2 0 1,.ptr 4 0 1,.ptr 1 0 1]),(.i .u8 6,.fn (.func 212) [] [.ptr 2 0 1,.ptr 5 0 1,.ptr 1 0 1]),(.i .u8 7,.fn (.func 212) [] [.ptr 2 0 1,.ptr 6 0 1,.ptr 1 0 1])]
theorem Bv (n : Node)  : Ao Tryz.prog 133 [.ptr 0 0 77,IA,E7] ([.c (hC n .e0)]) (.mp 3) ([.c (hC n .e0),.c [.ptr 0 0 77],.c [E7],.m KH,.c [.d (.i .u8 5)],.c [.d (.i .u8 6)],.c [.d (.i .u8 7)]]):=by
 have c5:=TL n  5;have c6:=TL n  6;have c7:=TL n  7;refine zD A6 Tryz.func133 ?_;have d1:=Ds.mk [0,1,2] (c5);have d2:=Ds.mk [0,1,2] (c6);have d3:=Ds.mk [0,1,2] (c7);refine wk [0,1,2,3,5,6,7] [] A0 A0 ?_;clear d3 d2 d1;exact ⟨_,(A3.ck rfl),Nat.le_of_ble_eq_true rfl,_,_,rfl,rfl,rfl,rfl⟩
end Nd
end Go.Proofs.YtkljbfejbakooaaGreatDoor
namespace Go.Proofs.YtkljbfejbakooaaGreatDoor
namespace Wi
open Go.Gar
set_option maxRecDepth 4000
def Ng (k : Int) : Nat:=if k = 4 then 261 else if k = 5 then 263 else if k = 6 then 265 else if k = 7 then 267 else if k = 10 then 269 else if k = 11 then 270 else 271
theorem dt (m : A8) (b : List UInt8) (hb : b.length < 70368744177664) (h : Ey m b = none) : Jj Tryz.prog (Ng m.kind) [.ptr 0 0 1,.ptr 1 0 1] (gH m b) (pF 12) gX:=by
 unfold Ey at h;unfold Ng
 by_cases h4 : m.kind = 4
 ·rw [if_pos h4] at h ⊢;split at h
  ·rename_i h1;exact iU m b hb h1
  ·rename_i n b1 h1;split at h
   ·rename_i h2;exact iV m b hb n b1 h1 h2
   ·cases h
 rw [if_neg h4] at h ⊢
 by_cases h5 : m.kind = 5
 ·rw [if_pos h5] at h ⊢;split at h
  ·rename_i h1;exact iW m b hb h1
  ·cases h
 rw [if_neg h5] at h ⊢
 by_cases h6 : m.kind = 6
 ·rw [if_pos h6] at h ⊢;split at h
  ·rename_i h1;exact iX m b hb h1
  ·cases h
 rw [if_neg h6] at h ⊢
 by_cases h7 : m.kind = 7
 ·rw [if_pos h7] at h ⊢;split at h
  ·rename_i h1;exact iY m b hb h1
  ·rename_i n b1 h1;split at h
   ·rename_i h2;exact iZ m b hb n b1 h1 h2
   ·cases h
 rw [if_neg h7] at h ⊢
 by_cases h10 : m.kind = 10
 ·rw [if_pos h10] at h ⊢;split at h
  ·rename_i h1;exact ia m b hb h1
  ·rename_i n b1 h1;split at h
   ·rename_i h2;exact ib m b hb n b1 h1 h2
   ·cases h
 rw [if_neg h10] at h ⊢
 by_cases h11 : m.kind = 11
 ·rw [if_pos h11] at h ⊢;split at h
  ·rename_i h1;exact ic m b hb h1
  ·cases h
 rw [if_neg h11] at h ⊢;split at h
 ·split at h
  ·rename_i h1;exact ie m b hb h1
  ·rename_i n b1 h1;split at h
   ·rename_i hn;subst hn;split at h
    ·rename_i h2;exact ii m b hb b1 h1 h2
    ·cases h
   ·cases h
 ·cases h
def special (k : Int) : Prop:=k = 4 ∨ k = 5 ∨ k = 6 ∨ k = 7 ∨ k = 10 ∨ k = 11 ∨ k = 12
theorem Vb (m : A8) (b : List UInt8) (hb : b.length < 70368744177664) (m' : A8) (r : List UInt8) (h : Ey m b = some (m',r)) (hs : special m.kind) : Ao Tryz.prog (Ng m.kind) [.ptr 0 0 1,.ptr 1 0 1] (gH m b) (.tup []) (gH m' r):=by
 unfold Ey at h;unfold Ng
 by_cases h4 : m.kind = 4
 ·rw [if_pos h4] at h ⊢;split at h
  ·cases h
  ·rename_i n b1 h1;split at h
   ·cases h
   ·rename_i g b2 h2;cases h;exact kr m b hb n b1 h1 g _ h2
 rw [if_neg h4] at h ⊢
 by_cases h5 : m.kind = 5
 ·rw [if_pos h5] at h ⊢;split at h
  ·cases h
  ·rename_i x b1 h1;cases h;exact ku m b hb x _ h1
 rw [if_neg h5] at h ⊢
 by_cases h6 : m.kind = 6
 ·rw [if_pos h6] at h ⊢;split at h
  ·cases h
  ·rename_i s b1 h1;cases h;exact kw m b hb s _ h1
 rw [if_neg h6] at h ⊢
 by_cases h7 : m.kind = 7
 ·rw [if_pos h7] at h ⊢;split at h
  ·cases h
  ·rename_i n b1 h1;split at h
   ·cases h
   ·rename_i l b2 h2;cases h;exact kx m b hb n b1 h1 l _ h2
 rw [if_neg h7] at h ⊢
 by_cases h10 : m.kind = 10
 ·rw [if_pos h10] at h ⊢;split at h
  ·cases h
  ·rename_i n b1 h1;split at h
   ·cases h
   ·rename_i g b2 h2;cases h;exact kz m b hb n b1 h1 g _ h2
 rw [if_neg h10] at h ⊢
 by_cases h11 : m.kind = 11
 ·rw [if_pos h11] at h ⊢;split at h
  ·cases h
  ·rename_i n b1 h1;cases h;exact l8 m b hb n _ h1
 rw [if_neg h11] at h ⊢;have h12 : m.kind = 12:=by unfold special at hs;omega
 rw [if_pos h12] at h;split at h
 ·cases h
 ·rename_i n b1 h1;split at h
  ·rename_i hn;subst hn;split at h
   ·cases h
   ·rename_i x b2 h2;cases h;exact ij m b hb b1 h1 x _ h2
  ·rename_i hn;cases h;exact l9 m b hb n _ h1 hn
theorem IU (m : A8) (b : List UInt8) (hs : ¬ special m.kind) : Ey m b = some (m,b):=by
 unfold special at hs;unfold Ey;rw [if_neg (by omega),if_neg (by omega),if_neg (by omega),if_neg (by omega),if_neg (by omega),if_neg (by omega),if_neg (by omega)]
def U4 : List (D × AV):=[(.i .u8 4,.fn (.func 261) [] [.ptr 3 0 1,.ptr 2 0 1]),(.i .u8 5,.fn (.func 263) [] [.ptr 3 0 1,.ptr 2 0 1]),(.i .u8 6,.fn (.func 265) [] [.ptr 3 0 1,.ptr 2 0 1]),(.i .u8 7,.fn (.func 267) [] [.ptr 3 0 1,.ptr 2 0 1]),
 (.i .u8 10,.fn (.func 269) [] [.ptr 3 0 1,.ptr 2 0 1]),(.i .u8 11,.fn (.func 270) [] [.ptr 3 0 1,.ptr 2 0 1]),(.i .u8 12,.fn (.func 271) [] [.ptr 3 0 1,.ptr 2 0 1])]
theorem Le (m : A8) (b : List UInt8) : Ao Tryz.prog 182 [.ptr 0 0 15,.ptr 1 0 1] [.c (mC m),.c [.d (.by b)]] (.mp 4) [.c (mC m),.c [.d (.by b)],.c [.ptr 0 0 15],.c [.ptr 1 0 1],.m U4]:=by
 refine zD A6 Tryz.func182 ?_;unfold U4 mC;refine wk [0,1,2,3,4] [] A0 A0 ?_;exact ⟨_,A3.refl _,Nat.le_of_ble_eq_true rfl,_,_,rfl,rfl,rfl,rfl⟩
theorem OT (H : List A5) : LA Tryz.prog 179 [.ptr 0 0 15,.ptr 1 0 1] H .returning H:=by
 refine Io Tryz.func179 rfl rfl (Nat.le_of_ble_eq_true rfl) fun c0 cs hu => ?_;refine I6 (Is ?_)
 refine cL rfl rfl rfl rfl (.inl ⟨by simp [recoverD,hu],rfl,rfl⟩) ?_;refine Sq A6 rfl rfl rfl rfl ?_ rfl;refine MN ?_;refine I6 (EN ?_);refine Kq A6 rfl rfl rfl rfl ?_ rfl;refine Kn A6 rfl rfl rfl rfl ?_;refine Ck ?_;refine ML rfl (Ut ?_);exact ⟨.returning,by rw [← hu],rfl,_,A3.refl _,Nat.le_refl _,rfl⟩
def zC : List AV:=[.d (.i .u8 0),.d (.i .i64 0),.d (.i .i64 0),.d (.i .i64 0),.d (.i .i64 0),.d (.b false),.d (.b false),.d (.i .i64 0),.d (.i .i64 0),.e0,.d (.s []),.d (.i .i64 0),.d (.i .i64 0),.d (.b false),.d (.i .i64 0)]
theorem EM (c0 c1 c2 c3 c4 c5 c6 c7 c8 c9 c10 c11 c12 c13 c14 y : AV) (R : List A5) (n : Int) : LA Tryz.prog 179 [.ptr 0 0 15,.ptr 1 0 1] (.c [c0,c1,c2,c3,c4,c5,c6,c7,c8,c9,c10,c11,c12,c13,c14] :: .c [y] :: R) (.panicking (pF n)) (.c zC :: .c [.d (.i .i64 n)] :: R):=by
 have hc:=RU n 12;refine Io Tryz.func179 rfl rfl (Nat.le_of_ble_eq_true rfl) fun c0 cs hu => ?_
 refine I6 (Is ?_);refine cL (cs':={ c0 with mode:=.panicking [{ v:=.iface 224 (.agg #[.int .i64 n]),recovered:=true }] } :: cs) rfl rfl rfl rfl (.inr ⟨224,.agg #[.int .i64 n],by simp [recoverD,hu,pF],rfl⟩) ?_;refine Sq A6 rfl rfl rfl rfl ?_ rfl;refine MN ?_;refine I6 (EN ?_);refine Kq A6 rfl rfl rfl rfl ?_ rfl;refine Kn A6 rfl rfl rfl rfl ?_;refine Ck ?_;refine ML rfl (EN ?_);refine Kq A6 rfl rfl rfl rfl ?_ rfl;refine Kq A6 rfl rfl rfl rfl ?_ rfl;refine KF hc rfl rfl rfl rfl (by simp [Ho,Bt,BN]) rfl rfl ?_;refine Kw A6 rfl rfl rfl rfl ?_ rfl;refine Kw A6 rfl rfl rfl rfl ?_ rfl;refine Ck ?_;exact ⟨_,rfl,rfl,_,A3.refl _,Nat.le_refl _,rfl⟩
end Wi
end Go.Proofs.YtkljbfejbakooaaGreatDoor
