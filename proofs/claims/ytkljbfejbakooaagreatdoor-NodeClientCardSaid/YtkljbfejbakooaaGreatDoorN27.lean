/- Part 27 of a proof, put together by a program. Conditions: none beyond those that a theorem states. -/
import Derived.Test.YtkljbfejbakooaaGreatDoorN25
set_option linter.unusedSimpArgs false
set_option linter.unusedVariables false
set_option linter.unnecessarySimpa false
set_option maxHeartbeats 40000000
namespace Go.Proofs.YtkljbfejbakooaaGreatDoor
namespace Nd
open Go.Gar
open Wi (A8 B7 AU AC B2 mC)
set_option maxRecDepth 4000
abbrev FQ : List Nat:=[0,1,2,3,6,7,8,20,21,28,58]
abbrev L4 : List Nat:=[0,1,2,4,5,12,13,14,15,30]
theorem Ws (n : Int) (l : List Int) : Ao Tryz.prog 335 [.d (.i .i64 n),.d (.is l)] [] (.fn (.func 360) [] [.ptr 1 0 1,.ptr 0 0 1]) [.c [.d (.i .i64 n)],.c [.d (.is l)]]:=by
 refine zD A6 Tryz.func335 ?_;refine wk [0,1,2,3,4] [] A0 A0 ?_;exact ⟨_,(A3.ck rfl),Nat.zero_le _,_,_,rfl,rfl,rfl,rfl⟩
def Gi (l : List Int) : Nat → List Int
 | 0 => []
 | k + 1 => if l.getD k 0 ∈ l.take k then Gi l k else Gi l k ++ [l.getD k 0]
theorem Vg (l : List Int) : ∀ k,(Gi l k).length ≤ k
 | 0 => Nat.le_refl _
 | k + 1 => by
  have:=Vg l k;unfold Gi;split
  ·omega
  ·rw [List.length_append,List.length_singleton];omega
theorem onc3 (a : Int) (l : List Int) : Gi ((a :: l).take 3) ((a :: l).take 3).length = Hs (a :: l):=by
 match l with
 | [] => simp [Gi,Hs]
 | [b] => by_cases h : b = a <;> simp [Gi,Hs,h]
 | b :: c :: r =>
  by_cases h : b = a <;> by_cases h2 : c = a <;> by_cases h3 : c = b <;> simp [Gi,Hs,h,h2,h3] <;> simp_all
abbrev OK (id : Int) (l : List Int) : List Int:=l.filter fun p => p != id
abbrev fN (v : View) (j : Job) (lf : List Int) (l : List A8) (own : Bool) (P : List Int) (r : Lp) : List A5:=[.c (jC v j (.sl 6 lf.length 1) (.sl 7 l.length 15) own),.c [.ptr 0 0 37],.c [.ptr 0 20 37],.gone,.c [.d (.i .i64 3)],.c [.d (.is P)],.a (.is lf),.a (BK l),.lp r]
theorem dY (v : View) (j : Job) (owner : Int) (list : List Int) (hn : list.length ≤ 1048576) : Ao Tryz.prog 285 [.ptr 0 0 37,.d (.i .i64 owner),.d (.is list)] [.c (jC v j (.d (.is j.left)) .e0 false)] (.tup []) [.c (jC v (IM v.id j owner list).job (.d (.is (IM v.id j owner list).job.left)) (.d (BK (IM v.id j owner list).asks)) (IM v.id j owner list).own)]:=by
 have c1:=Ws 3 (owner :: list);have hO : Gi ((owner :: list).take 3) ((owner :: list).take 3).length = Hs (owner :: list):=onc3 owner list;refine zD A6 Tryz.func285 ?_;unfold jC;have ow : Lv [16]:=trivial;refine wd FQ [4] [] A0 A0 ?_;clear ow;refine Ap (A3.freeze 3 (x:=.is (owner :: list)) rfl) (by rw [Cu];exact Nat.le_refl _) ?_;simp only [IE,D8,A5.Dc,AV.Dc,AV.Gd,Hz,Nat.reduceEqDiff,Nat.reduceAdd,decide_true,decide_false,AB,List.length_cons,List.length_nil,if_true,if_false,reduceCtorEq];have d1:=Ds.mk [] (c1);refine wd FQ [] [] A0 A0 ?_;clear d1;refine Ap (A3.EO 0 33 (.is []) rfl rfl rfl rfl trivial) (by simp) ?_;refine Ap (A3.EO 0 35 (.sl 15 []) rfl rfl rfl rfl (by simp [A4])) (by simp) ?_;generalize hP : owner :: list = P at *;have hPl : P.length ≤ 1048577:=by rw [← hP,List.length_cons];omega
 have hJ : IM v.id j owner list = ⟨⟨j.what,if OK v.id (Gi (P.take 3) (P.take 3).length) = [] then 5 else 3,j.look,j.item,j.owner,OK v.id (Gi (P.take 3) (P.take 3).length),j.code⟩,(OK v.id (Gi (P.take 3) (P.take 3).length)).map (D6 j.item),decide (v.id ∈ Gi (P.take 3) (P.take 3).length)⟩:=by
  rw [hO];unfold IM;rw [hP]
 rw [hJ];clear hJ hO;generalize hQ : P.take 3 = P3 at *;have hP3 : P3.length ≤ 3:=by rw [← hQ];exact List.length_take_le _ _
 refine zG (K:=fun r _ H' => H' = fN v j (OK v.id (Gi P3 P3.length)) ((OK v.id (Gi P3 P3.length)).map (D6 j.item)) (decide (v.id ∈ Gi P3 P3.length)) P3 r) ?_ ?_
 ·intro r hr;have hk:=hr.ok (k:=8) rfl
  have hY1 : ∀ (p : Int) (lf : List Int) (l : List A8) (own : Bool),p = v.id → YT Tryz.prog 8 [.d (.i .i64 p)] (fN v j lf l own P3 r) fun x K => x = .d (.b true) ∧ K = fN v j lf l true P3 r:=by
   intro p lf l own hp;have f1:=AS hp;refine Az hr rfl rfl rfl ?_;unfold fN jC;refine wd FQ [] [] A0 A0 ?_;refine zR ?_;refine wd FQ [] [] (AF f1) A0 ?_;exact ⟨_,A3.refl _,Nat.le_refl _,rfl,rfl,rfl⟩
  have hY2 : ∀ (p : Int) (lf : List Int) (l : List A8) (own : Bool),p ≠ v.id → lf.length ≤ 1000 → l.length ≤ 1000 → YT Tryz.prog 8 [.d (.i .i64 p)] (fN v j lf l own P3 r) fun x K => x = .d (.b true) ∧ K = fN v j (lf ++ [p]) (l ++ [D6 j.item p]) own P3 r:=by
   intro p lf l own hp h1 h2;have f1:=eq_false' hp;have c2:=Ao.arg (cg v j (lf ++ [p]) l own (D6 j.item p) (by omega)) (aM 5 p 0 false j.item);refine Az hr rfl rfl rfl ?_;unfold fN;unfold jC at *;refine wd FQ [] [] A0 A0 ?_;refine zR ?_;have d1:=Ds.mk [0,6,7] (c2);refine wd FQ [] [(0,6),(1,6),(2,6),(3,6),(4,6),(0,7)] (AF f1) A0 ?_;clear d1;refine ⟨⟨[],[.c (jC v j (.sl 6 (lf ++ [p]).length 1) (.sl 7 (l ++ [D6 j.item p]).length 15) own),.c [.ptr 0 0 37],.c [.ptr 0 20 37],.gone,.c [.d (.i .i64 3)],.c [.d (.is P3)],.a (.is (lf ++ [p])),.a (BK (l ++ [D6 j.item p])),.lp r.busy],_⟩,(have nC:=And.intro @BK.eq_1 @Wi.A8.cells.eq_1;A3.cn rfl),Nat.le_refl _,rfl,rfl,rfl⟩
  refine zT A6 Tryz.func360 ?_;have e3 : (if (P.length : Int) < 3 then (P.length : Int) else 3) = ((min 3 P.length : Nat) : Int):=by split <;> omega
  have hQ' : P.take (min 3 P.length) = P3:=by
   rw [← hQ];rcases Nat.le_total 3 P.length with h | h
   ·rw [Nat.min_eq_left h]
   ·rw [Nat.min_eq_right h,List.take_of_length_le (Nat.le_refl _),List.take_of_length_le h]
  have hmin : min 3 P.length ≤ P.length:=Nat.min_le_right _ _;refine wk L4 [] (Aj e3 hQ') A0 ?_;refine Cj (fun k : Nat => k ≤ P3.length) (fun k : Nat => [(14,.d (.i .i64 k))]) (fun k => [(0,.c (jC v j (.sl 6 (OK v.id (Gi P3 k)).length 1) (.sl 7 ((OK v.id (Gi P3 k)).map (D6 j.item)).length 15) (decide (v.id ∈ Gi P3 k)))),(6,.a (.is (OK v.id (Gi P3 k)))),(7,.a (BK ((OK v.id (Gi P3 k)).map (D6 j.item))))]) (fun k => P3.length - k) 0 (Nat.zero_le _) (fun _ => rfl) (fun _ => rfl) ?_ ?_
  ·exact A3.ck rfl
  intro k hkl0
  by_cases hkl : k < P3.length
  ·obtain ⟨p,hp⟩:=Aa hkl;have gp:=Cm hp;have hlen:=Vg P3 k;have hfl : (OK v.id (Gi P3 k)).length ≤ 1000:=by have:=List.length_filter_le (fun p => p != v.id) (Gi P3 k);show (List.filter _ _).length ≤ _;omega
   have c3:=R5 (P3.take k) p (by rw [List.length_take];omega)
   have hon : Gi P3 (k + 1) = if p ∈ P3.take k then Gi P3 k else Gi P3 k ++ [p]:=by
    show (if P3.getD k 0 ∈ P3.take k then _ else _) = _;rw [gp]
   by_cases hin : p ∈ P3.take k
   ·rw [if_pos hin] at hon;rw [decide_eq_true hin] at c3;refine wk L4 [] (AF gp) (AF @c3) ?_;with_reducible repeat' first|constructor|intro hc;try simp only[AD] at hc
    refine ⟨k + 1,hkl,by omega,Nat.le_refl _,?_⟩;dsimp only;rw [hon];exact A3.ck rfl
   ·rw [if_neg hin] at hon;rw [decide_eq_false hin] at c3
    by_cases hpv : p = v.id
    ·have h1 : OK v.id (Gi P3 (k + 1)) = OK v.id (Gi P3 k):=by rw [hon];show List.filter _ _ = _;rw [List.filter_append];simp [hpv]
     have h2 : decide (v.id ∈ Gi P3 (k + 1)) = true:=by rw [hon];simp [hpv]
     have hy:=hY1 p (OK v.id (Gi P3 k)) ((OK v.id (Gi P3 k)).map (D6 j.item)) (decide (v.id ∈ Gi P3 k)) hpv;have q1:=@hy;refine wk L4 [] (AF gp) (AF @c3) ?_;clear q1;with_reducible repeat' first|constructor|intro hc;try simp only[AD] at hc
     refine ⟨k + 1,hkl,by omega,Nat.le_refl _,?_⟩;dsimp only;rw [h1,h2];exact A3.ck rfl
    ·have h1 : OK v.id (Gi P3 (k + 1)) = OK v.id (Gi P3 k) ++ [p]:=by rw [hon];show List.filter _ _ = _;rw [List.filter_append];simp [hpv]
     have h2 : decide (v.id ∈ Gi P3 (k + 1)) = decide (v.id ∈ Gi P3 k):=by rw [hon];simp [Ne.symm hpv]
     have hy:=hY2 p (OK v.id (Gi P3 k)) ((OK v.id (Gi P3 k)).map (D6 j.item)) (decide (v.id ∈ Gi P3 k)) hpv hfl (by rw [List.length_map];exact hfl);have h3 : (OK v.id (Gi P3 (k + 1))).map (D6 j.item) = (OK v.id (Gi P3 k)).map (D6 j.item) ++ [D6 j.item p]:=by rw [h1,List.map_append];rfl
     rw [← h1,← h3] at hy;have q1:=@hy;refine wk L4 [] (AF gp) (AF @c3) ?_;clear q1;with_reducible repeat' first|constructor|intro hc;try simp only[AD] at hc
     refine ⟨k + 1,hkl,by omega,Nat.le_refl _,?_⟩;dsimp only;rw [h2];exact A3.ck rfl
  ·have e : k = P3.length:=by omega
   subst e;refine wk L4 [] A0 A0 ?_;with_reducible repeat' first|constructor|intro hc;try simp only[AD] at hc
   exact ⟨_,A3.refl _,Nat.le_refl _,_,_,rfl,rfl,rfl⟩
 ·generalize Gi P3 P3.length = O at *;generalize hL : OK v.id O = L at *;generalize decide (v.id ∈ O) = own at *;rintro r hr x H' rfl;refine .inl ⟨rfl,?_⟩;refine wd FQ [10] [] A0 A0 ?_;unfold fN jC;simp only [List.set_cons_succ,List.set_cons_zero];refine Ap (A3.freeze 6 (x:=.is L) rfl) (by rw [Cu];exact Nat.le_refl _) ?_;simp only [IE,D8,A5.Dc,AV.Dc,AV.Gd,Hz,Nat.reduceEqDiff,Nat.reduceAdd,decide_true,decide_false,AB,List.length_cons,List.length_nil,if_true,if_false,reduceCtorEq];refine Ap (A3.freeze 7 (x:=BK (L.map (D6 j.item))) rfl) (by rw [Cu];exact Nat.le_refl _) ?_;simp only [IE,D8,A5.Dc,AV.Dc,AV.Gd,Hz,Nat.reduceEqDiff,Nat.reduceAdd,decide_true,decide_false,AB,List.length_cons,List.length_nil,if_true,if_false,reduceCtorEq];have hv:=Me v ⟨j.what,3,j.look,j.item,j.owner,L,j.code⟩ (.d (BK (L.map (D6 j.item)))) own (by simp [AV.ok,A4]);unfold jC at hv
  by_cases h0 : L = []
  ·subst h0;have d1:=Ds.mk [0] (hv);refine wd FQ [] [] A0 A0 ?_;clear d1;exact ⟨⟨[],[.c (jC v ⟨j.what,5,j.look,j.item,j.owner,[],j.code⟩ (.d (.is [])) (.d (BK [])) own)],_⟩,(A3.ck rfl),Nat.le_of_ble_eq_true rfl,_,_,rfl,rfl,rfl,rfl⟩
  ·have hl0 : ((L.length : Int) == 0) = false:=eq_false' (by have:=List.length_pos_iff.2 h0;omega);rw [if_neg h0];refine wd FQ [] [] (AF hl0) A0 ?_;exact ⟨⟨[],[.c (jC v ⟨j.what,3,j.look,j.item,j.owner,L,j.code⟩ (.d (.is L)) (.d (BK (L.map (D6 j.item)))) own)],_⟩,(A3.ck rfl),Nat.le_of_ble_eq_true rfl,_,_,rfl,rfl,rfl,rfl⟩
abbrev GZ : List Nat:=[0,2,3,4,13,26,38,50,56,85,101]
abbrev jE (v : View) (c : JC) : List A5:=[.c (jC v c.job (.d (.is c.job.left)) (.d (BK c.asks)) c.own)]
theorem Wx (v : View) (j : Job) (hn : v.list.length ≤ 1048576) : Ao Tryz.prog 215 [.ptr 0 0 37] [.c (jC v j (.d (.is j.left)) .e0 false)] (.tup []) (jE v (F8 v j)):=by
 obtain ⟨what,phase,⟨key,at_,hops,slow,found,code⟩,item,owner,left,jc⟩:=j;have hA : T8 ⟨key,at_,hops,slow,found,code⟩ = T8 ⟨key,at_,hops,slow,found,code⟩:=rfl;generalize hq : T8 ⟨key,at_,hops,slow,found,code⟩ = q at hA;refine zD A6 Tryz.func215 ?_;clear hA;generalize hj : F8 v ⟨what,phase,⟨key,at_,hops,slow,found,code⟩,item,owner,left,jc⟩ = r;unfold F8 at hj;dsimp only at hj;unfold jE
 by_cases h1 : code ≠ 0
 ·rw [if_pos h1] at hj;subst hj;have f1:=eq_false' h1;have hv:=Me v ⟨what,phase,⟨key,at_,hops,slow,found,code⟩,item,owner,left,code⟩ .e0 false rfl;unfold jC at hv;unfold jC;have d1:=Ds.mk [0] (hv);have sc : No 3:=trivial;refine wd GZ [] [] (AF f1) A0 ?_;clear sc d1;with_reducible repeat' first|constructor|intro hc;try simp only[AD] at hc
  exact ⟨⟨[],[.c (jC v ⟨what,5,⟨key,at_,hops,slow,found,code⟩,item,owner,[],code⟩ (.d (.is [])) (.d (BK [])) false)],_⟩,(A3.trans' (A3.TQ 0 35 (.sl 15 []) rfl rfl rfl rfl (by simp [A4])) (A3.ck rfl) (Nat.le_of_ble_eq_true rfl)),Nat.le_of_ble_eq_true rfl,_,_,rfl,rfl,rfl,rfl⟩
 rw [if_neg h1] at hj;have f1:=AS (Decidable.not_not.1 h1)
 by_cases h2 : found = false
 ·rw [if_pos h2,hq] at hj;subst h2;have c1:=iF ⟨key,at_,hops,slow,false,code⟩;rw [hq] at c1;obtain ⟨m,b⟩:=q;unfold Look.d Look.cells at c1
  cases b with
  | true =>
   dsimp only at hj;rw [if_pos rfl] at hj;subst hj;have c2:=Pf v ⟨what,1,⟨key,at_,hops,slow,false,code⟩,item,owner,left,jc⟩ false m;unfold jC at *;unfold Wi.A8.d Wi.A8.cells at c1 c2;have d1:=Ds.mk [0] (c2);have sc : No 3:=trivial;refine wd GZ [] [] (AF f1) (AF @c1) ?_;clear sc d1;with_reducible repeat' first|constructor|intro hc;try simp only[AD] at hc
   exact ⟨⟨[],[.c (jC v ⟨what,1,⟨key,at_,hops,slow,false,code⟩,item,owner,left,jc⟩ (.d (.is left)) (.d (BK [m])) false)],_⟩,(A3.ck rfl),Nat.le_of_ble_eq_true rfl,_,_,rfl,rfl,rfl,rfl⟩
  | false =>
   dsimp only at hj;rw [if_neg (by decide)] at hj;subst hj;unfold jC at *;unfold Wi.A8.d Wi.A8.cells at c1;have sc : No 3:=trivial;refine wd GZ [] [] (AF f1) (AF @c1) ?_;clear sc;with_reducible repeat' first|constructor|intro hc;try simp only[AD] at hc
   exact ⟨⟨[],[.c (jC v ⟨what,1,⟨key,at_,hops,slow,false,code⟩,item,owner,left,jc⟩ (.d (.is left)) (.d (BK [])) false)],_⟩,(A3.trans' (A3.TQ 0 35 (.sl 15 []) rfl rfl rfl rfl (by simp [A4])) (A3.ck rfl) (Nat.le_of_ble_eq_true rfl)),Nat.le_of_ble_eq_true rfl,_,_,rfl,rfl,rfl,rfl⟩
 rw [if_neg h2] at hj;have h3 : found = true:=by cases found <;> simp_all
 subst h3
 by_cases h4 : what = 1
 ·rw [if_pos h4] at hj;subst hj;have f2:=AS h4;have hv:=Me v ⟨what,phase,⟨key,at_,hops,slow,true,code⟩,item,at_,left,0⟩ .e0 false rfl;unfold jC at hv;unfold jC;have d1:=Ds.mk [0] (hv);have sc : No 3:=trivial;refine wd GZ [] [] (Aj f1 f2) A0 ?_;clear sc d1;with_reducible repeat' first|constructor|intro hc;try simp only[AD] at hc
  exact ⟨⟨[],[.c (jC v ⟨what,5,⟨key,at_,hops,slow,true,code⟩,item,at_,[],0⟩ (.d (.is [])) (.d (BK [])) false)],_⟩,(A3.trans' (A3.TQ 0 35 (.sl 15 []) rfl rfl rfl rfl (by simp [A4])) (A3.ck rfl) (Nat.le_of_ble_eq_true rfl)),Nat.le_of_ble_eq_true rfl,_,_,rfl,rfl,rfl,rfl⟩
 rw [if_neg h4] at hj;have f2:=eq_false' h4
 by_cases h5 : what = 2
 ·have f3:=AS h5
  by_cases h6 : at_ = v.id
  ·rw [if_pos ⟨h5,h6⟩] at hj;have f4:=AS h6;have hp:=dY v ⟨what,phase,⟨key,at_,hops,slow,true,code⟩,item,at_,left,jc⟩ at_ v.list hn;rw [hj] at hp;unfold jC at *;have d1:=Ds.mk [0] (hp);have sc : No 3:=trivial;refine wd GZ [] [] (M9 f1 f2 f3 f4) A0 ?_;clear sc d1;with_reducible repeat' first|constructor|intro hc;try simp only[AD] at hc
   exact ⟨⟨[],[.c (jC v r.job (.d (.is r.job.left)) (.d (BK r.asks)) r.own)],_⟩,(A3.ck rfl),Nat.le_of_ble_eq_true rfl,_,_,rfl,rfl,rfl,rfl⟩
  ·rw [if_neg (fun h => h6 h.2),if_pos h5] at hj;subst hj;have f4:=eq_false' h6;have c2:=Ao.arg (Pf v ⟨what,2,⟨key,at_,hops,slow,true,code⟩,item,at_,left,jc⟩ false (KE at_)) (aM 1 at_ 0 false AE);unfold mAV AE at c2;unfold jC at *;have d1:=Ds.mk [0] (c2);have sc : No 3:=trivial;refine wd GZ [] [] (M9 f1 f2 f3 f4) A0 ?_;clear sc d1;with_reducible repeat' first|constructor|intro hc;try simp only[AD] at hc
   exact ⟨⟨[],[.c (jC v ⟨what,2,⟨key,at_,hops,slow,true,code⟩,item,at_,left,jc⟩ (.d (.is left)) (.d (BK [KE at_])) false)],_⟩,(A3.ck rfl),Nat.le_of_ble_eq_true rfl,_,_,rfl,rfl,rfl,rfl⟩
 ·rw [if_neg (fun h => h5 h.1),if_neg h5] at hj;have f3:=eq_false' h5
  by_cases h6 : at_ = v.id
  ·rw [if_pos h6] at hj;subst hj;have f4:=AS h6;have hv:=Me v ⟨what,phase,⟨key,at_,hops,slow,true,code⟩,item,at_,left,0⟩ .e0 true rfl;unfold jC at hv;unfold jC;have d1:=Ds.mk [0] (hv);have sc : No 3:=trivial;refine wd GZ [] [] (M9 f1 f2 f3 f4) A0 ?_;clear sc d1;with_reducible repeat' first|constructor|intro hc;try simp only[AD] at hc
   exact ⟨⟨[],[.c (jC v ⟨what,5,⟨key,at_,hops,slow,true,code⟩,item,at_,[],0⟩ (.d (.is [])) (.d (BK [])) true)],_⟩,(A3.trans' (A3.TQ 0 35 (.sl 15 []) rfl rfl rfl rfl (by simp [A4])) (A3.ck rfl) (Nat.le_of_ble_eq_true rfl)),Nat.le_of_ble_eq_true rfl,_,_,rfl,rfl,rfl,rfl⟩
  ·rw [if_neg h6] at hj;subst hj;have f4:=eq_false' h6;have c2:=Ao.arg (Pf v ⟨what,4,⟨key,at_,hops,slow,true,code⟩,item,at_,left,jc⟩ false (Pg at_ item.key)) (aM 6 at_ 0 false ⟨item.key,0,0,false⟩);unfold mAV at c2;unfold jC at *;have d1:=Ds.mk [0] (c2);have sc : No 3:=trivial;refine wd GZ [] [] (M9 f1 f2 f3 f4) A0 ?_;clear sc d1;with_reducible repeat' first|constructor|intro hc;try simp only[AD] at hc
   exact ⟨⟨[],[.c (jC v ⟨what,4,⟨key,at_,hops,slow,true,code⟩,item,at_,left,jc⟩ (.d (.is left)) (.d (BK [Pg at_ item.key])) false)],_⟩,(A3.ck rfl),Nat.le_of_ble_eq_true rfl,_,_,rfl,rfl,rfl,rfl⟩
end Nd
end Go.Proofs.YtkljbfejbakooaaGreatDoor
