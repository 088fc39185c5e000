/- Part 35 of a proof, put together by a program. Conditions: none beyond those that a theorem states. -/
import Derived.Test.YtkljbfejbakooaaGreatDoorN34
set_option linter.unusedSimpArgs false
set_option linter.unusedVariables false
set_option linter.unnecessarySimpa false
set_option maxHeartbeats 40000000
namespace Go.Proofs.YtkljbfejbakooaaGreatDoor
namespace Nd
open Go.Gar
open Wi (A8 B7 AU AC B2 mC)
set_option maxRecDepth 4000
abbrev Be : List Nat:=[0,1,2,3,4,5,6,9,12,13,14,15,22,23,31,32,52,55,73]
abbrev JK : List Nat:=[0,1,2,5,6,7,8,9,17]
theorem gl (n : Node) (j : Job) (ended : Bool) (l : List A8) (hl : l.length ≤ 100000) (hx0 : 0 ≤ n.next) (hx1 : n.next < 16) (hb1 : n.view.base.length ≤ 1000) (hb2 : n.view.list.length ≤ 1000) (hn : n.keep.length ≤ 1048576) (hs : 0 ≤ j.item.key.length) (k : List Item) (i : Job) (hT : Bc n.keep j = (k,i)) : Ao Tryz.prog 132 [.ptr 0 0 77,.d (.i .u8 5),.d (.b ended),.d j.d,.d (BK l),.d (.b true)] [.c (hC n .e0)] (.tup []) [.c (hC (if ended = false ∧ i.phase = 5 then De { n with keep:=k,finger:=i } else { n with keep:=k,finger:=i }) (.d (AI (Al 5 l))))]:=by
 have c1:=Ic n;have c3:=Gv 5 l;have c2:=Qm n j hn hs;rw [hT] at c2;dsimp only at c2;refine zD A6 Tryz.func132 ?_;obtain ⟨N,hN⟩ : ∃ N : Node,N = { n with keep:=k,finger:=i }:=⟨_,rfl⟩;rw [← hN];unfold hC Job.d Job.cells at *;have d1:=Ds.mk [0] (c1);have d2:=Ds.mk [0,2] (c2);have d3:=Ds.mk [] (c3);refine wd Be [] [] A0 A0 ?_;clear d3 d2 d1;refine Ap (A3.EO 0 76 (.sl 16 []) rfl rfl rfl rfl (by simp [A4])) (by simp) ?_;refine zG (K:=fun r _ H' => H' = gH N i 5 l (Al 5 l) ++ [.lp r]) ?_ ?_
 ·intro r hr;have hk:=hr.ok (k:=6) rfl
  have hY : ∀ (x : A8) (a : List (A8 × Int)),a.length ≤ 1000000 → YT Tryz.prog 6 [.d (.agg (CG (x,5)))] (gH N i 5 l a ++ [.lp r,.c (mX x)]) fun v K => v = .d (.b true) ∧ K = gH N i 5 l (a ++ [(x,5)]) ++ [.lp r,.c (mX x)]:=by
   intro x a ha;refine Az hr rfl rfl rfl ?_;unfold CG mX;unfold gH hC;simp only [List.cons_append,List.nil_append];refine wd Be [] [] A0 A0 ?_;refine zR ?_;refine wd Be [] [(0,6),(1,6),(2,6),(3,6),(4,6),(0,7)] A0 A0 ?_;refine ⟨⟨[],[.c (hC N (.sl 5 (a ++ [(x,5)]).length 16)),.c [.ptr 0 0 77],.c (Kc i (.d (.is i.left))),.c [.d (.i .u8 5)],.c [.d (BK l)],.a (AI (a ++ [(x,5)])),.lp r.busy,.c (mX x)],_⟩,(have nC:=And.intro @AI.eq_1 @CG.eq_1;A3.cn rfl),Nat.le_refl _,rfl,rfl,rfl⟩
  refine zT A6 Tryz.func290 ?_;refine wk JK [] A0 A0 ?_;refine Cj (fun k : Nat => k ≤ l.length) (fun k : Nat => [(8,.d (.i .i64 k))]) (fun k => [(0,.c (hC N (.sl 5 (Al 5 (l.take k)).length 16))),(5,.a (AI (Al 5 (l.take k))))]) (fun k => l.length - k) 0 (Nat.zero_le _) (fun _ => rfl) (fun _ => rfl) ?_ ?_
  ·subst hN;exact A3.ck rfl
  intro k0 hk0
  by_cases hkl : k0 < l.length
  ·obtain ⟨x,hx⟩:=Aa hkl;have hy:=hY x (Al 5 (l.take k0)) (by rw [List.length_map,List.length_take];omega)
   have e1 : Al 5 (l.take k0) ++ [(x,5)] = Al 5 (l.take (k0 + 1)):=by
    rw [AP hx];simp [Al]
   rw [e1] at hy;unfold gH CG mX at hy;simp only [List.cons_append,List.nil_append] at hy;have ix1:=hx;have q1:=@hy;refine wk JK [] A0 A0 ?_;clear q1 ix1;with_reducible repeat' first|constructor|intro hc;try simp only[AD] at hc
   refine ⟨k0 + 1,hkl,by omega,Nat.le_refl _,?_⟩;exact A3.ck rfl
  ·have e : k0 = l.length:=by omega
   subst e;rw [List.take_length];refine wk JK [] A0 A0 ?_;with_reducible repeat' first|constructor|intro hc;try simp only[AD] at hc
   exact ⟨_,A3.refl _,Nat.le_refl _,_,_,rfl,rfl,rfl⟩
 ·rintro r hr x H' rfl;refine .inl ⟨rfl,?_⟩;unfold gH hC;simp only [List.cons_append,List.nil_append];have hv:=VK n.view n.next i.owner hb1 hb2;unfold View.d View.cells at hv;subst hN;dsimp only
  cases ended with
  | true =>
   refine wd Be [] [] A0 A0 ?_;exact ⟨⟨[],[.c (hC { n with keep:=k,finger:=i } (.d (AI (Al 5 l))))],_⟩,A3.trans' (A3.freeze 5 (x:=AI (Al 5 l)) rfl) (A3.cut rfl trivial ⟨.inr (EB { n with keep:=k,finger:=i } (AI (Al 5 l)) _ (by simp [AB])).symm,trivial⟩ rfl rfl) (Nat.le_of_ble_eq_true rfl),Nat.le_of_ble_eq_true rfl,_,_,rfl,rfl,rfl,rfl⟩
  | false =>
   by_cases h5 : i.phase = 5
   ·have f5:=AS h5;rw [if_pos ⟨rfl,h5⟩]
    by_cases hc : i.code = 0
    ·have fc:=AS hc
     have hg : De { n with keep:=k,finger:=i } = { { n with keep:=k,finger:=i } with view:=(Gs n.view n.next i.owner).1,next:=(n.next + 1).tmod 16 }:=by
      unfold De;dsimp only;rw [if_pos hc]
     rw [hg]
     have hq : (Gs n.view n.next i.owner).2 = 0 ∨ ((Gs n.view n.next i.owner).1 = n.view ∧ (Gs n.view n.next i.owner).2 = 2):=by
      unfold Gs;split
      ·exact .inl rfl
      ·exact .inr ⟨rfl,rfl⟩
     generalize Gs n.view n.next i.owner = q at *;obtain ⟨qv,qe⟩:=q;dsimp only at hv hq ⊢;rcases hq with rfl | ⟨rfl,rfl⟩
     ·refine wd Be [12] [(0,16),(1,16),(2,16),(3,16),(4,16),(5,16),(6,16),(7,16),(8,16),(9,16),(10,16),(11,16),(15,17)] (Aj f5 fc) (AF @hv) ?_;with_reducible repeat' first|constructor|intro hc;try simp only[AD] at hc
      refine wd Be [] [] A0 A0 ?_;exact ⟨⟨[],[.c (hC { { n with keep:=k,finger:=i } with view:=qv,next:=(n.next + 1).tmod 16 } (.d (AI (Al 5 l))))],_⟩,A3.trans' (A3.freeze 5 (x:=AI (Al 5 l)) rfl) (A3.cut rfl trivial ⟨.inr (EB { { n with keep:=k,finger:=i } with view:=qv,next:=(n.next + 1).tmod 16 } (AI (Al 5 l)) _ (by simp [AB])).symm,trivial⟩ rfl rfl) (Nat.le_of_ble_eq_true rfl),Nat.le_of_ble_eq_true rfl,_,_,rfl,rfl,rfl,rfl⟩
     ·refine wd Be [12] [(0,16),(1,16),(2,16),(3,16),(4,16),(5,16),(6,16),(7,16),(8,16),(9,16),(10,16),(11,16),(15,17)] (Aj f5 fc) (AF @hv) ?_;with_reducible repeat' first|constructor|intro hc;try simp only[AD] at hc
      refine wd Be [] [] A0 A0 ?_;exact ⟨⟨[],[.c (hC { { n with keep:=k,finger:=i } with next:=(n.next + 1).tmod 16 } (.d (AI (Al 5 l))))],_⟩,A3.trans' (A3.freeze 5 (x:=AI (Al 5 l)) rfl) (A3.cut rfl trivial ⟨.inr (EB { { n with keep:=k,finger:=i } with next:=(n.next + 1).tmod 16 } (AI (Al 5 l)) _ (by simp [AB])).symm,trivial⟩ rfl rfl) (Nat.le_of_ble_eq_true rfl),Nat.le_of_ble_eq_true rfl,_,_,rfl,rfl,rfl,rfl⟩
    ·have fc:=eq_false' hc
     have hg : De { n with keep:=k,finger:=i } = { { n with keep:=k,finger:=i } with next:=(n.next + 1).tmod 16 }:=by
      unfold De;dsimp only;rw [if_neg hc]
     rw [hg];dsimp only;refine wd Be [] [] (Aj f5 fc) A0 ?_;with_reducible repeat' first|constructor|intro hc;try simp only[AD] at hc
     exact ⟨⟨[],[.c (hC { { n with keep:=k,finger:=i } with next:=(n.next + 1).tmod 16 } (.d (AI (Al 5 l))))],_⟩,A3.trans' (A3.freeze 5 (x:=AI (Al 5 l)) rfl) (A3.cut rfl trivial ⟨.inr (EB { { n with keep:=k,finger:=i } with next:=(n.next + 1).tmod 16 } (AI (Al 5 l)) _ (by simp [AB])).symm,trivial⟩ rfl rfl) (Nat.le_of_ble_eq_true rfl),Nat.le_of_ble_eq_true rfl,_,_,rfl,rfl,rfl,rfl⟩
   ·have f5:=eq_false' h5;rw [if_neg (fun h => h5 h.2)];refine wd Be [] [] (AF f5) A0 ?_;with_reducible repeat' first|constructor|intro hc;try simp only[AD] at hc
    exact ⟨⟨[],[.c (hC { n with keep:=k,finger:=i } (.d (AI (Al 5 l))))],_⟩,A3.trans' (A3.freeze 5 (x:=AI (Al 5 l)) rfl) (A3.cut rfl trivial ⟨.inr (EB { n with keep:=k,finger:=i } (AI (Al 5 l)) _ (by simp [AB])).symm,trivial⟩ rfl rfl) (Nat.le_of_ble_eq_true rfl),Nat.le_of_ble_eq_true rfl,_,_,rfl,rfl,rfl,rfl⟩
theorem gk (n : Node) (j : Job) (ended : Bool) (l : List A8) (hl : l.length ≤ 100000) (hx0 : 0 ≤ n.next) (hx1 : n.next < 16) (hb1 : n.view.base.length ≤ 1000) (hb2 : n.view.list.length ≤ 1000) : Ao Tryz.prog 132 [.ptr 0 0 77,.d (.i .u8 5),.d (.b ended),.d j.d,.d (BK l),.d (.b false)] [.c (hC n .e0)] (.tup []) [.c (hC (if ended = false ∧ j.phase = 5 then De { n with finger:=j } else { n with finger:=j }) (.d (AI (Al 5 l))))]:=by
 have c1:=Ic n;have c3:=Gv 5 l;refine zD A6 Tryz.func132 ?_;obtain ⟨N,hN⟩ : ∃ N : Node,N = { n with finger:=j }:=⟨_,rfl⟩;rw [← hN];unfold hC Job.d Job.cells at *;have d1:=Ds.mk [0] (c1);have d2:=Ds.mk [] (c3);refine wd Be [] [] A0 A0 ?_;clear d2 d1;refine Ap (A3.EO 0 76 (.sl 16 []) rfl rfl rfl rfl (by simp [A4])) (by simp) ?_;refine zG (K:=fun r _ H' => H' = gH N j 5 l (Al 5 l) ++ [.lp r]) ?_ ?_
 ·intro r hr;have hk:=hr.ok (k:=6) rfl
  have hY : ∀ (x : A8) (a : List (A8 × Int)),a.length ≤ 1000000 → YT Tryz.prog 6 [.d (.agg (CG (x,5)))] (gH N j 5 l a ++ [.lp r,.c (mX x)]) fun v K => v = .d (.b true) ∧ K = gH N j 5 l (a ++ [(x,5)]) ++ [.lp r,.c (mX x)]:=by
   intro x a ha;refine Az hr rfl rfl rfl ?_;unfold CG mX;unfold gH hC;simp only [List.cons_append,List.nil_append];refine wd Be [] [] A0 A0 ?_;refine zR ?_;refine wd Be [] [(0,6),(1,6),(2,6),(3,6),(4,6),(0,7)] A0 A0 ?_;refine ⟨⟨[],[.c (hC N (.sl 5 (a ++ [(x,5)]).length 16)),.c [.ptr 0 0 77],.c (Kc j (.d (.is j.left))),.c [.d (.i .u8 5)],.c [.d (BK l)],.a (AI (a ++ [(x,5)])),.lp r.busy,.c (mX x)],_⟩,(have nC:=And.intro @AI.eq_1 @CG.eq_1;A3.cn rfl),Nat.le_refl _,rfl,rfl,rfl⟩
  refine zT A6 Tryz.func290 ?_;refine wk JK [] A0 A0 ?_;refine Cj (fun k : Nat => k ≤ l.length) (fun k : Nat => [(8,.d (.i .i64 k))]) (fun k => [(0,.c (hC N (.sl 5 (Al 5 (l.take k)).length 16))),(5,.a (AI (Al 5 (l.take k))))]) (fun k => l.length - k) 0 (Nat.zero_le _) (fun _ => rfl) (fun _ => rfl) ?_ ?_
  ·subst hN;exact A3.ck rfl
  intro k0 hk0
  by_cases hkl : k0 < l.length
  ·obtain ⟨x,hx⟩:=Aa hkl;have hy:=hY x (Al 5 (l.take k0)) (by rw [List.length_map,List.length_take];omega)
   have e1 : Al 5 (l.take k0) ++ [(x,5)] = Al 5 (l.take (k0 + 1)):=by
    rw [AP hx];simp [Al]
   rw [e1] at hy;unfold gH CG mX at hy;simp only [List.cons_append,List.nil_append] at hy;have ix1:=hx;have q1:=@hy;refine wk JK [] A0 A0 ?_;clear q1 ix1;with_reducible repeat' first|constructor|intro hc;try simp only[AD] at hc
   refine ⟨k0 + 1,hkl,by omega,Nat.le_refl _,?_⟩;exact A3.ck rfl
  ·have e : k0 = l.length:=by omega
   subst e;rw [List.take_length];refine wk JK [] A0 A0 ?_;with_reducible repeat' first|constructor|intro hc;try simp only[AD] at hc
   exact ⟨_,A3.refl _,Nat.le_refl _,_,_,rfl,rfl,rfl⟩
 ·rintro r hr x H' rfl;refine .inl ⟨rfl,?_⟩;unfold gH hC;simp only [List.cons_append,List.nil_append];have hv:=VK n.view n.next j.owner hb1 hb2;unfold View.d View.cells at hv;subst hN;dsimp only
  cases ended with
  | true =>
   refine wd Be [] [] A0 A0 ?_;exact ⟨⟨[],[.c (hC { n with finger:=j } (.d (AI (Al 5 l))))],_⟩,A3.trans' (A3.freeze 5 (x:=AI (Al 5 l)) rfl) (A3.cut rfl trivial ⟨.inr (EB { n with finger:=j } (AI (Al 5 l)) _ (by simp [AB])).symm,trivial⟩ rfl rfl) (Nat.le_of_ble_eq_true rfl),Nat.le_of_ble_eq_true rfl,_,_,rfl,rfl,rfl,rfl⟩
  | false =>
   by_cases h5 : j.phase = 5
   ·have f5:=AS h5;rw [if_pos ⟨rfl,h5⟩]
    by_cases hc : j.code = 0
    ·have fc:=AS hc
     have hg : De { n with finger:=j } = { { n with finger:=j } with view:=(Gs n.view n.next j.owner).1,next:=(n.next + 1).tmod 16 }:=by
      unfold De;dsimp only;rw [if_pos hc]
     rw [hg]
     have hq : (Gs n.view n.next j.owner).2 = 0 ∨ ((Gs n.view n.next j.owner).1 = n.view ∧ (Gs n.view n.next j.owner).2 = 2):=by
      unfold Gs;split
      ·exact .inl rfl
      ·exact .inr ⟨rfl,rfl⟩
     generalize Gs n.view n.next j.owner = q at *;obtain ⟨qv,qe⟩:=q;dsimp only at hv hq ⊢;rcases hq with rfl | ⟨rfl,rfl⟩
     ·refine wd Be [12] [(0,16),(1,16),(2,16),(3,16),(4,16),(5,16),(6,16),(7,16),(8,16),(9,16),(10,16),(11,16),(15,17)] (Aj f5 fc) (AF @hv) ?_;with_reducible repeat' first|constructor|intro hc;try simp only[AD] at hc
      refine wd Be [] [] A0 A0 ?_;exact ⟨⟨[],[.c (hC { { n with finger:=j } with view:=qv,next:=(n.next + 1).tmod 16 } (.d (AI (Al 5 l))))],_⟩,A3.trans' (A3.freeze 5 (x:=AI (Al 5 l)) rfl) (A3.cut rfl trivial ⟨.inr (EB { { n with finger:=j } with view:=qv,next:=(n.next + 1).tmod 16 } (AI (Al 5 l)) _ (by simp [AB])).symm,trivial⟩ rfl rfl) (Nat.le_of_ble_eq_true rfl),Nat.le_of_ble_eq_true rfl,_,_,rfl,rfl,rfl,rfl⟩
     ·refine wd Be [12] [(0,16),(1,16),(2,16),(3,16),(4,16),(5,16),(6,16),(7,16),(8,16),(9,16),(10,16),(11,16),(15,17)] (Aj f5 fc) (AF @hv) ?_;with_reducible repeat' first|constructor|intro hc;try simp only[AD] at hc
      refine wd Be [] [] A0 A0 ?_;exact ⟨⟨[],[.c (hC { { n with finger:=j } with next:=(n.next + 1).tmod 16 } (.d (AI (Al 5 l))))],_⟩,A3.trans' (A3.freeze 5 (x:=AI (Al 5 l)) rfl) (A3.cut rfl trivial ⟨.inr (EB { { n with finger:=j } with next:=(n.next + 1).tmod 16 } (AI (Al 5 l)) _ (by simp [AB])).symm,trivial⟩ rfl rfl) (Nat.le_of_ble_eq_true rfl),Nat.le_of_ble_eq_true rfl,_,_,rfl,rfl,rfl,rfl⟩
    ·have fc:=eq_false' hc
     have hg : De { n with finger:=j } = { { n with finger:=j } with next:=(n.next + 1).tmod 16 }:=by
      unfold De;dsimp only;rw [if_neg hc]
     rw [hg];dsimp only;refine wd Be [] [] (Aj f5 fc) A0 ?_;with_reducible repeat' first|constructor|intro hc;try simp only[AD] at hc
     exact ⟨⟨[],[.c (hC { { n with finger:=j } with next:=(n.next + 1).tmod 16 } (.d (AI (Al 5 l))))],_⟩,A3.trans' (A3.freeze 5 (x:=AI (Al 5 l)) rfl) (A3.cut rfl trivial ⟨.inr (EB { { n with finger:=j } with next:=(n.next + 1).tmod 16 } (AI (Al 5 l)) _ (by simp [AB])).symm,trivial⟩ rfl rfl) (Nat.le_of_ble_eq_true rfl),Nat.le_of_ble_eq_true rfl,_,_,rfl,rfl,rfl,rfl⟩
   ·have f5:=eq_false' h5;rw [if_neg (fun h => h5 h.2)];refine wd Be [] [] (AF f5) A0 ?_;with_reducible repeat' first|constructor|intro hc;try simp only[AD] at hc
    exact ⟨⟨[],[.c (hC { n with finger:=j } (.d (AI (Al 5 l))))],_⟩,A3.trans' (A3.freeze 5 (x:=AI (Al 5 l)) rfl) (A3.cut rfl trivial ⟨.inr (EB { n with finger:=j } (AI (Al 5 l)) _ (by simp [AB])).symm,trivial⟩ rfl rfl) (Nat.le_of_ble_eq_true rfl),Nat.le_of_ble_eq_true rfl,_,_,rfl,rfl,rfl,rfl⟩
theorem MY (n : Node) (w : Int) (ended : Bool) (c : JC) (hw : w = 5 ∨ w = 6 ∨ w = 7) (hl : c.asks.length ≤ 100000) (hx0 : 0 ≤ n.next) (hx1 : n.next < 16) (hb1 : n.view.base.length ≤ 1000) (hb2 : n.view.list.length ≤ 1000) (hn : n.keep.length ≤ 1048576) (hs : 0 ≤ c.job.item.key.length) : Ao Tryz.prog 132 [.ptr 0 0 77,.d (.i .u8 w),.d (.b ended),.d c.job.d,.d (BK c.asks),.d (.b c.own)] [.c (hC n .e0)] (.tup []) [.c (hC (Ar n w ended c).1 (.d (AI (Ar n w ended c).2)))]:=by
 obtain ⟨j,l,own⟩:=c;dsimp only at hl hs ⊢
 cases own with
 | true =>
  obtain ⟨k,i,hT⟩ : ∃ k i,Bc n.keep j = (k,i):=⟨_,_,rfl⟩;rcases hw with rfl | rfl | rfl
  ·have:=gl n j ended l hl hx0 hx1 hb1 hb2 hn hs k i hT
   by_cases hE : ended = false ∧ i.phase = 5
   ·rw [if_pos hE] at this;unfold Ar;simp only [if_true,hT];rw [if_pos (show True ∧ ended = false ∧ i.phase = 5 from ⟨trivial,hE⟩)];exact this
   ·rw [if_neg hE] at this;unfold Ar;simp only [if_true,hT];rw [if_neg (show ¬ (True ∧ ended = false ∧ i.phase = 5) from fun h => hE h.2)];exact this
  ·have:=gn n j ended l hl hn hs k i hT;unfold Ar;simp only [if_true,hT];rw [if_neg (fun h => absurd h.1 (by decide))];exact this
  ·have:=gu n j ended l hl hn hs k i hT;unfold Ar;simp only [if_true,hT];rw [if_neg (fun h => absurd h.1 (by decide))];exact this
 | false =>
  rcases hw with rfl | rfl | rfl
  ·have:=gk n j ended l hl hx0 hx1 hb1 hb2
   by_cases hE : ended = false ∧ j.phase = 5
   ·rw [if_pos hE] at this;unfold Ar;simp only [Bool.false_eq_true,if_false];rw [if_pos (show True ∧ ended = false ∧ j.phase = 5 from ⟨trivial,hE⟩)];exact this
   ·rw [if_neg hE] at this;unfold Ar;simp only [Bool.false_eq_true,if_false];rw [if_neg (show ¬ (True ∧ ended = false ∧ j.phase = 5) from fun h => hE h.2)];exact this
  ·have:=gm n j ended l hl;unfold Ar;simp only [Bool.false_eq_true,if_false];rw [if_neg (fun h => absurd h.1 (by decide))];exact this
  ·have:=gr n j ended l hl;unfold Ar;simp only [Bool.false_eq_true,if_false];rw [if_neg (fun h => absurd h.1 (by decide))];exact this
theorem RB {G : Gh} {x : AV} {d : D} (hx : Ho [x] [d]) (suf : List AV) : ∀ (pre : List AV) {vs : List Value},AY G (pre ++ x :: suf) vs → AY G (pre ++ .d d :: suf) vs
 | [],vs,h => by
  simp only [List.nil_append,AY] at h ⊢;obtain ⟨u,q,e,hu,hq⟩:=h;have h4 : AY G [x] [u]:=by simp only [AY];exact ⟨u,[],rfl,hu,rfl⟩
  have h5:=Jc.2 (N2 hx h4);simp only [List.map_cons,List.map_nil,AY] at h5;obtain ⟨u2,q3,e4,hu2,e5⟩:=h5;cases e4;exact ⟨u,q,e,hu2,hq⟩
 | a :: pre,vs,h => by
  simp only [List.cons_append,AY] at h ⊢;obtain ⟨u,q,e,hu,hq⟩:=h;exact ⟨u,q,e,hu,RB hx suf pre hq⟩
theorem Ao.kL {P : Program} {f : FuncId} (pre : List AV) {x : AV} {d : D} {suf : List AV} {H : List A5} {r : AV} {H' : List A5} (h : Ao P f (pre ++ .d d :: suf) H r H') (hx : Ho [x] [d]) : Ao P f (pre ++ x :: suf) H r H' :=
 ⟨h.1,fun G w vs h1 h2 h3 => h.2 G w vs h1 h2 (RB hx suf pre h3)⟩
abbrev eu (n : Node) : Node:={ n with phase:=0,of_:=0 }
theorem Pj (n : Node) : Ao Tryz.prog 232 [.ptr 0 0 77] [.c (hC n .e0)] (.tup []) [.c (hC (eu n) (.d (AI [])))]:=by
 unfold hC;refine zD A6 Tryz.func232 ?_;refine wk [0] [] A0 A0 ?_;exact ⟨⟨[],[.c (hC (eu n) (.d (AI [])))],_⟩,(A3.trans' (A3.TQ 0 76 (.sl 16 []) rfl rfl rfl rfl (by simp [A4])) (A3.ck rfl) (Nat.le_of_ble_eq_true rfl)),Nat.le_of_ble_eq_true rfl,_,_,rfl,rfl,rfl,rfl⟩
theorem Ph (n : Node) (w : Int) (was : Job) (hw : w = 5 ∨ w = 6 ∨ w = 7) (hx0 : 0 ≤ n.next) (hx1 : n.next < 16) (hb : n.view.base.length ≤ 1000) (hl : n.view.list.length ≤ 1000) (hn : n.keep.length ≤ 1048576) (hs : 0 ≤ was.item.key.length) : Ao Tryz.prog 233 [.d (.i .u8 w),.d was.d,.ptr 0 0 77] [.c (hC n .e0)] (.tup []) [.c (hC (if was.phase = 5 then n else (Ar n w false ⟨CX (CW was 100),[],false⟩).1) (.d (AI [])))]:=by
 have cG:=MY n w false ⟨CX (CW was 100),[],false⟩ hw (Nat.zero_le _) hx0 hx1 hb hl hn hs;have hq : (Ar n w false ⟨CX (CW was 100),[],false⟩).2 = []:=rfl;rw [hq] at cG;refine zD A6 Tryz.func233 ?_
 by_cases h5 : was.phase = 5
 ·have f1:=AS h5;rw [if_pos h5];unfold Job.d Job.cells hC;refine wk [0,1,2,4,7] [] (AF f1) A0 ?_;exact ⟨⟨[],[.c (hC n (.d (AI [])))],_⟩,(A3.trans' (A3.TQ 0 76 (.sl 16 []) rfl rfl rfl rfl (by simp [A4])) (A3.ck rfl) (Nat.le_of_ble_eq_true rfl)),Nat.le_of_ble_eq_true rfl,_,_,rfl,rfl,rfl,rfl⟩
 ·have f1:=eq_false' h5;rw [if_neg h5];generalize Ar n w false ⟨CX (CW was 100),[],false⟩ = r at *;unfold Job.d Job.cells hC at *;dsimp only [CX,CW] at cG;refine wk [0,1,2,4,7] [3] (AF f1) A0 ?_;refine Ap (A3.TQ 1 13 (.is []) rfl rfl rfl rfl trivial) (by simp) ?_;have cG:=Ao.kL (x:=.e0) [.ptr 0 0 77,_,_,_] cG (by repeat' (first | rfl | trivial | refine ⟨rfl,rfl,by simp [A4]⟩ | refine ⟨_,_,rfl,?_,?_⟩ | refine ⟨_,rfl,?_⟩));simp only [List.cons_append,List.nil_append] at cG;have d1:=Ds.mk [0] (cG);refine wk [0,1,2,4,7] [] A0 A0 ?_;clear d1;exact ⟨⟨[],[.c (hC r.1 (.d (AI [])))],_⟩,(A3.ck rfl),Nat.le_of_ble_eq_true rfl,_,_,rfl,rfl,rfl,rfl⟩
theorem WH (n : Node) (hx0 : 0 ≤ n.next) (hx1 : n.next < 16) (hb : n.view.base.length ≤ 1000) (hl : n.view.list.length ≤ 1000) (hn : n.keep.length ≤ 1048576) (hs : 0 ≤ n.finger.item.key.length) : Ao Tryz.prog 212 [.ptr 2 0 1,.ptr 3 0 1,.ptr 1 0 1] [.c (hC n .e0),.c [.ptr 0 0 77],.c [E7],.c [.d (.i .u8 5)]] (.tup []) [.c (hC (if n.finger.phase = 5 then n else (Ar n 5 false ⟨CX (CW n.finger 100),[],false⟩).1) (.d (AI []))),.c [.ptr 0 0 77],.c [E7],.c [.d (.i .u8 5)]]:=by
 have cS:=Ic n;have cJ:=Ph n  5 n.finger (by decide) hx0 hx1 hb hl hn hs;generalize (if n.finger.phase = 5 then n else (Ar n 5 false ⟨CX (CW n.finger 100),[],false⟩).1) = r at *;unfold Job.d Job.cells at cJ;unfold hC at cS cJ ⊢;unfold E7;refine zD A6 Tryz.func212 ?_;have d1:=Ds.mk [0] (cS);have d2:=Ds.mk [0] (cJ);refine wd [0,1,2] [] [(0,6),(1,6)] A0 A0 ?_;clear d2 d1;exact ⟨⟨[],[.c (hC r (.d (AI []))),.c [.ptr 0 0 77],.c [E7],.c [.d (.i .u8 5)]],_⟩,(A3.ck rfl),Nat.le_of_ble_eq_true rfl,_,_,rfl,rfl,rfl,rfl⟩
theorem WI (n : Node) (hx0 : 0 ≤ n.next) (hx1 : n.next < 16) (hb : n.view.base.length ≤ 1000) (hl : n.view.list.length ≤ 1000) (hn : n.keep.length ≤ 1048576) (hs : 0 ≤ n.mirror.item.key.length) : Ao Tryz.prog 212 [.ptr 2 0 1,.ptr 3 0 1,.ptr 1 0 1] [.c (hC n .e0),.c [.ptr 0 0 77],.c [E7],.c [.d (.i .u8 6)]] (.tup []) [.c (hC (if n.mirror.phase = 5 then n else (Ar n 6 false ⟨CX (CW n.mirror 100),[],false⟩).1) (.d (AI []))),.c [.ptr 0 0 77],.c [E7],.c [.d (.i .u8 6)]]:=by
 have cS:=Ie n;have cJ:=Ph n  6 n.mirror (by decide) hx0 hx1 hb hl hn hs;generalize (if n.mirror.phase = 5 then n else (Ar n 6 false ⟨CX (CW n.mirror 100),[],false⟩).1) = r at *;unfold Job.d Job.cells at cJ;unfold hC at cS cJ ⊢;unfold E7;refine zD A6 Tryz.func212 ?_;have d1:=Ds.mk [0] (cS);have d2:=Ds.mk [0] (cJ);refine wd [0,1,2] [] [(0,6),(1,6)] A0 A0 ?_;clear d2 d1;exact ⟨⟨[],[.c (hC r (.d (AI []))),.c [.ptr 0 0 77],.c [E7],.c [.d (.i .u8 6)]],_⟩,(A3.ck rfl),Nat.le_of_ble_eq_true rfl,_,_,rfl,rfl,rfl,rfl⟩
theorem WJ (n : Node) (hx0 : 0 ≤ n.next) (hx1 : n.next < 16) (hb : n.view.base.length ≤ 1000) (hl : n.view.list.length ≤ 1000) (hn : n.keep.length ≤ 1048576) (hs : 0 ≤ n.client.item.key.length) : Ao Tryz.prog 212 [.ptr 2 0 1,.ptr 3 0 1,.ptr 1 0 1] [.c (hC n .e0),.c [.ptr 0 0 77],.c [E7],.c [.d (.i .u8 7)]] (.tup []) [.c (hC (if n.client.phase = 5 then n else (Ar n 7 false ⟨CX (CW n.client 100),[],false⟩).1) (.d (AI []))),.c [.ptr 0 0 77],.c [E7],.c [.d (.i .u8 7)]]:=by
 have cS:=If n;have cJ:=Ph n  7 n.client (by decide) hx0 hx1 hb hl hn hs;generalize (if n.client.phase = 5 then n else (Ar n 7 false ⟨CX (CW n.client 100),[],false⟩).1) = r at *;unfold Job.d Job.cells at cJ;unfold hC at cS cJ ⊢;unfold E7;refine zD A6 Tryz.func212 ?_;have d1:=Ds.mk [0] (cS);have d2:=Ds.mk [0] (cJ);refine wd [0,1,2] [] [(0,6),(1,6)] A0 A0 ?_;clear d2 d1;exact ⟨⟨[],[.c (hC r (.d (AI []))),.c [.ptr 0 0 77],.c [E7],.c [.d (.i .u8 7)]],_⟩,(A3.ck rfl),Nat.le_of_ble_eq_true rfl,_,_,rfl,rfl,rfl,rfl⟩
abbrev DW : List Nat:=[0,1,2,4,5,6,7,8,9,29]
theorem bx (n : Node)  (w : Int) (h : Ip n) (hw : OM w [1,2,3,5,6,7] = true) : Go.Gar.Fn Tryz.prog 154 [n.d,.i .u8 w] n.d:=by
 have cO:=BQ n h;have cR:=BA n h;have cT:=Bv n;refine zF A6 Tryz.func154 ?_;unfold Node.d Node.cells View.cells Calls.cells Job.cells at *;unfold hC KH IA E7 at *;have d1:=Ds.mk [2] (cT);have lk1:=hw;have sc : No 3:=trivial;refine wk DW [] A0 (AF @cO) ?_;clear sc lk1 d1;exact zE
theorem bno1 (n : Node)  (h : Ip n) (hr : B0 n = false) : Go.Gar.Fn Tryz.prog 154 [n.d,.i .u8 1] n.d:=by
 have cO:=BQ n h;have cR:=BA n h;rw [hr] at cR;have cT:=Bv n;refine zF A6 Tryz.func154 ?_;unfold Node.d Node.cells View.cells Calls.cells Job.cells at *;unfold hC KH IA E7 at *;have d1:=Ds.mk [2] (cT);have sc : No 3:=trivial;refine wk DW [] A0 (Aj @cO @cR) ?_;clear sc d1;exact zE
theorem bno2 (n : Node)  (h : Ip n) (hr : B0 n = false) : Go.Gar.Fn Tryz.prog 154 [n.d,.i .u8 2] n.d:=by
 have cO:=BQ n h;have cR:=BA n h;rw [hr] at cR;have cT:=Bv n;refine zF A6 Tryz.func154 ?_;unfold Node.d Node.cells View.cells Calls.cells Job.cells at *;unfold hC KH IA E7 at *;have d1:=Ds.mk [2] (cT);have sc : No 3:=trivial;refine wk DW [] A0 (Aj @cO @cR) ?_;clear sc d1;exact zE
theorem bno3 (n : Node)  (h : Ip n) (hr : B0 n = false) : Go.Gar.Fn Tryz.prog 154 [n.d,.i .u8 3] n.d:=by
 have cO:=BQ n h;have cR:=BA n h;rw [hr] at cR;have cT:=Bv n;refine zF A6 Tryz.func154 ?_;unfold Node.d Node.cells View.cells Calls.cells Job.cells at *;unfold hC KH IA E7 at *;have d1:=Ds.mk [2] (cT);have sc : No 3:=trivial;refine wk DW [] A0 (Aj @cO @cR) ?_;clear sc d1;exact zE
theorem bno5 (n : Node)  (h : Ip n) (hr : B0 n = false) : Go.Gar.Fn Tryz.prog 154 [n.d,.i .u8 5] n.d:=by
 have cO:=BQ n h;have cR:=BA n h;rw [hr] at cR;have cT:=Bv n;refine zF A6 Tryz.func154 ?_;unfold Node.d Node.cells View.cells Calls.cells Job.cells at *;unfold hC KH IA E7 at *;have d1:=Ds.mk [2] (cT);have sc : No 3:=trivial;refine wk DW [] A0 (Aj @cO @cR) ?_;clear sc d1;exact zE
theorem bno6 (n : Node)  (h : Ip n) (hr : B0 n = false) : Go.Gar.Fn Tryz.prog 154 [n.d,.i .u8 6] n.d:=by
 have cO:=BQ n h;have cR:=BA n h;rw [hr] at cR;have cT:=Bv n;refine zF A6 Tryz.func154 ?_;unfold Node.d Node.cells View.cells Calls.cells Job.cells at *;unfold hC KH IA E7 at *;have d1:=Ds.mk [2] (cT);have sc : No 3:=trivial;refine wk DW [] A0 (Aj @cO @cR) ?_;clear sc d1;exact zE
theorem bno7 (n : Node)  (h : Ip n) (hr : B0 n = false) : Go.Gar.Fn Tryz.prog 154 [n.d,.i .u8 7] n.d:=by
 have cO:=BQ n h;have cR:=BA n h;rw [hr] at cR;have cT:=Bv n;refine zF A6 Tryz.func154 ?_;unfold Node.d Node.cells View.cells Calls.cells Job.cells at *;unfold hC KH IA E7 at *;have d1:=Ds.mk [2] (cT);have sc : No 3:=trivial;refine wk DW [] A0 (Aj @cO @cR) ?_;clear sc d1;exact zE
theorem bok1 (n : Node)  (h : Ip n) (hr : B0 n = true) : Go.Gar.Fn Tryz.prog 154 [n.d,.i .u8 1] (eu n).d:=by
 have cO:=BQ n h;have cR:=BA n h;rw [hr] at cR;have cT:=Bv n;have cE:=Pj n;unfold eu at *;refine zF A6 Tryz.func154 ?_;unfold Node.d Node.cells View.cells Calls.cells Job.cells at *;unfold hC KH IA E7 at *;have d1:=Ds.mk [2] (cT);have d2:=Ds.mk [2] (cE);have sc : No 3:=trivial;refine wk DW [] A0 (Aj @cO @cR) ?_;clear sc d2 d1;exact zE
theorem bok2 (n : Node)  (h : Ip n) (hr : B0 n = true) : Go.Gar.Fn Tryz.prog 154 [n.d,.i .u8 2] (eu n).d:=by
 have cO:=BQ n h;have cR:=BA n h;rw [hr] at cR;have cT:=Bv n;have cE:=Pj n;unfold eu at *;refine zF A6 Tryz.func154 ?_;unfold Node.d Node.cells View.cells Calls.cells Job.cells at *;unfold hC KH IA E7 at *;have d1:=Ds.mk [2] (cT);have d2:=Ds.mk [2] (cE);have sc : No 3:=trivial;refine wk DW [] A0 (Aj @cO @cR) ?_;clear sc d2 d1;exact zE
theorem bok3 (n : Node)  (h : Ip n) (hr : B0 n = true) : Go.Gar.Fn Tryz.prog 154 [n.d,.i .u8 3] (eu n).d:=by
 have cO:=BQ n h;have cR:=BA n h;rw [hr] at cR;have cT:=Bv n;have cE:=Pj n;unfold eu at *;refine zF A6 Tryz.func154 ?_;unfold Node.d Node.cells View.cells Calls.cells Job.cells at *;unfold hC KH IA E7 at *;have d1:=Ds.mk [2] (cT);have d2:=Ds.mk [2] (cE);have sc : No 3:=trivial;refine wk DW [] A0 (Aj @cO @cR) ?_;clear sc d2 d1;exact zE
theorem bok5 (n : Node)  (h : Ip n) (hr : B0 n = true) (hx0 : 0 ≤ n.next) (hx1 : n.next < 16) (hs : 0 ≤ n.finger.item.key.length) : Go.Gar.Fn Tryz.prog 154 [n.d,.i .u8 5] (if n.finger.phase = 5 then n else (Ar n 5 false ⟨CX (CW n.finger 100),[],false⟩).1).d:=by
 have cO:=BQ n h;have cR:=BA n h;rw [hr] at cR;have cT:=Bv n;have cE:=WH n hx0 hx1 h.vb h.vl h.kn hs;generalize (if n.finger.phase = 5 then n else (Ar n 5 false ⟨CX (CW n.finger 100),[],false⟩).1) = r at *;refine zF A6 Tryz.func154 ?_;unfold Node.d Node.cells View.cells Calls.cells Job.cells at *;unfold hC KH IA E7 at *;have d1:=Ds.mk [2] (cT);have d2:=Ds.mk [2,3,4,6] (cE);have sc : No 3:=trivial;refine wk DW [] A0 (Aj @cO @cR) ?_;clear sc d2 d1;exact zE
theorem bok6 (n : Node)  (h : Ip n) (hr : B0 n = true) (hx0 : 0 ≤ n.next) (hx1 : n.next < 16) (hs : 0 ≤ n.mirror.item.key.length) : Go.Gar.Fn Tryz.prog 154 [n.d,.i .u8 6] (if n.mirror.phase = 5 then n else (Ar n 6 false ⟨CX (CW n.mirror 100),[],false⟩).1).d:=by
 have cO:=BQ n h;have cR:=BA n h;rw [hr] at cR;have cT:=Bv n;have cE:=WI n hx0 hx1 h.vb h.vl h.kn hs;generalize (if n.mirror.phase = 5 then n else (Ar n 6 false ⟨CX (CW n.mirror 100),[],false⟩).1) = r at *;refine zF A6 Tryz.func154 ?_;unfold Node.d Node.cells View.cells Calls.cells Job.cells at *;unfold hC KH IA E7 at *;have d1:=Ds.mk [2] (cT);have d2:=Ds.mk [2,3,4,7] (cE);have sc : No 3:=trivial;refine wk DW [] A0 (Aj @cO @cR) ?_;clear sc d2 d1;exact zE
theorem bok7 (n : Node)  (h : Ip n) (hr : B0 n = true) (hx0 : 0 ≤ n.next) (hx1 : n.next < 16) (hs : 0 ≤ n.client.item.key.length) : Go.Gar.Fn Tryz.prog 154 [n.d,.i .u8 7] (if n.client.phase = 5 then n else (Ar n 7 false ⟨CX (CW n.client 100),[],false⟩).1).d:=by
 have cO:=BQ n h;have cR:=BA n h;rw [hr] at cR;have cT:=Bv n;have cE:=WJ n hx0 hx1 h.vb h.vl h.kn hs;generalize (if n.client.phase = 5 then n else (Ar n 7 false ⟨CX (CW n.client 100),[],false⟩).1) = r at *;refine zF A6 Tryz.func154 ?_;unfold Node.d Node.cells View.cells Calls.cells Job.cells at *;unfold hC KH IA E7 at *;have d1:=Ds.mk [2] (cT);have d2:=Ds.mk [2,3,4,8] (cE);have sc : No 3:=trivial;refine wk DW [] A0 (Aj @cO @cR) ?_;clear sc d2 d1;exact zE
end Nd
end Go.Proofs.YtkljbfejbakooaaGreatDoor
