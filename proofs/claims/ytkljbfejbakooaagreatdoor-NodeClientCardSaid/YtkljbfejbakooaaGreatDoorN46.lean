/- Part 46 of a proof, put together by a program. Conditions: none beyond those that a theorem states. -/
import Derived.Test.YtkljbfejbakooaaGreatDoorN44
set_option linter.unusedSimpArgs false
set_option linter.unusedVariables false
set_option linter.unnecessarySimpa false
set_option maxHeartbeats 40000000
namespace Go.Proofs.YtkljbfejbakooaaGreatDoor
namespace Nd
open Go.Gar
open Wi (A8 B7 AU AC B2 mC Bn Bl)
set_option maxRecDepth 4000
abbrev Do : List Nat:=[0,1,2,4,5,6,7,9,10,31]
abbrev Js (l : List Em) : D:=.sl 3 (l.map Em.cells)
abbrev nH (n : Node) (g : List Em) : List A5:=[.c (hC n (.sl 1 g.length 3)),.a (Js g)]
abbrev aC (a : A8 × Int) : List AV:=[.d (.i .u8 a.1.kind),.d (.i .i64 a.1.call),.d (.i .i64 a.1.src),.d (.i .i64 a.1.dst),.d (.i .i64 a.1.key),.d (.b a.1.slow),.d (.b a.1.done),.d (.i .i64 a.1.place),.d (.i .i64 a.1.pred),.d (.is a.1.list),.d (.s a.1.item.key),.d (.i .i64 a.1.item.value),.d (.i .i64 a.1.item.version),.d (.b a.1.item.gone),.d (.i .i64 a.1.code),.d (.i .u8 a.2)]
theorem aW (l : List (A8 × Int)) : Ao Tryz.prog 152 [.d (AI l)] [] (.fn (.func 230) [] [.ptr 0 0 1]) [.c [.d (AI l)]]:=by
 refine zC A6 Tryz.func152 ?_;refine wk [0,1,2] [] A0 A0 ?_;exact cy
theorem Vw (n : Node) (g : List Em) (m : A8) (hm : m.list.length < 9223372036854775807) (hg : g.length ≤ 1048576) : Ao Tryz.prog 46 [.ptr 0 0 77,.d m.d] (nH n g) (.tup []) (nH n (g ++ MG m)):=by
 have c1:=Wi.YI m hm;refine zC A6 Tryz.func46 ?_;unfold Wi.A8.d Wi.A8.cells at *;have hT : MG m = if (Bn m).2 = 0 then [⟨m.dst,(Bn m).1,false⟩] else []:=rfl
 generalize Bn m = p at *;obtain ⟨pb,pe⟩:=p;dsimp only at c1 hT;rw [hT]
 by_cases h : pe = 0
 ·have f1:=AS h;rw [if_pos h];unfold nH hC;refine wd [0,1,3,4,5,12] [] [(0,9),(1,9),(2,9),(3,9),(4,9),(0,10)] (AF f1) (AF @c1) ?_
  (have nC:=And.intro @Js.eq_1 @Em.cells.eq_1;exact kO)
 ·have f1:=eq_false' h;rw [if_neg h,List.append_nil];unfold nH hC;refine wd [0,1,3,4,5,12] [] [] (AF f1) (AF @c1) ?_;exact cy
theorem UB (c : Calls) (m : A8) (why ref now : Int) (h : m.list = []) : (As c m why ref now).2.1.list = []:=by
 unfold As;split
 ·split
  ·rfl
  ·dsimp only;split
   ·exact h
   ·rfl
 ·rfl
abbrev oH (s : NS) (l : List (A8 × Int)) : List A5:=[.c (hC s.1 (.sl 1 s.2.length 3)),.a (Js s.2),.c [.ptr 0 0 77],.c [.d (AI l)]]
theorem e8 (n : Node) (g : List Em) (l : List (A8 × Int)) (h : NB n) (hl : V8 l) (hn : l.length ≤ 1000000) (hg : g.length ≤ 1000000) : Ao Tryz.prog 82 [.ptr 0 0 77,.d (AI l)] (nH n g) (.tup []) (nH (DZ (n,g) l).1 (DZ (n,g) l).2):=by
 have c1:=aW l;refine zC A6 Tryz.func82 ?_;unfold nH;have d1:=Ds.mk [] (c1);refine wd Do [] [] A0 A0 ?_;clear d1;refine zG (K:=fun r _ H' => H' = oH (DZ (n,g) l) l ++ [.lp r]) ?_ ?_
 ·intro r hr;have hk:=hr.ok (k:=4) rfl
  have hY : ∀ (s : NS) (x : A8 × Int),NB s.1 → x.1.list = [] → s.2.length ≤ 1000100 → YT Tryz.prog 4 [.d (.agg (CG x))] (oH s l ++ [.lp r,.c (aC x)]) fun v K => v = .d (.b true) ∧ K = oH (F5 s x) l ++ [.lp r,.c (aC x)]:=by
   rintro ⟨N,G⟩ x hN hx hG;dsimp only at hN hG;have hb:=hN.hok;have c2:=WO N.calls x.1 x.2 0 N.clock hb.ok.cl hb.ok.cn (by unfold C3;rw [hx];exact Nat.zero_le _);have c3:=dR N hb x.2;have hT : F5 (N,G) x = if (As N.calls x.1 x.2 0 N.clock).2.2 = 0 then ({ N with calls:=(As N.calls x.1 x.2 0 N.clock).1 },G ++ MG (As N.calls x.1 x.2 0 N.clock).2.1) else (DY N x.2,G):=rfl;rw [hT];have hml:=UB N.calls x.1 x.2 0 N.clock hx;clear hT;generalize As N.calls x.1 x.2 0 N.clock = q at *;obtain ⟨q1,q2,q3⟩:=q;generalize DY N x.2 = B at *;dsimp only at *;refine Az hr rfl rfl rfl ?_;unfold Calls.d Calls.cells Wi.A8.d Wi.A8.cells at c2;unfold Node.d Node.cells View.cells Calls.cells Job.cells at c3
   by_cases hq : q3 = 0
   ·have f1:=AS hq;rw [if_pos hq];have c4:=Vw { N with calls:=q1 } G q2 (by rw [hml];exact Nat.le_of_ble_eq_true rfl) (by omega);unfold Wi.A8.d Wi.A8.cells at c4;unfold nH at c4;unfold hC aC CG at *;refine wd Do [] [] A0 A0 ?_;refine zR ?_;refine wd Do [3] [] A0 A0 ?_;apply YM (E:=T.get) 19 20 7 8 mixed rfl (by simp (decide:=true) [Ag,A5.ok,AV.oks,AV.ok,hk])
    case h1 =>
     refine wd Do [] [(0,19),(1,19),(2,19),(3,19),(4,19),(5,19),(6,19),(7,19),(8,19),(9,19),(10,19),(11,19),(12,19),(13,19),(0,20),(1,20),(2,20),(3,20),(4,20),(5,20),(6,20),(7,20),(8,20),(9,20),(10,20),(11,20),(12,20),(13,20)] A0 (AF @c2) ?_;exact ⟨rfl,.inl rfl⟩
    case h2 =>
     refine wd Do [] [(0,19),(1,19),(2,19),(3,19),(4,19),(5,19),(6,19),(7,19),(8,19),(9,19),(10,19),(11,19),(12,19),(13,19),(0,20),(1,20),(2,20),(3,20),(4,20),(5,20),(6,20),(7,20),(8,20),(9,20),(10,20),(11,20),(12,20),(13,20)] A0 (AF @c2) ?_;have e : I0 (sw 7 8) r.env = r.env:=by rw [hr.2.2.2.1];rfl
     refine ⟨rfl,.inr ?_⟩;show (⟨_,[_,_,_,_,.lp { r.busy with env:=I0 (sw 7 8) r.env },_,_,_,_],_⟩ : St) = _;rw [e];rfl
    case hab => rfl
    case hQ =>
     have d1:=Ds.mk [0,1] (c4);refine wd Do [] [] (AF f1) A0 ?_;clear d1;with_reducible repeat' first|constructor|intro hc;try simp only[AD] at hc
     exact lO rfl (A3.ck rfl)
   ·have f1:=eq_false' hq;rw [if_neg hq];unfold hC aC CG at *;refine wd Do [] [] A0 A0 ?_;refine zR ?_;refine wd Do [3] [] A0 A0 ?_;apply YM (E:=T.get) 19 20 7 8 mixed rfl (by simp (decide:=true) [Ag,A5.ok,AV.oks,AV.ok,hk])
    case h1 =>
     refine wd Do [] [(0,19),(1,19),(2,19),(3,19),(4,19),(5,19),(6,19),(7,19),(8,19),(9,19),(10,19),(11,19),(12,19),(13,19),(0,20),(1,20),(2,20),(3,20),(4,20),(5,20),(6,20),(7,20),(8,20),(9,20),(10,20),(11,20),(12,20),(13,20)] A0 (AF @c2) ?_;exact ⟨rfl,.inl rfl⟩
    case h2 =>
     refine wd Do [] [(0,19),(1,19),(2,19),(3,19),(4,19),(5,19),(6,19),(7,19),(8,19),(9,19),(10,19),(11,19),(12,19),(13,19),(0,20),(1,20),(2,20),(3,20),(4,20),(5,20),(6,20),(7,20),(8,20),(9,20),(10,20),(11,20),(12,20),(13,20)] A0 (AF @c2) ?_;have e : I0 (sw 7 8) r.env = r.env:=by rw [hr.2.2.2.1];rfl
     refine ⟨rfl,.inr ?_⟩;show (⟨_,[_,_,_,_,.lp { r.busy with env:=I0 (sw 7 8) r.env },_,_,_,_],_⟩ : St) = _;rw [e];rfl
    case hab => rfl
    case hQ =>
     refine wd Do [] [] (AF f1) (AF @c3) ?_;with_reducible repeat' first|constructor|intro hc;try simp only[AD] at hc
     exact lO rfl (A3.ck rfl)
  refine zT A6 Tryz.func230 ?_;refine wk [0,1,4,5,6,7,8,14] [] A0 A0 ?_;refine Cj (fun j : Nat => j ≤ l.length) (fun j : Nat => [(7,.d (.i .i64 j))]) (fun j => [(0,.c (hC (DZ (n,g) (l.take j)).1 (.sl 1 (DZ (n,g) (l.take j)).2.length 3))),(1,.a (Js (DZ (n,g) (l.take j)).2))]) (fun j => l.length - j) 0 (Nat.zero_le _) (fun _ => rfl) (fun _ => rfl) ?_ ?_
  ·exact A3.ck rfl
  intro j hj
  by_cases hjl : j < l.length
  ·obtain ⟨x,hx⟩:=Aa hjl;have hz:=XA (s:=(n,g)) h (l.take j);have hy:=hY (DZ (n,g) (l.take j)) x (Ko (l.take j) (s:=(n,g)) h).nb (hl x (List.mem_of_getElem? hx)) (by dsimp only at hz;omega)
   have e1 : F5 (DZ (n,g) (l.take j)) x = DZ (n,g) (l.take (j + 1)):=by
    rw [AP hx];unfold DZ;rw [List.foldl_append];rfl
   rw [e1] at hy;unfold oH CG aC at hy;simp only [List.cons_append,List.nil_append] at hy;have ix1:=hx;have q1:=@hy;refine wk [0,1,4,5,6,7,8,14] [] A0 A0 ?_;clear q1 ix1;with_reducible repeat' first|constructor|intro hc;try simp only[AD] at hc
   refine ⟨j + 1,hjl,by omega,Nat.le_refl _,?_⟩;exact A3.ck rfl
  ·have e : j = l.length:=by omega
   subst e;rw [List.take_length];refine wk [0,1,4,5,6,7,8,14] [] A0 A0 ?_;with_reducible repeat' first|constructor|intro hc;try simp only[AD] at hc
   exact ⟨_,A3.refl _,Nat.le_refl _,_,_,rfl,rfl,rfl⟩
 ·rintro r hr x H' rfl;refine .inl ⟨rfl,?_⟩;refine wd Do [] [] A0 A0 ?_;exact cy
theorem eX (n n' : Node) (g : List Em) (l : List (A8 × Int)) (h : NB n') (hl : V8 l) (hn : l.length ≤ 1000000) (hg : g.length ≤ 1000000) : Ao Tryz.prog 48 [.ptr 0 0 77,.d n'.d,.d (AI l)] (nH n g) (.tup []) (nH (Jh g (n',l)).1 (Jh g (n',l)).2):=by
 have c1:=e8 n' g l h hl hn hg;have hT : Jh g (n',l) = DZ (n',g) l:=rfl;rw [hT];generalize DZ (n',g) l = q at *;refine zC A6 Tryz.func48 ?_;unfold nH at *;unfold Node.d Node.cells View.cells Calls.cells Job.cells;have d1:=Ds.mk [0,1] (c1);refine wk [0,1,2,4] [] A0 A0 ?_;clear d1;exact cy
abbrev C6 : List Nat:=[0,1,2,3,5,6,7,8,9,10,16,17,24,42]
abbrev Mm : List Nat:=[0,1,2,3,4,5,6,7,8,13,18,19,20,21,39]
theorem gN (n : Node) (what : Int) (x : Item) (h : NB n) (hx : x.key.length ≤ big) : Go.Gar.Fn Tryz.prog 13 [n.d,.i .u8 what,x.d] (.tup [(GF n what x).1.1.d,Js (GF n what x).1.2,.i .i64 (GF n what x).2]):=by
 have c1:=BQ n h.br;have c2:=BA n h.br;have c3:=Wi.Iq x;have c4:=aV n.client;rw [h.r] at c2
 have hT : GF n what x = if E6 what x then (if Hr n.client then (Jh [] (BI n 7 what 0 x),0) else ((n,[]),100)) else ((n,[]),2):=by
  unfold GF;rw [h.r,Bool.true_and]
 rw [hT];clear hT;have hA : E6 what x = ((decide (what = 2) && AU x) || (decide (what = 3) && (decide ((x.key.length : Int) ≥ 1) && decide ((x.key.length : Int) ≤ 20)))):=rfl;have c5:=Zh n h.hok 7 what 0 x hx;have c6:=eX n (BI n 7 what 0 x).1 [] (BI n 7 what 0 x).2 (h.start hx) (eO _ _ _ _ _) (by have:=Xj n 7 what 0 x;omega) (Nat.zero_le _);rw [show ((BI n 7 what 0 x).1,(BI n 7 what 0 x).2) = BI n 7 what 0 x from rfl] at c6;generalize BI n 7 what 0 x = t at *;generalize Jh [] t = u at *;obtain ⟨t1,t2⟩:=t;dsimp only at c5 c6;refine zF A6 Tryz.func13 ?_;unfold nH hC at c6;unfold Node.d Node.cells View.cells Calls.cells Job.d Job.cells Item.d Item.cells at *
 cases hq : E6 what x with
 | false =>
  rw [hA] at hq;rw [if_neg (by decide)]
  by_cases h2 : what = 2
  ·subst h2;have hi : AU x = false:=by simpa using hq
   rw [hi] at c3;have sc : No 3:=trivial;refine wd C6 [9] [] A0 (Dl @c1 @c2 @c3) ?_;clear sc;have sc : No 3:=trivial;refine wd C6 [] [(2,5),(3,5)] A0 A0 ?_;clear sc;exact zE
  ·have f2:=eq_false' h2;rw [decide_eq_false h2,Bool.false_and,Bool.false_or] at hq
   by_cases h3 : what = 3
   ·subst h3;rw [decide_eq_true rfl,Bool.true_and] at hq
    cases k1 : decide ((x.key.length : Int) ≥ 1) with
    | false =>
     have sc : No 3:=trivial;refine wd C6 [9] [] (AF k1) (Aj @c1 @c2) ?_;clear sc;have sc : No 3:=trivial;refine wd C6 [] [(2,5),(3,5)] A0 A0 ?_;clear sc;exact zE
    | true =>
     rw [k1,Bool.true_and] at hq;have sc : No 3:=trivial;refine wd C6 [9] [] (Aj k1 hq) (Aj @c1 @c2) ?_;clear sc;have sc : No 3:=trivial;refine wd C6 [] [(2,5),(3,5)] A0 A0 ?_;clear sc;exact zE
   ·have f3:=eq_false' h3;have sc : No 3:=trivial;refine wd C6 [9] [] (Aj f2 f3) (Aj @c1 @c2) ?_;clear sc;have sc : No 3:=trivial;refine wd C6 [] [(2,5),(3,5)] A0 A0 ?_;clear sc;exact zE
 | true =>
  rw [hA] at hq;rw [if_pos rfl]
  have hw : (what = 2 ∧ AU x = true) ∨ (what = 3 ∧ decide ((x.key.length : Int) ≥ 1) = true ∧ decide ((x.key.length : Int) ≤ 20) = true):=by
   simpa only [Bool.or_eq_true,Bool.and_eq_true,decide_eq_true_eq] using hq
  clear hq hA
  cases hf : Hr n.client with
  | false =>
   rw [hf] at c4;rw [if_neg (by decide)];rcases hw with ⟨rfl,hi⟩ | ⟨rfl,k1,k2⟩
   ·rw [hi] at c3;have sc : No 3:=trivial;refine wd C6 [9] [] A0 (M9 @c1 @c2 @c3 @c4) ?_;clear sc;have sc : No 3:=trivial;refine wd C6 [] [(2,5),(3,5)] A0 A0 ?_;clear sc;exact zE
   ·have sc : No 3:=trivial;refine wd C6 [9] [] (Aj k1 k2) (Dl @c1 @c2 @c4) ?_;clear sc;have sc : No 3:=trivial;refine wd C6 [] [(2,5),(3,5)] A0 A0 ?_;clear sc;exact zE
  | true =>
   rw [hf] at c4;rw [if_pos rfl];rcases hw with ⟨rfl,hi⟩ | ⟨rfl,k1,k2⟩
   ·rw [hi] at c3;have sc : No 3:=trivial;refine wd C6 [8] [] A0 (M9 @c1 @c2 @c3 @c4) ?_;clear sc;refine Ap (A3.EO 3 76 (.sl 3 []) rfl rfl rfl rfl (by simp [A4])) (by simp) ?_;have d1:=Ds.mk [3,4] (c6);have sc : No 3:=trivial;refine wd C6 [9] [] A0 (AF @c5) ?_;clear sc d1;have sc : No 3:=trivial;refine wd C6 [] [(2,5),(3,5)] A0 A0 ?_;clear sc;exact zE
   ·have sc : No 3:=trivial;refine wd C6 [8] [] (Aj k1 k2) (Dl @c1 @c2 @c4) ?_;clear sc;refine Ap (A3.EO 3 76 (.sl 3 []) rfl rfl rfl rfl (by simp [A4])) (by simp) ?_;have d1:=Ds.mk [3,4] (c6);have sc : No 3:=trivial;refine wd C6 [9] [] A0 (AF @c5) ?_;clear sc d1;have sc : No 3:=trivial;refine wd C6 [] [(2,5),(3,5)] A0 A0 ?_;clear sc;exact zE
theorem SN (n : Node) (i : Nat) (x : Item) (r : List Item) : EQ n i (x :: r) = if (En n.view.id (n.calls.many + 1 + i)).2 = 0 then MG (IP n i x) ++ EQ n (i + 1) r else []:=rfl
theorem aB (n : Node) (h : NB n) : Go.Gar.Fn Tryz.prog 15 [n.d] (Js (Ju n)):=by
 have c1:=BA n h.br;have c2:=PP n.view h.hok.ok.vb h.hok.ok.vl;rw [h.r] at c1;have hT : Ju n = EQ n 0 n.keep:=by unfold Ju;rw [if_pos h.r]
 rw [hT];have hM : ∀ (i : Nat) (x : Item),IP n i x = ⟨5,(En n.view.id (n.calls.many + 1 + i)).1,n.view.id,Ix n.view,0,false,false,0,0,[],x,0⟩:=fun _ _ => rfl
 have hmany : 0 ≤ n.calls.many ∧ n.calls.many ≤ 1048576:=by
  obtain ⟨⟨_,a,b,_⟩,_⟩:=CM.1 h.cB.1;exact ⟨a,b⟩
 have hkn:=h.br.kn;generalize Ix n.view = fi at *;refine zF A6 Tryz.func15 ?_;unfold Node.d Node.cells View.d View.cells Calls.cells Job.cells at *;refine wk Mm [] A0 (Aj @c1 @c2) ?_;refine Ap (A3.EO 1 76 (.sl 3 []) rfl rfl rfl rfl (by simp [A4])) (by simp) ?_;refine Cj (fun s : Nat × List Em => s.1 ≤ n.keep.length ∧ s.2.length ≤ s.1 ∧ s.2 ++ EQ n s.1 (n.keep.drop s.1) = EQ n 0 n.keep) (fun s => [(20,.d (.i .i64 s.1))]) (fun s => [(1,.c (hC n (.sl 2 s.2.length 3))),(2,.a (Js s.2))]) (fun s => n.keep.length - s.1) (0,[]) ⟨Nat.zero_le _,Nat.le_refl _,rfl⟩ (fun _ => rfl) (fun _ => rfl) ?_ ?_
 ·exact A3.ck rfl
 rintro ⟨j,g⟩ ⟨hj,hg,he⟩;dsimp only at hj hg he
 by_cases hjl : j < n.keep.length
 ·obtain ⟨x,hx⟩:=Aa hjl;rw [List.drop_eq_getElem_cons hjl,show n.keep[j] = x by rw [List.getElem?_eq_getElem hjl] at hx;exact Option.some.inj hx,SN] at he;have c3:=PU n.view.id (n.calls.many + 1 + j);have hMj:=hM j x;generalize En n.view.id (n.calls.many + 1 + j) = q at *;obtain ⟨q1,q2⟩:=q;dsimp only at c3 he hMj
  by_cases hq : q2 = 0
  ·have f1:=AS hq;rw [if_pos hq] at he;rw [hMj] at he;have c4:=Vw n g ⟨5,q1,n.view.id,fi,0,false,false,0,0,[],x,0⟩ (Nat.le_of_ble_eq_true rfl) (by omega);have hp : (MG ⟨5,q1,n.view.id,fi,0,false,false,0,0,[],x,0⟩).length ≤ 1:=by unfold MG;split <;> simp
   generalize MG ⟨5,q1,n.view.id,fi,0,false,false,0,0,[],x,0⟩ = p at *;unfold nH at c4;unfold Wi.A8.d Wi.A8.cells at c4;have ix1:=hx;refine wk Mm [10] (AF f1) (AF @c3) ?_;clear ix1;with_reducible repeat' first|constructor|intro hc;try simp only[AD] at hc
   have nS:=True.intro
   repeat' (first | ((with_reducible refine sg ?_);first | with_reducible rfl | ((with_reducible refine Db ?_);first | kernel_rfl | rfl | (simp [Bw,CV,nS];done)) | with_reducible refine Cr ?_ ?_ | with_reducible exact Nat.beq_refl _ | with_reducible exact AT _ | ((with_reducible refine decide_eq_true ?_);first | omega | (simp only [Bm,nS];omega)) | decide | (simp [Bm,slc,AX,D.one,B1,AV.one,nS];done) | (simp [Bm,nS];omega)) | ((with_reducible refine ZZ ?_);first | refine Xfd 46 (.agg [.i .u8 5,.i .i64 q1,.i .i64 n.view.id,.i .i64 fi,.i .i64 0,.b false,.b false,.i .i64 0,.i .i64 0,.is [],.s x.key,.i .i64 x.value,.i .i64 x.version,.b x.gone,.i .i64 0]) rfl rfl (by first | (simp [Ho,Bt,BN,A7,AB,A4];done) | (repeat' (first | rfl | trivial | refine ⟨rfl,rfl,by simp [A4]⟩ | refine ⟨_,_,rfl,?_,?_⟩ | refine ⟨_,rfl,?_⟩))) rfl ?_ | (refine E5 rfl ?_;refine YZ A6 rfl rfl rfl rfl ?_) | refine Xq A6 rfl rfl rfl rfl ?_ ?_ | refine Xn [0,1,2,3,4,5,6,7,8,13,18,19,20,21,39] rfl ?_ | refine XD [1,2] (c4) rfl rfl rfl ⟨rfl,rfl,trivial⟩ rfl rfl rfl rfl ?_ | refine Xa A6 rfl rfl rfl rfl rfl ?_ ?_ | refine Xw A6 rfl rfl rfl rfl ?_ ?_) | refine Fi ?_ | refine Df ?_ | refine Dr ?_ | refine Fh ?_ | refine Ci ?_ | refine Dq ?_ | refine C1 rfl ?_ | refine C0 rfl ?_ | (refine Fg rfl (fun hc => ?_) (fun hc => ?_) <;> (try simp only [AD] at hc) <;> (try (exfalso;omega))))
   refine ⟨(j + 1,g ++ p),⟨hjl,by dsimp only;rw [List.length_append];omega,by dsimp only;rw [List.append_assoc];exact he⟩,by dsimp only;omega,Nat.le_refl _,?_⟩;exact A3.ck rfl
  ·have f1:=eq_false' hq;rw [if_neg hq,List.append_nil] at he;subst he;have ix1:=hx;refine wk Mm [] (AF f1) (AF @c3) ?_;clear ix1;with_reducible repeat' first|constructor|intro hc;try simp only[AD] at hc
   exact zE
 ·have e : j = n.keep.length:=by omega
  subst e;rw [List.drop_length] at he;have he : g = EQ n 0 n.keep:=by rw [← he];exact (List.append_nil g).symm
  subst he;refine wk Mm [] A0 A0 ?_;with_reducible repeat' first|constructor|intro hc;try simp only[AD] at hc
  exact zE
end Nd
end Go.Proofs.YtkljbfejbakooaaGreatDoor
