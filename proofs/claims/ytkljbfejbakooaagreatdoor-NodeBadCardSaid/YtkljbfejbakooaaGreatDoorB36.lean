/- Part 36 of a proof, put together by a program. Conditions: none beyond those that a theorem states. -/
import Derived.Test.YtkljbfejbakooaaGreatDoorB35
set_option linter.unusedSimpArgs false
set_option linter.unusedVariables false
set_option linter.unnecessarySimpa false
set_option maxHeartbeats 40000000
namespace Go.Proofs.YtkljbfejbakooaaGreatDoor
namespace Nd
open Go.Gar
open Wi (A8 B2 Ai AA BN)
set_option maxRecDepth 4000
variable {n : Node}
theorem Aj : Dq n = true ↔ (0 ≤ n.clock ∧ n.clock ≤ 1099511627776) ∧ 0 ≤ n.bad ∧ (0 ≤ n.next ∧ n.next < 16) ∧ Ck n.view = true ∧ (n.calls.id = n.view.id ∧ BB n.calls = true) ∧ Gj n.phase n.of_ = true ∧ C0 n.keep = true ∧ EW n.seen = true ∧ Ju n = true:=by
 unfold Dq;simp only [Bool.and_eq_true,decide_eq_true_eq]
structure cj (n w : Node) : Prop where
 view : Tl n.view w.view
 clock : w.clock = n.clock
 calls : w.calls = n.calls
 seen : w.seen = n.seen
 last : w.last = n.last
 bad : w.bad = n.bad
 right : Dq n = true → Dq w = true
 keep : C0 n.keep = true → ∀ y ∈ n.keep,(Gn w.keep y.key).2 = 0 ∧ Jr y (Gn w.keep y.key).1 = false
theorem cj.refl (n : Node) : cj n n:=⟨.refl _,rfl,rfl,rfl,rfl,rfl,fun h => h,fun h _ hy => J3 h hy⟩
theorem Uw (k : List Item) (j : Job) (h : C0 k = true) : C0 (Fy k j).1 = true ∧ ∀ y ∈ k,(Gn (Fy k j).1 y.key).2 = 0 ∧ Jr y (Gn (Fy k j).1 y.key).1 = false:=by
 unfold Fy;split
 ·exact ⟨QG h,fun y hy => QH h hy⟩
 ·split <;> exact ⟨h,fun y hy => J3 h hy⟩
theorem XI {w : Node} (h : w.seen = n.seen) (k : w.view.id = n.view.id) : Ju w = Ju n:=by unfold Ju;rw [h,k]
theorem cj.mk' {w : Node} (hv : Tl n.view w.view) (h1 : w.clock = n.clock) (h2 : w.calls = n.calls) (h3 : w.seen = n.seen) (h4 : w.last = n.last) (h5 : w.bad = n.bad) (h6 : 0 ≤ n.next ∧ n.next < 16 → 0 ≤ w.next ∧ w.next < 16) (h7 : Gj n.phase n.of_ = true → Gj w.phase w.of_ = true) (h8 : C0 n.keep = true → C0 w.keep = true ∧ ∀ y ∈ n.keep,(Gn w.keep y.key).2 = 0 ∧ Jr y (Gn w.keep y.key).1 = false) : cj n w:=by
 refine ⟨hv,h1,h2,h3,h4,h5,fun h => ?_,fun h => (h8 h).2⟩;rw [Aj] at h ⊢;obtain ⟨a1,a2,a3,a4,a5,a6,a7,a8,a9⟩:=h;exact ⟨by rw [h1];exact a1,by rw [h5];exact a2,h6 a3,hv.right a4,by rw [h2,hv.id];exact a5,h7 a6,(h8 a7).1,by rw [h3];exact a8,by rw [XI h3 hv.id];exact a9⟩
theorem ZP {k : Int} (h : 0 ≤ k ∧ k < 16) : 0 ≤ (k + 1).tmod 16 ∧ (k + 1).tmod 16 < 16:=by
 rw [Int.tmod_eq_emod_of_nonneg (by omega)];omega
structure GOK (n : Node) (why : Int) (c : JC) (w : Node) : Prop where
 st : cj n w
 list : w.view.list = n.view.list
 phase : w.phase = n.phase
 of_ : w.of_ = n.of_
 finger : why ≠ 5 → w.finger = n.finger ∧ w.next = n.next
 mirror : why ≠ 6 → w.mirror = n.mirror
 client : why = 5 ∨ why = 6 → w.client = n.client
theorem Z6 (n : Node) : Tl n.view (OA n).view ∧ (OA n).view.list = n.view.list:=by
 unfold OA
 by_cases h : n.finger.code = 0
 ·simp only [if_pos h];exact ⟨bL ..,WP ..⟩
 ·refine ⟨?_,by simp only [if_neg h]⟩;simp only [if_neg h];exact .refl _
theorem eM (n : Node) (j : Job) : QD n 5 j = { n with finger:=j }:=if_pos rfl
theorem eN (n : Node) (j : Job) : QD n 6 j = { n with mirror:=j }:=by unfold QD;rw [if_neg (by decide),if_pos rfl]
theorem eO (n : Node) {why : Int} (j : Job) (h5 : why ≠ 5) (h6 : why ≠ 6) : QD n why j = { n with client:=j }:=by unfold QD;rw [if_neg h5,if_neg h6]
theorem T5 (n : Node) (why : Int) (ended : Bool) (c : JC) : GOK n why c (Pg n why ended c).1:=by
 unfold Pg
 have hs : C0 n.keep = true → C0 (if c.own then Fy n.keep c.job else (n.keep,c.job)).1 = true ∧ ∀ y ∈ n.keep,(Gn (if c.own then Fy n.keep c.job else (n.keep,c.job)).1 y.key).2 = 0 ∧ Jr y (Gn (if c.own then Fy n.keep c.job else (n.keep,c.job)).1 y.key).1 = false:=by
  intro h;split
  ·exact Uw _ _ h
  ·exact ⟨h,fun y hy => J3 h hy⟩
 generalize (if c.own then Fy n.keep c.job else (n.keep,c.job)) = s at *;obtain ⟨k,j⟩:=s;dsimp only at hs ⊢
 by_cases h5 : why = 5
 ·subst h5;rw [eM];have hg:=Z6 { n with keep:=k,finger:=j }
  by_cases hc : (5 : Int) = 5 ∧ ended = false ∧ j.phase = 5
  ·rw [if_pos hc];exact ⟨.mk' hg.1 rfl rfl rfl rfl rfl ZP id hs,hg.2,rfl,rfl,fun h => absurd rfl h,fun _ => rfl,fun _ => rfl⟩
  ·rw [if_neg hc];exact ⟨.mk' (.refl _) rfl rfl rfl rfl rfl id id hs,rfl,rfl,rfl,fun h => absurd rfl h,fun _ => rfl,fun _ => rfl⟩
 ·rw [if_neg (fun h => h5 h.1)]
  by_cases h6 : why = 6
  ·subst h6;rw [eN];exact ⟨.mk' (.refl _) rfl rfl rfl rfl rfl id id hs,rfl,rfl,rfl,fun _ => ⟨rfl,rfl⟩,fun h => absurd rfl h,fun _ => rfl⟩
  ·rw [eO _ _ h5 h6];exact ⟨.mk' (.refl _) rfl rfl rfl rfl rfl id id hs,rfl,rfl,rfl,fun _ => ⟨rfl,rfl⟩,fun _ => rfl,fun h => by omega⟩
theorem Ym (n : Node) (why : Int) : cj n (LP n why):=by
 unfold LP;split
 ·split
  ·exact .mk' (.refl _) rfl rfl rfl rfl rfl id (fun _ => rfl) (fun hk => ⟨hk,fun y hy => J3 hk hy⟩)
  ·split
   ·exact (T5 ..).st
   ·exact .refl _
 ·exact .refl _
abbrev JS : List Nat:=[0,2,3,5,8,13,14,15]
abbrev Om : List Nat:=[0,1,3,4,5,6,7,8,16]
theorem Ws (l : List Item) (h0 : 0 < l.length) (hn : l.length ≤ 1048576) : B4 Tryz.prog 87 [.d (AZ l)] [] (.sl 0 l.length 4) [.a (AZ l)]:=by
 have c1:=Ps l;have f1:=eq_false' (show (l.length : Int) ≠ 0 by omega);refine zD A6 Tryz.func87 ?_;have k1 : No 11:=trivial;have k2 : Dd ((AZ [])):=trivial;have d1:=Ds.mk [] (c1);refine wk JS [] (AG f1) A0 ?_;clear d1 k2 k1;refine zG (K:=fun r _ H' => H' = [.a (AZ l),.c [.sl 0 l.length 4],.c [.d (AZ l)],.lp r]) ?_ ?_
 ·intro r hr;have hk:=hr.ok (k:=3) rfl
  have hY : ∀ (k : Nat) (x : Item) (o : List Item),o.length ≤ 1048576 → YT Tryz.prog 3 [.d (.i .i64 k),.d (.agg [.s x.key,.i .i64 x.value,.i .i64 x.version,.b x.gone])] [.a (AZ o),.c [.sl 0 o.length 4],.c [.d (AZ l)],.lp r,.c [.d (.s x.key),.d (.i .i64 x.value),.d (.i .i64 x.version),.d (.b x.gone)]] fun v K => v = .d (.b true) ∧ K = [.a (AZ (o ++ [x])),.c [.sl 0 (o ++ [x]).length 4],.c [.d (AZ l)],.lp r,.c [.d (.s x.key),.d (.i .i64 x.value),.d (.i .i64 x.version),.d (.b x.gone)]]:=by
   intro k x o ho;refine BG hr rfl rfl rfl ?_;refine wk JS [] A0 A0 ?_;refine zR ?_;refine wk JS [] A0 A0 ?_;refine ⟨⟨[],[.a (AZ (o ++ [x])),.c [.sl 0 (o ++ [x]).length 4],.c [.d (AZ l)],.lp r.busy,.c [.d (.s x.key),.d (.i .i64 x.value),.d (.i .i64 x.version),.d (.b x.gone)]],_⟩,(have nC:=And.intro @AZ.eq_1 @Item.cells.eq_1;A1.cn rfl),Nat.le_refl _,rfl,rfl,rfl⟩
  refine zT A6 Tryz.func235 ?_;refine wk Om [] A0 A0 ?_;refine Ik (fun j : Nat => j ≤ l.length) (fun j : Nat => [(7,.d (.i .i64 j))]) (fun j => [(0,.a (AZ (l.take j))),(1,.c [.sl 0 (l.take j).length 4])]) (fun j => l.length - j) 0 (Nat.zero_le _) (fun _ => rfl) (fun _ => rfl) ?_ ?_
  ·exact A1.ck rfl
  intro j hj
  by_cases hjl : j < l.length
  ·obtain ⟨x,hx⟩:=Ah hjl;have hy:=hY j x (l.take j) (by rw [List.length_take];omega);have hn:=As hx;rw [← hn] at hy;have ix1:=hx;have q1:=@hy;refine wk Om [] A0 A0 ?_;clear q1 ix1;with_reducible repeat' first|constructor|intro hc;try simp only[AB] at hc
   refine ⟨j + 1,hjl,by omega,Nat.le_refl _,?_⟩;exact A1.ck rfl
  ·have e : j = l.length:=by omega
   subst e;rw [List.take_length];refine wk Om [] A0 A0 ?_;with_reducible repeat' first|constructor|intro hc;try simp only[AB] at hc
   exact ⟨_,A1.refl _,Nat.le_refl _,_,_,rfl,rfl,rfl⟩
 ·rintro r hr x H' rfl;refine .inl ⟨rfl,?_⟩;refine wk JS [] A0 A0 ?_;exact ⟨⟨[(2,.sl 0 l.length 4)],[.a (AZ l)],_⟩,(A1.ck rfl),Nat.zero_le _,_,_,rfl,rfl,rfl,rfl⟩
theorem ZE (l : List Item) (hn : l.length ≤ 1048576) : Go.Gar.Fn Tryz.prog 87 [AZ l] (AZ l):=by
 by_cases h0 : 0 < l.length
 ·refine DO (ds:=[AZ l]) (Ws l h0 hn) ?_;simp [IF,A9]
 ·have e : l = []:=List.length_eq_zero_iff.1 (by omega);subst e;refine zF A6 Tryz.func87 ?_;refine wk JS [] A0 A0 ?_;exact zE
end Nd
end Go.Proofs.YtkljbfejbakooaaGreatDoor
namespace Go.Proofs.YtkljbfejbakooaaGreatDoor
namespace Nd
open Go.Gar
open Wi (A8 B2 Ai AA BN mC)
set_option maxRecDepth 4000
abbrev L2 : List Nat:=[0,2,3,5,7,8,9]
abbrev On : List Nat:=[0,1,3,4,5,6,7,8,16]
abbrev Ga : List Nat:=[0,1,2,3,4,5,6,17,18,20]
theorem TD (m : A8) (h : B5 m) : Go.Gar.Fn Tryz.prog 122 [m.d] m.d:=by
 unfold B5 at h;refine zF A6 Tryz.func122 ?_;unfold Wi.A8.d Wi.A8.cells;refine wk [0,1,2] [] A0 A0 ?_;exact zE
theorem M3 (x : Call) (h : B5 x.msg) : Go.Gar.Fn Tryz.prog 252 [x.d] x.d:=by
 have c1:=TD x.msg h;refine zF A6 Tryz.func252 ?_;unfold Call.d Call.cells;unfold Wi.A8.d Wi.A8.cells at c1;refine wk [0,1,2] [] A0 (AG @c1) ?_;exact zE
theorem Je (l : List Int) (hl : l.length ≤ 1048576) : Go.Gar.Fn Tryz.prog 151 [.is l] (.is l):=by
 refine zF A6 Tryz.func151 ?_;have nS:=True.intro
 repeat' (first | ((with_reducible refine sg ?_);first | with_reducible rfl | ((with_reducible refine Cz ?_);first | kernel_rfl | rfl | (simp [Bb,CE,nS];done)) | with_reducible refine CV ?_ ?_ | with_reducible exact Nat.beq_refl _ | with_reducible exact AO _ | ((with_reducible refine decide_eq_true ?_);first | omega | (simp only [BU,nS];omega)) | decide | (simp [BU,slc,AQ,D.one,Al,AV.one,nS];done) | (simp [BU,nS];omega)) | ((with_reducible refine Y7 ?_);first | (refine E0 rfl ?_;refine Y5 A6 rfl rfl rfl rfl ?_) | refine dk A6 rfl rfl rfl rfl rfl rfl (fun hnil => ?_) ?_ | refine dl A6 rfl rfl rfl rfl rfl rfl (fun hnil => ?_) ?_ | refine Xq A6 rfl rfl rfl rfl ?_ ?_ | refine Xn [0,2,4] rfl ?_ | refine Xw A6 rfl rfl rfl rfl ?_ ?_) | refine FF ?_ | refine EB ?_ | refine DT ?_ | refine FE ?_ | refine CW ?_ | refine DR ?_ | refine Bo rfl ?_ | refine Bn rfl ?_ | (refine FX rfl (fun hc => ?_) (fun hc => ?_) <;> (try simp only [AB] at hc) <;> (try (exfalso;omega))))
 ·have e:=is_nil hnil;subst e;exact zE
 ·exact zE
theorem OG (j : Job) (h : j.left.length ≤ 1048576) : Go.Gar.Fn Tryz.prog 86 [j.d] j.d:=by
 have c1:=Je j.left h;refine zF A6 Tryz.func86 ?_;unfold Job.d Job.cells
 by_cases h0 : (j.left.length : Int) = 0
 ·have f1:=B3 h0;have e : j.left = []:=List.length_eq_zero_iff.1 (by omega);refine wk [0,1,2,6] [] (AG f1) A0 ?_;refine ⟨_,_,rfl,rfl,?_⟩;simp [Ab,A9,A4,A3,e]
 ·have f1:=eq_false' h0;refine wk [0,1,2,6] [] (AG f1) (AG @c1) ?_;exact zE
abbrev TO (x : Past) : List AV:=[.d (.i .i64 x.src),.d (.i .i64 x.call),.d (.i .u8 x.told.kind),.d (.i .i64 x.told.call),.d (.i .i64 x.told.src),.d (.i .i64 x.told.dst),.d (.i .i64 x.told.key),.d (.b x.told.slow),.d (.b x.told.done),.d (.i .i64 x.told.place),.d (.i .i64 x.told.pred),.d (.is x.told.list),.d (.s x.told.item.key),.d (.i .i64 x.told.item.value),.d (.i .i64 x.told.item.version),.d (.b x.told.item.gone),.d (.i .i64 x.told.code)]
abbrev BZ (x : Call) : List AV:=[.d (.i .i64 x.id),.d (.i .u8 x.msg.kind),.d (.i .i64 x.msg.call),.d (.i .i64 x.msg.src),.d (.i .i64 x.msg.dst),.d (.i .i64 x.msg.key),.d (.b x.msg.slow),.d (.b x.msg.done),.d (.i .i64 x.msg.place),.d (.i .i64 x.msg.pred),.d (.is x.msg.list),.d (.s x.msg.item.key),.d (.i .i64 x.msg.item.value),.d (.i .i64 x.msg.item.version),.d (.b x.msg.item.gone),.d (.i .i64 x.msg.code),.d (.i .u8 x.why),.d (.i .i64 x.ref),.d (.i .i64 x.sent),.d (.i .i64 x.tries)]
theorem QV (l : List Past) (hl : ∀ x ∈ l,B5 x.told) (hn : l.length ≤ 1048576) : B4 Tryz.prog 85 [.d (AJ l)] [] (.sl 2 l.length 17) [.gone,.gone,.a (AJ l)]:=by
 have c1:=MI l;refine zD A6 Tryz.func85 ?_;have d1:=Ds.mk [] (c1);refine wk L2 [] A0 A0 ?_;clear d1;refine Bp (A1.W6 0 0 (.sl 17 []) rfl rfl rfl rfl (by simp [A3])) (by simp) ?_;refine zG (K:=fun r _ H' => H' = [.c [.sl 2 l.length 17],.c [.d (AJ l)],.a (AJ l),.lp r]) ?_ ?_
 ·intro r hr;have hk:=hr.ok (k:=3) rfl
  have hY : ∀ (k : Nat) (x : Past) (o : List Past),B5 x.told → o.length ≤ 1048576 → YT Tryz.prog 3 [.d (.i .i64 k),.d (.agg [.i .i64 x.src,.i .i64 x.call,.i .u8 x.told.kind,.i .i64 x.told.call,.i .i64 x.told.src,.i .i64 x.told.dst,.i .i64 x.told.key,.b x.told.slow,.b x.told.done,.i .i64 x.told.place,.i .i64 x.told.pred,.is x.told.list,.s x.told.item.key,.i .i64 x.told.item.value,.i .i64 x.told.item.version,.b x.told.item.gone,.i .i64 x.told.code])] [.c [.sl 2 o.length 17],.c [.d (AJ l)],.a (AJ o),.lp r,.c (TO x)] fun v K => v = .d (.b true) ∧ K = [.c [.sl 2 (o ++ [x]).length 17],.c [.d (AJ l)],.a (AJ (o ++ [x])),.lp r,.c (TO x)]:=by
   intro k x o hx ho;have c2:=TD x.told hx;unfold Wi.A8.d Wi.A8.cells at c2;refine BG hr rfl rfl rfl ?_;unfold TO;refine wk L2 [] A0 A0 ?_;refine zR ?_;refine wk L2 [] A0 (AG @c2) ?_;refine ⟨⟨[],[.c [.sl 2 (o ++ [x]).length 17],.c [.d (AJ l)],.a (AJ (o ++ [x])),.lp r.busy,.c (TO x)],_⟩,(have nC:=And.intro @AJ.eq_1 @Past.cells.eq_1;A1.cn rfl),Nat.le_refl _,rfl,rfl,rfl⟩
  refine zT A6 Tryz.func234 ?_;refine wk On [] A0 A0 ?_;refine Ik (fun j : Nat => j ≤ l.length) (fun j : Nat => [(7,.d (.i .i64 j))]) (fun j => [(0,.c [.sl 2 (l.take j).length 17]),(2,.a (AJ (l.take j)))]) (fun j => l.length - j) 0 (Nat.zero_le _) (fun _ => rfl) (fun _ => rfl) ?_ ?_
  ·exact A1.ck rfl
  intro j hj
  by_cases hjl : j < l.length
  ·obtain ⟨x,hx⟩:=Ah hjl;have hy:=hY j x (l.take j) (hl x (List.mem_of_getElem? hx)) (by rw [List.length_take];omega);have hn:=As hx;rw [← hn] at hy;have ix1:=hx;have q1:=@hy;refine wk On [] A0 A0 ?_;clear q1 ix1;with_reducible repeat' first|constructor|intro hc;try simp only[AB] at hc
   refine ⟨j + 1,hjl,by omega,Nat.le_refl _,?_⟩;exact A1.ck rfl
  ·have e : j = l.length:=by omega
   subst e;rw [List.take_length];refine wk On [] A0 A0 ?_;with_reducible repeat' first|constructor|intro hc;try simp only[AB] at hc
   exact ⟨_,A1.refl _,Nat.le_refl _,_,_,rfl,rfl,rfl⟩
 ·rintro r hr x H' rfl;refine .inl ⟨rfl,?_⟩;refine wk L2 [] A0 A0 ?_;exact ⟨⟨[(2,.sl 2 l.length 17)],[.gone,.gone,.a (AJ l)],_⟩,(A1.ck rfl),Nat.zero_le _,_,_,rfl,rfl,rfl,rfl⟩
theorem Rp (l : List Past) (hl : ∀ x ∈ l,B5 x.told) (hn : l.length ≤ 1048576) : Go.Gar.Fn Tryz.prog 85 [AJ l] (AJ l):=by
 refine DO (ds:=[AJ l]) (QV l hl hn) ?_;simp [B9,A9,An,A4,A3,AJ]
theorem PC (c : Calls) : B4 Tryz.prog 170 [.d c.d] [] (.fn (.func 251) [] [.ptr 0 0 3]) [.c [.d (.i .i64 c.id),.d (.i .i64 c.many),.d (AK c.op)]]:=by
 refine zD A6 Tryz.func170 ?_;unfold Calls.d Calls.cells;refine wk [0,1,2] [] A0 A0 ?_;exact ⟨_,(A1.ck rfl),Nat.zero_le _,_,_,rfl,rfl,rfl,rfl⟩
theorem Vw (cs : List AV) : B4 Tryz.prog 155 [.ptr 0 0 20] [.c cs] (.d (.b true)) [.c cs]:=by
 refine zD A6 Tryz.func155 ?_;refine wk [2] [] A0 A0 ?_;exact ⟨_,A1.refl _,Nat.le_refl _,_,_,rfl,rfl,rfl,rfl⟩
theorem Vx (id many : Int) (l : List Call) (hl : ∀ x ∈ l,B5 x.msg) (hn : l.length ≤ 1048576) : B4 Tryz.prog 125 [.d (Calls.d ⟨id,many,l⟩),.fn (.func 155) [] []] [] (.ag [.d (.i .i64 id),.d (.i .i64 many),.sl 3 l.length 20]) [.gone,.gone,.c [.d (.i .i64 id),.d (.i .i64 many),.sl 3 l.length 20],.a (AK l)]:=by
 have c1:=PC ⟨id,many,l⟩;refine zD A6 Tryz.func125 ?_;unfold Calls.d Calls.cells at *;refine wd Ga [1] [] A0 A0 ?_;refine VS T.get 7 9 3 4 ⟨[(0,.d (.agg [.i .i64 id,.i .i64 many,AK l])),(1,.fn (.func 155) [] []),(2,.ptr 0 0 3),(3,.ptr 1 0 1),(4,.ptr 2 0 3),(5,.ptr 4 0 3)],[.c [.d (.i .i64 id),.d (.i .i64 many),.d (AK l)],.c [.fn (.func 155) [] []],.c [.d (.i .i64 0),.d (.i .i64 0),.e0],.a (AK []),.c [.d (.i .i64 id),.d (.i .i64 many),.sl 3 0 20]],28⟩ mixed rfl rfl rfl ?_ ?_ ?_
 ·refine wd Ga [] [(0,7),(1,7),(2,7),(3,7),(0,9),(1,9),(2,9),(3,9)] A0 A0 ?_;exact ⟨rfl,.inl rfl⟩
 ·refine wd Ga [] [(0,7),(1,7),(2,7),(3,7),(4,7),(5,7),(0,8),(1,8),(2,8),(3,8)] A0 A0 ?_;exact ⟨rfl,.inr rfl⟩
 have d1:=Ds.mk [] (c1);refine wd Ga [] [] A0 A0 ?_;clear d1;refine zG (K:=fun r _ H' => H' = [.c [.d (.i .i64 id),.d (.i .i64 many),.d (AK l)],.c [.fn (.func 155) [] []],.c [.d (.i .i64 0),.d (.i .i64 0),.e0],.a (AK l),.c [.d (.i .i64 id),.d (.i .i64 many),.sl 3 l.length 20],.c [.d (.i .i64 id),.d (.i .i64 many),.d (AK l)],.lp r]) ?_ ?_
 ·intro r hr;have hk:=hr.ok (k:=6) rfl
  have hY : ∀ (x : Call) (o : List Call) (B : A2),o.length ≤ 1048576 → A2.ok 7 B = true → YT Tryz.prog 6 [.d (.agg [.i .i64 x.id,.i .u8 x.msg.kind,.i .i64 x.msg.call,.i .i64 x.msg.src,.i .i64 x.msg.dst,.i .i64 x.msg.key,.b x.msg.slow,.b x.msg.done,.i .i64 x.msg.place,.i .i64 x.msg.pred,.is x.msg.list,.s x.msg.item.key,.i .i64 x.msg.item.value,.i .i64 x.msg.item.version,.b x.msg.item.gone,.i .i64 x.msg.code,.i .u8 x.why,.i .i64 x.ref,.i .i64 x.sent,.i .i64 x.tries])] [.c [.d (.i .i64 id),.d (.i .i64 many),.d (AK l)],.c [.fn (.func 155) [] []],.c [.d (.i .i64 0),.d (.i .i64 0),.e0],.a (AK o),.c [.d (.i .i64 id),.d (.i .i64 many),.sl 3 o.length 20],.c [.d (.i .i64 id),.d (.i .i64 many),.d (AK l)],.lp r,.c (BZ x)] fun v K => v = .d (.b true) ∧ K = [.c [.d (.i .i64 id),.d (.i .i64 many),.d (AK l)],.c [.fn (.func 155) [] []],.c [.d (.i .i64 0),.d (.i .i64 0),.e0],.a (AK (o ++ [x])),.c [.d (.i .i64 id),.d (.i .i64 many),.sl 3 (o ++ [x]).length 20],.c [.d (.i .i64 id),.d (.i .i64 many),.d (AK l)],.lp r,.c (BZ x)]:=by
   intro x o B ho hB;have c2:=Vw (BZ x);refine BG hr rfl rfl rfl ?_;unfold BZ at *;refine wd Ga [] [] A0 A0 ?_;refine zR ?_;have d1:=Ds.mk [8] (c2);refine wd Ga [] [] A0 A0 ?_;clear d1;refine ⟨⟨[],[.c [.d (.i .i64 id),.d (.i .i64 many),.d (AK l)],.c [.fn (.func 155) [] []],.c [.d (.i .i64 0),.d (.i .i64 0),.e0],.a (AK (o ++ [x])),.c [.d (.i .i64 id),.d (.i .i64 many),.sl 3 (o ++ [x]).length 20],.c [.d (.i .i64 id),.d (.i .i64 many),.d (AK l)],.lp r.busy,.c (BZ x)],_⟩,(have nC:=And.intro @AK.eq_1 @Call.cells.eq_1;A1.cn rfl),Nat.le_refl _,rfl,rfl,rfl⟩
  refine zT A6 Tryz.func251 ?_;refine wk [0,1,4,6,7,8,9,16] [] A0 A0 ?_;refine Ik (fun j : Nat => j ≤ l.length) (fun j : Nat => [(8,.d (.i .i64 j))]) (fun j => [(3,.a (AK (l.take j))),(4,.c [.d (.i .i64 id),.d (.i .i64 many),.sl 3 (l.take j).length 20])]) (fun j => l.length - j) 0 (Nat.zero_le _) (fun _ => rfl) (fun _ => rfl) ?_ ?_
  ·exact A1.ck rfl
  intro j hj
  by_cases hjl : j < l.length
  ·obtain ⟨x,hx⟩:=Ah hjl;have c3:=M3 x (hl x (List.mem_of_getElem? hx));unfold Call.d Call.cells at c3;have hy:=hY x (l.take j) .gone (by rw [List.length_take];omega) rfl;have hn:=As hx;rw [← hn] at hy;have ix1:=hx;have q1:=@hy;refine wk [0,1,4,6,7,8,9,16] [] A0 (AG @c3) ?_;clear q1 ix1;with_reducible repeat' first|constructor|intro hc;try simp only[AB] at hc
   refine ⟨j + 1,hjl,by omega,Nat.le_refl _,?_⟩;exact A1.ck rfl
  ·have e : j = l.length:=by omega
   subst e;rw [List.take_length];refine wk [0,1,4,6,7,8,9,16] [] A0 A0 ?_;with_reducible repeat' first|constructor|intro hc;try simp only[AB] at hc
   exact ⟨_,A1.refl _,Nat.le_refl _,_,_,rfl,rfl,rfl⟩
 ·rintro r hr x H' rfl;refine .inl ⟨rfl,?_⟩;refine wd Ga [] [] A0 A0 ?_;exact ⟨⟨[(4,.ptr 2 0 3)],[.gone,.gone,.c [.d (.i .i64 id),.d (.i .i64 many),.sl 3 l.length 20],.a (AK l)],_⟩,(A1.ck rfl),Nat.zero_le _,_,_,rfl,rfl,rfl,rfl⟩
theorem Sl (c : Calls) (hl : ∀ x ∈ c.op,B5 x.msg) (hn : c.op.length ≤ 1048576) : Go.Gar.Fn Tryz.prog 84 [c.d] c.d:=by
 obtain ⟨id,many,l⟩:=c;have c1:=Vx id many l hl hn;refine zF A6 Tryz.func84 ?_;unfold Calls.d Calls.cells at *;have d1:=Ds.mk [] (c1);refine wk [0,1,2] [] A0 A0 ?_;clear d1;exact zE
theorem OM (n : Node) (h : SK n) : Go.Gar.Fn Tryz.prog 40 [n.d] n.d:=by
 have c1:=Zn n.view (by have:=h.vb;omega) (by have:=h.vl;omega);have c2:=Sl n.calls h.cl h.cn;have c3:=Rp n.seen h.sl h.sn;have c4:=OG n.finger h.fl;have c5:=OG n.mirror h.ml;have c6:=OG n.client h.tl;have c7:=ZE n.keep h.kn;refine zF A6 Tryz.func40 ?_;unfold View.d View.cells at c1;unfold Calls.d Calls.cells at c2;unfold Job.d Job.cells at c4 c5 c6;refine wk [0,1,2] [] A0 (zq7 @c1 @c2 @c3 @c4 @c5 @c6 @c7) ?_;refine ⟨_,_,rfl,rfl,?_⟩;simp [Ab,A9,A4,A3,Node.d,Node.cells,View.cells,Calls.cells,Job.cells]
end Nd
end Go.Proofs.YtkljbfejbakooaaGreatDoor
