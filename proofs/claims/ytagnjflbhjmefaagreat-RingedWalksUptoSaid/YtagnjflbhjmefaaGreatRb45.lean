/- Part 45 of the texts of this proof, put together by a program and made short.
Conditions: none; what each theorem asks stands in its own hypotheses. -/
import Derived.Test.YtagnjflbhjmefaaGreatRb30
import Derived.Test.YtagnjflbhjmefaaGreatRb41
import Derived.Test.YtagnjflbhjmefaaGreatRb44
import Derived.Ground.NamesProg
import Derived.Shelf.Slices.In.SortAlone
import Derived.Shelf.Slices.In.SortNone
import Derived.Sort.Walk0
import Derived.KernelRfl
import Derived.RangeFuncIn
import Derived.Sort.Grow
import Derived.Laws.Cover3
import Derived.RecoverIn
import Derived.ProofKit
import Derived.OpenShut
import Derived.CallsIn
import Derived.RangeFuncLeaves
import Derived.OrdersIn
import Derived.TacticsIn
import Derived.ChangeKeysEq
import Derived.Laws.AppendOwn
import Derived.Laws.OwnMore
import Derived.Laws.MakeOwn
import Derived.Laws.Rows
import Derived.Laws.Cells
import Derived.Laws.Tables
import Derived.Laws.CopyRow
import Derived.Laws.Strings
import Derived.Laws.IdiomStrings
import Derived.Laws.BytesArg
import Derived.Test.YtagnjflbhjmefaaGreatProg
set_option linter.unusedSimpArgs false
set_option linter.unusedVariables false
set_option linter.unnecessarySimpa false
set_option maxHeartbeats 40000000
namespace Go.Proofs.YtagnjflbhjmefaaGreat
namespace Nd
open Go.Gar
open Wi (AE Az B7 BC)
set_option maxRecDepth 4000
theorem P3 {n : Int} (h : Az n = true) : i64 n:=by
 have:=Wi.Cw h
 unfold i64
 omega
structure Xt (m : AE) : Prop where
 src : m.kind = 7 → i64 m.src
 li : m.kind = 7 → ∀ y ∈ m.list,i64 y
 ll : m.kind = 7 → m.list.length ≤ 1000
theorem Ly {m : AE} (h : m.right = true) : Xt m:=by
 simp only [Wi.AE.right,Bool.and_eq_true] at h
 have hs : Az m.src = true:=by
  have:=h.1
  simp only [Wi.AE.Fu,Bool.and_eq_true] at this
  exact this.1.1.1.1.2
 have hk : m.kind = 7 → Wi.Cm m.list m.src = true:=fun e => by
  have:=h.2.2
  unfold Wi.AE.has at this
  rw [e,if_neg (by decide),if_neg (by decide),if_neg (by decide),if_pos rfl,Bool.and_eq_true] at this
  exact this.2
 refine ⟨fun _ => P3 hs,fun e y hy => ?_,fun e => ?_⟩
 ·have:=hk e
  unfold Wi.Cm Wi.D3 at this
  simp only [Bool.and_eq_true,List.all_eq_true] at this
  exact P3 (this.1.1 y hy).1
 ·have:=hk e
  unfold Wi.Cm at this
  simp only [Bool.and_eq_true,decide_eq_true_eq] at this
  omega
theorem T0 (b : List UInt8) (h : (BC b).2 = 0) : Xt (BC b).1:=by
 refine Ly ?_
 unfold BC at h ⊢
 split at h
 ·rename_i h0
  rw [if_pos h0]
  unfold Wi.CK at h ⊢
  split at h
  ·exact absurd h (by decide)
  ·split at h
   ·exact absurd h (by decide)
   ·split at h
    ·exact absurd h (by decide)
    ·split at h
     ·simp only [*]
      simp_all
     ·exact absurd h (by decide)
 ·rename_i h0
  exact absurd h h0
theorem VB (c : AD) (m : AE) (hb : ∀ y ∈ c.base,i64 y) (hn : c.base.length ≤ 1000) (hm : Xt m) : Go.Gar.Fn Tryz.prog 48 [c.d,m.d] (.b (!(Cs c.base m))):=by
 have c1:=fun h => KU m.src m.list c.base (hm.src h) (hm.li h) hb (hm.ll h) hn
 obtain ⟨nodes,gone,base,grams,lost⟩:=c
 obtain ⟨k,ca,s,dd,ky,sl,dn,pl,pr,l,⟨ik,iv,ir,ig⟩,co⟩:=m
 have hT : Cs base ⟨k,ca,s,dd,ky,sl,dn,pl,pr,l,⟨ik,iv,ir,ig⟩,co⟩ = (decide (k = 7) && Es s l base):=rfl
 simp only at *
 refine A3 A8 Tryz.func48 rfl rfl (Nat.le_of_ble_eq_true rfl) ?_
 unfold AD.d AD.cells AE.d Wi.AE.cells at *
 simp only at *
 generalize Es s l base = B at *
 rw [hT]
 by_cases h : k = 7
 ·have c2:=c1 h
  have f1:=Ar h
  clear c1
  have nS:=f1;obtain ⟨lv,st,ns,nc⟩:=wq [0,1,2,3,4] [];have c1:=@c2;refine wk ?_;clear nc ns st lv c1;repeat' (first|with_reducible constructor|(with_reducible intro hc;try simp only[A1] at hc))
  all_goals (refine ⟨_,_,rfl,rfl,?_⟩;simp [Ao,h])
 ·have f1:=eq_false' h
  clear c1
  have nS:=f1;obtain ⟨lv,st,ns,nc⟩:=wq [0,1,2,3,4] [];refine wk ?_;clear nc ns st lv;repeat' (first|with_reducible constructor|(with_reducible intro hc;try simp only[A1] at hc))
  all_goals (refine ⟨_,_,rfl,rfl,?_⟩;simp [Ao,h])
structure Nfa (n : Node) : Prop where
 id : i64 n.view.id
 li : ∀ y ∈ n.view.list,i64 y
 ll : n.view.list.length ≤ 1000
 of_ : n.phase = 1 ∨ n.phase = 2 → i64 n.of_
 se : ∀ p ∈ n.seen,Xt p.told
 sl : n.seen.length ≤ 1048576
theorem Rv {n : Node} (h : Cb n = true) (hk : LA n) : Nfa n:=by
 simp only [Cb,Bool.and_eq_true] at h
 obtain ⟨-,-,-,-,-,h1,-,h2,-⟩:=h
 refine ⟨hk.id,hk.li,hk.vl,fun e => ?_,fun p hp => ?_,hk.sn⟩
 ·unfold Gu at h1
  rw [if_neg (by omega),Bool.and_eq_true] at h1
  exact P3 h1.2
 ·simp only [F3,Bool.and_eq_true] at h2
  obtain ⟨k,hk⟩:=List.getElem?_of_mem hp
  have hl:=(List.getElem?_eq_some_iff.1 hk).1
  have:=EK.1 h2.2 k hl
  unfold D6 at this
  rw [show n.seen.getD k Kj = p by rw [List.getD_eq_getElem?_getD,hk];rfl,Bool.and_eq_true] at this
  have:=this.1
  unfold JZ at this
  rw [Bool.and_eq_true] at this
  exact Ly this.1
theorem Nw {c : AD} (h : AN c = true) (hk : I7 c) : ∀ y ∈ c.base,i64 y:=by
 intro y hy
 obtain ⟨k,x,e1,e2,e3,e4⟩:=EC (CW h hy)
 have : Do y x = true:=e3
 unfold Do at this
 simp only [decide_eq_true_eq] at this
 exact this ▸ (hk.nn x (List.mem_of_getElem? e2)).id
theorem If (c : AD) (gs : List Bu) (h : I7 c) (hg : c.grams = gs.map Bu.cells) (hgb : ∀ g ∈ gs,g.by_.length ≤ 1048576) : Go.Gar.Fn Tryz.prog 20 [c.d] (.b (Bq c gs)):=by
 have c1:=DN c h
 have hgl : gs.length ≤ 1048576:=by have:=h.ll;rw [hg,List.length_map] at this;exact this
 have hT : Bq c gs = (AN c && (!(c.nodes.any (CG c.base)) && !(gs.any (CH c.base)))):=rfl
 have hbi:=fun hR : AN c = true => Nw hR h
 have hbn:=fun hR : AN c = true => (Ce hR).2.2
 have hnf:=fun hR : AN c = true => fun n (hn : n ∈ c.nodes) => Rv (HC hR hn).1 (h.nn n hn)
 have hto:=fun (hR : AN c = true) m (hm : Xt m) => VB c m (hbi hR) (by have:=hbn hR;omega) hm
 have hnl:=h.nl
 generalize Bq c gs = R at *
 generalize AN c = RR at *
 clear h
 obtain ⟨nodes,gone,base,grams,lost⟩:=c
 simp only at *
 subst hg
 refine A3 A8 Tryz.func20 rfl rfl (Nat.le_of_ble_eq_true rfl) ?_
 unfold AD.d AD.cells at *
 simp only at *
 cases RR with
 | false =>
  rw [Bool.false_and] at hT
  subst hT
  have nS:=True.intro;obtain ⟨lv,st,ns,nc⟩:=wq [0,1,2,3,4,5,6,7,8,11,16,32,54,59,70,76,97] [];have c1:=@c1;have pr : AC []:=trivial;refine wd ?_;clear nc ns st lv pr c1;repeat' (first|with_reducible constructor|(with_reducible intro hc;try simp only[A1] at hc))
  refine ⟨_,_,rfl,rfl,?_⟩;simp [AH,A6,A5,A4]
 | true =>
 rw [Bool.true_and] at hT
 replace hbi:=hbi rfl
 replace hbn:=hbn rfl
 replace hnf:=hnf rfl
 replace hto:=hto rfl
 have nS:=True.intro;obtain ⟨lv,st,ns,nc⟩:=wq [0,1,2,3,4,5,6,7,8,11,16,32,54,59,70,76,97] [];have c1:=@c1;have pr : AC []:=trivial;refine wd ?_;clear nc ns st lv pr c1;repeat' (first|with_reducible constructor|(with_reducible intro hc;try simp only[A1] at hc))
 refine AS (fun k => k ≤ nodes.length ∧ (nodes.take k).any (CG base) = false) (fun k : Nat => [(3,.d (.i .i64 k))]) (fun k => nodes.length - k) 0 ⟨Nat.zero_le _,rfl⟩ (fun _ => rfl) ?_ ?_
 ·exact A0.ck rfl
 ·rintro k ⟨hk,hpre⟩
  by_cases hkl : k < nodes.length
  ·obtain ⟨x,hx⟩:=AG hkl
   have hA:=BH (p:=CG base) hx
   rw [hpre,Bool.false_or] at hA
   have fx:=hnf x (List.mem_of_getElem? hx)
   have s1:=KU x.view.id x.view.list base fx.id fx.li hbi fx.ll (by omega)
   have s2:=fun hp => KU x.view.id [x.of_] base fx.id (fun y hy => by rw [List.mem_singleton] at hy;subst hy;exact fx.of_ hp) hbi (by simp) (by omega)
   have hK : CG base x = (Es x.view.id x.view.list base || (((decide (x.phase = 1) || decide (x.phase = 2)) && Es x.view.id [x.of_] base) || x.seen.any (Du base))):=rfl
   generalize Es x.view.id x.view.list base = A at *
   generalize Es x.view.id [x.of_] base = B at *
   cases A with
   | true =>
    have hR : R = false:=by rw [hT,E2 hx (by rw [hK];rfl)];rfl
    subst hR
    clear s2 hT
    have nS:=True.intro;obtain ⟨lv,st,ns,nc⟩:=wq [0,1,2,3,4,5,6,7,8,11,16,32,54,59,70,76,97] [];have ix1:=hx;have c1:=@s1;have pr : AC []:=trivial;refine wd ?_;clear nc ns st lv pr c1 ix1;repeat' (first|with_reducible constructor|(with_reducible intro hc;try simp only[A1] at hc))
    refine ⟨_,_,rfl,rfl,?_⟩;simp [AH,A6,A5,A4]
   | false =>
   rw [Bool.false_or] at hK
   by_cases hp : (x.phase = 1 ∨ x.phase = 2) ∧ B = true
   ·obtain ⟨hp,hB⟩:=hp
    subst hB
    have s2:=s2 hp
    have hR : R = false:=by
     rw [hT,E2 hx (by rw [hK];rcases hp with e | e <;> rw [e] <;> rfl)];rfl
    subst hR
    clear hT hA
    by_cases h1 : x.phase = 1
    ·have f1:=Ar h1
     have nS:=f1;obtain ⟨lv,st,ns,nc⟩:=wq [0,1,2,3,4,5,6,7,8,11,16,32,54,59,70,76,97] [];have ix1:=hx;have c1:=@s1;have c2:=@s2;have pr : AC []:=trivial;refine wd ?_;clear nc ns st lv pr c2 c1 ix1;repeat' (first|with_reducible constructor|(with_reducible intro hc;try simp only[A1] at hc))
     refine ⟨_,_,rfl,rfl,?_⟩;simp [AH,A6,A5,A4]
    ·have f1:=eq_false' h1
     have f2:=Ar (hp.resolve_left h1)
     have nS:=And.intro f1 f2;obtain ⟨lv,st,ns,nc⟩:=wq [0,1,2,3,4,5,6,7,8,11,16,32,54,59,70,76,97] [];have ix1:=hx;have c1:=@s1;have c2:=@s2;have pr : AC []:=trivial;refine wd ?_;clear nc ns st lv pr c2 c1 ix1;repeat' (first|with_reducible constructor|(with_reducible intro hc;try simp only[A1] at hc))
     refine ⟨_,_,rfl,rfl,?_⟩;simp [AH,A6,A5,A4]
   have hK2 : CG base x = x.seen.any (Du base):=by
    rw [hK]
    by_cases hq : x.phase = 1 ∨ x.phase = 2
    ·have : B = false:=by cases B <;> simp_all
     rw [this,Bool.and_false,Bool.false_or]
    ·rw [decide_eq_false (fun e => hq (.inl e)),decide_eq_false (fun e => hq (.inr e))];rfl
   clear hK
   have hph : (x.phase = 1 ∧ B = false) ∨ (x.phase ≠ 1 ∧ x.phase = 2 ∧ B = false) ∨ (x.phase ≠ 1 ∧ x.phase ≠ 2):=by
    by_cases e1 : x.phase = 1
    ·exact .inl ⟨e1,by cases B <;> simp_all⟩
    ·by_cases e2 : x.phase = 2
     ·exact .inr (.inl ⟨e1,e2,by cases B <;> simp_all⟩)
     ·exact .inr (.inr ⟨e1,e2⟩)
   rcases hph with ⟨h1,hB⟩ | ⟨h1,h2,hB⟩ | ⟨h1,h2⟩
   case' inl =>
    subst hB
    have s2:=s2 (.inl h1)
    have f1:=Ar h1
    have nS:=f1;obtain ⟨lv,st,ns,nc⟩:=wq [0,1,2,3,4,5,6,7,8,11,16,32,54,59,70,76,97] [];have ix1:=hx;have c1:=@s1;have c2:=@s2;have pr : AC []:=trivial;refine wd ?_;clear nc ns st lv pr c2 c1 ix1;repeat' (first|with_reducible constructor|(with_reducible intro hc;try simp only[A1] at hc))
   case' inr.inl =>
    subst hB
    have s2:=s2 (.inr h2)
    have f1:=eq_false' h1
    have f2:=Ar h2
    have nS:=And.intro f1 f2;obtain ⟨lv,st,ns,nc⟩:=wq [0,1,2,3,4,5,6,7,8,11,16,32,54,59,70,76,97] [];have ix1:=hx;have c1:=@s1;have c2:=@s2;have pr : AC []:=trivial;refine wd ?_;clear nc ns st lv pr c2 c1 ix1;repeat' (first|with_reducible constructor|(with_reducible intro hc;try simp only[A1] at hc))
   case' inr.inr =>
    have f1:=eq_false' h1
    have f2:=eq_false' h2
    have nS:=And.intro f1 f2;obtain ⟨lv,st,ns,nc⟩:=wq [0,1,2,3,4,5,6,7,8,11,16,32,54,59,70,76,97] [];have ix1:=hx;have c1:=@s1;have pr : AC []:=trivial;refine wd ?_;clear nc ns st lv pr c1 ix1;repeat' (first|with_reducible constructor|(with_reducible intro hc;try simp only[A1] at hc))
   all_goals
    refine AS (fun j => j ≤ x.seen.length ∧ (x.seen.take j).any (Du base) = false) (fun j : Nat => [(5,.d (.i .i64 j))]) (fun j => x.seen.length - j) 0 ⟨Nat.zero_le _,rfl⟩ (fun _ => rfl) ?_ ?_
    ·exact A0.ck rfl
    rintro j ⟨hj,hpre2⟩
    have hsl:=fx.sl
    by_cases hjl : j < x.seen.length
    ·obtain ⟨y,hy⟩:=AG hjl
     have hA2:=BH (p:=Du base) hy
     rw [hpre2,Bool.false_or] at hA2
     have c2:=hto y.told (fx.se y (List.mem_of_getElem? hy))
     have hyy : Du base y = Cs base y.told:=rfl
     generalize Cs base y.told = C at *
     unfold AE.d Wi.AE.cells at c2
     cases C with
     | true =>
      have hR : R = false:=by rw [hT,E2 hx (by rw [hK2];exact E2 hy hyy)];rfl
      subst hR
      clear hT hA hto s1
      have nS:=True.intro;obtain ⟨lv,st,ns,nc⟩:=wq [0,1,2,3,4,5,6,7,8,11,16,32,54,59,70,76,97] [];have ix1:=hy;have c1:=@c2;have pr : AC []:=trivial;refine wd ?_;clear nc ns st lv pr c1 ix1;repeat' (first|with_reducible constructor|(with_reducible intro hc;try simp only[A1] at hc))
      refine ⟨_,_,rfl,rfl,?_⟩;simp [AH,A6,A5,A4]
     | false =>
      clear hto s1
      have nS:=True.intro;obtain ⟨lv,st,ns,nc⟩:=wq [0,1,2,3,4,5,6,7,8,11,16,32,54,59,70,76,97] [];have ix1:=hy;have c1:=@c2;have pr : AC []:=trivial;refine wd ?_;clear nc ns st lv pr c1 ix1;repeat' (first|with_reducible constructor|(with_reducible intro hc;try simp only[A1] at hc))
      refine ⟨j + 1,⟨hjl,by rw [hA2,hyy]⟩,by omega,Nat.le_refl _,?_⟩
      exact A0.ck rfl
    ·have e : j = x.seen.length:=by omega
     subst e
     rw [List.take_length] at hpre2
     rw [hK2,hpre2] at hA
     clear hto s1
     have nS:=True.intro;obtain ⟨lv,st,ns,nc⟩:=wq [0,1,2,3,4,5,6,7,8,11,16,32,54,59,70,76,97] [];have pr : AC []:=trivial;refine wd ?_;clear nc ns st lv pr;repeat' (first|with_reducible constructor|(with_reducible intro hc;try simp only[A1] at hc))
     refine ⟨k + 1,⟨hkl,hA⟩,by omega,Nat.le_refl _,?_⟩
     exact A0.ck rfl
  ·have e : k = nodes.length:=by omega
   subst e
   rw [List.take_length] at hpre
   rw [hpre] at hT
   replace hT : R = !(gs.any (CH base)):=hT
   have nS:=True.intro;obtain ⟨lv,st,ns,nc⟩:=wq [0,1,2,3,4,5,6,7,8,11,16,32,54,59,70,76,97] [];have pr : AC []:=trivial;refine wd ?_;clear nc ns st lv pr;repeat' (first|with_reducible constructor|(with_reducible intro hc;try simp only[A1] at hc))
   refine AS (fun k => k ≤ gs.length ∧ (gs.take k).any (CH base) = false) (fun k : Nat => [(6,.d (.i .i64 k))]) (fun k => gs.length - k) 0 ⟨Nat.zero_le _,rfl⟩ (fun _ => rfl) ?_ ?_
   ·exact A0.ck rfl
   rintro k ⟨hk,hpre⟩
   by_cases hkl : k < gs.length
   ·obtain ⟨x,hx⟩:=AG hkl
    have hA:=BH (p:=CH base) hx
    rw [hpre,Bool.false_or] at hA
    have c2:=Wi.RA x.by_ (by have:=hgb x (List.mem_of_getElem? hx);omega)
    have hmo:=T0 x.by_
    have hK : CH base x = (decide ((BC x.by_).2 = 0) && Cs base (BC x.by_).1):=rfl
    generalize BC x.by_ = me at *
    obtain ⟨m,e⟩:=me
    replace hmo : e = 0 → Xt m:=hmo
    replace hK : CH base x = (decide (e = 0) && Cs base m):=hK
    replace c2 : Go.Gar.Fn Tryz.prog 49 [.by x.by_] (.tup [m.d,.i .i64 e]):=c2
    by_cases h0 : e = 0
    ·have c3:=hto m (hmo h0)
     have f1:=Ar h0
     rw [decide_eq_true h0,Bool.true_and] at hK
     generalize Cs base m = C at *
     unfold AE.d Wi.AE.cells at c2 c3
     cases C with
     | true =>
      have hR : R = false:=by rw [hT,E2 hx hK];rfl
      subst hR
      clear hT hA hto
      have nS:=f1;obtain ⟨lv,st,ns,nc⟩:=wq [0,1,2,3,4,5,6,7,8,11,16,32,54,59,70,76,97] [];have ix1:=hx;have c1:=@c2;have c2:=@c3;have pr : AC []:=trivial;refine wd ?_;clear nc ns st lv pr c2 c1 ix1;repeat' (first|with_reducible constructor|(with_reducible intro hc;try simp only[A1] at hc))
      refine ⟨_,_,rfl,rfl,?_⟩;simp [AH,A6,A5,A4]
     | false =>
      clear hto
      have nS:=f1;obtain ⟨lv,st,ns,nc⟩:=wq [0,1,2,3,4,5,6,7,8,11,16,32,54,59,70,76,97] [];have ix1:=hx;have c1:=@c2;have c2:=@c3;have pr : AC []:=trivial;refine wd ?_;clear nc ns st lv pr c2 c1 ix1;repeat' (first|with_reducible constructor|(with_reducible intro hc;try simp only[A1] at hc))
      refine ⟨k + 1,⟨hkl,by rw [hA,hK]⟩,by omega,Nat.le_refl _,?_⟩
      exact A0.ck rfl
    ·have f1:=eq_false' h0
     rw [decide_eq_false h0,Bool.false_and] at hK
     clear hto
     unfold AE.d Wi.AE.cells at c2
     have nS:=f1;obtain ⟨lv,st,ns,nc⟩:=wq [0,1,2,3,4,5,6,7,8,11,16,32,54,59,70,76,97] [];have ix1:=hx;have c1:=@c2;have pr : AC []:=trivial;refine wd ?_;clear nc ns st lv pr c1 ix1;repeat' (first|with_reducible constructor|(with_reducible intro hc;try simp only[A1] at hc))
     refine ⟨k + 1,⟨hkl,by rw [hA,hK]⟩,by omega,Nat.le_refl _,?_⟩
     exact A0.ck rfl
   ·have e : k = gs.length:=by omega
    subst e
    rw [List.take_length] at hpre
    rw [hpre] at hT
    subst hT
    have nS:=True.intro;obtain ⟨lv,st,ns,nc⟩:=wq [0,1,2,3,4,5,6,7,8,11,16,32,54,59,70,76,97] [];have pr : AC []:=trivial;refine wd ?_;clear nc ns st lv pr;repeat' (first|with_reducible constructor|(with_reducible intro hc;try simp only[A1] at hc))
    refine ⟨_,_,rfl,rfl,?_⟩;simp [AH,A6,A5,A4]
end Nd
end Go.Proofs.YtagnjflbhjmefaaGreat
