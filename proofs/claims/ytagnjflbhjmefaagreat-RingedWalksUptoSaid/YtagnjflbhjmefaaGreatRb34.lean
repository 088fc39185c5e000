/- Part 34 of the texts of this proof, put together by a program and made short.
Conditions: none; what each theorem asks stands in its own hypotheses. -/
import Derived.Test.YtagnjflbhjmefaaGreatRb20
import Derived.Test.YtagnjflbhjmefaaGreatRb33
import Derived.KernelRfl
import Derived.RangeFuncIn
import Derived.Sort.Grow
import Derived.Laws.Cover3
import Derived.RecoverIn
import Derived.ProofKit
import Derived.OpenShut
import Derived.CallsIn
import Derived.RangeFuncLeaves
import Derived.OrdersIn
import Derived.TacticsIn
import Derived.ChangeKeysEq
import Derived.Laws.AppendOwn
import Derived.Laws.OwnMore
import Derived.Laws.MakeOwn
import Derived.Laws.Rows
import Derived.Laws.Cells
import Derived.Laws.Tables
import Derived.Laws.CopyRow
import Derived.Laws.Strings
import Derived.Laws.IdiomStrings
import Derived.Laws.BytesArg
import Derived.Test.YtagnjflbhjmefaaGreatProg
set_option linter.unusedSimpArgs false
set_option linter.unusedVariables false
set_option linter.unnecessarySimpa false
set_option maxHeartbeats 40000000
namespace Go.Proofs.YtagnjflbhjmefaaGreat
namespace Wi
open Go.Gar
set_option maxRecDepth 4000
def CK (b : List UInt8) : AE × Int :=
 if 46 < b.length then (Ab,12) else match DG Ab b with
 | none => (Ab,12)
 | some (m,r) => match Dn m r with
  | none => (Ab,12)
  | some (m',r') => if r' = [] ∧ m'.right = true then (m',0) else (Ab,12)
theorem EG : ∀ (k : Nat) (b : List UInt8) (acc : List Int),(Bi k b acc).1.length ≤ k + acc.length ∧ (Bi k b acc).2.1.length ≤ b.length
 | 0,b,acc => by simp [Bi]
 | k + 1,b,acc => by
  simp only [Bi]
  split
  ·have ih:=EG k (Ag b).2.1 (acc ++ [((Ag b).1 : Int)])
   have hl:=EA b
   simp only [List.length_append,List.length_cons,List.length_nil] at ih
   omega
  ·simp
theorem Tu {b r : List UInt8} {l : List Int} (h : Fa b = some (l,r)) : l.length ≤ 255 ∧ r.length ≤ b.length:=by
 have e:=HA h
 unfold AX at e
 split at e
 ·simp at e
 ·rename_i m q
  have hl:=EG m.toNat q []
  rw [e] at hl
  have:=m.toNat_lt
  simp only [List.length_nil,List.length_cons] at hl ⊢
  omega
theorem Nq {m m' : AE} {b r : List UInt8} (h : Dn m b = some (m',r)) (hl : m.list.length ≤ 255) : m'.list.length ≤ 255 ∧ r.length ≤ b.length:=by
 unfold Dn at h
 split at h
 ·split at h
  ·cases h
  ·rename_i n b1 h1
   split at h
   ·cases h
   ·rename_i g b2 h2
    have:=Aa h1
    have:=Ib h2
    cases h;exact ⟨hl,by omega⟩
 split at h
 ·split at h
  ·cases h
  ·rename_i x b1 h1
   have:=Lw h1
   cases h;exact ⟨hl,by omega⟩
 split at h
 ·split at h
  ·cases h
  ·rename_i x b1 h1
   have:=GW h1
   cases h;exact ⟨hl,by omega⟩
 split at h
 ·split at h
  ·cases h
  ·rename_i n b1 h1
   split at h
   ·cases h
   ·rename_i g b2 h2
    have:=Aa h1
    have:=Tu h2
    cases h;exact ⟨this.1,by omega⟩
 split at h
 ·split at h
  ·cases h
  ·rename_i n b1 h1
   split at h
   ·cases h
   ·rename_i g b2 h2
    have:=Aa h1
    have:=Ib h2
    cases h;exact ⟨hl,by omega⟩
 split at h
 ·split at h
  ·cases h
  ·rename_i n b1 h1
   have:=Aa h1
   cases h;exact ⟨hl,by omega⟩
 split at h
 ·split at h
  ·cases h
  ·rename_i n b1 h1
   have:=Aa h1
   split at h
   ·split at h
    ·cases h
    ·rename_i x b2 h2
     have:=Lw h2
     cases h;exact ⟨hl,by omega⟩
   ·cases h;exact ⟨hl,by omega⟩
 ·cases h;exact ⟨hl,by omega⟩
theorem Gw {b r : List UInt8} {m : AE} (h : DG Ab b = some (m,r)) : 0 ≤ m.kind ∧ m.kind < 13 ∧ m.list = []:=by
 unfold DG at h
 split at h
 ·cases h
 rename_i k b1 h1
 split at h
 ·cases h
 split at h
 ·cases h
 rename_i c b2 h2
 split at h
 ·cases h
 rename_i s b3 h3
 split at h
 ·cases h
 rename_i d b4 h4
 simp only [Option.some.injEq,Prod.mk.injEq] at h
 obtain ⟨rfl,rfl⟩:=h
 exact ⟨by show (0 : Int) ≤ (k : Int);omega,by show (k : Int) < 13;omega,rfl⟩
abbrev Rq : AV:=.tup [.ag zC,.d (.i .i64 12)]
abbrev US : List A7:=[.c zC,.c [.d (.i .i64 12)]]
theorem Ws (b : List UInt8) (h : 46 < b.length) : BK Tryz.prog 80 [.d (.by b)] [] Rq US:=by
 refine ES (g:=132) (xs:=[.ptr 0 0 15,.ptr 1 0 1]) A8 Tryz.func80 rfl rfl (Nat.le_of_ble_eq_true rfl) ?_
 refine Ka A8 rfl rfl rfl rfl rfl ?_ rfl
 refine Ka A8 rfl rfl rfl rfl rfl ?_ rfl
 refine DU ?_
 refine Fq A8 rfl rfl rfl rfl ?_ rfl
 refine DI rfl rfl rfl rfl rfl rfl ⟨_,Tryz.func132,rfl,rfl⟩ rfl ?_
 have nS:=True.intro;obtain ⟨lv,st,ns,nc⟩:=wq [0,2,3,4,5,6,10,23,34] [];have pr : AC []:=trivial;refine wx ?_;clear nc ns st lv pr;repeat' (first|with_reducible constructor|(with_reducible intro hc;try simp only[A1] at hc))
 refine ⟨_,DJ _ _ _ _ _ _ _ _ _ _ _ _ _ _ _ _ _ 12,?_⟩
 exact ⟨⟨[(2,.ptr 0 0 15),(3,.ptr 1 0 1)],US,Tryz.f80.ntmps⟩,(A0.ck rfl),Nat.zero_le _,_,_,rfl,rfl,rfl,rfl⟩
theorem Wt (b : List UInt8) (hb : b.length ≤ 46) (h : DG Ab b = none) : BK Tryz.prog 80 [.d (.by b)] [] Rq US:=by
 have c1:=VF Ab b (by omega) h
 unfold hH at c1
 simp only [mC,Ab,AP] at c1
 refine ES (g:=132) (xs:=[.ptr 0 0 15,.ptr 1 0 1]) A8 Tryz.func80 rfl rfl (Nat.le_of_ble_eq_true rfl) ?_
 refine Ka A8 rfl rfl rfl rfl rfl ?_ rfl
 refine Ka A8 rfl rfl rfl rfl rfl ?_ rfl
 refine DU ?_
 refine Fq A8 rfl rfl rfl rfl ?_ rfl
 refine DI rfl rfl rfl rfl rfl rfl ⟨_,Tryz.func132,rfl,rfl⟩ rfl ?_
 have nS:=True.intro;obtain ⟨lv,st,ns,nc⟩:=wq [0,2,3,4,5,6,10,23,34] [5];have pr : AC []:=trivial;refine wx ?_;clear nc ns st lv pr;repeat' (first|with_reducible constructor|(with_reducible intro hc;try simp only[A1] at hc))
 refine B3 (A0.WR 0 9 (.is []) rfl rfl rfl rfl trivial) (by simp) ?_
 have nS:=True.intro;obtain ⟨lv,st,ns,nc⟩:=wq [0,2,3,4,5,6,10,23,34] [];have x1:=Ds.mk [2,0] (c1);have pr : AC []:=trivial;refine wx ?_;clear nc ns st lv pr x1;repeat' (first|with_reducible constructor|(with_reducible intro hc;try simp only[A1] at hc))
 refine ⟨_,DJ _ _ _ _ _ _ _ _ _ _ _ _ _ _ _ _ _ 12,?_⟩
 exact ⟨⟨[(2,.ptr 0 0 15),(3,.ptr 1 0 1)],US,Tryz.f80.ntmps⟩,(A0.ck rfl),Nat.zero_le _,_,_,rfl,rfl,rfl,rfl⟩
theorem XI (b : List UInt8) (hb : b.length ≤ 46) (m : AE) (r : List UInt8) (h : DG Ab b = some (m,r)) (h2 : Dn m r = none) : BK Tryz.prog 80 [.d (.by b)] [] Rq US:=by
 have c1:=MY Ab b (by omega) m r h
 have l1:=IS h
 obtain ⟨hk1,hk2,hk3⟩:=Gw h
 have c2:=IY m r
 have c3:=VX m r (by omega) h2
 have hs : special m.kind:=Classical.byContradiction fun hs => by rw [GF m r hs] at h2;cases h2
 unfold special at hs
 obtain ⟨k,c,s,d,ky,sl,dn,pl,pr,l,⟨ik,iv,ir,ig⟩,co⟩:=m
 unfold hH at c1
 simp only [mC,PQ,Ab,AP] at *
 unfold gH gX at c3
 simp only [mC,Jo] at c3
 refine ES (g:=132) (xs:=[.ptr 0 0 15,.ptr 1 0 1]) A8 Tryz.func80 rfl rfl (Nat.le_of_ble_eq_true rfl) ?_
 refine Ka A8 rfl rfl rfl rfl rfl ?_ rfl
 refine Ka A8 rfl rfl rfl rfl rfl ?_ rfl
 refine DU ?_
 refine Fq A8 rfl rfl rfl rfl ?_ rfl
 refine DI rfl rfl rfl rfl rfl rfl ⟨_,Tryz.func132,rfl,rfl⟩ rfl ?_
 have nS:=True.intro;obtain ⟨lv,st,ns,nc⟩:=wq [0,2,3,4,5,6,10,23,34] [5];have pr : AC []:=trivial;refine wx ?_;clear nc ns st lv pr;repeat' (first|with_reducible constructor|(with_reducible intro hc;try simp only[A1] at hc))
 refine B3 (A0.WR 0 9 (.is []) rfl rfl rfl rfl trivial) (by simp) ?_
 clear h h2
 rcases hs with rfl | rfl | rfl | rfl | rfl | rfl | rfl
 all_goals (
  simp only [Int.reduceEq,if_true,if_false] at c3
  have nS:=True.intro;obtain ⟨lv,st,ns,nc⟩:=wq [0,2,3,4,5,6,10,23,34] [];have d1:=Ds.mk [2,0] (c1);have d2:=Ds.mk [0,2] (c2);have x1:=Ds.mk [4,3,0,2] (c3);have pr : AC [(1,0),(2,0)]:=trivial;refine wx ?_;clear nc ns st lv pr x1 d2 d1;repeat' (first|with_reducible constructor|(with_reducible intro hc;try simp only[A1] at hc))
  refine ⟨_,DJ _ _ _ _ _ _ _ _ _ _ _ _ _ _ _ _ _ 12,?_⟩
  exact ⟨⟨[(2,.ptr 0 0 15),(3,.ptr 1 0 1)],US,Tryz.f80.ntmps⟩,(A0.ck rfl),Nat.zero_le _,_,_,rfl,rfl,rfl,rfl⟩)
theorem X5 (b : List UInt8) (hb : b.length ≤ 46) (m m' : AE) (r r' : List UInt8) (h : DG Ab b = some (m,r)) (h2 : Dn m r = some (m',r')) (h3 : ¬ (r' = [] ∧ m'.right = true)) : BK Tryz.prog 80 [.d (.by b)] [] Rq US:=by
 have c1:=MY Ab b (by omega) m r h
 have l1:=IS h
 obtain ⟨hk1,hk2,hk3⟩:=Gw h
 have c2:=IY m r
 have hl:=Nq h2 (by rw [hk3];simp)
 have cR:=HO m' (by omega)
 by_cases hs : special m.kind
 ·have c3:=Qi m r (by omega) m' r' h2 hs
  unfold special at hs
  obtain ⟨k,c,s,d,ky,sl,dn,pl,pr,l,⟨ik,iv,ir,ig⟩,co⟩:=m
  obtain ⟨k',c',s',d',ky',sl',dn',pl',pr',l',⟨ik',iv',ir',ig'⟩,co'⟩:=m'
  unfold hH at c1
  unfold gH at c3
  unfold AE.d AE.cells at cR
  simp only [mC,PQ,Ab,AP,Jo] at *
  refine ES (g:=132) (xs:=[.ptr 0 0 15,.ptr 1 0 1]) A8 Tryz.func80 rfl rfl (Nat.le_of_ble_eq_true rfl) ?_
  refine Ka A8 rfl rfl rfl rfl rfl ?_ rfl
  refine Ka A8 rfl rfl rfl rfl rfl ?_ rfl
  refine DU ?_
  refine Fq A8 rfl rfl rfl rfl ?_ rfl
  refine DI rfl rfl rfl rfl rfl rfl ⟨_,Tryz.func132,rfl,rfl⟩ rfl ?_
  have nS:=True.intro;obtain ⟨lv,st,ns,nc⟩:=wq [0,2,3,4,5,6,10,23,34] [5];have pr : AC []:=trivial;refine wx ?_;clear nc ns st lv pr;repeat' (first|with_reducible constructor|(with_reducible intro hc;try simp only[A1] at hc))
  refine B3 (A0.WR 0 9 (.is []) rfl rfl rfl rfl trivial) (by simp) ?_
  clear h h2
  by_cases hr : r' = []
  ·subst hr
   have hR : (AE.mk k' c' s' d' ky' sl' dn' pl' pr' l' ⟨ik',iv',ir',ig'⟩ co').right = false:=by
    cases hq : (AE.mk k' c' s' d' ky' sl' dn' pl' pr' l' ⟨ik',iv',ir',ig'⟩ co').right with
    | false => rfl
    | true => exact absurd ⟨rfl,hq⟩ h3
   rw [hR] at cR
   rcases hs with rfl | rfl | rfl | rfl | rfl | rfl | rfl
   all_goals (
    simp only [Int.reduceEq,if_true,if_false] at c3
    have nS:=True.intro;obtain ⟨lv,st,ns,nc⟩:=wq [0,2,3,4,5,6,10,23,34] [];have d1:=Ds.mk [2,0] (c1);have d2:=Ds.mk [0,2] (c2);have d3:=Ds.mk [4,3,0,2] (c3);have c1:=@cR;have pr : AC [(1,0),(2,0)]:=trivial;refine wx ?_;clear nc ns st lv pr c1 d3 d2 d1;repeat' (first|with_reducible constructor|(with_reducible intro hc;try simp only[A1] at hc))
    refine ⟨_,DJ _ _ _ _ _ _ _ _ _ _ _ _ _ _ _ _ _ 12,?_⟩
    exact ⟨⟨[(2,.ptr 0 0 15),(3,.ptr 1 0 1)],US,Tryz.f80.ntmps⟩,(A0.ck rfl),Nat.zero_le _,_,_,rfl,rfl,rfl,rfl⟩)
  ·have hpos : 0 < r'.length:=List.length_pos_iff.2 hr
   rcases hs with rfl | rfl | rfl | rfl | rfl | rfl | rfl
   all_goals (
    simp only [Int.reduceEq,if_true,if_false] at c3
    have nS:=True.intro;obtain ⟨lv,st,ns,nc⟩:=wq [0,2,3,4,5,6,10,23,34] [];have d1:=Ds.mk [2,0] (c1);have d2:=Ds.mk [0,2] (c2);have d3:=Ds.mk [4,3,0,2] (c3);have c1:=@cR;have pr : AC [(1,0),(2,0)]:=trivial;refine wx ?_;clear nc ns st lv pr c1 d3 d2 d1;repeat' (first|with_reducible constructor|(with_reducible intro hc;try simp only[A1] at hc))
    refine ⟨_,DJ _ _ _ _ _ _ _ _ _ _ _ _ _ _ _ _ _ 12,?_⟩
    exact ⟨⟨[(2,.ptr 0 0 15),(3,.ptr 1 0 1)],US,Tryz.f80.ntmps⟩,(A0.ck rfl),Nat.zero_le _,_,_,rfl,rfl,rfl,rfl⟩)
 ·rw [GF m r hs] at h2
  simp only [Option.some.injEq,Prod.mk.injEq] at h2
  obtain ⟨rfl,rfl⟩:=h2
  unfold special at hs
  obtain ⟨k,c,s,d,ky,sl,dn,pl,pr,l,⟨ik,iv,ir,ig⟩,co⟩:=m
  unfold hH at c1
  unfold AE.d AE.cells at cR
  simp only [mC,PQ,Ab,AP] at *
  have hs : k = 0 ∨ k = 1 ∨ k = 2 ∨ k = 3 ∨ k = 8 ∨ k = 9:=by omega
  refine ES (g:=132) (xs:=[.ptr 0 0 15,.ptr 1 0 1]) A8 Tryz.func80 rfl rfl (Nat.le_of_ble_eq_true rfl) ?_
  refine Ka A8 rfl rfl rfl rfl rfl ?_ rfl
  refine Ka A8 rfl rfl rfl rfl rfl ?_ rfl
  refine DU ?_
  refine Fq A8 rfl rfl rfl rfl ?_ rfl
  refine DI rfl rfl rfl rfl rfl rfl ⟨_,Tryz.func132,rfl,rfl⟩ rfl ?_
  have nS:=True.intro;obtain ⟨lv,st,ns,nc⟩:=wq [0,2,3,4,5,6,10,23,34] [5];have pr : AC []:=trivial;refine wx ?_;clear nc ns st lv pr;repeat' (first|with_reducible constructor|(with_reducible intro hc;try simp only[A1] at hc))
  refine B3 (A0.WR 0 9 (.is []) rfl rfl rfl rfl trivial) (by simp) ?_
  clear h
  by_cases hr : r = []
  ·subst hr
   have hR : (AE.mk k c s d ky sl dn pl pr l ⟨ik,iv,ir,ig⟩ co).right = false:=by
    cases hq : (AE.mk k c s d ky sl dn pl pr l ⟨ik,iv,ir,ig⟩ co).right with
    | false => rfl
    | true => exact absurd ⟨rfl,hq⟩ h3
   rw [hR] at cR
   rcases hs with rfl | rfl | rfl | rfl | rfl | rfl
   all_goals (
    have nS:=True.intro;obtain ⟨lv,st,ns,nc⟩:=wq [0,2,3,4,5,6,10,23,34] [];have d1:=Ds.mk [2,0] (c1);have d2:=Ds.mk [0,2] (c2);have c1:=@cR;have pr : AC [(1,0),(2,0)]:=trivial;refine wx ?_;clear nc ns st lv pr c1 d2 d1;repeat' (first|with_reducible constructor|(with_reducible intro hc;try simp only[A1] at hc))
    refine ⟨_,DJ _ _ _ _ _ _ _ _ _ _ _ _ _ _ _ _ _ 12,?_⟩
    exact ⟨⟨[(2,.ptr 0 0 15),(3,.ptr 1 0 1)],US,Tryz.f80.ntmps⟩,(A0.ck rfl),Nat.zero_le _,_,_,rfl,rfl,rfl,rfl⟩)
  ·have hpos : 0 < r.length:=List.length_pos_iff.2 hr
   rcases hs with rfl | rfl | rfl | rfl | rfl | rfl
   all_goals (
    have nS:=True.intro;obtain ⟨lv,st,ns,nc⟩:=wq [0,2,3,4,5,6,10,23,34] [];have d1:=Ds.mk [2,0] (c1);have d2:=Ds.mk [0,2] (c2);have c1:=@cR;have pr : AC [(1,0),(2,0)]:=trivial;refine wx ?_;clear nc ns st lv pr c1 d2 d1;repeat' (first|with_reducible constructor|(with_reducible intro hc;try simp only[A1] at hc))
    refine ⟨_,DJ _ _ _ _ _ _ _ _ _ _ _ _ _ _ _ _ _ 12,?_⟩
    exact ⟨⟨[(2,.ptr 0 0 15),(3,.ptr 1 0 1)],US,Tryz.f80.ntmps⟩,(A0.ck rfl),Nat.zero_le _,_,_,rfl,rfl,rfl,rfl⟩)
theorem U6 (b : List UInt8) (hb : b.length ≤ 46) (m m' : AE) (r : List UInt8) (h : DG Ab b = some (m,r)) (h2 : Dn m r = some (m',[])) (h3 : m'.right = true) : BK Tryz.prog 80 [.d (.by b)] [] (.tup [.d m'.d,.d (.i .i64 0)]) [.c (mC m'),.c [.d (.i .i64 0)]]:=by
 have c1:=MY Ab b (by omega) m r h
 have l1:=IS h
 obtain ⟨hk1,hk2,hk3⟩:=Gw h
 have c2:=IY m r
 have hl:=Nq h2 (by rw [hk3];simp)
 have cR:=HO m' (by omega)
 rw [h3] at cR
 by_cases hs : special m.kind
 ·have c3:=Qi m r (by omega) m' [] h2 hs
  unfold special at hs
  obtain ⟨k,c,s,d,ky,sl,dn,pl,pr,l,⟨ik,iv,ir,ig⟩,co⟩:=m
  obtain ⟨k',c',s',d',ky',sl',dn',pl',pr',l',⟨ik',iv',ir',ig'⟩,co'⟩:=m'
  unfold hH at c1
  unfold gH at c3
  unfold AE.d AE.cells at cR ⊢
  simp only [mC,PQ,Ab,AP,Jo] at *
  refine ES (g:=132) (xs:=[.ptr 0 0 15,.ptr 1 0 1]) A8 Tryz.func80 rfl rfl (Nat.le_of_ble_eq_true rfl) ?_
  refine Ka A8 rfl rfl rfl rfl rfl ?_ rfl
  refine Ka A8 rfl rfl rfl rfl rfl ?_ rfl
  refine DU ?_
  refine Fq A8 rfl rfl rfl rfl ?_ rfl
  refine DI rfl rfl rfl rfl rfl rfl ⟨_,Tryz.func132,rfl,rfl⟩ rfl ?_
  have nS:=True.intro;obtain ⟨lv,st,ns,nc⟩:=wq [0,2,3,4,5,6,10,23,34] [5];have pr : AC []:=trivial;refine wx ?_;clear nc ns st lv pr;repeat' (first|with_reducible constructor|(with_reducible intro hc;try simp only[A1] at hc))
  refine B3 (A0.WR 0 9 (.is []) rfl rfl rfl rfl trivial) (by simp) ?_
  clear h h2
  rcases hs with rfl | rfl | rfl | rfl | rfl | rfl | rfl
  all_goals (
   simp only [Int.reduceEq,if_true,if_false] at c3
   have nS:=True.intro;obtain ⟨lv,st,ns,nc⟩:=wq [0,2,3,4,5,6,10,23,34] [];have d1:=Ds.mk [2,0] (c1);have d2:=Ds.mk [0,2] (c2);have d3:=Ds.mk [4,3,0,2] (c3);have c1:=@cR;have pr : AC [(1,0),(2,0)]:=trivial;refine wx ?_;clear nc ns st lv pr c1 d3 d2 d1;repeat' (first|with_reducible constructor|(with_reducible intro hc;try simp only[A1] at hc))
   refine ⟨_,LS _,?_⟩
   exact ⟨⟨[(2,.ptr 0 0 15),(3,.ptr 1 0 1)],[.c (mC ⟨k',c',s',d',ky',sl',dn',pl',pr',l',⟨ik',iv',ir',ig'⟩,co'⟩),.c [.d (.i .i64 0)]],Tryz.f80.ntmps⟩,(A0.ck rfl),Nat.zero_le _,_,_,rfl,rfl,rfl,rfl⟩)
 ·rw [GF m r hs] at h2
  simp only [Option.some.injEq,Prod.mk.injEq] at h2
  obtain ⟨rfl,rfl⟩:=h2
  unfold special at hs
  obtain ⟨k,c,s,d,ky,sl,dn,pl,pr,l,⟨ik,iv,ir,ig⟩,co⟩:=m
  unfold hH at c1
  unfold AE.d AE.cells at cR ⊢
  simp only [mC,PQ,Ab,AP] at *
  have hs : k = 0 ∨ k = 1 ∨ k = 2 ∨ k = 3 ∨ k = 8 ∨ k = 9:=by omega
  refine ES (g:=132) (xs:=[.ptr 0 0 15,.ptr 1 0 1]) A8 Tryz.func80 rfl rfl (Nat.le_of_ble_eq_true rfl) ?_
  refine Ka A8 rfl rfl rfl rfl rfl ?_ rfl
  refine Ka A8 rfl rfl rfl rfl rfl ?_ rfl
  refine DU ?_
  refine Fq A8 rfl rfl rfl rfl ?_ rfl
  refine DI rfl rfl rfl rfl rfl rfl ⟨_,Tryz.func132,rfl,rfl⟩ rfl ?_
  have nS:=True.intro;obtain ⟨lv,st,ns,nc⟩:=wq [0,2,3,4,5,6,10,23,34] [5];have pr : AC []:=trivial;refine wx ?_;clear nc ns st lv pr;repeat' (first|with_reducible constructor|(with_reducible intro hc;try simp only[A1] at hc))
  refine B3 (A0.WR 0 9 (.is []) rfl rfl rfl rfl trivial) (by simp) ?_
  clear h
  rcases hs with rfl | rfl | rfl | rfl | rfl | rfl
  all_goals (
   have nS:=True.intro;obtain ⟨lv,st,ns,nc⟩:=wq [0,2,3,4,5,6,10,23,34] [];have d1:=Ds.mk [2,0] (c1);have d2:=Ds.mk [0,2] (c2);have c1:=@cR;have pr : AC [(1,0),(2,0)]:=trivial;refine wx ?_;clear nc ns st lv pr c1 d2 d1;repeat' (first|with_reducible constructor|(with_reducible intro hc;try simp only[A1] at hc))
   refine ⟨_,LS _,?_⟩
   exact ⟨⟨[(2,.ptr 0 0 15),(3,.ptr 1 0 1)],[.c (mC ⟨_,c,s,d,ky,sl,dn,pl,pr,l,⟨ik,iv,ir,ig⟩,co⟩),.c [.d (.i .i64 0)]],Tryz.f80.ntmps⟩,(A0.ck rfl),Nat.zero_le _,_,_,rfl,rfl,rfl,rfl⟩)
theorem Hv {H : List A7} : BQ H Rq (.tup [Ab.d,.i .i64 12]):=by
 simp [Rq,zC,Ab,AP,AE.d,AE.cells,FO,II,CC,Co,Ao,Jq,A5,A6,A4]
theorem Vx (b : List UInt8) : Go.Gar.Fn Tryz.prog 80 [.by b] (.tup [(CK b).1.d,.i .i64 (CK b).2]):=by
 by_cases h0 : 46 < b.length
 ·have e : CK b = (Ab,12):=if_pos h0
  rw [e];exact Ee (ds:=[.by b]) (Ws b h0) Hv
 cases h1 : DG Ab b with
 | none =>
  have e : CK b = (Ab,12):=by unfold CK;rw [if_neg h0,h1]
  rw [e];exact Ee (ds:=[.by b]) (Wt b (by omega) h1) Hv
 | some p =>
 obtain ⟨m,r⟩:=p
 cases h2 : Dn m r with
 | none =>
  have e : CK b = (Ab,12):=by unfold CK;rw [if_neg h0,h1];simp only [h2]
  rw [e];exact Ee (ds:=[.by b]) (XI b (by omega) m r h1 h2) Hv
 | some p =>
 obtain ⟨m',r'⟩:=p
 by_cases h3 : r' = [] ∧ m'.right = true
 ·have e : CK b = (m',0):=by unfold CK;rw [if_neg h0,h1];simp only [h2];rw [if_pos h3]
  rw [e]
  obtain ⟨rfl,h4⟩:=h3
  refine Ee (ds:=[.by b]) (U6 b (by omega) m m' r h1 h2 h4) ?_
  simp [FO,CC,Co,Ao]
 ·have e : CK b = (Ab,12):=by unfold CK;rw [if_neg h0,h1];simp only [h2];rw [if_neg h3]
  rw [e];exact Ee (ds:=[.by b]) (X5 b (by omega) m m' r r' h1 h2 h3) Hv
theorem Bd {b r : List UInt8} {n : Nat} : BY b = some (n,r) ↔ b = Ck n ++ r ∧ n ≤ 1099511627776:=by
 constructor
 ·intro h;exact Lo (F7 h)
 ·rintro ⟨rfl,hn⟩
  unfold BY
  rw [LV n r hn]
  simp
theorem GU {b s r : List UInt8} : Ej b = some (s,r) ↔ b = BF s ++ r ∧ s.length ≤ 255:=by
 constructor
 ·intro h
  have e:=H8 h
  rcases FU b with ⟨s',r',h1,h2,h3⟩ | h1
  ·rw [h1] at e
   simp only [Prod.mk.injEq,and_true] at e
   obtain ⟨rfl,rfl⟩:=e
   exact ⟨h2,h3⟩
  ·rw [h1] at e;simp at e
 ·rintro ⟨rfl,hs⟩
  unfold Ej BF
  rw [IT s r hs]
  simp
theorem LW {b r : List UInt8} {l : List Int} : Fa b = some (l,r) ↔ b = (UInt8.ofNat l.length :: AA l) ++ r ∧ l.length ≤ 255 ∧ l.all fits = true:=by
 constructor
 ·intro h
  have e:=HA h
  rcases J4 b with ⟨l',r',h1,h2,h3,h4⟩ | ⟨e',h1,h2⟩
  ·rw [h1] at e
   simp only [Prod.mk.injEq,and_true] at e
   obtain ⟨rfl,rfl⟩:=e
   exact ⟨h2,h3,h4⟩
  ·rw [h1] at e;simp at e;exact absurd e.2.2 h2
 ·rintro ⟨rfl,hl,hf⟩
  unfold Fa
  rw [M0 l r hl hf]
  simp
def XP (b : Bool) : Nat:=if b then 1 else 0
theorem JI (b : Bool) : CR b = (XP b : Nat):=by cases b <;> rfl
theorem Gg {b r : List UInt8} {g : Bool} : DF b = some (g,r) ↔ b = Ck (XP g) ++ r:=by
 constructor
 ·intro h
  unfold DF at h
  split at h
  ·rename_i n r' hn
   split at h
   ·cases h
   ·rename_i h1
    simp only [Option.some.injEq,Prod.mk.injEq] at h
    obtain ⟨rfl,rfl⟩:=h
    obtain ⟨e,_⟩:=Bd.1 hn
    rw [e]
    have : n = XP (n == 1):=by
     have : n = 0 ∨ n = 1:=by omega
     rcases this with rfl | rfl <;> rfl
    rw [← this]
  ·cases h
 ·rintro rfl
  unfold DF
  rw [Bd.2 ⟨rfl,by cases g <;> decide⟩]
  cases g <;> rfl
theorem Ak {n : Int} (h : fits n = true) : ((n.toNat : Nat) : Int) = n ∧ n.toNat ≤ 1099511627776:=by
 simp [fits] at h;omega
theorem By {n : Int} (h : fits n = true) (r : List UInt8) : BY (AA [n] ++ r) = some (n.toNat,r):=by
 rw [Bd];exact ⟨by simp [AA],(Ak h).2⟩
theorem IH (g : Bool) (r : List UInt8) : DF (AA [CR g] ++ r) = some (g,r):=by
 rw [Gg,JI];simp [AA]
theorem Jb (x : Item) : B4 x = BF x.key ++ (AA [x.value] ++ (AA [x.version] ++ AA [CR x.gone])):=by simp [B4,AA]
theorem ME (x : Item) (hk : x.key.length ≤ 255) (hv : fits x.value = true) (hn : fits x.version = true) (r : List UInt8) : E1 (B4 x ++ r) = some (x,r):=by
 unfold E1
 rw [Jb,List.append_assoc,GU.2 ⟨rfl,hk⟩]
 simp only
 rw [List.append_assoc,By hv]
 simp only
 rw [List.append_assoc,By hn]
 simp only
 rw [IH]
 simp only [(Ak hv).1,(Ak hn).1]
theorem La {b r : List UInt8} {x : Item} (h : E1 b = some (x,r)) : b = B4 x ++ r:=by
 unfold E1 at h
 split at h
 ·cases h
 rename_i k b1 h1
 split at h
 ·cases h
 rename_i v b2 h2
 split at h
 ·cases h
 rename_i n b3 h3
 split at h
 ·cases h
 rename_i g b4 h4
 simp only [Option.some.injEq,Prod.mk.injEq] at h
 obtain ⟨rfl,rfl⟩:=h
 rw [(GU.1 h1).1,(Bd.1 h2).1,(Bd.1 h3).1,Gg.1 h4,Jb]
 simp [AA,JI]
theorem SJ (m : AE) (hk : 0 ≤ m.kind ∧ m.kind < 13) (h1 : fits m.call = true) (h2 : fits m.src = true) (h3 : fits m.dst = true) (r : List UInt8) : DG Ab (AA [m.kind,m.call,m.src,m.dst] ++ r) = some (m.empty,r):=by
 have hkf : fits m.kind = true:=DC (by omega)
 have e : AA [m.kind,m.call,m.src,m.dst] ++ r = AA [m.kind] ++ (AA [m.call] ++ (AA [m.src] ++ (AA [m.dst] ++ r))):=by simp [AA]
 unfold DG
 rw [e,By hkf]
 simp only
 rw [if_neg (by omega),By h1]
 simp only
 rw [By h2]
 simp only
 rw [By h3]
 simp only [(Ak hkf).1,(Ak h1).1,(Ak h2).1,(Ak h3).1]
 rfl
theorem RO {b r : List UInt8} {m : AE} (h : DG Ab b = some (m,r)) : b = AA [m.kind,m.call,m.src,m.dst] ++ r ∧ m = m.empty:=by
 unfold DG at h
 split at h
 ·cases h
 rename_i k b1 h1
 split at h
 ·cases h
 split at h
 ·cases h
 rename_i c b2 h2
 split at h
 ·cases h
 rename_i s b3 h3
 split at h
 ·cases h
 rename_i d b4 h4
 simp only [Option.some.injEq,Prod.mk.injEq] at h
 obtain ⟨rfl,rfl⟩:=h
 refine ⟨?_,rfl⟩
 rw [(Bd.1 h1).1,(Bd.1 h2).1,(Bd.1 h3).1,(Bd.1 h4).1]
 simp [AA]
theorem SO (m : AE) (h : m.right = true) : Dn m.empty (BV m) = some (m,[]):=by
 obtain ⟨_,_,_,_,hb,hh⟩:=Ek h
 clear h
 obtain ⟨k,c,s,d,ky,sl,dn,pl,pr,l,⟨ik,iv,ir,ig⟩,co⟩:=m
 unfold Dn BV
 simp only [AE.empty] at hb ⊢
 unfold AE.bare AE.has at *
 simp only at hb hh
 by_cases h4 : k = 4
 ·subst h4
  simp only [if_true,AE.mk.injEq,AP,Item.mk.injEq] at hb hh ⊢
  rw [show AA [ky,CR sl] = AA [ky] ++ (AA [CR sl] ++ []) by simp [AA],By (BS hh)]
  simp only
  rw [IH]
  simp only [(Ak (BS hh)).1]
  simp_all
 by_cases h5 : k = 5
 ·subst h5
  simp only [Int.reduceEq,if_false,if_true,AE.mk.injEq,AP,Item.mk.injEq] at hb hh ⊢
  obtain ⟨a1,a2,a3⟩:=FA hh
  rw [show B4 ⟨ik,iv,ir,ig⟩ = B4 ⟨ik,iv,ir,ig⟩ ++ [] by simp,ME _ a1 a2 a3]
  simp_all
 by_cases h6 : k = 6
 ·subst h6
  simp only [Int.reduceEq,if_false,if_true,AE.mk.injEq,AP,Item.mk.injEq,Bool.and_eq_true,decide_eq_true_eq] at hb hh ⊢
  obtain ⟨a1,a2,a3⟩:=FA hh.1
  rw [show BF ik = BF ik ++ [] by simp,GU.2 ⟨rfl,a1⟩]
  simp_all
 by_cases h7 : k = 7
 ·subst h7
  simp only [Int.reduceEq,if_false,if_true,AE.mk.injEq,AP,Item.mk.injEq,Bool.and_eq_true,Bool.or_eq_true,decide_eq_true_eq] at hb hh ⊢
  obtain ⟨b1,b2⟩:=Hu hh.2
  have hf : fits (pr + 1) = true:=by
   rcases hh.1 with h | h
   ·subst h;rfl
   ·exact DC (by have:=Cw h;omega)
  rw [By hf]
  simp only
  rw [show UInt8.ofNat l.length :: AA l = (UInt8.ofNat l.length :: AA l) ++ [] by simp,LW.2 ⟨rfl,by omega,b2⟩]
  simp only [(Ak hf).1]
  have : pr + 1 - 1 = pr:=by omega
  simp_all
 by_cases h10 : k = 10
 ·subst h10
  simp only [Int.reduceEq,if_false,if_true,AE.mk.injEq,AP,Item.mk.injEq] at hb hh ⊢
  rw [show AA [pl,CR dn] = AA [pl] ++ (AA [CR dn] ++ []) by simp [AA],By (BS hh)]
  simp only
  rw [IH]
  simp only [(Ak (BS hh)).1]
  simp_all
 by_cases h11 : k = 11
 ·subst h11
  simp only [Int.reduceEq,if_false,if_true,AE.mk.injEq,AP,Item.mk.injEq,Bool.or_eq_true,decide_eq_true_eq] at hb hh ⊢
  have hf : fits co = true:=by rcases hh with h | h <;> rw [h] <;> rfl
  rw [show AA [co] = AA [co] ++ [] by simp,By hf]
  simp only [(Ak hf).1]
  simp_all
 by_cases h12 : k = 12
 ·subst h12
  simp only [Int.reduceEq,if_false,if_true,AE.mk.injEq,AP,Item.mk.injEq,Bool.or_eq_true,Bool.and_eq_true,decide_eq_true_eq] at hb hh ⊢
  rcases hh with ⟨h0,h1⟩ | ⟨h0,h1⟩
  ·subst h0
   obtain ⟨a1,a2,a3⟩:=FA h1
   rw [By rfl]
   simp only [if_true]
   rw [show B4 ⟨ik,iv,ir,ig⟩ = B4 ⟨ik,iv,ir,ig⟩ ++ [] by simp]
   simp only [show Int.toNat 0 = 0 from rfl,if_true]
   rw [ME _ a1 a2 a3]
   simp_all
  ·subst h0
   rw [By rfl]
   simp_all
 simp only [h4,h5,h6,h7,h10,h11,h12,if_false,AE.mk.injEq] at hb ⊢
 simp_all
theorem RJ {m m' : AE} {b r : List UInt8} (h : Dn m b = some (m',r)) : b = BV m' ++ r ∧ m'.kind = m.kind ∧ m'.call = m.call ∧ m'.src = m.src ∧ m'.dst = m.dst:=by
 unfold Dn at h
 by_cases h4 : m.kind = 4
 ·rw [if_pos h4] at h
  split at h
  ·cases h
  rename_i n b1 h1
  split at h
  ·cases h
  rename_i g b2 h2
  simp only [Option.some.injEq,Prod.mk.injEq] at h
  obtain ⟨rfl,rfl⟩:=h
  refine ⟨?_,rfl,rfl,rfl,rfl⟩
  rw [(Bd.1 h1).1,Gg.1 h2]
  simp [BV,h4,AA,JI]
 rw [if_neg h4] at h
 by_cases h5 : m.kind = 5
 ·rw [if_pos h5] at h
  split at h
  ·cases h
  rename_i x b1 h1
  simp only [Option.some.injEq,Prod.mk.injEq] at h
  obtain ⟨rfl,rfl⟩:=h
  refine ⟨?_,rfl,rfl,rfl,rfl⟩
  rw [La h1]
  simp [BV,h5]
 rw [if_neg h5] at h
 by_cases h6 : m.kind = 6
 ·rw [if_pos h6] at h
  split at h
  ·cases h
  rename_i x b1 h1
  simp only [Option.some.injEq,Prod.mk.injEq] at h
  obtain ⟨rfl,rfl⟩:=h
  refine ⟨?_,rfl,rfl,rfl,rfl⟩
  rw [(GU.1 h1).1]
  simp [BV,h6]
 rw [if_neg h6] at h
 by_cases h7 : m.kind = 7
 ·rw [if_pos h7] at h
  split at h
  ·cases h
  rename_i n b1 h1
  split at h
  ·cases h
  rename_i l b2 h2
  simp only [Option.some.injEq,Prod.mk.injEq] at h
  obtain ⟨rfl,rfl⟩:=h
  refine ⟨?_,rfl,rfl,rfl,rfl⟩
  have e : ((n : Int) - 1 + 1).toNat = n:=by omega
  rw [(Bd.1 h1).1,(LW.1 h2).1]
  simp [BV,h7,AA,e]
 rw [if_neg h7] at h
 by_cases h10 : m.kind = 10
 ·rw [if_pos h10] at h
  split at h
  ·cases h
  rename_i n b1 h1
  split at h
  ·cases h
  rename_i g b2 h2
  simp only [Option.some.injEq,Prod.mk.injEq] at h
  obtain ⟨rfl,rfl⟩:=h
  refine ⟨?_,rfl,rfl,rfl,rfl⟩
  rw [(Bd.1 h1).1,Gg.1 h2]
  simp [BV,h10,AA,JI]
 rw [if_neg h10] at h
 by_cases h11 : m.kind = 11
 ·rw [if_pos h11] at h
  split at h
  ·cases h
  rename_i n b1 h1
  simp only [Option.some.injEq,Prod.mk.injEq] at h
  obtain ⟨rfl,rfl⟩:=h
  refine ⟨?_,rfl,rfl,rfl,rfl⟩
  rw [(Bd.1 h1).1]
  simp [BV,h11,AA]
 rw [if_neg h11] at h
 by_cases h12 : m.kind = 12
 ·rw [if_pos h12] at h
  split at h
  ·cases h
  rename_i n b1 h1
  split at h
  ·rename_i hn
   subst hn
   split at h
   ·cases h
   rename_i x b2 h2
   simp only [Option.some.injEq,Prod.mk.injEq] at h
   obtain ⟨rfl,rfl⟩:=h
   refine ⟨?_,rfl,rfl,rfl,rfl⟩
   rw [(Bd.1 h1).1,La h2]
   simp [BV,h12,AA]
  ·rename_i hn
   simp only [Option.some.injEq,Prod.mk.injEq] at h
   obtain ⟨rfl,rfl⟩:=h
   refine ⟨?_,rfl,rfl,rfl,rfl⟩
   rw [(Bd.1 h1).1]
   simp [BV,h12,AA,hn]
 rw [if_neg h12] at h
 simp only [Option.some.injEq,Prod.mk.injEq] at h
 obtain ⟨rfl,rfl⟩:=h
 refine ⟨?_,rfl,rfl,rfl,rfl⟩
 simp [BV,h4,h5,h6,h7,h10,h11,h12]
theorem Pn {n k : Nat} (h : n < 256 ^ k) : size n ≤ k:=by
 rcases Nat.lt_or_ge k (size n) with h2 | h2
 ·have:=size_pos.2 h2
  rw [Nat.div_eq_of_lt h] at this
  omega
 ·exact h2
theorem B5 {n : Int} (k : Nat) (h : n < ((256 ^ k : Nat) : Int)) : (Ck n.toNat).length ≤ k + 1:=by
 have : size n.toNat ≤ k:=by
  rcases Nat.eq_zero_or_pos n.toNat with h0 | h0
  ·rw [h0];exact Nat.le_trans (by decide) (Nat.zero_le k)
  ·exact Pn (by omega)
 simp [Ck,GD];omega
theorem Gc {x : Item} (h : B7 x = true) : (B4 x).length ≤ 31:=by
 simp only [B7,Bool.and_eq_true,isVal,NN,decide_eq_true_eq] at h
 obtain ⟨⟨⟨h1,h2⟩,⟨h3,h4⟩⟩,⟨h5,h6⟩⟩:=h
 have a1:=B5 (n:=x.value) 3 (by omega)
 have a2:=B5 (n:=x.version) 3 (by omega)
 have a3:=B5 (n:=CR x.gone) 1 (by cases x.gone <;> decide)
 simp only [B4,BF,AA,List.length_append,List.length_cons,List.length_nil]
 omega
theorem R3 {m : AE} (h : m.right = true) : (BV m).length ≤ 32:=by
 obtain ⟨_,_,_,_,_,hh⟩:=Ek h
 unfold BV
 unfold AE.has at hh
 by_cases h4 : m.kind = 4
 ·rw [if_pos h4] at hh ⊢
  have:=Cw hh
  have a1:=B5 (n:=m.key) 2 (by omega)
  have a3:=B5 (n:=CR m.slow) 1 (by cases m.slow <;> decide)
  simp only [AA,List.length_append,List.length_nil];omega
 rw [if_neg h4] at hh ⊢
 by_cases h5 : m.kind = 5
 ·rw [if_pos h5] at hh ⊢
  have:=Gc hh;omega
 rw [if_neg h5] at hh ⊢
 by_cases h6 : m.kind = 6
 ·rw [if_pos h6] at hh ⊢
  simp only [Bool.and_eq_true] at hh
  have:=hh.1
  simp only [B7,NN,Bool.and_eq_true,decide_eq_true_eq] at this
  simp only [BF,List.length_cons];omega
 rw [if_neg h6] at hh ⊢
 by_cases h7 : m.kind = 7
 ·rw [if_pos h7] at hh ⊢
  simp only [Bool.and_eq_true,Bool.or_eq_true,decide_eq_true_eq] at hh
  have hp : m.pred + 1 < 16777216:=by
   rcases hh.1 with h | h
   ·omega
   ·have:=Cw h;omega
  have a1:=B5 (n:=m.pred + 1) 3 (by omega)
  have hL:=Hu hh.2
  have hall : ∀ l : List Int,D3 m.src l = true → (AA l).length ≤ 3 * l.length:=by
   intro l
   induction l with
   | nil => simp [AA]
   | cons x r ih =>
    intro hr
    simp only [D3,List.all_cons,Bool.and_eq_true] at hr
    have:=Cw hr.1.1
    have a2:=B5 (n:=x) 2 (by omega)
    have:=ih hr.2
    simp only [AA,List.length_append,List.length_cons];omega
  have h2:=hh.2
  simp only [Cm,Bool.and_eq_true] at h2
  have:=hall m.list h2.1.1
  simp only [AA,List.length_append,List.length_nil,List.length_cons];omega
 rw [if_neg h7] at hh ⊢
 by_cases h10 : m.kind = 10
 ·rw [if_pos h10] at hh ⊢
  have:=Cw hh
  have a1:=B5 (n:=m.place) 2 (by omega)
  have a3:=B5 (n:=CR m.done) 1 (by cases m.done <;> decide)
  simp only [AA,List.length_append,List.length_nil];omega
 rw [if_neg h10] at hh ⊢
 by_cases h11 : m.kind = 11
 ·rw [if_pos h11] at hh ⊢
  simp only [Bool.or_eq_true,decide_eq_true_eq] at hh
  have a1:=B5 (n:=m.code) 1 (by rcases hh with h | h <;> rw [h] <;> decide)
  simp only [AA,List.length_append,List.length_nil];omega
 rw [if_neg h11] at hh ⊢
 by_cases h12 : m.kind = 12
 ·rw [if_pos h12] at hh ⊢
  simp only [Bool.or_eq_true,Bool.and_eq_true,decide_eq_true_eq] at hh
  rcases hh with ⟨h0,h1⟩ | ⟨h0,h1⟩
  ·have:=Gc h1
   rw [if_pos h0,h0]
   have e : (AA [0]).length = 1:=by decide
   simp only [List.length_append];omega
  ·rw [if_neg (by omega),h0]
   decide
 rw [if_neg h12]
 simp
theorem OM {m : AE} (h : m.right = true) : (D5 m).length ≤ 46:=by
 have hm:=R3 h
 obtain ⟨⟨h1,h2⟩,⟨h3,h4⟩,_,⟨h5,h6⟩,_,_⟩:=Ek h
 have ha:=JP h
 have:=Cw h3
 have:=Cw h4
 have a1:=B5 (n:=m.kind) 1 (by omega)
 have a2:=B5 (n:=m.call) 5 (by omega)
 have a3:=B5 (n:=m.src) 2 (by omega)
 have a4:=B5 (n:=m.dst) 2 (by omega)
 simp only [D5,AA,List.length_append,List.length_nil]
 omega
theorem Sj {m : AE} (h : m.right = true) : CK (D5 m) = (m,0):=by
 have hl:=OM h
 obtain ⟨⟨h1,h2⟩,⟨h3,h4⟩,_,⟨h5,h6⟩,_,_⟩:=Ek h
 have ha:=JP h
 unfold CK
 rw [if_neg (by omega)]
 unfold D5
 rw [SJ m ⟨by omega,h2⟩ (DC (by omega)) (BS h3) (BS h4)]
 simp only [SO m h,h,and_self,if_true]
theorem Tz {b : List UInt8} {m : AE} {e : Int} (h : CK b = (m,e)) : (e = 0 ∧ m.right = true ∧ D5 m = b) ∨ (e = 12 ∧ m = Ab):=by
 unfold CK at h
 split at h
 ·cases h;exact .inr ⟨rfl,rfl⟩
 split at h
 ·cases h;exact .inr ⟨rfl,rfl⟩
 rename_i m1 r h1
 split at h
 ·cases h;exact .inr ⟨rfl,rfl⟩
 rename_i m2 r2 h2
 split at h
 ·rename_i h3
  cases h
  refine .inl ⟨rfl,h3.2,?_⟩
  obtain ⟨e1,e2⟩:=RO h1
  obtain ⟨g1,g2,g3,g4,g5⟩:=RJ h2
  unfold D5
  rw [g2,g3,g4,g5,e1,g1,h3.1,List.append_nil]
 ·cases h;exact .inr ⟨rfl,rfl⟩
end Wi
end Go.Proofs.YtagnjflbhjmefaaGreat
