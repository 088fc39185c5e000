/- Part 41 of a proof, put together by a program. Conditions: none beyond those that a theorem states. -/
import Derived.Test.YtkljbfejbakooaaGreatDoorN34
import Derived.Test.YtkljbfejbakooaaGreatDoorN40
set_option linter.unusedSimpArgs false
set_option linter.unusedVariables false
set_option linter.unnecessarySimpa false
set_option maxHeartbeats 40000000
namespace Go.Proofs.YtkljbfejbakooaaGreatDoor
namespace Wi
open Go.Gar
set_option maxRecDepth 4000
abbrev Ce : List Nat:=[0,2,3,4,5,6,10,23,34]
def Da (b : List UInt8) : A8 × Int :=
 if 46 < b.length then (AC,12) else match EL AC b with
 | none => (AC,12)
 | some (m,r) => match Ey m r with
  | none => (AC,12)
  | some (m',r') => if r' = [] ∧ m'.right = true then (m',0) else (AC,12)
theorem GA : ∀ (k : Nat) (b : List UInt8) (acc : List Int),(CC k b acc).1.length ≤ k + acc.length ∧ (CC k b acc).2.1.length ≤ b.length
 | 0,b,acc => by simp [CC]
 | k + 1,b,acc => by
  simp only [CC];split
  ·have ih:=GA k (Ak b).2.1 (acc ++ [((Ak b).1 : Int)]);have hl:=FX b;simp only [List.length_append,List.length_cons,List.length_nil] at ih;omega
  ·simp
variable {b r : List UInt8} {l : List Int}
theorem ar (h : Ht b = some (l,r)) : l.length ≤ 255 ∧ r.length ≤ b.length:=by
 have e:=Jx h;unfold AZ at e;split at e
 ·simp at e
 ·rename_i m q;have hl:=GA m.toNat q [];rw [e] at hl;have:=m.toNat_lt;simp only [List.length_nil,List.length_cons] at hl ⊢;omega
variable {m : A8}
theorem Sg {m' : A8} (h : Ey m b = some (m',r)) (hl : m.list.length ≤ 255) : m'.list.length ≤ 255 ∧ r.length ≤ b.length:=by
 unfold Ey at h;split at h
 ·split at h
  ·cases h
  ·rename_i n b1 h1;split at h
   ·cases h
   ·rename_i g b2 h2;have:=Ab h1;have:=La h2;cases h;exact ⟨hl,by omega⟩
 split at h
 ·split at h
  ·cases h
  ·rename_i x b1 h1;have:=P7 h1;cases h;exact ⟨hl,by omega⟩
 split at h
 ·split at h
  ·cases h
  ·rename_i x b1 h1;have:=J6 h1;cases h;exact ⟨hl,by omega⟩
 split at h
 ·split at h
  ·cases h
  ·rename_i n b1 h1;split at h
   ·cases h
   ·rename_i g b2 h2;have:=Ab h1;have:=ar h2;cases h;exact ⟨this.1,by omega⟩
 split at h
 ·split at h
  ·cases h
  ·rename_i n b1 h1;split at h
   ·cases h
   ·rename_i g b2 h2;have:=Ab h1;have:=La h2;cases h;exact ⟨hl,by omega⟩
 split at h
 ·split at h
  ·cases h
  ·rename_i n b1 h1;have:=Ab h1;cases h;exact ⟨hl,by omega⟩
 split at h
 ·split at h
  ·cases h
  ·rename_i n b1 h1;have:=Ab h1;split at h
   ·split at h
    ·cases h
    ·rename_i x b2 h2;have:=P7 h2;cases h;exact ⟨hl,by omega⟩
   ·cases h;exact ⟨hl,by omega⟩
 ·cases h;exact ⟨hl,by omega⟩
theorem Jw (h : EL AC b = some (m,r)) : 0 ≤ m.kind ∧ m.kind < 13 ∧ m.list = []:=by
 unfold EL at h;split at h
 ·cases h
 rename_i k b1 h1;split at h
 ·cases h
 split at h
 ·cases h
 rename_i c b2 h2;split at h
 ·cases h
 rename_i s b3 h3;split at h
 ·cases h
 rename_i d b4 h4;simp only [Option.some.injEq,Prod.mk.injEq] at h;obtain ⟨rfl,rfl⟩:=h;exact ⟨by show (0 : Int) ≤ (k : Int);omega,by show (k : Int) < 13;omega,rfl⟩
abbrev XP : AV:=.tup [.ag zC,.d (.i .i64 12)]
abbrev bA : List A5:=[.c zC,.c [.d (.i .i64 12)]]
theorem fq (b : List UInt8) (h : 46 < b.length) : Ao Tryz.prog 117 [.d (.by b)] [] XP bA:=by
 refine E2 (g:=179) (xs:=[.ptr 0 0 15,.ptr 1 0 1]) A6 Tryz.func117 rfl rfl (Nat.le_of_ble_eq_true rfl) ?_;refine Ka A6 rfl rfl rfl rfl rfl ?_ rfl;refine Ka A6 rfl rfl rfl rfl rfl ?_ rfl;refine Ck ?_;refine Fq A6 rfl rfl rfl rfl ?_ rfl;refine DJ rfl rfl rfl rfl rfl rfl ⟨_,Tryz.func179,rfl,rfl⟩ rfl ?_;refine wx Ce [] [] A0 A0 ?_;with_reducible repeat' first|constructor|intro hc;try simp only[AD] at hc
 refine ⟨_,EM _ _ _ _ _ _ _ _ _ _ _ _ _ _ _ _ _ 12,?_⟩;exact ⟨⟨[(2,.ptr 0 0 15),(3,.ptr 1 0 1)],bA,Tryz.f117.ntmps⟩,(A3.ck rfl),Nat.zero_le _,_,_,rfl,rfl,rfl,rfl⟩
theorem fu (b : List UInt8) (hb : b.length ≤ 46) (h : EL AC b = none) : Ao Tryz.prog 117 [.d (.by b)] [] XP bA:=by
 have c1:=dS AC b (by omega) h;unfold hH at c1;simp only [mC,AC,AE] at c1;refine E2 (g:=179) (xs:=[.ptr 0 0 15,.ptr 1 0 1]) A6 Tryz.func117 rfl rfl (Nat.le_of_ble_eq_true rfl) ?_;refine Ka A6 rfl rfl rfl rfl rfl ?_ rfl;refine Ka A6 rfl rfl rfl rfl rfl ?_ rfl;refine Ck ?_;refine Fq A6 rfl rfl rfl rfl ?_ rfl;refine DJ rfl rfl rfl rfl rfl rfl ⟨_,Tryz.func179,rfl,rfl⟩ rfl ?_;refine wx Ce [5] [] A0 A0 ?_;with_reducible repeat' first|constructor|intro hc;try simp only[AD] at hc
 refine Ap (A3.TQ 0 9 (.is []) rfl rfl rfl rfl trivial) (by simp) ?_;have x1:=Ds.mk [2,0] (c1);refine wx Ce [] [] A0 A0 ?_;clear x1;refine ⟨_,EM _ _ _ _ _ _ _ _ _ _ _ _ _ _ _ _ _ 12,?_⟩;exact ⟨⟨[(2,.ptr 0 0 15),(3,.ptr 1 0 1)],bA,Tryz.f117.ntmps⟩,(A3.ck rfl),Nat.zero_le _,_,_,rfl,rfl,rfl,rfl⟩
theorem fv (b : List UInt8) (hb : b.length ≤ 46) (m : A8) (r : List UInt8) (h : EL AC b = some (m,r)) (h2 : Ey m r = none) : Ao Tryz.prog 117 [.d (.by b)] [] XP bA:=by
 have c1:=Q9 AC b (by omega) m r h;have l1:=Lc h;obtain ⟨hk1,hk2,hk3⟩:=Jw h;have c2:=Le m r;have c3:=dt m r (by omega) h2;have hs : special m.kind:=Classical.byContradiction fun hs => by rw [IU m r hs] at h2;cases h2
 unfold special at hs;obtain ⟨k,c,s,d,ky,sl,dn,pl,pr,l,⟨ik,iv,ir,ig⟩,co⟩:=m;unfold hH at c1;simp only [mC,U4,AC,AE] at *;unfold gH gX at c3;simp only [mC,Ng] at c3;refine E2 (g:=179) (xs:=[.ptr 0 0 15,.ptr 1 0 1]) A6 Tryz.func117 rfl rfl (Nat.le_of_ble_eq_true rfl) ?_;refine Ka A6 rfl rfl rfl rfl rfl ?_ rfl;refine Ka A6 rfl rfl rfl rfl rfl ?_ rfl;refine Ck ?_;refine Fq A6 rfl rfl rfl rfl ?_ rfl;refine DJ rfl rfl rfl rfl rfl rfl ⟨_,Tryz.func179,rfl,rfl⟩ rfl ?_;refine wx Ce [5] [] A0 A0 ?_;with_reducible repeat' first|constructor|intro hc;try simp only[AD] at hc
 refine Ap (A3.TQ 0 9 (.is []) rfl rfl rfl rfl trivial) (by simp) ?_;clear h h2;rcases hs with rfl | rfl | rfl | rfl | rfl | rfl | rfl
 all_goals (
  simp only [Int.reduceEq,if_true,if_false] at c3;have d1:=Ds.mk [2,0] (c1);have d2:=Ds.mk [0,2] (c2);have x1:=Ds.mk [4,3,0,2] (c3);refine wx Ce [] [(1,0),(2,0)] A0 A0 ?_;clear x1 d2 d1;refine ⟨_,EM _ _ _ _ _ _ _ _ _ _ _ _ _ _ _ _ _ 12,?_⟩
  exact ⟨⟨[(2,.ptr 0 0 15),(3,.ptr 1 0 1)],bA,Tryz.f117.ntmps⟩,(A3.ck rfl),Nat.zero_le _,_,_,rfl,rfl,rfl,rfl⟩)
theorem fw (b : List UInt8) (hb : b.length ≤ 46) (m m' : A8) (r r' : List UInt8) (h : EL AC b = some (m,r)) (h2 : Ey m r = some (m',r')) (h3 : ¬ (r' = [] ∧ m'.right = true)) : Ao Tryz.prog 117 [.d (.by b)] [] XP bA:=by
 have c1:=Q9 AC b (by omega) m r h;have l1:=Lc h;obtain ⟨hk1,hk2,hk3⟩:=Jw h;have c2:=Le m r;have hl:=Sg h2 (by rw [hk3];simp);have cR:=Ff m' (by omega)
 by_cases hs : special m.kind
 ·have c3:=Vb m r (by omega) m' r' h2 hs;unfold special at hs;obtain ⟨k,c,s,d,ky,sl,dn,pl,pr,l,⟨ik,iv,ir,ig⟩,co⟩:=m;obtain ⟨k',c',s',d',ky',sl',dn',pl',pr',l',⟨ik',iv',ir',ig'⟩,co'⟩:=m';unfold hH at c1;unfold gH at c3;unfold A8.d A8.cells at cR;simp only [mC,U4,AC,AE,Ng] at *;refine E2 (g:=179) (xs:=[.ptr 0 0 15,.ptr 1 0 1]) A6 Tryz.func117 rfl rfl (Nat.le_of_ble_eq_true rfl) ?_;refine Ka A6 rfl rfl rfl rfl rfl ?_ rfl;refine Ka A6 rfl rfl rfl rfl rfl ?_ rfl;refine Ck ?_;refine Fq A6 rfl rfl rfl rfl ?_ rfl;refine DJ rfl rfl rfl rfl rfl rfl ⟨_,Tryz.func179,rfl,rfl⟩ rfl ?_;refine wx Ce [5] [] A0 A0 ?_;with_reducible repeat' first|constructor|intro hc;try simp only[AD] at hc
  refine Ap (A3.TQ 0 9 (.is []) rfl rfl rfl rfl trivial) (by simp) ?_;clear h h2
  by_cases hr : r' = []
  ·subst hr
   have hR : (A8.mk k' c' s' d' ky' sl' dn' pl' pr' l' ⟨ik',iv',ir',ig'⟩ co').right = false:=by
    cases hq : (A8.mk k' c' s' d' ky' sl' dn' pl' pr' l' ⟨ik',iv',ir',ig'⟩ co').right with
    | false => rfl
    | true => exact absurd ⟨rfl,hq⟩ h3
   rw [hR] at cR;rcases hs with rfl | rfl | rfl | rfl | rfl | rfl | rfl
   all_goals (
    simp only [Int.reduceEq,if_true,if_false] at c3;have d1:=Ds.mk [2,0] (c1);have d2:=Ds.mk [0,2] (c2);have d3:=Ds.mk [4,3,0,2] (c3);refine wx Ce [] [(1,0),(2,0)] A0 (AF @cR) ?_;clear d3 d2 d1;refine ⟨_,EM _ _ _ _ _ _ _ _ _ _ _ _ _ _ _ _ _ 12,?_⟩
    exact ⟨⟨[(2,.ptr 0 0 15),(3,.ptr 1 0 1)],bA,Tryz.f117.ntmps⟩,(A3.ck rfl),Nat.zero_le _,_,_,rfl,rfl,rfl,rfl⟩)
  ·have hpos : 0 < r'.length:=List.length_pos_iff.2 hr;rcases hs with rfl | rfl | rfl | rfl | rfl | rfl | rfl
   all_goals (
    simp only [Int.reduceEq,if_true,if_false] at c3;have d1:=Ds.mk [2,0] (c1);have d2:=Ds.mk [0,2] (c2);have d3:=Ds.mk [4,3,0,2] (c3);refine wx Ce [] [(1,0),(2,0)] A0 (AF @cR) ?_;clear d3 d2 d1;with_reducible repeat' first|constructor|intro hc;try simp only[AD] at hc
    refine ⟨_,EM _ _ _ _ _ _ _ _ _ _ _ _ _ _ _ _ _ 12,?_⟩
    exact ⟨⟨[(2,.ptr 0 0 15),(3,.ptr 1 0 1)],bA,Tryz.f117.ntmps⟩,(A3.ck rfl),Nat.zero_le _,_,_,rfl,rfl,rfl,rfl⟩)
 ·rw [IU m r hs] at h2;simp only [Option.some.injEq,Prod.mk.injEq] at h2;obtain ⟨rfl,rfl⟩:=h2;unfold special at hs;obtain ⟨k,c,s,d,ky,sl,dn,pl,pr,l,⟨ik,iv,ir,ig⟩,co⟩:=m;unfold hH at c1;unfold A8.d A8.cells at cR;simp only [mC,U4,AC,AE] at *;have hs : k = 0 ∨ k = 1 ∨ k = 2 ∨ k = 3 ∨ k = 8 ∨ k = 9:=by omega
  refine E2 (g:=179) (xs:=[.ptr 0 0 15,.ptr 1 0 1]) A6 Tryz.func117 rfl rfl (Nat.le_of_ble_eq_true rfl) ?_;refine Ka A6 rfl rfl rfl rfl rfl ?_ rfl;refine Ka A6 rfl rfl rfl rfl rfl ?_ rfl;refine Ck ?_;refine Fq A6 rfl rfl rfl rfl ?_ rfl;refine DJ rfl rfl rfl rfl rfl rfl ⟨_,Tryz.func179,rfl,rfl⟩ rfl ?_;refine wx Ce [5] [] A0 A0 ?_;with_reducible repeat' first|constructor|intro hc;try simp only[AD] at hc
  refine Ap (A3.TQ 0 9 (.is []) rfl rfl rfl rfl trivial) (by simp) ?_;clear h
  by_cases hr : r = []
  ·subst hr
   have hR : (A8.mk k c s d ky sl dn pl pr l ⟨ik,iv,ir,ig⟩ co).right = false:=by
    cases hq : (A8.mk k c s d ky sl dn pl pr l ⟨ik,iv,ir,ig⟩ co).right with
    | false => rfl
    | true => exact absurd ⟨rfl,hq⟩ h3
   rw [hR] at cR;rcases hs with rfl | rfl | rfl | rfl | rfl | rfl
   all_goals (
    have d1:=Ds.mk [2,0] (c1);have d2:=Ds.mk [0,2] (c2);refine wx Ce [] [(1,0),(2,0)] A0 (AF @cR) ?_;clear d2 d1;refine ⟨_,EM _ _ _ _ _ _ _ _ _ _ _ _ _ _ _ _ _ 12,?_⟩
    exact ⟨⟨[(2,.ptr 0 0 15),(3,.ptr 1 0 1)],bA,Tryz.f117.ntmps⟩,(A3.ck rfl),Nat.zero_le _,_,_,rfl,rfl,rfl,rfl⟩)
  ·have hpos : 0 < r.length:=List.length_pos_iff.2 hr;rcases hs with rfl | rfl | rfl | rfl | rfl | rfl
   all_goals (
    have d1:=Ds.mk [2,0] (c1);have d2:=Ds.mk [0,2] (c2);refine wx Ce [] [(1,0),(2,0)] A0 (AF @cR) ?_;clear d2 d1;with_reducible repeat' first|constructor|intro hc;try simp only[AD] at hc
    refine ⟨_,EM _ _ _ _ _ _ _ _ _ _ _ _ _ _ _ _ _ 12,?_⟩
    exact ⟨⟨[(2,.ptr 0 0 15),(3,.ptr 1 0 1)],bA,Tryz.f117.ntmps⟩,(A3.ck rfl),Nat.zero_le _,_,_,rfl,rfl,rfl,rfl⟩)
abbrev JZ : List Nat:=[0,2,3,4,5,6,10,23,34]
theorem YJ (b : List UInt8) (hb : b.length ≤ 46) (m m' : A8) (r : List UInt8) (h : EL AC b = some (m,r)) (h2 : Ey m r = some (m',[])) (h3 : m'.right = true) : Ao Tryz.prog 117 [.d (.by b)] [] (.tup [.d m'.d,.d (.i .i64 0)]) [.c (mC m'),.c [.d (.i .i64 0)]]:=by
 have c1:=Q9 AC b (by omega) m r h;have l1:=Lc h;obtain ⟨hk1,hk2,hk3⟩:=Jw h;have c2:=Le m r;have hl:=Sg h2 (by rw [hk3];simp);have cR:=Ff m' (by omega);rw [h3] at cR
 by_cases hs : special m.kind
 ·have c3:=Vb m r (by omega) m' [] h2 hs;unfold special at hs;obtain ⟨k,c,s,d,ky,sl,dn,pl,pr,l,⟨ik,iv,ir,ig⟩,co⟩:=m;obtain ⟨k',c',s',d',ky',sl',dn',pl',pr',l',⟨ik',iv',ir',ig'⟩,co'⟩:=m';unfold hH at c1;unfold gH at c3;unfold A8.d A8.cells at cR ⊢;simp only [mC,U4,AC,AE,Ng] at *;refine E2 (g:=179) (xs:=[.ptr 0 0 15,.ptr 1 0 1]) A6 Tryz.func117 rfl rfl (Nat.le_of_ble_eq_true rfl) ?_;refine Ka A6 rfl rfl rfl rfl rfl ?_ rfl;refine Ka A6 rfl rfl rfl rfl rfl ?_ rfl;refine Ck ?_;refine Fq A6 rfl rfl rfl rfl ?_ rfl;refine DJ rfl rfl rfl rfl rfl rfl ⟨_,Tryz.func179,rfl,rfl⟩ rfl ?_;refine wx JZ [5] [] A0 A0 ?_;with_reducible repeat' first|constructor|intro hc;try simp only[AD] at hc
  refine Ap (A3.TQ 0 9 (.is []) rfl rfl rfl rfl trivial) (by simp) ?_;clear h h2;rcases hs with rfl | rfl | rfl | rfl | rfl | rfl | rfl
  all_goals (
   simp only [Int.reduceEq,if_true,if_false] at c3;have d1:=Ds.mk [2,0] (c1);have d2:=Ds.mk [0,2] (c2);have d3:=Ds.mk [4,3,0,2] (c3);refine wx JZ [] [(1,0),(2,0)] A0 (AF @cR) ?_;clear d3 d2 d1;refine ⟨_,OT _,?_⟩
   exact ⟨⟨[(2,.ptr 0 0 15),(3,.ptr 1 0 1)],[.c (mC ⟨k',c',s',d',ky',sl',dn',pl',pr',l',⟨ik',iv',ir',ig'⟩,co'⟩),.c [.d (.i .i64 0)]],Tryz.f117.ntmps⟩,(A3.ck rfl),Nat.zero_le _,_,_,rfl,rfl,rfl,rfl⟩)
 ·rw [IU m r hs] at h2;simp only [Option.some.injEq,Prod.mk.injEq] at h2;obtain ⟨rfl,rfl⟩:=h2;unfold special at hs;obtain ⟨k,c,s,d,ky,sl,dn,pl,pr,l,⟨ik,iv,ir,ig⟩,co⟩:=m;unfold hH at c1;unfold A8.d A8.cells at cR ⊢;simp only [mC,U4,AC,AE] at *;have hs : k = 0 ∨ k = 1 ∨ k = 2 ∨ k = 3 ∨ k = 8 ∨ k = 9:=by omega
  refine E2 (g:=179) (xs:=[.ptr 0 0 15,.ptr 1 0 1]) A6 Tryz.func117 rfl rfl (Nat.le_of_ble_eq_true rfl) ?_;refine Ka A6 rfl rfl rfl rfl rfl ?_ rfl;refine Ka A6 rfl rfl rfl rfl rfl ?_ rfl;refine Ck ?_;refine Fq A6 rfl rfl rfl rfl ?_ rfl;refine DJ rfl rfl rfl rfl rfl rfl ⟨_,Tryz.func179,rfl,rfl⟩ rfl ?_;refine wx JZ [5] [] A0 A0 ?_;with_reducible repeat' first|constructor|intro hc;try simp only[AD] at hc
  refine Ap (A3.TQ 0 9 (.is []) rfl rfl rfl rfl trivial) (by simp) ?_;clear h;rcases hs with rfl | rfl | rfl | rfl | rfl | rfl
  all_goals (
   have d1:=Ds.mk [2,0] (c1);have d2:=Ds.mk [0,2] (c2);refine wx JZ [] [(1,0),(2,0)] A0 (AF @cR) ?_;clear d2 d1;refine ⟨_,OT _,?_⟩
   exact ⟨⟨[(2,.ptr 0 0 15),(3,.ptr 1 0 1)],[.c (mC ⟨_,c,s,d,ky,sl,dn,pl,pr,l,⟨ik,iv,ir,ig⟩,co⟩),.c [.d (.i .i64 0)]],Tryz.f117.ntmps⟩,(A3.ck rfl),Nat.zero_le _,_,_,rfl,rfl,rfl,rfl⟩)
theorem KV {H : List A5} : BN H XP (.tup [AC.d,.i .i64 12]):=by
 simp [XP,zC,AC,AE,A8.d,A8.cells,FG,LC,Bu,CU,Bi,LD,A7,AB,A4]
theorem cH (b : List UInt8) : Go.Gar.Fn Tryz.prog 117 [.by b] (.tup [(Da b).1.d,.i .i64 (Da b).2]):=by
 by_cases h0 : 46 < b.length
 ·have e : Da b = (AC,12):=if_pos h0;rw [e];exact E3 (ds:=[.by b]) (fq b h0) KV
 cases h1 : EL AC b with
 | none =>
  have e : Da b = (AC,12):=by unfold Da;rw [if_neg h0,h1]
  rw [e];exact E3 (ds:=[.by b]) (fu b (by omega) h1) KV
 | some p =>
 obtain ⟨m,r⟩:=p
 cases h2 : Ey m r with
 | none =>
  have e : Da b = (AC,12):=by unfold Da;rw [if_neg h0,h1];simp only [h2]
  rw [e];exact E3 (ds:=[.by b]) (fv b (by omega) m r h1 h2) KV
 | some p =>
 obtain ⟨m',r'⟩:=p
 by_cases h3 : r' = [] ∧ m'.right = true
 ·have e : Da b = (m',0):=by unfold Da;rw [if_neg h0,h1];simp only [h2];rw [if_pos h3]
  rw [e];obtain ⟨rfl,h4⟩:=h3;refine E3 (ds:=[.by b]) (YJ b (by omega) m m' r h1 h2 h4) ?_;simp [FG,Bu,CU,Bi]
 ·have e : Da b = (AC,12):=by unfold Da;rw [if_neg h0,h1];simp only [h2];rw [if_neg h3]
  rw [e];exact E3 (ds:=[.by b]) (fw b (by omega) m m' r r' h1 h2 h3) KV
theorem C4 {n : Nat} : By b = some (n,r) ↔ b = BH n ++ r ∧ n ≤ 1099511627776:=by
 constructor
 ·intro h;exact P1 (H5 h)
 ·rintro ⟨rfl,hn⟩;unfold By;rw [PN n r hn];simp
theorem J5 {s : List UInt8} : GW b = some (s,r) ↔ b = BM s ++ r ∧ s.length ≤ 255:=by
 constructor
 ·intro h;have e:=Jy h;rcases Hv b with ⟨s',r',h1,h2,h3⟩ | h1
  ·rw [h1] at e;simp only [Prod.mk.injEq,and_true] at e;obtain ⟨rfl,rfl⟩:=e;exact ⟨h2,h3⟩
  ·rw [h1] at e;simp at e
 ·rintro ⟨rfl,hs⟩;unfold GW BM;rw [Lj s r hs];simp
theorem P4 : Ht b = some (l,r) ↔ b = (UInt8.ofNat l.length :: A9 l) ++ r ∧ l.length ≤ 255 ∧ l.all fits = true:=by
 constructor
 ·intro h;have e:=Jx h;rcases MJ b with ⟨l',r',h1,h2,h3,h4⟩ | ⟨e',h1,h2⟩
  ·rw [h1] at e;simp only [Prod.mk.injEq,and_true] at e;obtain ⟨rfl,rfl⟩:=e;exact ⟨h2,h3,h4⟩
  ·rw [h1] at e;simp at e;exact absurd e.2.2 h2
 ·rintro ⟨rfl,hl,hf⟩;unfold Ht;rw [Ow l r hl hf];simp
def gQ (b : Bool) : Nat:=if b then 1 else 0
theorem MQ (b : Bool) : CH b = (gQ b : Nat):=by cases b <;> rfl
theorem J4 {g : Bool} : EK b = some (g,r) ↔ b = BH (gQ g) ++ r:=by
 constructor
 ·intro h;unfold EK at h;split at h
  ·rename_i n r' hn;split at h
   ·cases h
   ·rename_i h1;simp only [Option.some.injEq,Prod.mk.injEq] at h;obtain ⟨rfl,rfl⟩:=h;obtain ⟨e,_⟩:=C4.1 hn;rw [e]
    have : n = gQ (n == 1):=by
     have : n = 0 ∨ n = 1:=by omega
     rcases this with rfl | rfl <;> rfl
    rw [← this]
  ·cases h
 ·rintro rfl;unfold EK;rw [C4.2 ⟨rfl,by cases g <;> decide⟩];cases g <;> rfl
variable {n : Int}
theorem Aq (h : fits n = true) : ((n.toNat : Nat) : Int) = n ∧ n.toNat ≤ 1099511627776:=by
 simp [fits] at h;omega
theorem Ca (h : fits n = true) (r : List UInt8) : By (A9 [n] ++ r) = some (n.toNat,r):=by
 rw [C4];exact ⟨by simp [A9],(Aq h).2⟩
theorem Lb (g : Bool) (r : List UInt8) : EK (A9 [CH g] ++ r) = some (g,r):=by
 rw [J4,MQ];simp [A9]
theorem Nu (x : Item) : BE x = BM x.key ++ (A9 [x.value] ++ (A9 [x.version] ++ A9 [CH x.gone])):=by simp [BE,A9]
theorem P8 (x : Item) (hk : x.key.length ≤ 255) (hv : fits x.value = true) (hn : fits x.version = true) (r : List UInt8) : F9 (BE x ++ r) = some (x,r):=by
 unfold F9;rw [Nu,List.append_assoc,J5.2 ⟨rfl,hk⟩];simp only;rw [List.append_assoc,Ca hv];simp only;rw [List.append_assoc,Ca hn];simp only;rw [Lb];simp only [(Aq hv).1,(Aq hn).1]
theorem P6 {x : Item} (h : F9 b = some (x,r)) : b = BE x ++ r:=by
 unfold F9 at h;split at h
 ·cases h
 rename_i k b1 h1;split at h
 ·cases h
 rename_i v b2 h2;split at h
 ·cases h
 rename_i n b3 h3;split at h
 ·cases h
 rename_i g b4 h4;simp only [Option.some.injEq,Prod.mk.injEq] at h;obtain ⟨rfl,rfl⟩:=h;rw [(J5.1 h1).1,(C4.1 h2).1,(C4.1 h3).1,J4.1 h4,Nu];simp [A9,MQ]
theorem XE (m : A8) (hk : 0 ≤ m.kind ∧ m.kind < 13) (h1 : fits m.call = true) (h2 : fits m.src = true) (h3 : fits m.dst = true) (r : List UInt8) : EL AC (A9 [m.kind,m.call,m.src,m.dst] ++ r) = some (m.empty,r):=by
 have hkf : fits m.kind = true:=CR (by omega);have e : A9 [m.kind,m.call,m.src,m.dst] ++ r = A9 [m.kind] ++ (A9 [m.call] ++ (A9 [m.src] ++ (A9 [m.dst] ++ r))):=by simp [A9]
 unfold EL;rw [e,Ca hkf];simp only;rw [if_neg (by omega),Ca h1];simp only;rw [Ca h2];simp only;rw [Ca h3];simp only [(Aq hkf).1,(Aq h1).1,(Aq h2).1,(Aq h3).1];rfl
theorem XC (h : EL AC b = some (m,r)) : b = A9 [m.kind,m.call,m.src,m.dst] ++ r ∧ m = m.empty:=by
 unfold EL at h;split at h
 ·cases h
 rename_i k b1 h1;split at h
 ·cases h
 split at h
 ·cases h
 rename_i c b2 h2;split at h
 ·cases h
 rename_i s b3 h3;split at h
 ·cases h
 rename_i d b4 h4;simp only [Option.some.injEq,Prod.mk.injEq] at h;obtain ⟨rfl,rfl⟩:=h;refine ⟨?_,rfl⟩;rw [(C4.1 h1).1,(C4.1 h2).1,(C4.1 h3).1,(C4.1 h4).1];simp [A9]
theorem XH (m : A8) (h : m.right = true) : Ey m.empty (BC m) = some (m,[]):=by
 obtain ⟨_,_,_,_,hb,hh⟩:=FO h;clear h;obtain ⟨k,c,s,d,ky,sl,dn,pl,pr,l,⟨ik,iv,ir,ig⟩,co⟩:=m;unfold Ey BC;simp only [A8.empty] at hb ⊢;unfold A8.bare A8.has at *;simp only at hb hh
 by_cases h4 : k = 4
 ·subst h4;simp only [if_true,A8.mk.injEq,AE,Item.mk.injEq] at hb hh ⊢;rw [show A9 [ky,CH sl] = A9 [ky] ++ (A9 [CH sl] ++ []) by simp [A9],Ca (BG hh)];simp only;rw [Lb];simp only [(Aq (BG hh)).1]
  simp_all
 by_cases h5 : k = 5
 ·subst h5;simp only [Int.reduceEq,if_false,if_true,A8.mk.injEq,AE,Item.mk.injEq] at hb hh ⊢;obtain ⟨a1,a2,a3⟩:=F4 hh;rw [show BE ⟨ik,iv,ir,ig⟩ = BE ⟨ik,iv,ir,ig⟩ ++ [] by simp,P8 _ a1 a2 a3]
  simp_all
 by_cases h6 : k = 6
 ·subst h6;simp only [Int.reduceEq,if_false,if_true,A8.mk.injEq,AE,Item.mk.injEq,Bool.and_eq_true,decide_eq_true_eq] at hb hh ⊢;obtain ⟨a1,a2,a3⟩:=F4 hh.1;rw [show BM ik = BM ik ++ [] by simp,J5.2 ⟨rfl,a1⟩]
  simp_all
 by_cases h7 : k = 7
 ·subst h7;simp only [Int.reduceEq,if_false,if_true,A8.mk.injEq,AE,Item.mk.injEq,Bool.and_eq_true,Bool.or_eq_true,decide_eq_true_eq] at hb hh ⊢;obtain ⟨b1,b2⟩:=IS hh.2
  have hf : fits (pr + 1) = true:=by
   rcases hh.1 with h | h
   ·subst h;rfl
   ·exact CR (by have:=Dj h;omega)
  rw [Ca hf];simp only;rw [show UInt8.ofNat l.length :: A9 l = (UInt8.ofNat l.length :: A9 l) ++ [] by simp,P4.2 ⟨rfl,by omega,b2⟩];simp only [(Aq hf).1];have : pr + 1 - 1 = pr:=by omega
  simp_all
 by_cases h10 : k = 10
 ·subst h10;simp only [Int.reduceEq,if_false,if_true,A8.mk.injEq,AE,Item.mk.injEq] at hb hh ⊢;rw [show A9 [pl,CH dn] = A9 [pl] ++ (A9 [CH dn] ++ []) by simp [A9],Ca (BG hh)];simp only;rw [Lb];simp only [(Aq (BG hh)).1]
  simp_all
 by_cases h11 : k = 11
 ·subst h11;simp only [Int.reduceEq,if_false,if_true,A8.mk.injEq,AE,Item.mk.injEq,Bool.or_eq_true,decide_eq_true_eq] at hb hh ⊢;have hf : fits co = true:=by rcases hh with h | h <;> rw [h] <;> rfl
  rw [show A9 [co] = A9 [co] ++ [] by simp,Ca hf];simp only [(Aq hf).1]
  simp_all
 by_cases h12 : k = 12
 ·subst h12;simp only [Int.reduceEq,if_false,if_true,A8.mk.injEq,AE,Item.mk.injEq,Bool.or_eq_true,Bool.and_eq_true,decide_eq_true_eq] at hb hh ⊢;rcases hh with ⟨h0,h1⟩ | ⟨h0,h1⟩
  ·subst h0;obtain ⟨a1,a2,a3⟩:=F4 h1;rw [Ca rfl];simp only [if_true];rw [show BE ⟨ik,iv,ir,ig⟩ = BE ⟨ik,iv,ir,ig⟩ ++ [] by simp];simp only [show Int.toNat 0 = 0 from rfl,if_true];rw [P8 _ a1 a2 a3]
   simp_all
  ·subst h0;rw [Ca rfl]
   simp_all
 simp only [h4,h5,h6,h7,h10,h11,h12,if_false,A8.mk.injEq] at hb ⊢
 simp_all
theorem XG {m' : A8} (h : Ey m b = some (m',r)) : b = BC m' ++ r ∧ m'.kind = m.kind ∧ m'.call = m.call ∧ m'.src = m.src ∧ m'.dst = m.dst:=by
 unfold Ey at h
 by_cases h4 : m.kind = 4
 ·rw [if_pos h4] at h;split at h
  ·cases h
  rename_i n b1 h1;split at h
  ·cases h
  rename_i g b2 h2;simp only [Option.some.injEq,Prod.mk.injEq] at h;obtain ⟨rfl,rfl⟩:=h;refine ⟨?_,rfl,rfl,rfl,rfl⟩;rw [(C4.1 h1).1,J4.1 h2];simp [BC,h4,A9,MQ]
 rw [if_neg h4] at h
 by_cases h5 : m.kind = 5
 ·rw [if_pos h5] at h;split at h
  ·cases h
  rename_i x b1 h1;simp only [Option.some.injEq,Prod.mk.injEq] at h;obtain ⟨rfl,rfl⟩:=h;refine ⟨?_,rfl,rfl,rfl,rfl⟩;rw [P6 h1];simp [BC,h5]
 rw [if_neg h5] at h
 by_cases h6 : m.kind = 6
 ·rw [if_pos h6] at h;split at h
  ·cases h
  rename_i x b1 h1;simp only [Option.some.injEq,Prod.mk.injEq] at h;obtain ⟨rfl,rfl⟩:=h;refine ⟨?_,rfl,rfl,rfl,rfl⟩;rw [(J5.1 h1).1];simp [BC,h6]
 rw [if_neg h6] at h
 by_cases h7 : m.kind = 7
 ·rw [if_pos h7] at h;split at h
  ·cases h
  rename_i n b1 h1;split at h
  ·cases h
  rename_i l b2 h2;simp only [Option.some.injEq,Prod.mk.injEq] at h;obtain ⟨rfl,rfl⟩:=h;refine ⟨?_,rfl,rfl,rfl,rfl⟩;have e : ((n : Int) - 1 + 1).toNat = n:=by omega
  rw [(C4.1 h1).1,(P4.1 h2).1];simp [BC,h7,A9,e]
 rw [if_neg h7] at h
 by_cases h10 : m.kind = 10
 ·rw [if_pos h10] at h;split at h
  ·cases h
  rename_i n b1 h1;split at h
  ·cases h
  rename_i g b2 h2;simp only [Option.some.injEq,Prod.mk.injEq] at h;obtain ⟨rfl,rfl⟩:=h;refine ⟨?_,rfl,rfl,rfl,rfl⟩;rw [(C4.1 h1).1,J4.1 h2];simp [BC,h10,A9,MQ]
 rw [if_neg h10] at h
 by_cases h11 : m.kind = 11
 ·rw [if_pos h11] at h;split at h
  ·cases h
  rename_i n b1 h1;simp only [Option.some.injEq,Prod.mk.injEq] at h;obtain ⟨rfl,rfl⟩:=h;refine ⟨?_,rfl,rfl,rfl,rfl⟩;rw [(C4.1 h1).1];simp [BC,h11,A9]
 rw [if_neg h11] at h
 by_cases h12 : m.kind = 12
 ·rw [if_pos h12] at h;split at h
  ·cases h
  rename_i n b1 h1;split at h
  ·rename_i hn;subst hn;split at h
   ·cases h
   rename_i x b2 h2;simp only [Option.some.injEq,Prod.mk.injEq] at h;obtain ⟨rfl,rfl⟩:=h;refine ⟨?_,rfl,rfl,rfl,rfl⟩;rw [(C4.1 h1).1,P6 h2];simp [BC,h12,A9]
  ·rename_i hn;simp only [Option.some.injEq,Prod.mk.injEq] at h;obtain ⟨rfl,rfl⟩:=h;refine ⟨?_,rfl,rfl,rfl,rfl⟩;rw [(C4.1 h1).1];simp [BC,h12,A9,hn]
 rw [if_neg h12] at h;simp only [Option.some.injEq,Prod.mk.injEq] at h;obtain ⟨rfl,rfl⟩:=h;refine ⟨?_,rfl,rfl,rfl,rfl⟩;simp [BC,h4,h5,h6,h7,h10,h11,h12]
theorem UZ {n k : Nat} (h : n < 256 ^ k) : size n ≤ k:=by
 rcases Nat.lt_or_ge k (size n) with h2 | h2
 ·have:=size_pos.2 h2;rw [Nat.div_eq_of_lt h] at this;omega
 ·exact h2
theorem BL (k : Nat) (h : n < ((256 ^ k : Nat) : Int)) : (BH n.toNat).length ≤ k + 1:=by
 have : size n.toNat ≤ k:=by
  rcases Nat.eq_zero_or_pos n.toNat with h0 | h0
  ·rw [h0];exact Nat.le_trans (by decide) (Nat.zero_le k)
  ·exact UZ (by omega)
 simp [BH,GG];omega
theorem J7 {x : Item} (h : AU x = true) : (BE x).length ≤ 31:=by
 simp only [AU,Bool.and_eq_true,isVal,B2,decide_eq_true_eq] at h;obtain ⟨⟨⟨h1,h2⟩,⟨h3,h4⟩⟩,⟨h5,h6⟩⟩:=h;have a1:=BL (n:=x.value) 3 (by omega);have a2:=BL (n:=x.version) 3 (by omega);have a3:=BL (n:=CH x.gone) 1 (by cases x.gone <;> decide);simp only [BE,BM,A9,List.length_append,List.length_cons,List.length_nil];omega
theorem X0 (h : m.right = true) : (BC m).length ≤ 32:=by
 obtain ⟨_,_,_,_,_,hh⟩:=FO h;unfold BC;unfold A8.has at hh
 by_cases h4 : m.kind = 4
 ·rw [if_pos h4] at hh ⊢;have:=Dj hh;have a1:=BL (n:=m.key) 2 (by omega);have a3:=BL (n:=CH m.slow) 1 (by cases m.slow <;> decide);simp only [A9,List.length_append,List.length_nil];omega
 rw [if_neg h4] at hh ⊢
 by_cases h5 : m.kind = 5
 ·rw [if_pos h5] at hh ⊢;have:=J7 hh;omega
 rw [if_neg h5] at hh ⊢
 by_cases h6 : m.kind = 6
 ·rw [if_pos h6] at hh ⊢;simp only [Bool.and_eq_true] at hh;have:=hh.1;simp only [AU,B2,Bool.and_eq_true,decide_eq_true_eq] at this;simp only [BM,List.length_cons];omega
 rw [if_neg h6] at hh ⊢
 by_cases h7 : m.kind = 7
 ·rw [if_pos h7] at hh ⊢;simp only [Bool.and_eq_true,Bool.or_eq_true,decide_eq_true_eq] at hh
  have hp : m.pred + 1 < 16777216:=by
   rcases hh.1 with h | h
   ·omega
   ·have:=Dj h;omega
  have a1:=BL (n:=m.pred + 1) 3 (by omega);have hL:=IS hh.2
  have hall : ∀ l : List Int,EJ m.src l = true → (A9 l).length ≤ 3 * l.length:=by
   intro l
   induction l with
   | nil => simp [A9]
   | cons x r ih =>
    intro hr;simp only [EJ,List.all_cons,Bool.and_eq_true] at hr;have:=Dj hr.1.1;have a2:=BL (n:=x) 2 (by omega);have:=ih hr.2;simp only [A9,List.length_append,List.length_cons];omega
  have h2:=hh.2;simp only [ED,Bool.and_eq_true] at h2;have:=hall m.list h2.1.1;simp only [A9,List.length_append,List.length_nil,List.length_cons];omega
 rw [if_neg h7] at hh ⊢
 by_cases h10 : m.kind = 10
 ·rw [if_pos h10] at hh ⊢;have:=Dj hh;have a1:=BL (n:=m.place) 2 (by omega);have a3:=BL (n:=CH m.done) 1 (by cases m.done <;> decide);simp only [A9,List.length_append,List.length_nil];omega
 rw [if_neg h10] at hh ⊢
 by_cases h11 : m.kind = 11
 ·rw [if_pos h11] at hh ⊢;simp only [Bool.or_eq_true,decide_eq_true_eq] at hh;have a1:=BL (n:=m.code) 1 (by rcases hh with h | h <;> rw [h] <;> decide);simp only [A9,List.length_append,List.length_nil];omega
 rw [if_neg h11] at hh ⊢
 by_cases h12 : m.kind = 12
 ·rw [if_pos h12] at hh ⊢;simp only [Bool.or_eq_true,Bool.and_eq_true,decide_eq_true_eq] at hh;rcases hh with ⟨h0,h1⟩ | ⟨h0,h1⟩
  ·have:=J7 h1;rw [if_pos h0,h0];have e : (A9 [0]).length = 1:=by decide
   simp only [List.length_append];omega
  ·rw [if_neg (by omega),h0]
   decide
 rw [if_neg h12];simp
theorem IW (h : m.right = true) : (Ay m).length ≤ 46:=by
 have hm:=X0 h;obtain ⟨⟨h1,h2⟩,⟨h3,h4⟩,_,⟨h5,h6⟩,_,_⟩:=FO h;have ha:=KG h;have:=Dj h3;have:=Dj h4;have a1:=BL (n:=m.kind) 1 (by omega);have a2:=BL (n:=m.call) 5 (by omega);have a3:=BL (n:=m.src) 2 (by omega);have a4:=BL (n:=m.dst) 2 (by omega);simp only [Ay,A9,List.length_append,List.length_nil];omega
theorem Sw (h : m.right = true) : Da (Ay m) = (m,0):=by
 have hl:=IW h;obtain ⟨⟨h1,h2⟩,⟨h3,h4⟩,_,⟨h5,h6⟩,_,_⟩:=FO h;have ha:=KG h;unfold Da;rw [if_neg (by omega)];unfold Ay;rw [XE m ⟨by omega,h2⟩ (CR (by omega)) (BG h3) (BG h4)];simp only [XH m h,h,and_self,if_true]
theorem bK {e : Int} (h : Da b = (m,e)) : (e = 0 ∧ m.right = true ∧ Ay m = b) ∨ (e = 12 ∧ m = AC):=by
 unfold Da at h;split at h
 ·cases h;exact .inr ⟨rfl,rfl⟩
 split at h
 ·cases h;exact .inr ⟨rfl,rfl⟩
 rename_i m1 r h1;split at h
 ·cases h;exact .inr ⟨rfl,rfl⟩
 rename_i m2 r2 h2;split at h
 ·rename_i h3;cases h;refine .inl ⟨rfl,h3.2,?_⟩;obtain ⟨e1,e2⟩:=XC h1;obtain ⟨g1,g2,g3,g4,g5⟩:=XG h2;unfold Ay;rw [g2,g3,g4,g5,e1,g1,h3.1,List.append_nil]
 ·cases h;exact .inr ⟨rfl,rfl⟩
end Wi
end Go.Proofs.YtkljbfejbakooaaGreatDoor
