/- Part 22 of a proof, put together by a program. Conditions: none beyond those that a theorem states. -/
import Derived.Test.YtkljbfejbakooaaGreatDoorB21
set_option linter.unusedSimpArgs false
set_option linter.unusedVariables false
set_option linter.unnecessarySimpa false
set_option maxHeartbeats 40000000
namespace Go.Proofs.YtkljbfejbakooaaGreatDoor
namespace Wi
open Go.Gar
set_option maxRecDepth 4000
abbrev CC : List Nat:=[0,2,3,4,5,6,10,23,34]
def Ci (b : List UInt8) : A8 × Int :=
 if 46 < b.length then (AA,12) else match Dk AA b with
 | none => (AA,12)
 | some (m,r) => match EM m r with
  | none => (AA,12)
  | some (m',r') => if r' = [] ∧ m'.right = true then (m',0) else (AA,12)
theorem F8 : ∀ (k : Nat) (b : List UInt8) (acc : List Int),(Bj k b acc).1.length ≤ k + acc.length ∧ (Bj k b acc).2.1.length ≤ b.length
 | 0,b,acc => by simp [Bj]
 | k + 1,b,acc => by
  simp only [Bj];split
  ·have ih:=F8 k (AX b).2.1 (acc ++ [((AX b).1 : Int)]);have hl:=Et b;simp only [List.length_append,List.length_cons,List.length_nil] at ih;omega
  ·simp
variable {b r : List UInt8}
theorem XJ {l : List Int} (h : Gi b = some (l,r)) : l.length ≤ 255 ∧ r.length ≤ b.length:=by
 have e:=IS h;unfold AP at e;split at e
 ·simp at e
 ·rename_i m q;have hl:=F8 m.toNat q [];rw [e] at hl;have:=m.toNat_lt;simp only [List.length_nil,List.length_cons] at hl ⊢;omega
theorem Q8 {m m' : A8} (h : EM m b = some (m',r)) (hl : m.list.length ≤ 255) : m'.list.length ≤ 255 ∧ r.length ≤ b.length:=by
 unfold EM at h;split at h
 ·split at h
  ·cases h
  ·rename_i n b1 h1;split at h
   ·cases h
   ·rename_i g b2 h2;have:=AR h1;have:=Jv h2;cases h;exact ⟨hl,by omega⟩
 split at h
 ·split at h
  ·cases h
  ·rename_i x b1 h1;have:=NF h1;cases h;exact ⟨hl,by omega⟩
 split at h
 ·split at h
  ·cases h
  ·rename_i x b1 h1;have:=Hl h1;cases h;exact ⟨hl,by omega⟩
 split at h
 ·split at h
  ·cases h
  ·rename_i n b1 h1;split at h
   ·cases h
   ·rename_i g b2 h2;have:=AR h1;have:=XJ h2;cases h;exact ⟨this.1,by omega⟩
 split at h
 ·split at h
  ·cases h
  ·rename_i n b1 h1;split at h
   ·cases h
   ·rename_i g b2 h2;have:=AR h1;have:=Jv h2;cases h;exact ⟨hl,by omega⟩
 split at h
 ·split at h
  ·cases h
  ·rename_i n b1 h1;have:=AR h1;cases h;exact ⟨hl,by omega⟩
 split at h
 ·split at h
  ·cases h
  ·rename_i n b1 h1;have:=AR h1;split at h
   ·split at h
    ·cases h
    ·rename_i x b2 h2;have:=NF h2;cases h;exact ⟨hl,by omega⟩
   ·cases h;exact ⟨hl,by omega⟩
 ·cases h;exact ⟨hl,by omega⟩
theorem IR {m : A8} (h : Dk AA b = some (m,r)) : 0 ≤ m.kind ∧ m.kind < 13 ∧ m.list = []:=by
 unfold Dk at h;split at h
 ·cases h
 rename_i k b1 h1;split at h
 ·cases h
 split at h
 ·cases h
 rename_i c b2 h2;split at h
 ·cases h
 rename_i s b3 h3;split at h
 ·cases h
 rename_i d b4 h4;simp only [Option.some.injEq,Prod.mk.injEq] at h;obtain ⟨rfl,rfl⟩:=h;exact ⟨by show (0 : Int) ≤ (k : Int);omega,by show (k : Int) < 13;omega,rfl⟩
abbrev Ul : AV:=.tup [.ag zC,.d (.i .i64 12)]
abbrev XO : List A2:=[.c zC,.c [.d (.i .i64 12)]]
theorem aZ (b : List UInt8) (h : 46 < b.length) : B4 Tryz.prog 117 [.d (.by b)] [] Ul XO:=by
 refine DN (g:=179) (xs:=[.ptr 0 0 15,.ptr 1 0 1]) A6 Tryz.func117 rfl rfl (Nat.le_of_ble_eq_true rfl) ?_;refine Ka A6 rfl rfl rfl rfl rfl ?_ rfl;refine Ka A6 rfl rfl rfl rfl rfl ?_ rfl;refine CJ ?_;refine Fq A6 rfl rfl rfl rfl ?_ rfl;refine Co rfl rfl rfl rfl rfl rfl ⟨_,Tryz.func179,rfl,rfl⟩ rfl ?_;refine wx CC [] [] A0 A0 ?_;with_reducible repeat' first|constructor|intro hc;try simp only[AB] at hc
 refine ⟨_,Dl _ _ _ _ _ _ _ _ _ _ _ _ _ _ _ _ _ 12,?_⟩;exact ⟨⟨[(2,.ptr 0 0 15),(3,.ptr 1 0 1)],XO,Tryz.f117.ntmps⟩,(A1.ck rfl),Nat.zero_le _,_,_,rfl,rfl,rfl,rfl⟩
theorem ab (b : List UInt8) (hb : b.length ≤ 46) (h : Dk AA b = none) : B4 Tryz.prog 117 [.d (.by b)] [] Ul XO:=by
 have c1:=Z7 AA b (by omega) h;unfold hH at c1;simp only [mC,AA,AF] at c1;refine DN (g:=179) (xs:=[.ptr 0 0 15,.ptr 1 0 1]) A6 Tryz.func117 rfl rfl (Nat.le_of_ble_eq_true rfl) ?_;refine Ka A6 rfl rfl rfl rfl rfl ?_ rfl;refine Ka A6 rfl rfl rfl rfl rfl ?_ rfl;refine CJ ?_;refine Fq A6 rfl rfl rfl rfl ?_ rfl;refine Co rfl rfl rfl rfl rfl rfl ⟨_,Tryz.func179,rfl,rfl⟩ rfl ?_;refine wx CC [5] [] A0 A0 ?_;with_reducible repeat' first|constructor|intro hc;try simp only[AB] at hc
 refine Bp (A1.Zy 0 9 (.is []) rfl rfl rfl rfl trivial) (by simp) ?_;have x1:=Ds.mk [2,0] (c1);refine wx CC [] [] A0 A0 ?_;clear x1;refine ⟨_,Dl _ _ _ _ _ _ _ _ _ _ _ _ _ _ _ _ _ 12,?_⟩;exact ⟨⟨[(2,.ptr 0 0 15),(3,.ptr 1 0 1)],XO,Tryz.f117.ntmps⟩,(A1.ck rfl),Nat.zero_le _,_,_,rfl,rfl,rfl,rfl⟩
theorem ae (b : List UInt8) (hb : b.length ≤ 46) (m : A8) (r : List UInt8) (h : Dk AA b = some (m,r)) (h2 : EM m r = none) : B4 Tryz.prog 117 [.d (.by b)] [] Ul XO:=by
 have c1:=OB AA b (by omega) m r h;have l1:=Jx h;obtain ⟨hk1,hk2,hk3⟩:=IR h;have c2:=K1 m r;have c3:=ZN m r (by omega) h2;have hs : special m.kind:=Classical.byContradiction fun hs => by rw [HH m r hs] at h2;cases h2
 unfold special at hs;obtain ⟨k,c,s,d,ky,sl,dn,pl,pr,l,⟨ik,iv,ir,ig⟩,co⟩:=m;unfold hH at c1;simp only [mC,RJ,AA,AF] at *;unfold gH gX at c3;simp only [mC,Lo] at c3;refine DN (g:=179) (xs:=[.ptr 0 0 15,.ptr 1 0 1]) A6 Tryz.func117 rfl rfl (Nat.le_of_ble_eq_true rfl) ?_;refine Ka A6 rfl rfl rfl rfl rfl ?_ rfl;refine Ka A6 rfl rfl rfl rfl rfl ?_ rfl;refine CJ ?_;refine Fq A6 rfl rfl rfl rfl ?_ rfl;refine Co rfl rfl rfl rfl rfl rfl ⟨_,Tryz.func179,rfl,rfl⟩ rfl ?_;refine wx CC [5] [] A0 A0 ?_;with_reducible repeat' first|constructor|intro hc;try simp only[AB] at hc
 refine Bp (A1.Zy 0 9 (.is []) rfl rfl rfl rfl trivial) (by simp) ?_;clear h h2;rcases hs with rfl | rfl | rfl | rfl | rfl | rfl | rfl
 all_goals (
  simp only [Int.reduceEq,if_true,if_false] at c3;have d1:=Ds.mk [2,0] (c1);have d2:=Ds.mk [0,2] (c2);have x1:=Ds.mk [4,3,0,2] (c3);refine wx CC [] [(1,0),(2,0)] A0 A0 ?_;clear x1 d2 d1;refine ⟨_,Dl _ _ _ _ _ _ _ _ _ _ _ _ _ _ _ _ _ 12,?_⟩
  exact ⟨⟨[(2,.ptr 0 0 15),(3,.ptr 1 0 1)],XO,Tryz.f117.ntmps⟩,(A1.ck rfl),Nat.zero_le _,_,_,rfl,rfl,rfl,rfl⟩)
theorem af (b : List UInt8) (hb : b.length ≤ 46) (m m' : A8) (r r' : List UInt8) (h : Dk AA b = some (m,r)) (h2 : EM m r = some (m',r')) (h3 : ¬ (r' = [] ∧ m'.right = true)) : B4 Tryz.prog 117 [.d (.by b)] [] Ul XO:=by
 have c1:=OB AA b (by omega) m r h;have l1:=Jx h;obtain ⟨hk1,hk2,hk3⟩:=IR h;have c2:=K1 m r;have hl:=Q8 h2 (by rw [hk3];simp);have cR:=Ex m' (by omega)
 by_cases hs : special m.kind
 ·have c3:=TE m r (by omega) m' r' h2 hs;unfold special at hs;obtain ⟨k,c,s,d,ky,sl,dn,pl,pr,l,⟨ik,iv,ir,ig⟩,co⟩:=m;obtain ⟨k',c',s',d',ky',sl',dn',pl',pr',l',⟨ik',iv',ir',ig'⟩,co'⟩:=m';unfold hH at c1;unfold gH at c3;unfold A8.d A8.cells at cR;simp only [mC,RJ,AA,AF,Lo] at *;refine DN (g:=179) (xs:=[.ptr 0 0 15,.ptr 1 0 1]) A6 Tryz.func117 rfl rfl (Nat.le_of_ble_eq_true rfl) ?_;refine Ka A6 rfl rfl rfl rfl rfl ?_ rfl;refine Ka A6 rfl rfl rfl rfl rfl ?_ rfl;refine CJ ?_;refine Fq A6 rfl rfl rfl rfl ?_ rfl;refine Co rfl rfl rfl rfl rfl rfl ⟨_,Tryz.func179,rfl,rfl⟩ rfl ?_;refine wx CC [5] [] A0 A0 ?_;with_reducible repeat' first|constructor|intro hc;try simp only[AB] at hc
  refine Bp (A1.Zy 0 9 (.is []) rfl rfl rfl rfl trivial) (by simp) ?_;clear h h2
  by_cases hr : r' = []
  ·subst hr
   have hR : (A8.mk k' c' s' d' ky' sl' dn' pl' pr' l' ⟨ik',iv',ir',ig'⟩ co').right = false:=by
    cases hq : (A8.mk k' c' s' d' ky' sl' dn' pl' pr' l' ⟨ik',iv',ir',ig'⟩ co').right with
    | false => rfl
    | true => exact absurd ⟨rfl,hq⟩ h3
   rw [hR] at cR;rcases hs with rfl | rfl | rfl | rfl | rfl | rfl | rfl
   all_goals (
    simp only [Int.reduceEq,if_true,if_false] at c3;have d1:=Ds.mk [2,0] (c1);have d2:=Ds.mk [0,2] (c2);have d3:=Ds.mk [4,3,0,2] (c3);refine wx CC [] [(1,0),(2,0)] A0 (AG @cR) ?_;clear d3 d2 d1;refine ⟨_,Dl _ _ _ _ _ _ _ _ _ _ _ _ _ _ _ _ _ 12,?_⟩
    exact ⟨⟨[(2,.ptr 0 0 15),(3,.ptr 1 0 1)],XO,Tryz.f117.ntmps⟩,(A1.ck rfl),Nat.zero_le _,_,_,rfl,rfl,rfl,rfl⟩)
  ·have hpos : 0 < r'.length:=List.length_pos_iff.2 hr;rcases hs with rfl | rfl | rfl | rfl | rfl | rfl | rfl
   all_goals (
    simp only [Int.reduceEq,if_true,if_false] at c3;have d1:=Ds.mk [2,0] (c1);have d2:=Ds.mk [0,2] (c2);have d3:=Ds.mk [4,3,0,2] (c3);refine wx CC [] [(1,0),(2,0)] A0 (AG @cR) ?_;clear d3 d2 d1;with_reducible repeat' first|constructor|intro hc;try simp only[AB] at hc
    refine ⟨_,Dl _ _ _ _ _ _ _ _ _ _ _ _ _ _ _ _ _ 12,?_⟩
    exact ⟨⟨[(2,.ptr 0 0 15),(3,.ptr 1 0 1)],XO,Tryz.f117.ntmps⟩,(A1.ck rfl),Nat.zero_le _,_,_,rfl,rfl,rfl,rfl⟩)
 ·rw [HH m r hs] at h2;simp only [Option.some.injEq,Prod.mk.injEq] at h2;obtain ⟨rfl,rfl⟩:=h2;unfold special at hs;obtain ⟨k,c,s,d,ky,sl,dn,pl,pr,l,⟨ik,iv,ir,ig⟩,co⟩:=m;unfold hH at c1;unfold A8.d A8.cells at cR;simp only [mC,RJ,AA,AF] at *;have hs : k = 0 ∨ k = 1 ∨ k = 2 ∨ k = 3 ∨ k = 8 ∨ k = 9:=by omega
  refine DN (g:=179) (xs:=[.ptr 0 0 15,.ptr 1 0 1]) A6 Tryz.func117 rfl rfl (Nat.le_of_ble_eq_true rfl) ?_;refine Ka A6 rfl rfl rfl rfl rfl ?_ rfl;refine Ka A6 rfl rfl rfl rfl rfl ?_ rfl;refine CJ ?_;refine Fq A6 rfl rfl rfl rfl ?_ rfl;refine Co rfl rfl rfl rfl rfl rfl ⟨_,Tryz.func179,rfl,rfl⟩ rfl ?_;refine wx CC [5] [] A0 A0 ?_;with_reducible repeat' first|constructor|intro hc;try simp only[AB] at hc
  refine Bp (A1.Zy 0 9 (.is []) rfl rfl rfl rfl trivial) (by simp) ?_;clear h
  by_cases hr : r = []
  ·subst hr
   have hR : (A8.mk k c s d ky sl dn pl pr l ⟨ik,iv,ir,ig⟩ co).right = false:=by
    cases hq : (A8.mk k c s d ky sl dn pl pr l ⟨ik,iv,ir,ig⟩ co).right with
    | false => rfl
    | true => exact absurd ⟨rfl,hq⟩ h3
   rw [hR] at cR;rcases hs with rfl | rfl | rfl | rfl | rfl | rfl
   all_goals (
    have d1:=Ds.mk [2,0] (c1);have d2:=Ds.mk [0,2] (c2);refine wx CC [] [(1,0),(2,0)] A0 (AG @cR) ?_;clear d2 d1;refine ⟨_,Dl _ _ _ _ _ _ _ _ _ _ _ _ _ _ _ _ _ 12,?_⟩
    exact ⟨⟨[(2,.ptr 0 0 15),(3,.ptr 1 0 1)],XO,Tryz.f117.ntmps⟩,(A1.ck rfl),Nat.zero_le _,_,_,rfl,rfl,rfl,rfl⟩)
  ·have hpos : 0 < r.length:=List.length_pos_iff.2 hr;rcases hs with rfl | rfl | rfl | rfl | rfl | rfl
   all_goals (
    have d1:=Ds.mk [2,0] (c1);have d2:=Ds.mk [0,2] (c2);refine wx CC [] [(1,0),(2,0)] A0 (AG @cR) ?_;clear d2 d1;with_reducible repeat' first|constructor|intro hc;try simp only[AB] at hc
    refine ⟨_,Dl _ _ _ _ _ _ _ _ _ _ _ _ _ _ _ _ _ 12,?_⟩
    exact ⟨⟨[(2,.ptr 0 0 15),(3,.ptr 1 0 1)],XO,Tryz.f117.ntmps⟩,(A1.ck rfl),Nat.zero_le _,_,_,rfl,rfl,rfl,rfl⟩)
abbrev I4 : List Nat:=[0,2,3,4,5,6,10,23,34]
theorem VP (b : List UInt8) (hb : b.length ≤ 46) (m m' : A8) (r : List UInt8) (h : Dk AA b = some (m,r)) (h2 : EM m r = some (m',[])) (h3 : m'.right = true) : B4 Tryz.prog 117 [.d (.by b)] [] (.tup [.d m'.d,.d (.i .i64 0)]) [.c (mC m'),.c [.d (.i .i64 0)]]:=by
 have c1:=OB AA b (by omega) m r h;have l1:=Jx h;obtain ⟨hk1,hk2,hk3⟩:=IR h;have c2:=K1 m r;have hl:=Q8 h2 (by rw [hk3];simp);have cR:=Ex m' (by omega);rw [h3] at cR
 by_cases hs : special m.kind
 ·have c3:=TE m r (by omega) m' [] h2 hs;unfold special at hs;obtain ⟨k,c,s,d,ky,sl,dn,pl,pr,l,⟨ik,iv,ir,ig⟩,co⟩:=m;obtain ⟨k',c',s',d',ky',sl',dn',pl',pr',l',⟨ik',iv',ir',ig'⟩,co'⟩:=m';unfold hH at c1;unfold gH at c3;unfold A8.d A8.cells at cR ⊢;simp only [mC,RJ,AA,AF,Lo] at *;refine DN (g:=179) (xs:=[.ptr 0 0 15,.ptr 1 0 1]) A6 Tryz.func117 rfl rfl (Nat.le_of_ble_eq_true rfl) ?_;refine Ka A6 rfl rfl rfl rfl rfl ?_ rfl;refine Ka A6 rfl rfl rfl rfl rfl ?_ rfl;refine CJ ?_;refine Fq A6 rfl rfl rfl rfl ?_ rfl;refine Co rfl rfl rfl rfl rfl rfl ⟨_,Tryz.func179,rfl,rfl⟩ rfl ?_;refine wx I4 [5] [] A0 A0 ?_;with_reducible repeat' first|constructor|intro hc;try simp only[AB] at hc
  refine Bp (A1.Zy 0 9 (.is []) rfl rfl rfl rfl trivial) (by simp) ?_;clear h h2;rcases hs with rfl | rfl | rfl | rfl | rfl | rfl | rfl
  all_goals (
   simp only [Int.reduceEq,if_true,if_false] at c3;have d1:=Ds.mk [2,0] (c1);have d2:=Ds.mk [0,2] (c2);have d3:=Ds.mk [4,3,0,2] (c3);refine wx I4 [] [(1,0),(2,0)] A0 (AG @cR) ?_;clear d3 d2 d1;refine ⟨_,Mg _,?_⟩
   exact ⟨⟨[(2,.ptr 0 0 15),(3,.ptr 1 0 1)],[.c (mC ⟨k',c',s',d',ky',sl',dn',pl',pr',l',⟨ik',iv',ir',ig'⟩,co'⟩),.c [.d (.i .i64 0)]],Tryz.f117.ntmps⟩,(A1.ck rfl),Nat.zero_le _,_,_,rfl,rfl,rfl,rfl⟩)
 ·rw [HH m r hs] at h2;simp only [Option.some.injEq,Prod.mk.injEq] at h2;obtain ⟨rfl,rfl⟩:=h2;unfold special at hs;obtain ⟨k,c,s,d,ky,sl,dn,pl,pr,l,⟨ik,iv,ir,ig⟩,co⟩:=m;unfold hH at c1;unfold A8.d A8.cells at cR ⊢;simp only [mC,RJ,AA,AF] at *;have hs : k = 0 ∨ k = 1 ∨ k = 2 ∨ k = 3 ∨ k = 8 ∨ k = 9:=by omega
  refine DN (g:=179) (xs:=[.ptr 0 0 15,.ptr 1 0 1]) A6 Tryz.func117 rfl rfl (Nat.le_of_ble_eq_true rfl) ?_;refine Ka A6 rfl rfl rfl rfl rfl ?_ rfl;refine Ka A6 rfl rfl rfl rfl rfl ?_ rfl;refine CJ ?_;refine Fq A6 rfl rfl rfl rfl ?_ rfl;refine Co rfl rfl rfl rfl rfl rfl ⟨_,Tryz.func179,rfl,rfl⟩ rfl ?_;refine wx I4 [5] [] A0 A0 ?_;with_reducible repeat' first|constructor|intro hc;try simp only[AB] at hc
  refine Bp (A1.Zy 0 9 (.is []) rfl rfl rfl rfl trivial) (by simp) ?_;clear h;rcases hs with rfl | rfl | rfl | rfl | rfl | rfl
  all_goals (
   have d1:=Ds.mk [2,0] (c1);have d2:=Ds.mk [0,2] (c2);refine wx I4 [] [(1,0),(2,0)] A0 (AG @cR) ?_;clear d2 d1;refine ⟨_,Mg _,?_⟩
   exact ⟨⟨[(2,.ptr 0 0 15),(3,.ptr 1 0 1)],[.c (mC ⟨_,c,s,d,ky,sl,dn,pl,pr,l,⟨ik,iv,ir,ig⟩,co⟩),.c [.d (.i .i64 0)]],Tryz.f117.ntmps⟩,(A1.ck rfl),Nat.zero_le _,_,_,rfl,rfl,rfl,rfl⟩)
theorem Iz {H : List A2} : B9 H Ul (.tup [AA.d,.i .i64 12]):=by
 simp [Ul,zC,AA,AF,A8.d,A8.cells,Eb,Ja,BS,C4,By,Jb,A4,A9,A3]
theorem YK (b : List UInt8) : Go.Gar.Fn Tryz.prog 117 [.by b] (.tup [(Ci b).1.d,.i .i64 (Ci b).2]):=by
 by_cases h0 : 46 < b.length
 ·have e : Ci b = (AA,12):=if_pos h0;rw [e];exact DO (ds:=[.by b]) (aZ b h0) Iz
 cases h1 : Dk AA b with
 | none =>
  have e : Ci b = (AA,12):=by unfold Ci;rw [if_neg h0,h1]
  rw [e];exact DO (ds:=[.by b]) (ab b (by omega) h1) Iz
 | some p =>
 obtain ⟨m,r⟩:=p
 cases h2 : EM m r with
 | none =>
  have e : Ci b = (AA,12):=by unfold Ci;rw [if_neg h0,h1];simp only [h2]
  rw [e];exact DO (ds:=[.by b]) (ae b (by omega) m r h1 h2) Iz
 | some p =>
 obtain ⟨m',r'⟩:=p
 by_cases h3 : r' = [] ∧ m'.right = true
 ·have e : Ci b = (m',0):=by unfold Ci;rw [if_neg h0,h1];simp only [h2];rw [if_pos h3]
  rw [e];obtain ⟨rfl,h4⟩:=h3;refine DO (ds:=[.by b]) (VP b (by omega) m m' r h1 h2 h4) ?_;simp [Eb,BS,C4,By]
 ·have e : Ci b = (AA,12):=by unfold Ci;rw [if_neg h0,h1];simp only [h2];rw [if_neg h3]
  rw [e];exact DO (ds:=[.by b]) (af b (by omega) m m' r r' h1 h2 h3) Iz
end Wi
end Go.Proofs.YtkljbfejbakooaaGreatDoor
