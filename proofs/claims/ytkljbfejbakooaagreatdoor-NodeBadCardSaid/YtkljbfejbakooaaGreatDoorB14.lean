/- Part 14 of a proof, put together by a program. Conditions: none beyond those that a theorem states. -/
import Derived.Test.YtkljbfejbakooaaGreatDoorB07
import Derived.Test.YtkljbfejbakooaaGreatDoorB09
set_option linter.unusedSimpArgs false
set_option linter.unusedVariables false
set_option linter.unnecessarySimpa false
set_option maxHeartbeats 40000000
namespace Go.Proofs.YtkljbfejbakooaaGreatDoor
open Go.Gar
set_option maxRecDepth 4000
def dy (x y : Item) : Int :=
 if x.version < y.version then -1 else if y.version < x.version then 1 else if x.value < y.value then -1 else if y.value < x.value then 1 else
 if x.gone = y.gone then 0 else if x.gone then 1 else -1
def Item.may (x : Item) : Bool:=decide (1 ≤ x.key.length) && decide (x.key.length ≤ 20) && decide (0 ≤ x.value) && decide (x.value ≤ 1048576) && decide (0 ≤ x.version) && decide (x.version ≤ 1048576)
theorem ZL (x : Item) : x.may = true ↔ (1 ≤ x.key.length ∧ x.key.length ≤ 20) ∧ (0 ≤ x.value ∧ x.value ≤ 1048576) ∧ (0 ≤ x.version ∧ x.version ≤ 1048576):=by
 simp only [Item.may,Bool.and_eq_true,decide_eq_true_eq];constructor
 ·rintro ⟨⟨⟨⟨⟨h1,h2⟩,h3⟩,h4⟩,h5⟩,h6⟩;exact ⟨⟨h1,h2⟩,⟨h3,h4⟩,h5,h6⟩
 ·rintro ⟨⟨h1,h2⟩,⟨h3,h4⟩,h5,h6⟩;exact ⟨⟨⟨⟨⟨h1,h2⟩,h3⟩,h4⟩,h5⟩,h6⟩
theorem J5 (s : List UInt8) : Go.Gar.Fn Tryz.prog 134 [.s s] (.b (decide (1 ≤ s.length ∧ s.length ≤ 20))):=by
 refine zF A6 Tryz.func134 ?_
 by_cases h1 : 1 ≤ s.length
 ·have f1 : decide ((s.length : Int) ≥ 1) = true:=decide_eq_true (by omega)
  by_cases h2 : s.length ≤ 20
  ·have f2 : decide ((s.length : Int) ≤ 20) = true:=decide_eq_true (by omega);rw [decide_eq_true (show 1 ≤ s.length ∧ s.length ≤ 20 from ⟨h1,h2⟩)];refine wk [0,2] [] (BM f1 f2) A0 ?_;exact zE
  ·have f2 : decide ((s.length : Int) ≤ 20) = false:=decide_eq_false (by omega);rw [decide_eq_false (show ¬ (1 ≤ s.length ∧ s.length ≤ 20) from fun h => h2 h.2)];refine wk [0,2] [] (BM f1 f2) A0 ?_;exact zE
 ·have f1 : decide ((s.length : Int) ≥ 1) = false:=decide_eq_false (by omega);rw [decide_eq_false (show ¬ (1 ≤ s.length ∧ s.length ≤ 20) from fun h => h1 h.1)];refine wk [0,2] [] (AG f1) A0 ?_;exact zE
theorem F2 (n : Int) : Go.Gar.Fn Tryz.prog 135 [.i .i64 n] (.b (decide (0 ≤ n ∧ n ≤ 1048576))):=by
 refine zF A6 Tryz.func135 ?_;refine wk [0,2] [] A0 A0 ?_;with_reducible repeat' first|constructor|intro hc;try simp only[AB] at hc
 all_goals (refine ⟨_,_,rfl,rfl,?_⟩;simp_all [B9] <;> omega)
theorem NZ (x : Item) : Go.Gar.Fn Tryz.prog 50 [x.d] (.b x.may):=by
 obtain ⟨k,v,n,g⟩:=x;have c1:=J5 k;have c2:=F2 v;have c3:=F2 n;have hm:=ZL ⟨k,v,n,g⟩;refine zF A6 Tryz.func50 ?_;refine wk [0,1,2] [] A0 (EP @c1 @c2 @c3) ?_;with_reducible repeat' first|constructor|intro hc;try simp only[AB] at hc
 all_goals (refine ⟨_,_,rfl,rfl,?_⟩;simp_all [B9,Item.may] <;> omega)
theorem M8 (x : Item) : Go.Gar.Fn Tryz.prog 26 [x.d] (.b x.may):=by
 obtain ⟨k,v,n,g⟩:=x;refine zF A6 Tryz.func26 ?_;refine wk [0,1,2] [] A0 A0 ?_;with_reducible repeat' first|constructor|intro hc;try simp only[AB] at hc
 all_goals (refine ⟨_,_,rfl,rfl,?_⟩;simp_all [B9,Item.may] <;> omega)
end Go.Proofs.YtkljbfejbakooaaGreatDoor
namespace Go.Proofs.YtkljbfejbakooaaGreatDoor
namespace Wi
open Go.Gar
set_option maxRecDepth 4000
structure A8 where
 kind : Int
 call : Int
 src : Int
 dst : Int
 key : Int
 slow : Bool
 done : Bool
 place : Int
 pred : Int
 list : List Int
 item : Item
 code : Int
 deriving DecidableEq
def A8.cells (m : A8) : List D:=[.i .u8 m.kind,.i .i64 m.call,.i .i64 m.src,.i .i64 m.dst,.i .i64 m.key,.b m.slow,.b m.done,.i .i64 m.place,.i .i64 m.pred,.is m.list,.s m.item.key,.i .i64 m.item.value,.i .i64 m.item.version,.b m.item.gone,.i .i64 m.code]
def A8.d (m : A8) : D:=.agg m.cells
def AA : A8:=⟨0,0,0,0,0,false,false,0,0,[],AF,0⟩
def B2 (n : Int) : Bool:=decide (0 ≤ n) && decide (n < 65536)
theorem Cs (n : Int) : Go.Gar.Fn Tryz.prog 63 [.i .i64 n] (.b (B2 n)):=by
 refine zF A6 Tryz.func63 ?_;refine wk [0,2] [] A0 A0 ?_;with_reducible repeat' first|constructor|intro hc;try simp only[AB] at hc
 all_goals (refine ⟨_,_,rfl,rfl,?_⟩;simp_all [B9,B2] <;> omega)
theorem Jq (n : Int) : Go.Gar.Fn Tryz.prog 140 [.i .i64 n] (.b (B2 n)):=by
 refine zF A6 Tryz.func140 ?_;refine wk [0,2] [] A0 A0 ?_;with_reducible repeat' first|constructor|intro hc;try simp only[AB] at hc
 all_goals (refine ⟨_,_,rfl,rfl,?_⟩;simp_all [B9,B2] <;> omega)
def A8.asks (m : A8) : Bool:=decide (1 ≤ m.kind) && decide (m.kind ≤ 6)
theorem JF (m : A8) : Go.Gar.Fn Tryz.prog 20 [m.d] (.b m.asks):=by
 obtain ⟨k,c,s,d,ky,sl,dn,pl,pr,l,⟨ik,iv,ir,ig⟩,co⟩:=m;refine zF A6 Tryz.func20 ?_;refine wk [0,1,2] [] A0 A0 ?_;with_reducible repeat' first|constructor|intro hc;try simp only[AB] at hc
 all_goals (refine ⟨_,_,rfl,rfl,?_⟩;simp_all [B9,A8.asks] <;> omega)
theorem J9 (m : A8) : Go.Gar.Fn Tryz.prog 44 [m.d] (.b m.asks):=by
 obtain ⟨k,c,s,d,ky,sl,dn,pl,pr,l,⟨ik,iv,ir,ig⟩,co⟩:=m;refine zF A6 Tryz.func44 ?_;refine wk [0,1,2] [] A0 A0 ?_;with_reducible repeat' first|constructor|intro hc;try simp only[AB] at hc
 all_goals (refine ⟨_,_,rfl,rfl,?_⟩;simp_all [B9,A8.asks] <;> omega)
def A8.asker (m : A8) : Int:=if m.asks then m.src else m.dst
theorem Ui (m : A8) : Go.Gar.Fn Tryz.prog 64 [m.d] (.i .i64 m.asker):=by
 have h:=JF m
 by_cases e : m.asks = true
 ·rw [e] at h;have e2 : m.asker = m.src:=if_pos e;obtain ⟨k,c,s,d,ky,sl,dn,pl,pr,l,⟨ik,iv,ir,ig⟩,co⟩:=m;refine zF A6 Tryz.func64 ?_;refine wk [0,1,2,4] [] A0 (AG @h) ?_;refine ⟨_,_,rfl,rfl,?_⟩;simp [Ab,A9,A4,A3,e2]
 ·have e : m.asks = false:=by simpa using e
  rw [e] at h;have e2 : m.asker = m.dst:=if_neg (by simp [e]);obtain ⟨k,c,s,d,ky,sl,dn,pl,pr,l,⟨ik,iv,ir,ig⟩,co⟩:=m;refine zF A6 Tryz.func64 ?_;refine wk [0,1,2,4] [] A0 (AG @h) ?_;refine ⟨_,_,rfl,rfl,?_⟩;simp [Ab,A9,A4,A3,e2]
theorem UP (m : A8) : Go.Gar.Fn Tryz.prog 200 [m.d] (.i .i64 m.asker):=by
 have h:=J9 m
 by_cases e : m.asks = true
 ·rw [e] at h;have e2 : m.asker = m.src:=if_pos e;obtain ⟨k,c,s,d,ky,sl,dn,pl,pr,l,⟨ik,iv,ir,ig⟩,co⟩:=m;refine zF A6 Tryz.func200 ?_;refine wk [0,1,2,4] [] A0 (AG @h) ?_;refine ⟨_,_,rfl,rfl,?_⟩;simp [Ab,A9,A4,A3,e2]
 ·have e : m.asks = false:=by simpa using e
  rw [e] at h;have e2 : m.asker = m.dst:=if_neg (by simp [e]);obtain ⟨k,c,s,d,ky,sl,dn,pl,pr,l,⟨ik,iv,ir,ig⟩,co⟩:=m;refine zF A6 Tryz.func200 ?_;refine wk [0,1,2,4] [] A0 (AG @h) ?_;refine ⟨_,_,rfl,rfl,?_⟩;simp [Ab,A9,A4,A3,e2]
def BN (s : List UInt8) : Bool:=decide ((s.length : Int) ≥ 1) && decide ((s.length : Int) ≤ 20)
def isVal (n : Int) : Bool:=decide (0 ≤ n) && decide (n ≤ 1048576)
def Ai (x : Item) : Bool:=BN x.key && isVal x.value && isVal x.version
theorem J5 (s : List UInt8) : Go.Gar.Fn Tryz.prog 134 [.s s] (.b (BN s)):=by
 refine zF A6 Tryz.func134 ?_
 by_cases h : (s.length : Int) ≥ 1
 ·refine wk [0,2] [] A0 A0 ?_;with_reducible repeat' first|constructor|intro hc;try simp only[AB] at hc
  all_goals (refine ⟨_,_,rfl,rfl,?_⟩;simp only [B9,BN,h,decide_true,Bool.true_and])
 ·refine wk [0,2] [] A0 A0 ?_;with_reducible repeat' first|constructor|intro hc;try simp only[AB] at hc
  all_goals (refine ⟨_,_,rfl,rfl,?_⟩;simp only [B9,BN,h,decide_false,Bool.false_and])
theorem F2 (n : Int) : Go.Gar.Fn Tryz.prog 135 [.i .i64 n] (.b (isVal n)):=by
 refine zF A6 Tryz.func135 ?_;refine wk [0,2] [] A0 A0 ?_;with_reducible repeat' first|constructor|intro hc;try simp only[AB] at hc
 all_goals (refine ⟨_,_,rfl,rfl,?_⟩;simp_all [B9,isVal] <;> omega)
abbrev I1 : List Nat:=[0,1,2,3,4,5,12,17,30]
abbrev I2 : List Nat:=[0,1,4,5,10,12,13,14,24]
variable {k : Nat}
theorem QC {a b : List Int} (hka : k < a.length) (h2 : k < b.length) (hpre : a.take k = b.take k) : (a.getD k 0 = b.getD k 0) ↔ a.take (k + 1) = b.take (k + 1):=by
 rw [List.take_succ_eq_append_getElem hka,List.take_succ_eq_append_getElem h2,hpre,List.getD_eq_getElem?_getD,List.getD_eq_getElem?_getD,List.getElem?_eq_getElem hka,List.getElem?_eq_getElem h2];exact ⟨fun e => congrArg (fun z => List.take k b ++ [z]) e,fun e => (List.cons.inj (List.append_cancel_left e)).1⟩
theorem QL (a b : A8) (ha : a.list.length ≤ 9223372036854775807) : Go.Gar.Fn Tryz.prog 65 [a.d,b.d] (.b (decide (a = b))):=by
 obtain ⟨k,c,s,d,ky,sl,dn,pl,pr,l,⟨ik,iv,ir,ig⟩,co⟩:=a;obtain ⟨k',c',s',d',ky',sl',dn',pl',pr',l',⟨ik',iv',ir',ig'⟩,co'⟩:=b;have ha : l.length ≤ 9223372036854775807:=ha;have hI:=HB ⟨ik,iv,ir,ig⟩ ⟨ik',iv',ir',ig'⟩;refine zF A6 Tryz.func65 ?_
 by_cases hl : l.length = l'.length
 ·refine wd I1 [] [] A0 A0 ?_;with_reducible repeat' first|constructor|intro hc;try simp only[AB] at hc
  refine Ae (fun k => k ≤ l.length ∧ l.take k = l'.take k) (fun j : Nat => ⟨[(2,.ptr 0 0 15),(3,.ptr 1 0 15),(5,.d (.i .i64 j))],[.c ((A8.mk k c s d ky sl dn pl pr l ⟨ik,iv,ir,ig⟩ co).cells.map .d),.c ((A8.mk k' c' s' d' ky' sl' dn' pl' pr' l' ⟨ik',iv',ir',ig'⟩ co').cells.map .d)],106⟩) (fun k => l.length - k) 0 ⟨Nat.zero_le _,by simp⟩ ?_ (Nat.le_refl _) ?_
  ·exact A1.ck rfl
  rintro j ⟨hk,hpre⟩;simp only [A8.cells,List.map_cons,List.map_nil]
  by_cases hka : j < l.length
  ·have hab:=QC hka (by omega) hpre;refine wd I1 [] [] A0 A0 ?_;with_reducible repeat' first|constructor|intro hc;try simp only[AB] at hc
   ·have : l ≠ l':=fun e => by subst e;exact hc rfl
    refine ⟨_,_,rfl,rfl,?_⟩;simp [Ab,A9,A4,A3,this]
   ·refine ⟨j + 1,⟨hka,hab.1 hc⟩,by omega,Nat.le_refl _,?_⟩;simp only [A8.cells,List.map_cons,List.map_nil];exact A1.ck rfl
  ·have : l = l':=by
    have e : j = l.length:=by omega
    subst e;rwa [List.take_length,hl,List.take_length] at hpre
   subst this;refine wd I1 [] [] (AG hI) A0 ?_;with_reducible repeat' first|constructor|intro hc;try simp only[AB] at hc
   all_goals (clear ha hl hk hpre hka;refine ⟨_,_,rfl,rfl,?_⟩;simp_all [B9,DW])
 ·have : l ≠ l':=fun e => hl (by rw [e]);refine wd I1 [] [] A0 A0 ?_;with_reducible repeat' first|constructor|intro hc;try simp only[AB] at hc
  refine ⟨_,_,rfl,rfl,?_⟩;simp [Ab,A9,A4,A3,this]
theorem QK (a b : A8) (ha : a.list.length < 9223372036854775807) : Go.Gar.Fn Tryz.prog 65 [a.d,b.d] (.b (decide (a = b))):=QL a b (Nat.le_of_lt ha)
theorem U6 (a b : List Int) (ha : a.length < 9223372036854775807) : Go.Gar.Fn Tryz.prog 281 [.is a,.is b] (.b (decide (a = b))):=by
 refine zF A6 Tryz.func281 ?_
 by_cases hl : a.length = b.length
 ·refine wd I2 [] [] A0 A0 ?_;with_reducible repeat' first|constructor|intro hc;try simp only[AB] at hc
  refine Ae (fun k => k ≤ a.length ∧ a.take k = b.take k) (fun k : Nat => ⟨[(0,.d (.is a)),(1,.d (.is b)),(12,.d (.i .i64 a.length)),(13,.d (.i .i64 k))],[],26⟩) (fun k => a.length - k) 0 ⟨Nat.zero_le _,by simp⟩ ?_ (Nat.le_refl _) ?_
  ·exact A1.ck rfl
  rintro k ⟨hk,hpre⟩
  by_cases hka : k < a.length
  ·have hab:=QC hka (by omega) hpre;refine wd I2 [] [] A0 A0 ?_;with_reducible repeat' first|constructor|intro hc;try simp only[AB] at hc
   ·have : a ≠ b:=fun e => by subst e;exact hc rfl
    refine ⟨_,_,rfl,rfl,?_⟩;simp [Ab,A9,A4,A3,this]
   ·refine ⟨k + 1,⟨hka,hab.1 hc⟩,by omega,Nat.le_refl _,?_⟩;exact A1.ck rfl
  ·have : a = b:=by
    have e : k = a.length:=by omega
    subst e;rwa [List.take_length,hl,List.take_length] at hpre
   refine wd I2 [] [] A0 A0 ?_;with_reducible repeat' first|constructor|intro hc;try simp only[AB] at hc
   refine ⟨_,_,rfl,rfl,?_⟩;simp [Ab,A9,A4,A3,this]
 ·have : a ≠ b:=fun e => hl (by rw [e]);refine wd I2 [] [] A0 A0 ?_;with_reducible repeat' first|constructor|intro hc;try simp only[AB] at hc
  refine ⟨_,_,rfl,rfl,?_⟩;simp [Ab,A9,A4,A3,this]
def R9 (l : List Int) (x : Int) : Int:=if x ∈ l then (l.idxOf x : Nat) else -1
variable {l : List Int}
theorem WX {x : Int} (hk : k < l.length) (hpre : x ∉ l.take k) (h : x = l.getD k 0) : x ∈ l ∧ l.idxOf x = k:=by
 rw [List.getD_eq_getElem?_getD,List.getElem?_eq_getElem hk] at h;simp only [Option.getD_some] at h;have hm : x ∈ l:=by rw [h];exact List.getElem_mem hk
 refine ⟨hm,?_⟩;have e : l = l.take k ++ (l[k] :: l.drop (k + 1)):=by rw [← List.drop_eq_getElem_cons hk,List.take_append_drop]
 have hi : l.idxOf x = (l.take k ++ (l[k] :: l.drop (k + 1))).idxOf x:=by rw [← e]
 rw [hi,List.idxOf_append,if_neg hpre,← h,List.idxOf_cons_self,List.length_take];omega
theorem X8 {x : Int} (hk : k < l.length) (hpre : x ∉ l.take k) (h : ¬ x = l.getD k 0) : x ∉ l.take (k + 1):=by
 rw [List.take_succ_eq_append_getElem hk,List.mem_append];rw [List.getD_eq_getElem?_getD,List.getElem?_eq_getElem hk] at h;simp at h;rintro (h1 | h1)
 ·exact hpre h1
 ·simp at h1;exact h h1
theorem Wk (l : List Int) (x : Int) (hl : l.length < 9223372036854775807) : Go.Gar.Fn Tryz.prog 346 [.is l,.i .i64 x] (.i .i64 (R9 l x)):=by
 refine zF A6 Tryz.func346 ?_;refine wk [0,1,4,5,7,8,9,16] [] A0 A0 ?_;refine Ae (fun k => k ≤ l.length ∧ x ∉ l.take k) (fun k : Nat => ⟨[(0,.d (.is l)),(1,.d (.i .i64 x)),(7,.d (.i .i64 l.length)),(8,.d (.i .i64 k))],[],19⟩) (fun k => l.length - k) 0 ⟨Nat.zero_le _,by simp⟩ ?_ (Nat.le_refl _) ?_
 ·exact A1.ck rfl
 rintro k ⟨hk,hpre⟩
 by_cases hkl : k < l.length
 ·refine wk [0,1,4,5,7,8,9,16] [] A0 A0 ?_;with_reducible repeat' first|constructor|intro hc;try simp only[AB] at hc
  ·obtain ⟨h1,h2⟩:=WX hkl hpre hc;have e : R9 l x = (k : Nat):=by unfold R9;rw [if_pos h1,h2]
   refine ⟨_,_,rfl,rfl,?_⟩;simp [Ab,A9,A4,A3,e]
  ·refine ⟨k + 1,⟨hkl,X8 hkl hpre hc⟩,by omega,Nat.le_refl _,?_⟩;exact A1.ck rfl
 ·have e : k = l.length:=by omega
  have e2 : R9 l x = -1:=by unfold R9;rw [if_neg];rwa [e,List.take_length] at hpre
  refine wk [0,1,4,5,7,8,9,16] [] A0 A0 ?_;with_reducible repeat' first|constructor|intro hc;try simp only[AB] at hc
  refine ⟨_,_,rfl,rfl,?_⟩;simp [Ab,A9,A4,A3,e2]
theorem PG (l : List Int) (x : Int) (hl : l.length < 9223372036854775807) : Go.Gar.Fn Tryz.prog 303 [.is l,.i .i64 x] (.b (decide (x ∈ l))):=by
 have hi:=Wk l x hl;refine zF A6 Tryz.func303 ?_;refine wk [0,1,4] [] A0 (AG @hi) ?_
 have e : decide (R9 l x ≥ 0) = decide (x ∈ l):=by
  unfold R9
  by_cases h : x ∈ l <;> simp [h]
 refine ⟨_,_,rfl,rfl,?_⟩;simp [Ab,A9,A4,A3,e]
end Wi
end Go.Proofs.YtkljbfejbakooaaGreatDoor
