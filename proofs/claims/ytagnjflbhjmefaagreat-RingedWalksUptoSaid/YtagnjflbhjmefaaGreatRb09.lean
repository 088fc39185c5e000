/- Part 9 of the texts of this proof, put together by a program and made short.
Conditions: none; what each theorem asks stands in its own hypotheses. -/
import Derived.Test.YtagnjflbhjmefaaGreatRb06
import Derived.Test.YtagnjflbhjmefaaGreatRb08
import Derived.KernelRfl
import Derived.RangeFuncIn
import Derived.Sort.Grow
import Derived.Laws.Cover3
import Derived.RecoverIn
import Derived.ProofKit
import Derived.OpenShut
import Derived.CallsIn
import Derived.RangeFuncLeaves
import Derived.OrdersIn
import Derived.TacticsIn
import Derived.ChangeKeysEq
import Derived.Laws.AppendOwn
import Derived.Laws.OwnMore
import Derived.Laws.MakeOwn
import Derived.Laws.Rows
import Derived.Laws.Cells
import Derived.Laws.Tables
import Derived.Laws.CopyRow
import Derived.Laws.Strings
import Derived.Laws.IdiomStrings
import Derived.Laws.BytesArg
import Derived.Test.YtagnjflbhjmefaaGreatProg
set_option linter.unusedSimpArgs false
set_option linter.unusedVariables false
set_option linter.unnecessarySimpa false
set_option maxHeartbeats 40000000
namespace Go.Proofs.YtagnjflbhjmefaaGreat
namespace Wi
open Go.Gar
set_option maxRecDepth 4000
structure AE where
 kind : Int
 call : Int
 src : Int
 dst : Int
 key : Int
 slow : Bool
 done : Bool
 place : Int
 pred : Int
 list : List Int
 item : Item
 code : Int
 deriving DecidableEq
def AE.cells (m : AE) : List D:=[.i .u8 m.kind,.i .i64 m.call,.i .i64 m.src,.i .i64 m.dst,.i .i64 m.key,.b m.slow,.b m.done,.i .i64 m.place,.i .i64 m.pred,.is m.list,.s m.item.key,.i .i64 m.item.value,.i .i64 m.item.version,.b m.item.gone,.i .i64 m.code]
def AE.d (m : AE) : D:=.agg m.cells
def Ab : AE:=⟨0,0,0,0,0,false,false,0,0,[],AP,0⟩
def Az (n : Int) : Bool:=decide (0 ≤ n) && decide (n < 65536)
theorem BM (n : Int) : Go.Gar.Fn Tryz.prog 217 [.i .i64 n] (.b (Az n)):=by
 refine A3 A8 Tryz.func217 rfl rfl (Nat.le_of_ble_eq_true rfl) ?_
 have nS:=True.intro;obtain ⟨lv,st,ns,nc⟩:=wq [0,2] [];refine wk ?_;clear nc ns st lv;repeat' (first|with_reducible constructor|(with_reducible intro hc;try simp only[A1] at hc))
 all_goals (refine ⟨_,_,rfl,rfl,?_⟩;simp_all [BQ,Az] <;> omega)
theorem Ic (n : Int) : Go.Gar.Fn Tryz.prog 189 [.i .i64 n] (.b (Az n)):=by
 refine A3 A8 Tryz.func189 rfl rfl (Nat.le_of_ble_eq_true rfl) ?_
 have nS:=True.intro;obtain ⟨lv,st,ns,nc⟩:=wq [0,2] [];refine wk ?_;clear nc ns st lv;repeat' (first|with_reducible constructor|(with_reducible intro hc;try simp only[A1] at hc))
 all_goals (refine ⟨_,_,rfl,rfl,?_⟩;simp_all [BQ,Az] <;> omega)
def AE.asks (m : AE) : Bool:=decide (1 ≤ m.kind) && decide (m.kind ≤ 6)
theorem Jr (m : AE) : Go.Gar.Fn Tryz.prog 152 [m.d] (.b m.asks):=by
 obtain ⟨k,c,s,d,ky,sl,dn,pl,pr,l,⟨ik,iv,ir,ig⟩,co⟩:=m
 refine A3 A8 Tryz.func152 rfl rfl (Nat.le_of_ble_eq_true rfl) ?_
 have nS:=True.intro;obtain ⟨lv,st,ns,nc⟩:=wq [0,1,2] [];refine wk ?_;clear nc ns st lv;repeat' (first|with_reducible constructor|(with_reducible intro hc;try simp only[A1] at hc))
 all_goals (refine ⟨_,_,rfl,rfl,?_⟩;simp_all [BQ,AE.asks] <;> omega)
theorem KA (m : AE) : Go.Gar.Fn Tryz.prog 166 [m.d] (.b m.asks):=by
 obtain ⟨k,c,s,d,ky,sl,dn,pl,pr,l,⟨ik,iv,ir,ig⟩,co⟩:=m
 refine A3 A8 Tryz.func166 rfl rfl (Nat.le_of_ble_eq_true rfl) ?_
 have nS:=True.intro;obtain ⟨lv,st,ns,nc⟩:=wq [0,1,2] [];refine wk ?_;clear nc ns st lv;repeat' (first|with_reducible constructor|(with_reducible intro hc;try simp only[A1] at hc))
 all_goals (refine ⟨_,_,rfl,rfl,?_⟩;simp_all [BQ,AE.asks] <;> omega)
def AE.asker (m : AE) : Int:=if m.asks then m.src else m.dst
theorem Rj (m : AE) : Go.Gar.Fn Tryz.prog 218 [m.d] (.i .i64 m.asker):=by
 have h:=Jr m
 by_cases e : m.asks = true
 ·rw [e] at h
  have e2 : m.asker = m.src:=if_pos e
  obtain ⟨k,c,s,d,ky,sl,dn,pl,pr,l,⟨ik,iv,ir,ig⟩,co⟩:=m
  refine A3 A8 Tryz.func218 rfl rfl (Nat.le_of_ble_eq_true rfl) ?_
  have nS:=True.intro;obtain ⟨lv,st,ns,nc⟩:=wq [0,1,2,4] [];have c1:=@h;refine wk ?_;clear nc ns st lv c1;repeat' (first|with_reducible constructor|(with_reducible intro hc;try simp only[A1] at hc))
  refine ⟨_,_,rfl,rfl,?_⟩;simp [AH,A6,A5,A4,e2]
 ·have e : m.asks = false:=by simpa using e
  rw [e] at h
  have e2 : m.asker = m.dst:=if_neg (by simp [e])
  obtain ⟨k,c,s,d,ky,sl,dn,pl,pr,l,⟨ik,iv,ir,ig⟩,co⟩:=m
  refine A3 A8 Tryz.func218 rfl rfl (Nat.le_of_ble_eq_true rfl) ?_
  have nS:=True.intro;obtain ⟨lv,st,ns,nc⟩:=wq [0,1,2,4] [];have c1:=@h;refine wk ?_;clear nc ns st lv c1;repeat' (first|with_reducible constructor|(with_reducible intro hc;try simp only[A1] at hc))
  refine ⟨_,_,rfl,rfl,?_⟩;simp [AH,A6,A5,A4,e2]
theorem SL (m : AE) : Go.Gar.Fn Tryz.prog 191 [m.d] (.i .i64 m.asker):=by
 have h:=KA m
 by_cases e : m.asks = true
 ·rw [e] at h
  have e2 : m.asker = m.src:=if_pos e
  obtain ⟨k,c,s,d,ky,sl,dn,pl,pr,l,⟨ik,iv,ir,ig⟩,co⟩:=m
  refine A3 A8 Tryz.func191 rfl rfl (Nat.le_of_ble_eq_true rfl) ?_
  have nS:=True.intro;obtain ⟨lv,st,ns,nc⟩:=wq [0,1,2,4] [];have c1:=@h;refine wk ?_;clear nc ns st lv c1;repeat' (first|with_reducible constructor|(with_reducible intro hc;try simp only[A1] at hc))
  refine ⟨_,_,rfl,rfl,?_⟩;simp [AH,A6,A5,A4,e2]
 ·have e : m.asks = false:=by simpa using e
  rw [e] at h
  have e2 : m.asker = m.dst:=if_neg (by simp [e])
  obtain ⟨k,c,s,d,ky,sl,dn,pl,pr,l,⟨ik,iv,ir,ig⟩,co⟩:=m
  refine A3 A8 Tryz.func191 rfl rfl (Nat.le_of_ble_eq_true rfl) ?_
  have nS:=True.intro;obtain ⟨lv,st,ns,nc⟩:=wq [0,1,2,4] [];have c1:=@h;refine wk ?_;clear nc ns st lv c1;repeat' (first|with_reducible constructor|(with_reducible intro hc;try simp only[A1] at hc))
  refine ⟨_,_,rfl,rfl,?_⟩;simp [AH,A6,A5,A4,e2]
def NN (s : List UInt8) : Bool:=decide ((s.length : Int) ≥ 1) && decide ((s.length : Int) ≤ 20)
def isVal (n : Int) : Bool:=decide (0 ≤ n) && decide (n ≤ 1048576)
def B7 (x : Item) : Bool:=NN x.key && isVal x.value && isVal x.version
theorem O4 (s : List UInt8) : Go.Gar.Fn Tryz.prog 228 [.s s] (.b (NN s)):=by
 refine A3 A8 Tryz.func228 rfl rfl (Nat.le_of_ble_eq_true rfl) ?_
 by_cases h : (s.length : Int) ≥ 1
 ·have nS:=True.intro;obtain ⟨lv,st,ns,nc⟩:=wq [0,2] [];refine wk ?_;clear nc ns st lv;repeat' (first|with_reducible constructor|(with_reducible intro hc;try simp only[A1] at hc))
  all_goals (refine ⟨_,_,rfl,rfl,?_⟩;simp only [BQ,NN,h,decide_true,Bool.true_and])
 ·have nS:=True.intro;obtain ⟨lv,st,ns,nc⟩:=wq [0,2] [];refine wk ?_;clear nc ns st lv;repeat' (first|with_reducible constructor|(with_reducible intro hc;try simp only[A1] at hc))
  all_goals (refine ⟨_,_,rfl,rfl,?_⟩;simp only [BQ,NN,h,decide_false,Bool.false_and])
theorem Jk (n : Int) : Go.Gar.Fn Tryz.prog 229 [.i .i64 n] (.b (isVal n)):=by
 refine A3 A8 Tryz.func229 rfl rfl (Nat.le_of_ble_eq_true rfl) ?_
 have nS:=True.intro;obtain ⟨lv,st,ns,nc⟩:=wq [0,2] [];refine wk ?_;clear nc ns st lv;repeat' (first|with_reducible constructor|(with_reducible intro hc;try simp only[A1] at hc))
 all_goals (refine ⟨_,_,rfl,rfl,?_⟩;simp_all [BQ,isVal] <;> omega)
theorem OO {a b : List Int} {k : Nat} (hka : k < a.length) (h2 : k < b.length) (hpre : a.take k = b.take k) : (a.getD k 0 = b.getD k 0) ↔ a.take (k + 1) = b.take (k + 1):=by
 rw [List.take_succ_eq_append_getElem hka,List.take_succ_eq_append_getElem h2,hpre,List.getD_eq_getElem?_getD,List.getD_eq_getElem?_getD,List.getElem?_eq_getElem hka,List.getElem?_eq_getElem h2]
 exact ⟨fun e => congrArg (fun z => List.take k b ++ [z]) e,fun e => (List.cons.inj (List.append_cancel_left e)).1⟩
theorem UK (a b : AE) (ha : a.list.length < 9223372036854775807) : Go.Gar.Fn Tryz.prog 219 [a.d,b.d] (.b (decide (a = b))):=by
 obtain ⟨k,c,s,d,ky,sl,dn,pl,pr,l,⟨ik,iv,ir,ig⟩,co⟩:=a
 obtain ⟨k',c',s',d',ky',sl',dn',pl',pr',l',⟨ik',iv',ir',ig'⟩,co'⟩:=b
 have ha : l.length < 9223372036854775807:=ha
 have hI:=Fj ⟨ik,iv,ir,ig⟩ ⟨ik',iv',ir',ig'⟩
 refine A3 A8 Tryz.func219 rfl rfl (Nat.le_of_ble_eq_true rfl) ?_
 by_cases hl : l.length = l'.length
 ·have nS:=True.intro;obtain ⟨lv,st,ns,nc⟩:=wq [0,1,2,3,4,5,12,17,30] [];have pr : AC []:=trivial;refine wd ?_;clear nc ns st lv pr;repeat' (first|with_reducible constructor|(with_reducible intro hc;try simp only[A1] at hc))
  refine Aq (fun k => k ≤ l.length ∧ l.take k = l'.take k) (fun j : Nat => ⟨[(2,.ptr 0 0 15),(3,.ptr 1 0 15),(5,.d (.i .i64 j))],[.c ((AE.mk k c s d ky sl dn pl pr l ⟨ik,iv,ir,ig⟩ co).cells.map .d),.c ((AE.mk k' c' s' d' ky' sl' dn' pl' pr' l' ⟨ik',iv',ir',ig'⟩ co').cells.map .d)],106⟩) (fun k => l.length - k) 0 ⟨Nat.zero_le _,by simp⟩ ?_ (Nat.le_refl _) ?_
  ·exact A0.ck rfl
  rintro j ⟨hk,hpre⟩
  simp only [AE.cells,List.map_cons,List.map_nil]
  by_cases hka : j < l.length
  ·have hab:=OO hka (by omega) hpre
   have nS:=True.intro;obtain ⟨lv,st,ns,nc⟩:=wq [0,1,2,3,4,5,12,17,30] [];have pr : AC []:=trivial;refine wd ?_;clear nc ns st lv pr;repeat' (first|with_reducible constructor|(with_reducible intro hc;try simp only[A1] at hc))
   ·have : l ≠ l':=fun e => by subst e;exact hc rfl
    refine ⟨_,_,rfl,rfl,?_⟩;simp [AH,A6,A5,A4,this]
   ·refine ⟨j + 1,⟨hka,hab.1 hc⟩,by omega,Nat.le_refl _,?_⟩
    simp only [AE.cells,List.map_cons,List.map_nil]
    exact A0.ck rfl
  ·have : l = l':=by
    have e : j = l.length:=by omega
    subst e
    rwa [List.take_length,hl,List.take_length] at hpre
   subst this
   have nS:=hI;obtain ⟨lv,st,ns,nc⟩:=wq [0,1,2,3,4,5,12,17,30] [];have pr : AC []:=trivial;refine wd ?_;clear nc ns st lv pr;repeat' (first|with_reducible constructor|(with_reducible intro hc;try simp only[A1] at hc))
   all_goals (clear ha hl hk hpre hka;refine ⟨_,_,rfl,rfl,?_⟩;simp_all [BQ,DW])
 ·have : l ≠ l':=fun e => hl (by rw [e])
  have nS:=True.intro;obtain ⟨lv,st,ns,nc⟩:=wq [0,1,2,3,4,5,12,17,30] [];have pr : AC []:=trivial;refine wd ?_;clear nc ns st lv pr;repeat' (first|with_reducible constructor|(with_reducible intro hc;try simp only[A1] at hc))
  refine ⟨_,_,rfl,rfl,?_⟩;simp [AH,A6,A5,A4,this]
theorem LU (a b : List Int) (ha : a.length < 9223372036854775807) : Go.Gar.Fn Tryz.prog 65 [.is a,.is b] (.b (decide (a = b))):=by
 refine A3 A8 Tryz.func65 rfl rfl (Nat.le_of_ble_eq_true rfl) ?_
 by_cases hl : a.length = b.length
 ·have nS:=True.intro;obtain ⟨lv,st,ns,nc⟩:=wq [0,1,4,5,10,12,13,14,24] [];have pr : AC []:=trivial;refine wd ?_;clear nc ns st lv pr;repeat' (first|with_reducible constructor|(with_reducible intro hc;try simp only[A1] at hc))
  refine Aq (fun k => k ≤ a.length ∧ a.take k = b.take k) (fun k : Nat => ⟨[(0,.d (.is a)),(1,.d (.is b)),(12,.d (.i .i64 a.length)),(13,.d (.i .i64 k))],[],26⟩) (fun k => a.length - k) 0 ⟨Nat.zero_le _,by simp⟩ ?_ (Nat.le_refl _) ?_
  ·exact A0.ck rfl
  rintro k ⟨hk,hpre⟩
  by_cases hka : k < a.length
  ·have hab:=OO hka (by omega) hpre
   have nS:=True.intro;obtain ⟨lv,st,ns,nc⟩:=wq [0,1,4,5,10,12,13,14,24] [];have pr : AC []:=trivial;refine wd ?_;clear nc ns st lv pr;repeat' (first|with_reducible constructor|(with_reducible intro hc;try simp only[A1] at hc))
   ·have : a ≠ b:=fun e => by subst e;exact hc rfl
    refine ⟨_,_,rfl,rfl,?_⟩;simp [AH,A6,A5,A4,this]
   ·refine ⟨k + 1,⟨hka,hab.1 hc⟩,by omega,Nat.le_refl _,?_⟩
    exact A0.ck rfl
  ·have : a = b:=by
    have e : k = a.length:=by omega
    subst e
    rwa [List.take_length,hl,List.take_length] at hpre
   have nS:=True.intro;obtain ⟨lv,st,ns,nc⟩:=wq [0,1,4,5,10,12,13,14,24] [];have pr : AC []:=trivial;refine wd ?_;clear nc ns st lv pr;repeat' (first|with_reducible constructor|(with_reducible intro hc;try simp only[A1] at hc))
   refine ⟨_,_,rfl,rfl,?_⟩;simp [AH,A6,A5,A4,this]
 ·have : a ≠ b:=fun e => hl (by rw [e])
  have nS:=True.intro;obtain ⟨lv,st,ns,nc⟩:=wq [0,1,4,5,10,12,13,14,24] [];have pr : AC []:=trivial;refine wd ?_;clear nc ns st lv pr;repeat' (first|with_reducible constructor|(with_reducible intro hc;try simp only[A1] at hc))
  refine ⟨_,_,rfl,rfl,?_⟩;simp [AH,A6,A5,A4,this]
def Po (l : List Int) (x : Int) : Int:=if x ∈ l then (l.idxOf x : Nat) else -1
theorem TY {l : List Int} {k : Nat} {x : Int} (hk : k < l.length) (hpre : x ∉ l.take k) (h : x = l.getD k 0) : x ∈ l ∧ l.idxOf x = k:=by
 rw [List.getD_eq_getElem?_getD,List.getElem?_eq_getElem hk] at h
 simp only [Option.getD_some] at h
 have hm : x ∈ l:=by rw [h];exact List.getElem_mem hk
 refine ⟨hm,?_⟩
 have e : l = l.take k ++ (l[k] :: l.drop (k + 1)):=by rw [← List.drop_eq_getElem_cons hk,List.take_append_drop]
 have hi : l.idxOf x = (l.take k ++ (l[k] :: l.drop (k + 1))).idxOf x:=by rw [← e]
 rw [hi,List.idxOf_append,if_neg hpre,← h,List.idxOf_cons_self,List.length_take]
 omega
theorem U2 {l : List Int} {k : Nat} {x : Int} (hk : k < l.length) (hpre : x ∉ l.take k) (h : ¬ x = l.getD k 0) : x ∉ l.take (k + 1):=by
 rw [List.take_succ_eq_append_getElem hk,List.mem_append]
 rw [List.getD_eq_getElem?_getD,List.getElem?_eq_getElem hk] at h
 simp at h
 rintro (h1 | h1)
 ·exact hpre h1
 ·simp at h1;exact h h1
theorem UC (l : List Int) (x : Int) (hl : l.length < 9223372036854775807) : Go.Gar.Fn Tryz.prog 74 [.is l,.i .i64 x] (.i .i64 (Po l x)):=by
 refine A3 A8 Tryz.func74 rfl rfl (Nat.le_of_ble_eq_true rfl) ?_
 have nS:=True.intro;obtain ⟨lv,st,ns,nc⟩:=wq [0,1,4,5,7,8,9,16] [];refine wk ?_;clear nc ns st lv;repeat' (first|with_reducible constructor|(with_reducible intro hc;try simp only[A1] at hc))
 refine Aq (fun k => k ≤ l.length ∧ x ∉ l.take k) (fun k : Nat => ⟨[(0,.d (.is l)),(1,.d (.i .i64 x)),(7,.d (.i .i64 l.length)),(8,.d (.i .i64 k))],[],19⟩) (fun k => l.length - k) 0 ⟨Nat.zero_le _,by simp⟩ ?_ (Nat.le_refl _) ?_
 ·exact A0.ck rfl
 rintro k ⟨hk,hpre⟩
 by_cases hkl : k < l.length
 ·have nS:=True.intro;obtain ⟨lv,st,ns,nc⟩:=wq [0,1,4,5,7,8,9,16] [];refine wk ?_;clear nc ns st lv;repeat' (first|with_reducible constructor|(with_reducible intro hc;try simp only[A1] at hc))
  ·obtain ⟨h1,h2⟩:=TY hkl hpre hc
   have e : Po l x = (k : Nat):=by unfold Po;rw [if_pos h1,h2]
   refine ⟨_,_,rfl,rfl,?_⟩;simp [AH,A6,A5,A4,e]
  ·refine ⟨k + 1,⟨hkl,U2 hkl hpre hc⟩,by omega,Nat.le_refl _,?_⟩
   exact A0.ck rfl
 ·have e : k = l.length:=by omega
  have e2 : Po l x = -1:=by unfold Po;rw [if_neg];rwa [e,List.take_length] at hpre
  have nS:=True.intro;obtain ⟨lv,st,ns,nc⟩:=wq [0,1,4,5,7,8,9,16] [];refine wk ?_;clear nc ns st lv;repeat' (first|with_reducible constructor|(with_reducible intro hc;try simp only[A1] at hc))
  refine ⟨_,_,rfl,rfl,?_⟩;simp [AH,A6,A5,A4,e2]
theorem Iv (l : List Int) (x : Int) (hl : l.length < 9223372036854775807) : Go.Gar.Fn Tryz.prog 35 [.is l,.i .i64 x] (.b (decide (x ∈ l))):=by
 have hi:=UC l x hl
 refine A3 A8 Tryz.func35 rfl rfl (Nat.le_of_ble_eq_true rfl) ?_
 have nS:=True.intro;obtain ⟨lv,st,ns,nc⟩:=wq [0,1,4] [];have c1:=@hi;refine wk ?_;clear nc ns st lv c1;repeat' (first|with_reducible constructor|(with_reducible intro hc;try simp only[A1] at hc))
 have e : decide (Po l x ≥ 0) = decide (x ∈ l):=by
  unfold Po
  by_cases h : x ∈ l <;> simp [h]
 refine ⟨_,_,rfl,rfl,?_⟩;simp [AH,A6,A5,A4,e]
def CR (b : Bool) : Int:=if b then 1 else 0
theorem Ii (c : Int) : Go.Gar.Fn Tryz.prog 246 [.i .i64 0,.i .i64 c] (.tup []):=by
 refine A3 A8 Tryz.func246 rfl rfl (Nat.le_of_ble_eq_true rfl) ?_
 have nS:=True.intro;obtain ⟨lv,st,ns,nc⟩:=wq [0,1,5] [];refine wk ?_;clear nc ns st lv;repeat' (first|with_reducible constructor|(with_reducible intro hc;try simp only[A1] at hc))
 refine ⟨_,_,rfl,rfl,?_⟩;simp [AH,A6,A5,A4]
def pF (n : Int) : List PanicEntry:=[{ v:=.iface 149 (.agg #[.int .i64 n]),recovered:=false }]
theorem Jm (e c : Int) (h : e ≠ 0) : HI Tryz.prog 246 [.d (.i .i64 e),.d (.i .i64 c)] [] (pF c) []:=by
 have f:=Be h
 refine BD A8 Tryz.func246 rfl rfl (Nat.le_of_ble_eq_true rfl) ?_
 have nS:=f;obtain ⟨lv,st,ns,nc⟩:=wq [0,1,5] [];refine wx ?_;clear nc ns st lv;repeat' (first|with_reducible constructor|(with_reducible intro hc;try simp only[A1] at hc))
 exact ⟨rfl,⟨[],[],_⟩,(A0.ck rfl),Nat.le_refl _,rfl⟩
end Wi
end Go.Proofs.YtagnjflbhjmefaaGreat
