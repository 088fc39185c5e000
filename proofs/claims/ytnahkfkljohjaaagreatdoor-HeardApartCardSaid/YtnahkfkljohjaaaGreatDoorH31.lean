/- Part 31 of the texts of this proof, put together by a program and made short.
Conditions: none; what each theorem asks stands in its own hypotheses. -/
import Derived.Test.YtnahkfkljohjaaaGreatDoorH24
import Derived.Sort.Walk0
import Derived.Ground.SlgfProg
import Derived.Lib.SliceRun
import Derived.Shelf.SlicesE.DeleteFunc
import Derived.KernelRfl
import Derived.RangeFuncIn
import Derived.OpenShut
import Derived.ProofKit
import Derived.CallsIn
import Derived.RangeFuncLeaves
import Derived.OrdersIn
import Derived.TacticsIn
import Derived.ChangeKeysEq
import Derived.Laws.AppendOwn
import Derived.Laws.OwnMore
import Derived.Laws.MakeOwn
import Derived.Laws.Rows
import Derived.Laws.Cells
import Derived.Laws.Tables
import Derived.Laws.CopyRow
import Derived.Laws.Strings
import Derived.Laws.IdiomStrings
import Derived.Laws.BytesArg
import Derived.Sort.Grow
import Derived.Laws.Cover3
import Derived.RecoverIn
import Derived.Test.YtnahkfkljohjaaaGreatDoorProg
set_option linter.unusedSimpArgs false
set_option linter.unusedVariables false
set_option linter.unnecessarySimpa false
set_option maxHeartbeats 40000000
namespace Go.Proofs.YtnahkfkljohjaaaGreatDoor
namespace Nd
open Go.Gar
open Wi (A8 B0 Ak AX B8 mC)
set_option maxRecDepth 4000
abbrev AW (l : List A8) : D:=.sl 15 (l.map Wi.A8.cells)
abbrev jC (v : View) (j : Job) (lf aq : AV) (own : Bool) : List AV:=[.d (.i .i64 v.id),.d (.is v.base),.d (.is v.list),.d (.i .i64 v.pred),.d (.i .i64 (v.f 0)),.d (.i .i64 (v.f 1)),.d (.i .i64 (v.f 2)),.d (.i .i64 (v.f 3)),.d (.i .i64 (v.f 4)),.d (.i .i64 (v.f 5)),.d (.i .i64 (v.f 6)),.d (.i .i64 (v.f 7)),.d (.i .i64 (v.f 8)),.d (.i .i64 (v.f 9)),.d (.i .i64 (v.f 10)),.d (.i .i64 (v.f 11)),.d (.i .i64 (v.f 12)),.d (.i .i64 (v.f 13)),.d (.i .i64 (v.f 14)),.d (.i .i64 (v.f 15)),.d (.i .u8 j.what),.d (.i .u8 j.phase),.d (.i .i64 j.look.key),.d (.i .i64 j.look.at_),.d (.i .i64 j.look.hops),.d (.b j.look.slow),.d (.b j.look.found),.d (.i .i64 j.look.code),.d (.s j.item.key),.d (.i .i64 j.item.value),.d (.i .i64 j.item.version),.d (.b j.item.gone),.d (.i .i64 j.owner),lf,.d (.i .i64 j.code),aq,.d (.b own)]
theorem F7 (v : View) (j : Job) (aq : AV) (own : Bool) (ha : AV.ok 1 aq = true) : B4 Tryz.prog 145 [.ptr 0 0 37] [.c (jC v j (.d (.is j.left)) aq own)] (.tup []) [.c (jC v (BG j) (.d (.is [])) aq own)]:=by
 have hk:=ha
 refine A7 AB Tryz.func145 rfl rfl (Nat.le_of_ble_eq_true rfl) ?_
 unfold jC
 refine wk [0] [] A1 A1 ?_;with_reducible repeat' first|constructor|intro hc;try simp only[A3] at hc
 exact ⟨⟨[],[.c (jC v (BG j) (.d (.is [])) aq own)],_⟩,(A2.trans' (A2.Ix 0 33 (.is []) rfl rfl rfl rfl trivial) (A2.ck rfl) (Nat.le_refl _)),Nat.le_refl _,_,_,rfl,rfl,rfl,rfl⟩
theorem NR (v : View) (j : Job) (own : Bool) (m : A8) : B4 Tryz.prog 143 [.ptr 0 0 37,.d m.d] [.c (jC v j (.d (.is j.left)) .e0 own)] (.tup []) [.c (jC v j (.d (.is j.left)) (.d (AW [m])) own)]:=by
 refine A7 AB Tryz.func143 rfl rfl (Nat.le_of_ble_eq_true rfl) ?_
 unfold jC Wi.A8.d Wi.A8.cells
 refine wd [0,1,3] [] [(2,6),(3,6),(4,6)] A1 A1 ?_;with_reducible repeat' first|constructor|intro hc;try simp only[A3] at hc
 exact ⟨⟨[],[.c (jC v j (.d (.is j.left)) (.d (AW [m])) own)],_⟩,(A2.ck rfl),Nat.le_of_ble_eq_true rfl,_,_,rfl,rfl,rfl,rfl⟩
theorem Y1 (v : View) (j : Job) (lf : List Int) (l : List A8) (own : Bool) (m : A8) (hn : l.length ≤ 1048576) : B4 Tryz.prog 143 [.ptr 0 0 37,.d m.d] [.c (jC v j (.sl 1 lf.length 1) (.sl 2 l.length 15) own),.a (.is lf),.a (AW l)] (.tup []) [.c (jC v j (.sl 1 lf.length 1) (.sl 2 (l ++ [m]).length 15) own),.a (.is lf),.a (AW (l ++ [m]))]:=by
 refine A7 AB Tryz.func143 rfl rfl (Nat.le_of_ble_eq_true rfl) ?_
 unfold jC Wi.A8.d Wi.A8.cells
 refine wd [0,1,3] [] [(2,6),(3,6),(4,6)] A1 A1 ?_;with_reducible repeat' first|constructor|intro hc;try simp only[A3] at hc
 refine ⟨⟨[],[.c (jC v j (.sl 1 lf.length 1) (.sl 2 (l ++ [m]).length 15) own),.a (.is lf),.a (AW (l ++ [m]))],_⟩,(A2.cut rfl (by repeat' (first | exact True.intro | refine And.intro (by (first | rfl | ((with_reducible_and_instances refine congrArg (fun z => some (AV.d (D.i _ z))) ?_);omega) | (refine congrArg (fun z => some (AV.d (D.i _ z))) (?_ : (_ : Int) = _);omega) | (refine congrArg some ?_;simp only [AW,List.map_append,List.map_cons,List.map_nil,Wi.A8.cells,List.length_append,List.length_cons,List.length_nil,List.length_map];done) | (refine congrArg some ?_;simp [AW,List.map_append,List.map_cons,List.map_nil,Wi.A8.cells,List.length_append,List.length_cons,List.length_nil,List.length_map];done))) ?_)) (by repeat' (first | exact True.intro | refine And.intro (Or.inr rfl) ?_ | refine And.intro (Or.inl ⟨rfl,rfl⟩) ?_ | refine And.intro (Or.inr (by simp only [AW,List.map_append,List.map_cons,List.map_nil,Wi.A8.cells,List.length_append,List.length_cons,List.length_nil,List.length_map])) ?_ | refine And.intro (Or.inr (by simp [AW,List.map_append,List.map_cons,List.map_nil,Wi.A8.cells,List.length_append,List.length_cons,List.length_nil,List.length_map])) ?_)) (by first | rfl | (simp (decide:=true) [Ae,AC.ok,AV.oks,AV.ok,hk];done)) rfl),Nat.le_of_ble_eq_true rfl,_,_,rfl,rfl,rfl,rfl⟩
theorem B4.arg {P : Program} {f : FuncId} {a x : AV} {d : D} {H : List AC} {r : AV} {H' : List AC} (h : B4 P f [a,.d d] H r H') (hx : Jl [x] [d]) : B4 P f [a,x] H r H' :=
 ⟨h.1,fun G w vs h1 h2 h3 => h.2 G w vs h1 h2 (by
  simp only [An] at h3 ⊢
  obtain ⟨v,q,e,hv,u,q2,e2,hu,e3⟩:=h3
  subst e3
  have h4 : An G [x] [u]:=by simp only [An];exact ⟨u,[],rfl,hu,rfl⟩
  have h5:=HT.2 (N3 hx h4)
  simp only [List.map_cons,List.map_nil,An] at h5
  obtain ⟨u2,q3,e4,hu2,e5⟩:=h5
  cases e4
  exact ⟨v,q,e,hv,u,[],e2,hu2,rfl⟩)⟩
abbrev mAV (k dst key : Int) (slow : Bool) (x : Item) : AV:=.ag [.d (.i .u8 k),.d (.i .i64 0),.d (.i .i64 0),.d (.i .i64 dst),.d (.i .i64 key),.d (.b slow),.d (.b false),.d (.i .i64 0),.d (.i .i64 0),.e0,.d (.s x.key),.d (.i .i64 x.value),.d (.i .i64 x.version),.d (.b x.gone),.d (.i .i64 0)]
theorem U5 (k dst key : Int) (slow : Bool) (x : Item) : Jl [mAV k dst key slow x] [Wi.A8.d ⟨k,0,0,dst,key,slow,false,0,0,[],x,0⟩]:=by
 unfold Wi.A8.d Wi.A8.cells
 repeat' (first | rfl | trivial | refine ⟨rfl,rfl,by simp [A4]⟩ | refine ⟨_,_,rfl,?_,?_⟩ | refine ⟨_,rfl,?_⟩)
abbrev EM : List Nat:=[0,1,2,3,6,7,8,20,21,28,58]
abbrev IS : List Nat:=[0,1,2,4,5,12,13,14,15,30]
theorem Te (n : Int) (l : List Int) : B4 Tryz.prog 195 [.d (.i .i64 n),.d (.is l)] [] (.fn (.func 218) [] [.ptr 1 0 1,.ptr 0 0 1]) [.c [.d (.i .i64 n)],.c [.d (.is l)]]:=by
 refine A7 AB Tryz.func195 rfl rfl (Nat.le_of_ble_eq_true rfl) ?_
 refine wk [0,1,2,3,4] [] A1 A1 ?_;with_reducible repeat' first|constructor|intro hc;try simp only[A3] at hc
 exact ⟨_,(A2.ck rfl),Nat.zero_le _,_,_,rfl,rfl,rfl,rfl⟩
def FH (l : List Int) : Nat → List Int
 | 0 => []
 | k + 1 => if l.getD k 0 ∈ l.take k then FH l k else FH l k ++ [l.getD k 0]
theorem Rt (l : List Int) : ∀ k,(FH l k).length ≤ k
 | 0 => Nat.le_refl _
 | k + 1 => by
  have:=Rt l k
  unfold FH;split
  ·omega
  ·rw [List.length_append,List.length_singleton];omega
theorem onc3 (a : Int) (l : List Int) : FH ((a :: l).take 3) ((a :: l).take 3).length = GF (a :: l):=by
 match l with
 | [] => simp [FH,GF]
 | [b] => by_cases h : b = a <;> simp [FH,GF,h]
 | b :: c :: r =>
  by_cases h : b = a <;> by_cases h2 : c = a <;> by_cases h3 : c = b <;> simp [FH,GF,h,h2,h3] <;> simp_all
abbrev Lk (id : Int) (l : List Int) : List Int:=l.filter fun p => p != id
abbrev Yc (v : View) (j : Job) (lf : List Int) (l : List A8) (own : Bool) (P : List Int) (r : Lp) : List AC:=[.c (jC v j (.sl 6 lf.length 1) (.sl 7 l.length 15) own),.c [.ptr 0 0 37],.c [.ptr 0 20 37],.gone,.c [.d (.i .i64 3)],.c [.d (.is P)],.a (.is lf),.a (AW l),.lp r]
theorem RS (v : View) (j : Job) (owner : Int) (list : List Int) (hn : list.length ≤ 1048576) : B4 Tryz.prog 144 [.ptr 0 0 37,.d (.i .i64 owner),.d (.is list)] [.c (jC v j (.d (.is j.left)) .e0 false)] (.tup []) [.c (jC v (Ev v.id j owner list).job (.d (.is (Ev v.id j owner list).job.left)) (.d (AW (Ev v.id j owner list).asks)) (Ev v.id j owner list).own)]:=by
 have c1:=Te 3 (owner :: list)
 have hO : FH ((owner :: list).take 3) ((owner :: list).take 3).length = GF (owner :: list):=onc3 owner list
 refine A7 AB Tryz.func144 rfl rfl (Nat.le_of_ble_eq_true rfl) ?_
 unfold jC
 have ow : Lv [16]:=trivial;refine wd EM [4] [] A1 A1 ?_;clear ow;with_reducible repeat' first|constructor|intro hc;try simp only[A3] at hc
 refine BN (A2.freeze 3 (x:=.is (owner :: list)) rfl) (by rw [Ca];exact Nat.le_refl _) ?_
 simp only [J9,DN,AC.Cr,AV.Cr,AV.Eu,Hk,Nat.reduceEqDiff,Nat.reduceAdd,decide_true,decide_false,A6,List.length_cons,List.length_nil,if_true,if_false,reduceCtorEq]
 have d1:=Ds.mk [] (c1);refine wd EM [] [] A1 A1 ?_;clear d1;with_reducible repeat' first|constructor|intro hc;try simp only[A3] at hc
 refine BN (A2.F9 0 33 (.is []) rfl rfl rfl rfl trivial) (by simp) ?_
 refine BN (A2.F9 0 35 (.sl 15 []) rfl rfl rfl rfl (by simp [A4])) (by simp) ?_
 generalize hP : owner :: list = P at *
 have hPl : P.length ≤ 1048577:=by rw [← hP,List.length_cons];omega
 have hJ : Ev v.id j owner list = ⟨⟨j.what,if Lk v.id (FH (P.take 3) (P.take 3).length) = [] then 5 else 3,j.look,j.item,j.owner,Lk v.id (FH (P.take 3) (P.take 3).length),j.code⟩,(Lk v.id (FH (P.take 3) (P.take 3).length)).map (CK j.item),decide (v.id ∈ FH (P.take 3) (P.take 3).length)⟩:=by
  rw [hO];unfold Ev;rw [hP]
 rw [hJ]
 clear hJ hO
 generalize hQ : P.take 3 = P3 at *
 have hP3 : P3.length ≤ 3:=by rw [← hQ];exact List.length_take_le _ _
 refine Aq (K:=fun r _ H' => H' = Yc v j (Lk v.id (FH P3 P3.length)) ((Lk v.id (FH P3 P3.length)).map (CK j.item)) (decide (v.id ∈ FH P3 P3.length)) P3 r) rfl (by first | (simp only [AL,AJ,Nat.reduceAdd,Int.reduceAdd,Int.reduceSub,Int.reduceMul,Int.reduceToNat];done) | (simp only [AL,AJ,Nat.reduceAdd,Int.reduceAdd,Int.reduceSub,Int.reduceMul,Int.reduceToNat];rfl) | rfl) (by first | (simp only [AL,AJ,Nat.reduceAdd,Int.reduceAdd,Int.reduceSub,Int.reduceMul,Int.reduceToNat];done) | (simp only [AL,AJ,Nat.reduceAdd,Int.reduceAdd,Int.reduceSub,Int.reduceMul,Int.reduceToNat];rfl) | rfl) (fun r => (by first | (simp only [AL,AJ,Nat.reduceAdd,Int.reduceAdd,Int.reduceSub,Int.reduceMul,Int.reduceToNat];done) | (simp only [AL,AJ,Nat.reduceAdd,Int.reduceAdd,Int.reduceSub,Int.reduceMul,Int.reduceToNat];rfl) | rfl)) ?_ ?_
 ·intro r hr
  have hk:=hr.ok (k:=8) rfl
  have hY1 : ∀ (p : Int) (lf : List Int) (l : List A8) (own : Bool),p = v.id → YT Tryz.prog 8 [.d (.i .i64 p)] (Yc v j lf l own P3 r) fun x K => x = .d (.b true) ∧ K = Yc v j lf l true P3 r:=by
   intro p lf l own hp
   have f1:=AA hp
   refine Aj hr rfl rfl rfl ?_
   unfold Yc jC
   refine wd EM [] [] A1 A1 ?_;with_reducible repeat' first|constructor|intro hc;try simp only[A3] at hc
   refine ⟨rfl,Bl (by first | (simp only [AL,AJ,Nat.reduceAdd,Int.reduceAdd,Int.reduceSub,Int.reduceMul,Int.reduceToNat];done) | (simp only [AL,AJ,Nat.reduceAdd,Int.reduceAdd,Int.reduceSub,Int.reduceMul,Int.reduceToNat];rfl) | rfl) ?_⟩
   refine wd EM [] [] (AD f1) A1 ?_;with_reducible repeat' first|constructor|intro hc;try simp only[A3] at hc
   exact ⟨_,A2.refl _,Nat.le_refl _,rfl,rfl,rfl⟩
  have hY2 : ∀ (p : Int) (lf : List Int) (l : List A8) (own : Bool),p ≠ v.id → lf.length ≤ 1000 → l.length ≤ 1000 → YT Tryz.prog 8 [.d (.i .i64 p)] (Yc v j lf l own P3 r) fun x K => x = .d (.b true) ∧ K = Yc v j (lf ++ [p]) (l ++ [CK j.item p]) own P3 r:=by
   intro p lf l own hp h1 h2
   have f1:=eq_false' hp
   have c2:=B4.arg (Y1 v j (lf ++ [p]) l own (CK j.item p) (by omega)) (U5 5 p 0 false j.item)
   refine Aj hr rfl rfl rfl ?_
   unfold Yc
   unfold jC at *
   refine wd EM [] [] A1 A1 ?_;with_reducible repeat' first|constructor|intro hc;try simp only[A3] at hc
   refine ⟨rfl,Bl (by first | (simp only [AL,AJ,Nat.reduceAdd,Int.reduceAdd,Int.reduceSub,Int.reduceMul,Int.reduceToNat];done) | (simp only [AL,AJ,Nat.reduceAdd,Int.reduceAdd,Int.reduceSub,Int.reduceMul,Int.reduceToNat];rfl) | rfl) ?_⟩
   have d1:=Ds.mk [0,6,7] (c2);refine wd EM [] [(0,6),(1,6),(2,6),(3,6),(4,6),(0,7)] (AD f1) A1 ?_;clear d1;with_reducible repeat' first|constructor|intro hc;try simp only[A3] at hc
   refine ⟨⟨[],[.c (jC v j (.sl 6 (lf ++ [p]).length 1) (.sl 7 (l ++ [CK j.item p]).length 15) own),.c [.ptr 0 0 37],.c [.ptr 0 20 37],.gone,.c [.d (.i .i64 3)],.c [.d (.is P3)],.a (.is (lf ++ [p])),.a (AW (l ++ [CK j.item p])),.lp r.busy],_⟩,(A2.cut rfl (by repeat' (first | exact True.intro | refine And.intro (by (first | rfl | ((with_reducible_and_instances refine congrArg (fun z => some (AV.d (D.i _ z))) ?_);omega) | (refine congrArg (fun z => some (AV.d (D.i _ z))) (?_ : (_ : Int) = _);omega) | (refine congrArg some ?_;simp only [AW,List.map_append,List.map_cons,List.map_nil,Wi.A8.cells,List.length_append,List.length_cons,List.length_nil,List.length_map];done) | (refine congrArg some ?_;simp [AW,List.map_append,List.map_cons,List.map_nil,Wi.A8.cells,List.length_append,List.length_cons,List.length_nil,List.length_map];done))) ?_)) (by repeat' (first | exact True.intro | refine And.intro (Or.inr rfl) ?_ | refine And.intro (Or.inl ⟨rfl,rfl⟩) ?_ | refine And.intro (Or.inr (by simp only [AW,List.map_append,List.map_cons,List.map_nil,Wi.A8.cells,List.length_append,List.length_cons,List.length_nil,List.length_map])) ?_ | refine And.intro (Or.inr (by simp [AW,List.map_append,List.map_cons,List.map_nil,Wi.A8.cells,List.length_append,List.length_cons,List.length_nil,List.length_map])) ?_)) (by first | rfl | (simp (decide:=true) [Ae,AC.ok,AV.oks,AV.ok,hk];done)) rfl),Nat.le_refl _,rfl,rfl,rfl⟩
  refine Ap AB Tryz.func218 rfl rfl (Nat.le_of_ble_eq_true rfl) ?_
  have e3 : (if (P.length : Int) < 3 then (P.length : Int) else 3) = ((min 3 P.length : Nat) : Int):=by split <;> omega
  have hQ' : P.take (min 3 P.length) = P3:=by
   rw [← hQ]
   rcases Nat.le_total 3 P.length with h | h
   ·rw [Nat.min_eq_left h]
   ·rw [Nat.min_eq_right h,List.take_of_length_le (Nat.le_refl _),List.take_of_length_le h]
  have hmin : min 3 P.length ≤ P.length:=Nat.min_le_right _ _
  refine wk IS [] (Ao e3 hQ') A1 ?_;with_reducible repeat' first|constructor|intro hc;try simp only[A3] at hc
  refine C6 (fun k : Nat => k ≤ P3.length) (fun k : Nat => [(14,.d (.i .i64 k))]) (fun k => [(0,.c (jC v j (.sl 6 (Lk v.id (FH P3 k)).length 1) (.sl 7 ((Lk v.id (FH P3 k)).map (CK j.item)).length 15) (decide (v.id ∈ FH P3 k)))),(6,.a (.is (Lk v.id (FH P3 k)))),(7,.a (AW ((Lk v.id (FH P3 k)).map (CK j.item))))]) (fun k => P3.length - k) 0 (Nat.zero_le _) (fun _ => rfl) (fun _ => rfl) ?_ ?_
  ·exact A2.ck rfl
  intro k hkl0
  by_cases hkl : k < P3.length
  ·obtain ⟨p,hp⟩:=AR hkl
   have gp:=Bv hp
   have hlen:=Rt P3 k
   have hfl : (Lk v.id (FH P3 k)).length ≤ 1000:=by have:=List.length_filter_le (fun p => p != v.id) (FH P3 k);show (List.filter _ _).length ≤ _;omega
   have c3:=Ey (P3.take k) p (by rw [List.length_take];omega)
   have hon : FH P3 (k + 1) = if p ∈ P3.take k then FH P3 k else FH P3 k ++ [p]:=by
    show (if P3.getD k 0 ∈ P3.take k then _ else _) = _
    rw [gp]
   by_cases hin : p ∈ P3.take k
   ·rw [if_pos hin] at hon
    rw [decide_eq_true hin] at c3
    refine wk IS [] (AD gp) (AD @c3) ?_;with_reducible repeat' first|constructor|intro hc;try simp only[A3] at hc
    refine ⟨k + 1,hkl,by omega,Nat.le_refl _,?_⟩
    dsimp only
    rw [hon]
    exact A2.ck rfl
   ·rw [if_neg hin] at hon
    rw [decide_eq_false hin] at c3
    by_cases hpv : p = v.id
    ·have h1 : Lk v.id (FH P3 (k + 1)) = Lk v.id (FH P3 k):=by rw [hon];show List.filter _ _ = _;rw [List.filter_append];simp [hpv]
     have h2 : decide (v.id ∈ FH P3 (k + 1)) = true:=by rw [hon];simp [hpv]
     have hy:=hY1 p (Lk v.id (FH P3 k)) ((Lk v.id (FH P3 k)).map (CK j.item)) (decide (v.id ∈ FH P3 k)) hpv
     have q1:=@hy;refine wk IS [] (AD gp) (AD @c3) ?_;clear q1;with_reducible repeat' first|constructor|intro hc;try simp only[A3] at hc
     refine ⟨k + 1,hkl,by omega,Nat.le_refl _,?_⟩
     dsimp only
     rw [h1,h2]
     exact A2.ck rfl
    ·have h1 : Lk v.id (FH P3 (k + 1)) = Lk v.id (FH P3 k) ++ [p]:=by rw [hon];show List.filter _ _ = _;rw [List.filter_append];simp [hpv]
     have h2 : decide (v.id ∈ FH P3 (k + 1)) = decide (v.id ∈ FH P3 k):=by rw [hon];simp [Ne.symm hpv]
     have hy:=hY2 p (Lk v.id (FH P3 k)) ((Lk v.id (FH P3 k)).map (CK j.item)) (decide (v.id ∈ FH P3 k)) hpv hfl (by rw [List.length_map];exact hfl)
     have h3 : (Lk v.id (FH P3 (k + 1))).map (CK j.item) = (Lk v.id (FH P3 k)).map (CK j.item) ++ [CK j.item p]:=by rw [h1,List.map_append];rfl
     rw [← h1,← h3] at hy
     have q1:=@hy;refine wk IS [] (AD gp) (AD @c3) ?_;clear q1;with_reducible repeat' first|constructor|intro hc;try simp only[A3] at hc
     refine ⟨k + 1,hkl,by omega,Nat.le_refl _,?_⟩
     dsimp only
     rw [h2]
     exact A2.ck rfl
  ·have e : k = P3.length:=by omega
   subst e
   refine wk IS [] A1 A1 ?_;with_reducible repeat' first|constructor|intro hc;try simp only[A3] at hc
   exact ⟨_,A2.refl _,Nat.le_refl _,_,_,rfl,rfl,rfl⟩
 ·generalize FH P3 P3.length = O at *
  generalize hL : Lk v.id O = L at *
  generalize decide (v.id ∈ O) = own at *
  rintro r hr x H' rfl
  refine .inl ⟨rfl,?_⟩
  refine wd EM [10] [] A1 A1 ?_;with_reducible repeat' first|constructor|intro hc;try simp only[A3] at hc
  unfold Yc jC
  simp only [List.set_cons_succ,List.set_cons_zero]
  refine BN (A2.freeze 6 (x:=.is L) rfl) (by rw [Ca];exact Nat.le_refl _) ?_
  simp only [J9,DN,AC.Cr,AV.Cr,AV.Eu,Hk,Nat.reduceEqDiff,Nat.reduceAdd,decide_true,decide_false,A6,List.length_cons,List.length_nil,if_true,if_false,reduceCtorEq]
  refine BN (A2.freeze 7 (x:=AW (L.map (CK j.item))) rfl) (by rw [Ca];exact Nat.le_refl _) ?_
  simp only [J9,DN,AC.Cr,AV.Cr,AV.Eu,Hk,Nat.reduceEqDiff,Nat.reduceAdd,decide_true,decide_false,A6,List.length_cons,List.length_nil,if_true,if_false,reduceCtorEq]
  have hv:=F7 v ⟨j.what,3,j.look,j.item,j.owner,L,j.code⟩ (.d (AW (L.map (CK j.item)))) own (by simp [AV.ok,A4])
  unfold jC at hv
  by_cases h0 : L = []
  ·subst h0
   have d1:=Ds.mk [0] (hv);refine wd EM [] [] A1 A1 ?_;clear d1;with_reducible repeat' first|constructor|intro hc;try simp only[A3] at hc
   exact ⟨⟨[],[.c (jC v ⟨j.what,5,j.look,j.item,j.owner,[],j.code⟩ (.d (.is [])) (.d (AW [])) own)],_⟩,(A2.ck rfl),Nat.le_of_ble_eq_true rfl,_,_,rfl,rfl,rfl,rfl⟩
  ·have hl0 : ((L.length : Int) == 0) = false:=eq_false' (by have:=List.length_pos_iff.2 h0;omega)
   rw [if_neg h0]
   refine wd EM [] [] (AD hl0) A1 ?_;with_reducible repeat' first|constructor|intro hc;try simp only[A3] at hc
   exact ⟨⟨[],[.c (jC v ⟨j.what,3,j.look,j.item,j.owner,L,j.code⟩ (.d (.is L)) (.d (AW (L.map (CK j.item)))) own)],_⟩,(A2.ck rfl),Nat.le_of_ble_eq_true rfl,_,_,rfl,rfl,rfl,rfl⟩
abbrev Lx : List (D × AV):=[(.i .u8 1,.fn (.func 166) [] [.ptr 2 0 1,.ptr 1 0 1]),(.i .u8 2,.fn (.func 168) [] [.ptr 2 0 1,.ptr 1 0 1]),(.i .u8 3,.fn (.func 169) [] [.ptr 1 0 1]),(.i .u8 4,.fn (.func 171) [] [.ptr 2 0 1,.ptr 1 0 1])]
abbrev ML : List (D × AV):=[(.i .u8 1,.fn (.func 173) [] [.ptr 2 0 1,.ptr 1 0 1]),(.i .u8 2,.fn (.func 172) [] [.ptr 2 0 1,.ptr 1 0 1]),(.i .u8 3,.fn (.func 175) [] [.ptr 1 0 1]),(.i .u8 4,.fn (.func 172) [] [.ptr 2 0 1,.ptr 1 0 1])]
abbrev Yr : List (D × AV):=[(.i .u8 1,.fn (.func 166) [] [.ptr 3 0 1,.ptr 2 0 1]),(.i .u8 2,.fn (.func 168) [] [.ptr 3 0 1,.ptr 2 0 1]),(.i .u8 3,.fn (.func 169) [] [.ptr 2 0 1]),(.i .u8 4,.fn (.func 171) [] [.ptr 3 0 1,.ptr 2 0 1])]
abbrev Yu : List (D × AV):=[(.i .u8 1,.fn (.func 173) [] [.ptr 3 0 1,.ptr 2 0 1]),(.i .u8 2,.fn (.func 172) [] [.ptr 3 0 1,.ptr 2 0 1]),(.i .u8 3,.fn (.func 175) [] [.ptr 2 0 1]),(.i .u8 4,.fn (.func 172) [] [.ptr 3 0 1,.ptr 2 0 1])]
theorem Ei (v : View) (j : Job) : B4 Tryz.prog 106 [.ptr 0 0 37] [.c (jC v j (.d (.is j.left)) .e0 false)] (.mp 3) [.c (jC v j (.d (.is j.left)) .e0 false),.c [.ptr 0 0 37],.c [.ptr 0 20 37],.m Lx]:=by
 refine A7 AB Tryz.func106 rfl rfl (Nat.le_of_ble_eq_true rfl) ?_
 refine wk [0,1,2,3] [] A1 A1 ?_;with_reducible repeat' first|constructor|intro hc;try simp only[A3] at hc
 exact ⟨_,(A2.ck rfl),Nat.le_of_ble_eq_true rfl,_,_,rfl,rfl,rfl,rfl⟩
theorem Eg (v : View) (j : Job) : B4 Tryz.prog 109 [.ptr 0 0 37] [.c (jC v j (.d (.is j.left)) .e0 false)] (.mp 3) [.c (jC v j (.d (.is j.left)) .e0 false),.c [.ptr 0 0 37],.c [.ptr 0 20 37],.m ML]:=by
 refine A7 AB Tryz.func109 rfl rfl (Nat.le_of_ble_eq_true rfl) ?_
 refine wk [0,1,2,3,4] [] A1 A1 ?_;with_reducible repeat' first|constructor|intro hc;try simp only[A3] at hc
 exact ⟨_,(A2.ck rfl),Nat.le_of_ble_eq_true rfl,_,_,rfl,rfl,rfl,rfl⟩
theorem PE (v : View) (j : Job) : B4 Tryz.prog 106 [.ptr 0 0 37] [.c (jC v j (.sl 1 j.left.length 1) .e0 false),.a (.is j.left)] (.mp 4) [.c (jC v j (.sl 1 j.left.length 1) .e0 false),.a (.is j.left),.c [.ptr 0 0 37],.c [.ptr 0 20 37],.m Yr]:=by
 refine A7 AB Tryz.func106 rfl rfl (Nat.le_of_ble_eq_true rfl) ?_
 refine wk [0,1,2,3] [] A1 A1 ?_;with_reducible repeat' first|constructor|intro hc;try simp only[A3] at hc
 exact ⟨_,(A2.ck rfl),Nat.le_of_ble_eq_true rfl,_,_,rfl,rfl,rfl,rfl⟩
theorem PC (v : View) (j : Job) : B4 Tryz.prog 109 [.ptr 0 0 37] [.c (jC v j (.sl 1 j.left.length 1) .e0 false),.a (.is j.left)] (.mp 4) [.c (jC v j (.sl 1 j.left.length 1) .e0 false),.a (.is j.left),.c [.ptr 0 0 37],.c [.ptr 0 20 37],.m Yu]:=by
 refine A7 AB Tryz.func109 rfl rfl (Nat.le_of_ble_eq_true rfl) ?_
 refine wk [0,1,2,3,4] [] A1 A1 ?_;with_reducible repeat' first|constructor|intro hc;try simp only[A3] at hc
 exact ⟨_,(A2.ck rfl),Nat.le_of_ble_eq_true rfl,_,_,rfl,rfl,rfl,rfl⟩
end Nd
end Go.Proofs.YtnahkfkljohjaaaGreatDoor
