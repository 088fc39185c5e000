/- Part 26 of a proof, put together by a program. Conditions: none beyond those that a theorem states. -/
import Derived.Test.YtkljbfejbakooaaGreatDoorN25
set_option linter.unusedSimpArgs false
set_option linter.unusedVariables false
set_option linter.unnecessarySimpa false
set_option maxHeartbeats 40000000
namespace Go.Proofs.YtkljbfejbakooaaGreatDoor
namespace Nd
open Go.Gar
open Wi (A8 B7 AU AC B2)
set_option maxRecDepth 4000
abbrev Qu : List Nat:=[0,1,4,5,6,11,12,13,16,19]
abbrev GY : List Nat:=[0,1,3,4,5,6,7,8,9,15,28]
def ME (a b : List UInt8) : Int:=if a < b then -1 else if b < a then 1 else 0
theorem Oq (s : List UInt8) : Go.Gar.Fn Tryz.prog 306 [.s s] (.b false):=by
 have e : (s != s) = false:=by simp
 refine zF A6 Tryz.func306 ?_;refine wk [0,2] [] (AF e) A0 ?_;exact zE
theorem R4 (a b : List UInt8) : Go.Gar.Fn Tryz.prog 257 [.s a,.s b] (.i .i64 (ME a b)):=by
 have c1:=Oq a;have c2:=Oq b;have hT : ME a b = if a < b then -1 else if b < a then 1 else 0:=rfl
 refine zF A6 Tryz.func257 ?_
 by_cases h1 : a < b
 ·have f1 : Op.bytesLess a b = true:=by rw [bytesLess_eq];exact decide_eq_true h1
  rw [hT,if_pos h1];refine wk Qu [] (AF f1) (Aj @c1 @c2) ?_;exact zE
 ·have f1 : Op.bytesLess a b = false:=by rw [bytesLess_eq];exact decide_eq_false h1
  by_cases h2 : b < a
  ·have f2 : (a == b) = false:=by
    rw [beq_eq_false_iff_ne];rintro rfl;exact List.lt_irrefl _ h2
   rw [hT,if_neg h1,if_pos h2];refine wk Qu [] (Aj f1 f2) (Aj @c1 @c2) ?_;exact zE
  ·have f2 : (a == b) = true:=by
    rw [beq_iff_eq];rcases U0 a b with h | h | h
    ·exact absurd h h1
    ·exact h
    ·exact absurd h h2
   rw [hT,if_neg h1,if_neg h2];refine wk Qu [] (Aj f1 f2) (Aj @c1 @c2) ?_;exact zE
theorem QY (x : Item) (key : List UInt8) : Ao Tryz.prog 256 [.d x.d,.ptr 0 0 1] [.c [.d (.s key)]] (.d (.i .i64 (ME x.key key))) [.c [.d (.s key)]]:=by
 have c1:=R4 x.key key;refine zD A6 Tryz.func256 ?_;generalize ME x.key key = q at *;unfold Item.d Item.cells;refine wk [0,1,2,3] [] A0 (AF @c1) ?_;exact ⟨⟨[(3,.d (.i .i64 q))],[.c [.d (.s key)]],_⟩,(A3.ck rfl),Nat.le_of_ble_eq_true rfl,_,_,rfl,rfl,rfl,rfl⟩
variable {l : List Item}
theorem UM {key : List UInt8} (h : kS l) {k : Nat} {x : Item} (hx : l[k]? = some x) : x.key < key ↔ k < BY l key:=by
 obtain ⟨h1,h2⟩:=J8 key l h;constructor
 ·intro hlt;rcases Nat.lt_or_ge k (BY l key) with h | h
  ·exact h
  ·refine absurd hlt (h2 x (List.mem_iff_getElem?.2 ⟨k - BY l key,?_⟩));rw [List.getElem?_drop,show BY l key + (k - BY l key) = k by omega];exact hx
 ·intro hlt;refine h1 x (List.mem_iff_getElem?.2 ⟨k,?_⟩);rw [List.getElem?_take,if_pos hlt];exact hx
def Vp (l : List Item) (key : List UInt8) (x : Nat × Nat) : St:=⟨[(0,.d (AW l)),(6,.fn (.func 256) [] [.ptr 0 0 1]),(7,.d (.i .i64 x.1)),(8,.d (.i .i64 x.2))],[.c [.d (.s key)]],46⟩
theorem ax (l : List Item) (key : List UInt8) (h : kS l) (hn : l.length ≤ 1048576) : Go.Gar.Fn Tryz.prog 176 [AW l,.s key] (.tup [.i .i64 (BY l key),.b (hasK l key)]):=by
 have hle:=QZ l key;refine zF A6 Tryz.func176 ?_;refine wk GY [] A0 A0 ?_;refine RF 0 _ (fun x : Nat × Nat => x.1 ≤ BY l key ∧ BY l key ≤ x.2 ∧ x.2 ≤ l.length) (Vp l key) (fun x => x.2 - x.1) (l.length + 1) 0 0 rfl ?_ ?_
 ·by_cases h0 : 0 < l.length
  ·have f1 : decide ((0 : Int) < (l.length : Int)) = true:=decide_eq_true (by omega);have e1 : ((l.length : Int) - 0).tdiv 2 = ((l.length / 2 : Nat) : Int):=by rw [Int.tdiv_eq_ediv_of_nonneg (by omega)];omega
   have e2 : (0 : Int) + ((l.length / 2 : Nat) : Int) = ((l.length / 2 : Nat) : Int):=by omega
   generalize hmm : l.length / 2 = m at *;obtain ⟨x,hx⟩:=Aa (xs:=l) (k:=m) (by omega);have hlt:=UM (key:=key) h hx;have c1:=QY x key;unfold Item.d Item.cells at c1
   by_cases hk : x.key < key
   ·have hc : ME x.key key = -1:=if_pos hk;rw [hc] at c1;have hk':=hlt.1 hk;have ix1:=hx;have d1:=Ds.mk [0] (c1);refine wk GY [] (Dl f1 e1 e2) A0 ?_;clear d1 ix1;refine ⟨(m + 1,l.length),⟨hk',hle,Nat.le_refl _⟩,(show l.length - (m + 1) < l.length + 1 by omega),Nat.le_refl _,?_⟩;unfold Vp;exact A3.ck rfl
   ·have hc : decide (ME x.key key < 0) = false:=decide_eq_false (by unfold ME;rw [if_neg hk];split <;> omega);have hk' : ¬ m < BY l key:=fun hh => hk (hlt.2 hh)
    have ix1:=hx;have d1:=Ds.mk [0] (c1);refine wk GY [] (M9 f1 e1 e2 hc) A0 ?_;clear d1 ix1;refine ⟨(0,m),⟨Nat.zero_le _,Nat.le_of_not_lt hk',(show m ≤ l.length by omega)⟩,(show m - 0 < l.length + 1 by omega),Nat.le_refl _,?_⟩;unfold Vp;exact A3.ck rfl
  ·have e : l = []:=List.length_eq_zero_iff.1 (by omega);subst e;refine wk GY [] A0 A0 ?_;refine ⟨_,_,rfl,rfl,?_⟩;simp [AR,AB,A7,A4,BY,hasK]
 rintro ⟨a,b⟩ ⟨h1,h2,h3⟩;dsimp only at h1 h2 h3;unfold Vp
 by_cases hab : a < b
 ·have f1 : decide ((a : Int) < (b : Int)) = true:=decide_eq_true (by omega);have e1 : ((b : Int) - (a : Int)).tdiv 2 = (((b - a) / 2 : Nat) : Int):=by rw [Int.tdiv_eq_ediv_of_nonneg (by omega)];omega
  have e2 : (a : Int) + (((b - a) / 2 : Nat) : Int) = ((a + (b - a) / 2 : Nat) : Int):=by omega
  have hm : a + (b - a) / 2 < b:=by omega
  have hm2 : a ≤ a + (b - a) / 2:=by omega
  generalize hmm : a + (b - a) / 2 = m at *;obtain ⟨x,hx⟩:=Aa (xs:=l) (k:=m) (by omega);have hlt:=UM (key:=key) h hx;have c1:=QY x key;unfold Item.d Item.cells at c1
  by_cases hk : x.key < key
  ·have hc : ME x.key key = -1:=if_pos hk;rw [hc] at c1;have hk':=hlt.1 hk;have ix1:=hx;have d1:=Ds.mk [0] (c1);refine wk GY [] (Dl f1 e1 e2) A0 ?_;clear d1 ix1;refine ⟨(m + 1,b),⟨hk',h2,h3⟩,(show b - (m + 1) < b - a by omega),Nat.le_refl _,?_⟩;exact A3.ck rfl
  ·have hc : decide (ME x.key key < 0) = false:=decide_eq_false (by unfold ME;rw [if_neg hk];split <;> omega);have hk' : ¬ m < BY l key:=fun hh => hk (hlt.2 hh)
   have ix1:=hx;have d1:=Ds.mk [0] (c1);refine wk GY [] (M9 f1 e1 e2 hc) A0 ?_;clear d1 ix1;refine ⟨(a,m),⟨h1,Nat.le_of_not_lt hk',by omega⟩,(show m - a < b - a by omega),Nat.le_refl _,?_⟩;exact A3.ck rfl
 ·have f1 : decide ((a : Int) < (b : Int)) = false:=decide_eq_false (by omega);have ha : a = BY l key:=by omega
  by_cases hl : a < l.length
  ·have f2 : decide ((a : Int) < (l.length : Int)) = true:=decide_eq_true (by omega);obtain ⟨x,hx⟩:=Aa (xs:=l) (k:=a) hl;have c1:=QY x key;unfold Item.d Item.cells at c1;have gx : l.getD a AE = x:=getD_at hx;have hlt : ¬ x.key < key:=fun hh => by have:=(UM (key:=key) h hx).1 hh;omega
   have hT : hasK l key = (ME x.key key == 0):=by
    unfold hasK;rw [← ha,gx,decide_eq_true hl,Bool.true_and,DK];unfold ME;rw [if_neg hlt]
    by_cases e : x.key = key
    ·rw [if_neg (by rw [e];exact List.lt_irrefl _)];simp [e]
    ·rcases U0 x.key key with h | h | h
     ·exact absurd h hlt
     ·exact absurd h e
     ·rw [if_pos h];simp [e]
   rw [hT,← ha];have ix1:=hx;have d1:=Ds.mk [0] (c1);refine wk GY [] (Aj f1 f2) A0 ?_;clear d1 ix1;exact zE
  ·have f2 : decide ((a : Int) < (l.length : Int)) = false:=decide_eq_false (by omega)
   have hT : hasK l key = false:=by
    unfold hasK;rw [← ha,decide_eq_false hl];rfl
   rw [hT,← ha];refine wk GY [] (Aj f1 f2) A0 ?_;exact zE
theorem dZ (l : List Item) (key : List UInt8) (hn : l.length ≤ 1048576) : Go.Gar.Fn Tryz.prog 193 [AW l,.s key] (.tup [(Fu l key).1.d,.i .i64 (Fu l key).2]):=by
 have c1:=QG l (by omega);refine zF A6 Tryz.func193 ?_;have hT : Fu l key = if Bp l && hasK l key then (l.getD (BY l key) AE,0) else (AE,201):=rfl
 cases h : Bp l with
 | false =>
  rw [h] at c1 hT;rw [hT];refine wk [0,1,4,5,6,7,10,19] [] A0 (AF @c1) ?_;refine ⟨_,_,rfl,rfl,?_⟩;simp [AR,AB,A7,A4,Item.d,Item.cells,AE]
 | true =>
  have c2:=ax l key (DN.1 h).2.2 hn;rw [h] at c1 hT
  cases hh : hasK l key with
  | false =>
   rw [hh] at c2 hT;rw [hT];refine wk [0,1,4,5,6,7,10,19] [] A0 (Aj @c1 @c2) ?_;refine ⟨_,_,rfl,rfl,?_⟩;simp [AR,AB,A7,A4,Item.d,Item.cells,AE]
  | true =>
   obtain ⟨x,hx,hxk,hxg⟩:=HT hh;rw [hh] at c2 hT;rw [hxg] at hT;rw [hT];generalize BY l key = m at *;have ix1:=hx;refine wk [0,1,4,5,6,7,10,19] [] A0 (Aj @c1 @c2) ?_;clear ix1;refine ⟨_,_,rfl,rfl,?_⟩;simp [AR,AB,A7,A4,Item.d,Item.cells]
abbrev L3 : List Nat:=[0,2,3,5,8,13,14,15]
abbrev Qx : List Nat:=[0,1,3,4,5,6,7,8,16]
abbrev JI : List Nat:=[0,1,3,4,5,6,7,8,9,17,27,35,43]
theorem SK (l : List Item) (h0 : 0 < l.length) (hn : l.length ≤ 1048576) : Ao Tryz.prog 87 [.d (AW l)] [] (.sl 0 l.length 4) [.a (AW l)]:=by
 have c1:=SL l;have f1:=eq_false' (show (l.length : Int) ≠ 0 by omega);refine zD A6 Tryz.func87 ?_;have k1 : No 11:=trivial;have k2 : Dd ((AW [])):=trivial;have d1:=Ds.mk [] (c1);refine wk L3 [] (AF f1) A0 ?_;clear d1 k2 k1;refine zG (K:=fun r _ H' => H' = [.a (AW l),.c [.sl 0 l.length 4],.c [.d (AW l)],.lp r]) ?_ ?_
 ·intro r hr;have hk:=hr.ok (k:=3) rfl
  have hY : ∀ (k : Nat) (x : Item) (o : List Item),o.length ≤ 1048576 → YT Tryz.prog 3 [.d (.i .i64 k),.d (.agg [.s x.key,.i .i64 x.value,.i .i64 x.version,.b x.gone])] [.a (AW o),.c [.sl 0 o.length 4],.c [.d (AW l)],.lp r,.c [.d (.s x.key),.d (.i .i64 x.value),.d (.i .i64 x.version),.d (.b x.gone)]] fun v K => v = .d (.b true) ∧ K = [.a (AW (o ++ [x])),.c [.sl 0 (o ++ [x]).length 4],.c [.d (AW l)],.lp r,.c [.d (.s x.key),.d (.i .i64 x.value),.d (.i .i64 x.version),.d (.b x.gone)]]:=by
   intro k x o ho;refine Az hr rfl rfl rfl ?_;refine wk L3 [] A0 A0 ?_;refine zR ?_;refine wk L3 [] A0 A0 ?_;refine ⟨⟨[],[.a (AW (o ++ [x])),.c [.sl 0 (o ++ [x]).length 4],.c [.d (AW l)],.lp r.busy,.c [.d (.s x.key),.d (.i .i64 x.value),.d (.i .i64 x.version),.d (.b x.gone)]],_⟩,(have nC:=And.intro @AW.eq_1 @Item.cells.eq_1;A3.cn rfl),Nat.le_refl _,rfl,rfl,rfl⟩
  refine zT A6 Tryz.func235 ?_;refine wk Qx [] A0 A0 ?_;refine Cj (fun j : Nat => j ≤ l.length) (fun j : Nat => [(7,.d (.i .i64 j))]) (fun j => [(0,.a (AW (l.take j))),(1,.c [.sl 0 (l.take j).length 4])]) (fun j => l.length - j) 0 (Nat.zero_le _) (fun _ => rfl) (fun _ => rfl) ?_ ?_
  ·exact A3.ck rfl
  intro j hj
  by_cases hjl : j < l.length
  ·obtain ⟨x,hx⟩:=Aa hjl;have hy:=hY j x (l.take j) (by rw [List.length_take];omega);have hn:=AP hx;rw [← hn] at hy;have ix1:=hx;have q1:=@hy;refine wk Qx [] A0 A0 ?_;clear q1 ix1;with_reducible repeat' first|constructor|intro hc;try simp only[AD] at hc
   refine ⟨j + 1,hjl,by omega,Nat.le_refl _,?_⟩;exact A3.ck rfl
  ·have e : j = l.length:=by omega
   subst e;rw [List.take_length];refine wk Qx [] A0 A0 ?_;with_reducible repeat' first|constructor|intro hc;try simp only[AD] at hc
   exact ⟨_,A3.refl _,Nat.le_refl _,_,_,rfl,rfl,rfl⟩
 ·rintro r hr x H' rfl;refine .inl ⟨rfl,?_⟩;refine wk L3 [] A0 A0 ?_;exact ⟨⟨[(2,.sl 0 l.length 4)],[.a (AW l)],_⟩,(A3.ck rfl),Nat.zero_le _,_,_,rfl,rfl,rfl,rfl⟩
theorem VY (l : List Item) (hn : l.length ≤ 1048576) : Go.Gar.Fn Tryz.prog 87 [AW l] (AW l):=by
 by_cases h0 : 0 < l.length
 ·refine E3 (ds:=[AW l]) (SK l h0 hn) ?_;simp [Jk,AB]
 ·have e : l = []:=List.length_eq_zero_iff.1 (by omega);subst e;refine zF A6 Tryz.func87 ?_;refine wk L3 [] A0 A0 ?_;exact zE
theorem fC : ∀ (l : List Item) (m : Nat),((l.map Item.cells).flatten).drop (m * 4) = ((l.drop m).map Item.cells).flatten
 | [],m => by simp
 | a :: l,0 => rfl
 | a :: l,m + 1 => by
  rw [List.map_cons,List.flatten_cons,Nat.add_mul,Nat.one_mul,Nat.add_comm,← List.drop_drop];show List.drop (m * 4) (List.drop 4 ([_,_,_,_] ++ _)) = _;exact fC l m
theorem bZ {m : Nat} {y : Item} (hy : l[m]? = some y) : ((slc (AW l)).drop (m * 4 + 0)).take 4 = y.cells:=by
 show (((l.map Item.cells).flatten).drop (m * 4 + 0)).take 4 = _;have h:=(List.getElem?_eq_some_iff.1 hy).1;rw [Nat.add_zero,fC,List.drop_eq_getElem_cons h,List.map_cons,List.flatten_cons];have : l[m] = y:=(List.getElem?_eq_some_iff.1 hy).2;rw [this];rfl
theorem O5 (x : Item) : ∀ (m : Nat) (l : List Item),m < l.length → setRows 0 x.cells m (l.map Item.cells) = (l.set m x).map Item.cells
 | _,[],h => by simp at h
 | 0,a :: l,_ => rfl
 | m + 1,a :: l,h => by
  show a.cells :: setRows 0 x.cells m (l.map Item.cells) = _;rw [O5 x m l (by simpa using h)];rfl
theorem db (l : List Item) (x : Item) (hn : l.length ≤ 1048576) : Go.Gar.Fn Tryz.prog 191 [AW l,x.d] (.tup [AW (Hc l x).1,.i .i64 (Hc l x).2]):=by
 have c1:=QG l (by omega);have c2:=Wi.Iq x;have c3:=VY l hn
 have hT : Hc l x = if Bp l && AU x then
  (if hasK l x.key then (if Jv x (l.getD (BY l x.key) AE) then l.set (BY l x.key) x else l,0)
   else if l.length ≥ 24 then (l,200) else (l.take (BY l x.key) ++ x :: l.drop (BY l x.key),0)) else (l,2):=rfl
 refine zF A6 Tryz.func191 ?_;generalize AU x = b2 at *
 cases h : Bp l with
 | false =>
  rw [h] at c1 hT;rw [hT];refine wd JI [] [] A0 (Aj @c1 @c3) ?_;exact zE
 | true =>
 have c4:=ax l x.key (DN.1 h).2.2 hn;rw [h] at c1 hT
 cases b2 with
 | false =>
  rw [hT];refine wd JI [] [] A0 (Dl @c1 @c2 @c3) ?_;exact zE
 | true =>
 rw [Bool.true_and,if_pos rfl] at hT;have hle:=QZ l x.key
 cases hh : hasK l x.key with
 | true =>
  obtain ⟨y,hy,hyk,hyg⟩:=HT hh;rw [hh,if_pos rfl,hyg] at hT;rw [hh] at c4;have hlt:=(List.getElem?_eq_some_iff.1 hy).1;have c5:=SK l (by omega) hn;have c6:=YC x y;have hsl:=bZ hy;have hst : setRows 0 [.s x.key,.i .i64 x.value,.i .i64 x.version,.b x.gone] (BY l x.key) (l.map Item.cells) = (l.set (BY l x.key) x).map Item.cells:=O5 x _ l hlt;rw [hT];unfold Jv;generalize BY l x.key = m at *;unfold Item.d at c6;rw [← hsl] at c6;unfold Item.cells at c6
  cases hnw : decide (HM x y > 0) with
  | false =>
   rw [hnw] at c6;have d1:=Ds.mk [] (c5);refine wd JI [] [] A0 (M9 @c1 @c2 @c4 @c6) ?_;clear d1;exact zE
  | true =>
   rw [hnw] at c6;have d1:=Ds.mk [] (c5);refine wd JI [7] [] A0 (M9 @c1 @c2 @c4 @c6) ?_;clear d1;have nS:=hst
   repeat' (first | ((with_reducible refine sg ?_);first | with_reducible rfl | ((with_reducible refine Db ?_);first | kernel_rfl | rfl | (simp [Bw,CV,nS];done)) | with_reducible refine Cr ?_ ?_ | with_reducible exact Nat.beq_refl _ | with_reducible exact AT _ | ((with_reducible refine decide_eq_true ?_);first | omega | (simp only [Bm,nS];omega)) | decide | (simp [Bm,slc,AX,D.one,B1,AV.one,nS];done) | (simp [Bm,nS];omega)) | ((with_reducible refine ZZ ?_);first | (refine E5 rfl ?_;refine YZ A6 rfl rfl rfl rfl ?_) | refine Xq A6 rfl rfl rfl rfl ?_ ?_ | refine Xn [0,1,3,4,5,6,7,8,9,17,27,35,43] rfl ?_ | refine Xa A6 rfl rfl rfl rfl rfl ?_ ?_ | refine Xw A6 rfl rfl rfl rfl ?_ ?_ | refine Xs rfl rfl rfl ?_ | (refine Yb rfl rfl (fun hc => ?_) (fun hc => ?_) <;> (fail_if_success (with_reducible first | exact tF hc | exact fT hc)) <;> (try simp only [AD] at hc) <;> (try (exfalso;omega)))) | ((with_reducible refine gWd ?_);first | (refine Pb rfl ?_;refine Ymv A6 rfl rfl (fun _ => rfl) rfl rfl ?_) | refine Yp A6 rfl rfl (fun _ => rfl) rfl rfl ?_ ?_ | refine Yq rfl rfl rfl rfl rfl ?_ ?_ | refine Ys rfl rfl rfl rfl ?_ | refine Ya A6 rfl rfl rfl rfl rfl rfl ?_ ?_ | refine Yw A6 rfl rfl rfl rfl rfl ?_ ?_ | refine Yn [0,1,3,4,5,6,7,8,9,17,27,35,43] [] mixed A6 (by kernel_rfl) True.intro rfl ?_ | (refine Yc rfl rfl (fun hc => ?_) (fun hc => ?_) <;> (fail_if_success (with_reducible first | exact tF hc | exact fT hc)) <;> (try simp only [AD] at hc) <;> (try (exfalso;omega)))) | refine Fi ?_ | refine Df ?_ | refine ef T.get ?_ | (refine Xsc A6 rfl rfl rfl rfl ?_ ?_) | refine Dr ?_ | refine Fh ?_ | refine Ci ?_ | refine Dq ?_ | refine C1 rfl ?_ | refine C0 rfl ?_ | (refine Fg rfl (fun hc => ?_) (fun hc => ?_) <;> (try simp only [AD] at hc) <;> (try (exfalso;omega))))
   refine ⟨_,_,rfl,rfl,?_⟩;simp [AR,AB,A7,A4,hst]
 | false =>
 rw [hh,if_neg (by decide)] at hT;rw [hh] at c4
 by_cases h24 : l.length ≥ 24
 ·have f1 : decide ((l.length : Int) ≥ 24) = true:=decide_eq_true (by omega);rw [if_pos h24] at hT;rw [hT];refine wd JI [] [] (AF f1) (M9 @c1 @c2 @c3 @c4) ?_;exact zE
 ·have f1 : decide ((l.length : Int) ≥ 24) = false:=decide_eq_false (by omega);rw [if_neg h24] at hT;rw [hT];generalize BY l x.key = m at *;have k1 : No 49:=trivial;have k2 : Dd ((AW [])):=trivial;refine wd JI [] [] (AF f1) (M9 @c1 @c2 @c3 @c4) ?_;clear k2 k1;refine ⟨_,_,rfl,rfl,?_⟩;simp [AR,AB,A7,A4,List.map_take,List.map_drop,Item.cells]
end Nd
end Go.Proofs.YtkljbfejbakooaaGreatDoor
namespace Go.Proofs.YtkljbfejbakooaaGreatDoor
namespace Nd
open Go.Gar
open Wi (A8 B7 AU AC B2 mC)
set_option maxRecDepth 4000
theorem VB (c : Calls) (hl : ∀ x ∈ c.op,C3 x.msg) (hn : c.op.length ≤ 1048576) : Go.Gar.Fn Tryz.prog 84 [c.d] c.d:=by
 obtain ⟨id,many,l⟩:=c;have c1:=RQ id many l hl hn;refine zF A6 Tryz.func84 ?_;unfold Calls.d Calls.cells at *;have d1:=Ds.mk [] (c1);refine wk [0,1,2] [] A0 A0 ?_;clear d1;exact zE
theorem Z1 (id many : Int) (l : List Call) (hl : ∀ x ∈ l,C3 x.msg) (hn : l.length ≤ 1048576) : Ao Tryz.prog 84 [.d (Calls.d ⟨id,many,l⟩)] [] (.ag [.d (.i .i64 id),.d (.i .i64 many),.sl 5 l.length 20]) [.gone,.c [.d (.i .i64 id),.d (.i .i64 many),.sl 5 l.length 20],.gone,.gone,.gone,.a (BW l)]:=by
 have c1:=RQ id many l hl hn;refine zD A6 Tryz.func84 ?_;unfold Calls.d Calls.cells at *;have d1:=Ds.mk [] (c1);refine wk [0,1,2] [] A0 A0 ?_;clear d1;exact ⟨⟨[(2,.ptr 1 0 3)],[.gone,.c [.d (.i .i64 id),.d (.i .i64 many),.sl 5 l.length 20],.gone,.gone,.gone,.a (BW l)],_⟩,(A3.ck rfl),Nat.zero_le _,_,_,rfl,rfl,rfl,rfl⟩
theorem BQ (n : Node) (h : Ip n) : Go.Gar.Fn Tryz.prog 40 [n.d] n.d:=by
 have c1:=Qs n.view (by have:=h.vb;omega) (by have:=h.vl;omega);have c2:=VB n.calls h.cl h.cn;have c3:=UV n.seen h.sl h.sn;have c4:=QF n.finger h.fl;have c5:=QF n.mirror h.ml;have c6:=QF n.client h.tl;have c7:=VY n.keep h.kn;refine zF A6 Tryz.func40 ?_;unfold View.d View.cells at c1;unfold Calls.d Calls.cells at c2;unfold Job.d Job.cells at c4 c5 c6;refine wk [0,1,2] [] A0 (zq7 @c1 @c2 @c3 @c4 @c5 @c6 @c7) ?_;refine ⟨_,_,rfl,rfl,?_⟩;simp [AR,AB,A7,A4,Node.d,Node.cells,View.cells,Calls.cells,Job.cells]
end Nd
end Go.Proofs.YtkljbfejbakooaaGreatDoor
