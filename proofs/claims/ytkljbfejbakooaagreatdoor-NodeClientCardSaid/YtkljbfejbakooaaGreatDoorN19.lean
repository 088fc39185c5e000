/- Part 19 of a proof, put together by a program. Conditions: none beyond those that a theorem states. -/
import Derived.Test.YtkljbfejbakooaaGreatDoorN17
import Derived.Test.YtkljbfejbakooaaGreatDoorN18
set_option linter.unusedSimpArgs false
set_option linter.unusedVariables false
set_option linter.unnecessarySimpa false
set_option maxHeartbeats 40000000
namespace Go.Proofs.YtkljbfejbakooaaGreatDoor
open Go.Gar
set_option maxRecDepth 4000
abbrev Fb : List Nat:=[0,1,2,3,5,7,8,9,10,31]
abbrev HG : List Nat:=[0,1,4,5,6,7,10,18,30]
def Gg (id best b : Int) : Int:=if b ≠ id ∧ (best < 0 ∨ Af id b < Af id best) then b else best
def Gn (id : Int) (l : List Int) : Int:=l.foldl (Gg id) (-1)
def LY (key out b : Int) : Int:=if Af key b < Af key out then Bj b else out
def ao (key : Int) : List Int → Int
 | [] => 0
 | a :: l => (a :: l).foldl (LY key) (Bj a)
variable {l : List Int}
theorem NQ {α : Type} (g : α → Int → α) (s : α) {k : Nat} {p : Int} (hp : l[k]? = some p) : (l.take (k + 1)).foldl g s = g ((l.take k).foldl g s) p:=by
 rw [AP hp,List.foldl_append];rfl
theorem WF (v : View) (hb : v.base.length ≤ 100000) : Go.Gar.Fn Tryz.prog 139 [v.d] (.i .i64 (Gn v.id v.base)):=by
 obtain ⟨id,base,list,pred,f⟩:=v;replace hb : base.length ≤ 100000:=hb;show Go.Gar.Fn _ _ _ (.i .i64 (Gn id base));refine zF A6 Tryz.func139 ?_;refine wd Fb [] [] A0 A0 ?_;refine Ac (fun k => k ≤ base.length) (fun k : Nat => ⟨[(1,.ptr 0 0 20),(3,.d (.i .i64 ((base.take k).foldl (Gg id) (-1)))),(7,.d (.is base)),(8,.d (.i .i64 base.length)),(9,.d (.i .i64 k))],[.c (vC id base list pred f)],35⟩) (fun k => base.length - k) 0 (Nat.zero_le _) ?_ (Nat.le_refl _) ?_
 ·exact A3.ck rfl
 intro k hk;unfold vC
 by_cases hkl : k < base.length
 ·obtain ⟨p,hp⟩:=Aa hkl;have gp:=Cm hp;have hs:=NQ (Gg id) (-1) hp;generalize hB : (base.take k).foldl (Gg id) (-1) = best at *;have c1:=I4 id p;have c2:=I4 id best
  by_cases h1 : p = id
  ·have f1:=CI h1;have hs' : (base.take (k + 1)).foldl (Gg id) (-1) = best:=by rw [hs];simp [Gg,h1]
   refine wd Fb [] [] (Aj gp f1) (Aj @c1 @c2) ?_;with_reducible repeat' first|constructor|intro hc;try simp only[AD] at hc
   refine ⟨k + 1,hkl,by omega,Nat.le_refl _,?_⟩;exact (have nC:=hs';A3.cn rfl)
  have f1:=CJ h1
  by_cases h2 : best < 0
  ·have f2 : decide (best < 0) = true:=decide_eq_true h2;have hs' : (base.take (k + 1)).foldl (Gg id) (-1) = p:=by rw [hs];simp [Gg,h1,h2]
   refine wd Fb [] [] (Dl gp f1 f2) (Aj @c1 @c2) ?_;with_reducible repeat' first|constructor|intro hc;try simp only[AD] at hc
   refine ⟨k + 1,hkl,by omega,Nat.le_refl _,?_⟩;exact (have nC:=hs';A3.cn rfl)
  have f2 : decide (best < 0) = false:=decide_eq_false h2
  by_cases h3 : Af id p < Af id best
  ·have f3 : decide (Af id p < Af id best) = true:=decide_eq_true h3;have hs' : (base.take (k + 1)).foldl (Gg id) (-1) = p:=by rw [hs];simp [Gg,h1,h3]
   refine wd Fb [] [] (M9 gp f1 f2 f3) (Aj @c1 @c2) ?_;with_reducible repeat' first|constructor|intro hc;try simp only[AD] at hc
   refine ⟨k + 1,hkl,by omega,Nat.le_refl _,?_⟩;exact (have nC:=hs';A3.cn rfl)
  ·have f3 : decide (Af id p < Af id best) = false:=decide_eq_false h3;have hs' : (base.take (k + 1)).foldl (Gg id) (-1) = best:=by rw [hs];simp [Gg,h2,h3]
   refine wd Fb [] [] (M9 gp f1 f2 f3) (Aj @c1 @c2) ?_;with_reducible repeat' first|constructor|intro hc;try simp only[AD] at hc
   refine ⟨k + 1,hkl,by omega,Nat.le_refl _,?_⟩;exact (have nC:=hs';A3.cn rfl)
 ·have e : k = base.length:=by omega
  subst e;rw [List.take_length];refine wd Fb [] [] A0 A0 ?_;with_reducible repeat' first|constructor|intro hc;try simp only[AD] at hc
  refine ⟨_,_,rfl,rfl,?_⟩;simp [AR,AB,A7,A4,Gn]
theorem YG (l : List Int) (key : Int) (hk : i64 key) (hl : ∀ y ∈ l,i64 y) (hn : l.length ≤ 100000) : Go.Gar.Fn Tryz.prog 150 [.is l,.i .i64 key] (.tup [.i .i64 (ao key l),.b (decide (l ≠ []))]):=by
 refine zF A6 Tryz.func150 ?_
 cases l with
 | nil =>
  refine wk HG [] A0 A0 ?_;refine ⟨_,_,rfl,rfl,?_⟩;simp [AR,AB,A7,A4,ao]
 | cons a l =>
 have fa : decide (((a :: l).length : Int) = 0) = false:=decide_eq_false (by simp only [List.length_cons];omega);have gA : (a :: l).getD 0 0 = a:=rfl;have ca:=Cb a (hl a (List.mem_cons_self ..));have hO : ao key (a :: l) = (a :: l).foldl (LY key) (Bj a):=rfl;have hd : decide ((a :: l) ≠ []) = true:=rfl;rw [hO,hd];have hla : (a :: l).length = l.length + 1:=rfl;generalize hL : a :: l = m at *;have h0 : (0 : Int) < m.length:=by omega
 refine wk HG [] (Aj fa gA) (AF @ca) ?_;with_reducible repeat' first|constructor|intro hc;try simp only[AD] at hc
 refine Ac (fun k => k ≤ m.length ∧ i64 ((m.take k).foldl (LY key) (Bj a))) (fun k : Nat => ⟨[(0,.d (.is m)),(1,.d (.i .i64 key)),(6,.d (.i .i64 ((m.take k).foldl (LY key) (Bj a)))),(7,.d (.i .i64 k))],[],37⟩) (fun k => m.length - k) 0 ⟨Nat.zero_le _,by have:=IX a;unfold i64;simp only [List.take_zero,List.foldl_nil];omega⟩ ?_ (Nat.le_refl _) ?_
 ·exact A3.ck rfl
 rintro k ⟨hk',hi⟩
 by_cases hkl : k < m.length
 ·obtain ⟨p,hp⟩:=Aa hkl;have gp:=Cm hp;have hs:=NQ (LY key) (Bj a) hp;have hip:=hl p (List.mem_of_getElem? hp);generalize hB : (m.take k).foldl (LY key) (Bj a) = out at *;have c1:=Mh key p hk hip;have c2:=Mh key out hk hi;have c3:=Cb p hip
  by_cases h3 : Af key p < Af key out
  ·have f3 : decide (Af key p < Af key out) = true:=decide_eq_true h3;have hs' : (m.take (k + 1)).foldl (LY key) (Bj a) = Bj p:=by rw [hs];simp [LY,h3]
   refine wk HG [] (Aj gp f3) (Dl @c1 @c2 @c3) ?_;with_reducible repeat' first|constructor|intro hc;try simp only[AD] at hc
   refine ⟨k + 1,⟨hkl,by rw [hs'];have:=IX p;unfold i64;omega⟩,by omega,Nat.le_refl _,?_⟩;exact (have nC:=hs';A3.cn rfl)
  ·have f3 : decide (Af key p < Af key out) = false:=decide_eq_false h3;have hs' : (m.take (k + 1)).foldl (LY key) (Bj a) = out:=by rw [hs];simp [LY,h3]
   refine wk HG [] (Aj gp f3) (Aj @c1 @c2) ?_;with_reducible repeat' first|constructor|intro hc;try simp only[AD] at hc
   refine ⟨k + 1,⟨hkl,by rw [hs'];exact hi⟩,by omega,Nat.le_refl _,?_⟩;exact (have nC:=hs';A3.cn rfl)
 ·have e : k = m.length:=by omega
  subst e;rw [List.take_length];refine wk HG [] A0 A0 ?_;with_reducible repeat' first|constructor|intro hc;try simp only[AD] at hc
  exact zE
theorem TI {id best out b : Int} (hid : Am id = true) (hb : Am b = true) (h : (best = -1 ∧ out = id) ∨ (best = out ∧ best ≠ id ∧ Am best = true)) :
  (Gg id best b = -1 ∧ LY (id + 1) out b = id) ∨ (Gg id best b = LY (id + 1) out b ∧ Gg id best b ≠ id ∧ Am (Gg id best b) = true):=by
 have h1:=F3 hid;have h2:=F3 hb;rcases h with ⟨rfl,rfl⟩ | ⟨rfl,h3,h4⟩
 ·by_cases e : b = out
  ·subst e;left;refine ⟨by simp [Gg],?_⟩;simp [LY]
  ·right;have ea : Gg out (-1) b = b:=by simp [Gg,e]
   have eo : LY (out + 1) out b = b:=by
    unfold LY;rw [if_pos (show Af (out + 1) b < Af (out + 1) out by unfold Af;omega)];unfold Bj;omega
   rw [ea,eo];exact ⟨rfl,e,hb⟩
 ·have h5:=F3 h4;right
  by_cases e : b = id
  ·subst e;have ea : Gg b best b = best:=by simp [Gg]
   have eo : LY (b + 1) best b = best:=by
    unfold LY;rw [if_neg (show ¬ Af (b + 1) b < Af (b + 1) best by unfold Af;omega)]
   rw [ea,eo];exact ⟨rfl,h3,h4⟩
  ·by_cases e2 : Af id b < Af id best
   ·have ea : Gg id best b = b:=by simp [Gg,e,e2]
    have eo : LY (id + 1) best b = b:=by
     unfold LY;rw [if_pos (show Af (id + 1) b < Af (id + 1) best by unfold Af at *;omega)];unfold Bj;omega
    rw [ea,eo];exact ⟨rfl,e,hb⟩
   ·have hn : ¬ best < 0:=by omega
    have ea : Gg id best b = best:=by simp [Gg,e2,hn]
    have eo : LY (id + 1) best b = best:=by
     unfold LY;rw [if_neg (show ¬ Af (id + 1) b < Af (id + 1) best by unfold Af at *;omega)]
    rw [ea,eo];exact ⟨rfl,h3,h4⟩
theorem er {id : Int} (hid : Am id = true) : ∀ (l : List Int) (best out : Int),(∀ y ∈ l,Am y = true) → ((best = -1 ∧ out = id) ∨ (best = out ∧ best ≠ id ∧ Am best = true)) →
  ((l.foldl (Gg id) best = -1 ∧ l.foldl (LY (id + 1)) out = id) ∨ (l.foldl (Gg id) best = l.foldl (LY (id + 1)) out ∧ l.foldl (Gg id) best ≠ id ∧ Am (l.foldl (Gg id) best) = true))
 | [],best,out,_,h => h
 | b :: l,best,out,hl,h => by
  simp only [List.foldl_cons];exact er hid l _ _ (fun y hy => hl y (List.mem_cons_of_mem _ hy)) (TI hid (hl b (List.mem_cons_self ..)) h)
theorem em {id : Int} (hid : Am id = true) : ∀ (l : List Int) (best : Int),(∀ y ∈ l,Am y = true) → best ≠ -1 → l.foldl (Gg id) best ≠ -1
 | [],best,_,h => h
 | b :: l,best,hl,h => by
  simp only [List.foldl_cons];refine em hid l _ (fun y hy => hl y (List.mem_cons_of_mem _ hy)) ?_;have:=F3 (hl b (List.mem_cons_self ..));unfold Gg;split <;> omega
theorem V5 {id : Int} (hid : Am id = true) : ∀ (l : List Int) (best : Int),(∀ y ∈ l,Am y = true) → (∃ y ∈ l,y ≠ id) → l.foldl (Gg id) best ≠ -1
 | [],best,_,⟨y,hy,_⟩ => by cases hy
 | b :: l,best,hl,⟨y,hy,hne⟩ => by
  simp only [List.foldl_cons];have hb:=F3 (hl b (List.mem_cons_self ..))
  by_cases e : b = id
  ·rcases List.mem_cons.mp hy with rfl | hy
   ·exact absurd e hne
   ·exact V5 hid l _ (fun y hy => hl y (List.mem_cons_of_mem _ hy)) ⟨y,hy,hne⟩
  ·refine em hid l _ (fun y hy => hl y (List.mem_cons_of_mem _ hy)) ?_;unfold Gg;split
   ·omega
   ·intro h;rename_i h1;exact h1 ⟨e,.inl (by omega)⟩
theorem Pk : ∀ (l : List Int) (f : Int),bT f l = true → ∀ y ∈ l,Am y = true ∧ y > f
 | [],f,_,y,hy => by cases hy
 | a :: r,f,h,y,hy => by
  simp only [bT,Bool.and_eq_true,decide_eq_true_eq] at h;rcases List.mem_cons.mp hy with rfl | hy
  ·exact h.1
  ·have:=Pk r a h.2 y hy;exact ⟨this.1,by omega⟩
theorem PG (h : BZ l = true) : ∀ y ∈ l,Am y = true:=by
 simp only [BZ,Bool.and_eq_true] at h;exact fun y hy => (Pk l _ h.2 y hy).1
theorem US (h : BZ l = true) (id : Int) : ∃ y ∈ l,y ≠ id:=by
 simp only [BZ,Bool.and_eq_true,decide_eq_true_eq] at h
 match l,h with
 | a :: b :: r,h =>
  have h1:=Pk _ _ h.2
  have h2 : bT a (b :: r) = true:=by
   have:=h.2;simp only [bT,Bool.and_eq_true] at this ⊢;exact this.2
  have h3:=(Pk _ _ h2 b (List.mem_cons_self ..)).2
  by_cases e : a = id
  ·exact ⟨b,by simp,by omega⟩
  ·exact ⟨a,by simp,e⟩
 | [a],h => exact absurd h.1.1 (show ¬ 2 ≤ 1 by decide)
 | [],h => exact absurd h.1.1 (by decide)
theorem N1 {id : Int} (hid : Am id = true) (h : BZ l = true) : Gn id l = ao (id + 1) l ∧ Am (Gn id l) = true ∧ Gn id l ≠ id:=by
 have hp:=PG h;have hs:=V5 hid l (-1) hp (US h id)
 match l with
 | [] => exact absurd rfl hs
 | a :: r =>
  have ha:=F3 (hp a (List.mem_cons_self ..));have e : Bj a = a:=by unfold Bj;omega
  have h0 : LY (id + 1) a a = a:=by simp [LY,e]
  have hS : ao (id + 1) (a :: r) = r.foldl (LY (id + 1)) a:=by
   show (a :: r).foldl (LY (id + 1)) (Bj a) = _;rw [e,List.foldl_cons,h0]
  have hA : Gn id (a :: r) = r.foldl (Gg id) (Gg id (-1) a):=rfl;rw [hS,hA]
  have hR : (Gg id (-1) a = -1 ∧ a = id) ∨ (Gg id (-1) a = a ∧ Gg id (-1) a ≠ id ∧ Am (Gg id (-1) a) = true):=by
   by_cases e2 : a = id
   ·left;exact ⟨by simp [Gg,e2],e2⟩
   ·right;have e3 : Gg id (-1) a = a:=by simp [Gg,e2]
    rw [e3];exact ⟨rfl,e2,hp a (List.mem_cons_self ..)⟩
  rcases er hid r _ _ (fun y hy => hp y (List.mem_cons_of_mem _ hy)) hR with h1 | h1
  ·exact absurd h1.1 hs
  ·exact ⟨h1.1,h1.2.2,h1.2.1⟩
def cb (v : View) : Int:=if Aw v then Gn v.id v.base else -1
def iO (a : Int) : List Int → Int
 | [] => a
 | b :: _ => b
def Ix (v : View) : Int:=if Aw v then iO (Gn v.id v.base) v.list else -1
theorem Fz {v : View} (h : Aw v = true) : Am v.id = true ∧ BZ v.base = true ∧ C5 v.id v.list = true ∧ Eg v.id v.pred = true ∧ (EA v.f).all (Eg v.id) = true:=by
 simp only [Aw,Bool.and_eq_true] at h;exact ⟨h.1.1.1,h.1.1.2,h.1.2,h.2.1,h.2.2⟩
theorem PP (v : View) (hb : v.base.length ≤ 1000) (hl : v.list.length ≤ 1000) : Go.Gar.Fn Tryz.prog 53 [v.d] (.i .i64 (Ix v)):=by
 obtain ⟨id,base,list,pred,f⟩:=v;have c1:=HA ⟨id,base,list,pred,f⟩ hb hl;have c2:=WF ⟨id,base,list,pred,f⟩ (by omega);have c3:=Y5 list (by have : list.length ≤ 1000:=hl;omega);refine zF A6 Tryz.func53 ?_
 cases h : Aw ⟨id,base,list,pred,f⟩ with
 | false =>
  have hT : Ix ⟨id,base,list,pred,f⟩ = -1:=by unfold Ix;rw [h];rfl
  rw [h] at c1;refine wk [0,1,2,3,4,7,14] [] A0 (AF @c1) ?_;refine ⟨_,_,rfl,rfl,?_⟩;simp [AR,AB,A7,A4,hT]
 | true =>
  have hT : Ix ⟨id,base,list,pred,f⟩ = iO (Gn id base) list:=by unfold Ix;rw [h];rfl
  rw [h] at c1;rw [hT]
  cases list with
  | nil =>
   refine wk [0,1,2,3,4,7,14] [] A0 (Dl @c1 @c2 @c3) ?_;refine ⟨_,_,rfl,rfl,?_⟩;simp [AR,AB,A7,A4,iO]
  | cons a t =>
   refine wk [0,1,2,3,4,7,14] [] A0 (Dl @c1 @c2 @c3) ?_;refine ⟨_,_,rfl,rfl,?_⟩;simp [AR,AB,A7,A4,iO,firstT]
theorem UN (v : View) (hid : i64 v.id) (hli : ∀ y ∈ v.list,i64 y) (hb : v.base.length ≤ 1000) (hl : v.list.length ≤ 1000) : Go.Gar.Fn Tryz.prog 74 [v.d] (.i .i64 (cb v)):=by
 obtain ⟨id,base,list,pred,f⟩:=v;have c1:=O3 ⟨id,base,list,pred,f⟩ hid hli hb hl;refine zF A6 Tryz.func74 ?_
 cases h : Aw ⟨id,base,list,pred,f⟩ with
 | false =>
  have hT : cb ⟨id,base,list,pred,f⟩ = -1:=by unfold cb;rw [h];rfl
  rw [h] at c1;refine wk [0,1,2,3,7] [] A0 (AF @c1) ?_;refine ⟨_,_,rfl,rfl,?_⟩;simp [AR,AB,A7,A4,hT]
 | true =>
  have hT : cb ⟨id,base,list,pred,f⟩ = Gn id base:=by unfold cb;rw [h];rfl
  obtain ⟨r1,r2,-⟩:=Fz h;replace r1 : Am id = true:=r1;replace r2 : BZ base = true:=r2;have r3:=F3 r1;have c2:=YG base (id + 1) (by unfold i64;omega) (fun y hy => by have:=F3 (PG r2 y hy);unfold i64;omega) (by have : base.length ≤ 1000:=hb;omega);rw [← (N1 r1 r2).1] at c2;rw [h] at c1;rw [hT];refine wk [0,1,2,3,7] [] A0 (Aj @c1 @c2) ?_;exact zE
theorem UT (v : View) (hid : i64 v.id) (hli : ∀ y ∈ v.list,i64 y) (hb : v.base.length ≤ 1000) (hl : v.list.length ≤ 1000) : Go.Gar.Fn Tryz.prog 27 [v.d] (.i .i64 (Ix v)):=by
 obtain ⟨id,base,list,pred,f⟩:=v;have c1:=O3 ⟨id,base,list,pred,f⟩ hid hli hb hl;have c2:=UN ⟨id,base,list,pred,f⟩ hid hli hb hl;refine zF A6 Tryz.func27 ?_
 cases h : Aw ⟨id,base,list,pred,f⟩ with
 | false =>
  have hT : Ix ⟨id,base,list,pred,f⟩ = -1:=by unfold Ix;rw [h];rfl
  have hA : cb ⟨id,base,list,pred,f⟩ = -1:=by unfold cb;rw [h];rfl
  rw [h] at c1;rw [hA] at c2;rw [hT];refine wk [0,1,2,10] [] A0 (Aj @c1 @c2) ?_;exact zE
 | true =>
  have hT : Ix ⟨id,base,list,pred,f⟩ = iO (Gn id base) list:=by unfold Ix;rw [h];rfl
  have hA : cb ⟨id,base,list,pred,f⟩ = Gn id base:=by unfold cb;rw [h];rfl
  rw [h] at c1;rw [hA] at c2;rw [hT]
  cases list with
  | nil =>
   refine wk [0,1,2,10] [] A0 (Aj @c1 @c2) ?_;refine ⟨_,_,rfl,rfl,?_⟩;simp [AR,AB,A7,A4,iO]
  | cons a t =>
   have f1 : decide (((a :: t).length : Int) > 0) = true:=decide_eq_true (by simp only [List.length_cons];omega);refine wk [0,1,2,10] [] (AF f1) (AF @c1) ?_;with_reducible repeat' first|constructor|intro hc;try simp only[AD] at hc
   refine ⟨_,_,rfl,rfl,?_⟩;simp [AR,AB,A7,A4,iO]
end Go.Proofs.YtkljbfejbakooaaGreatDoor
