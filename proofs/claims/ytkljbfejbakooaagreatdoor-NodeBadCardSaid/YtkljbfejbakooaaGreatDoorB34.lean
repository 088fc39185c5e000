/- Part 34 of a proof, put together by a program. Conditions: none beyond those that a theorem states. -/
import Derived.Test.YtkljbfejbakooaaGreatDoorB33
set_option linter.unusedSimpArgs false
set_option linter.unusedVariables false
set_option linter.unnecessarySimpa false
set_option maxHeartbeats 40000000
namespace Go.Proofs.YtkljbfejbakooaaGreatDoor
namespace Nd
open Go.Gar
open Wi (A8 B2 Ai)
set_option maxRecDepth 4000
abbrev Du : List Nat:=[0,1,3,4,5,6,8,9,10,13]
abbrev Hv : List Nat:=[0,1,3,4,5,6,7,8,16]
theorem MI (l : List Past) : B4 Tryz.prog 156 [.d (AJ l)] [] (.fn (.func 234) [] [.ptr 0 0 1]) [.c [.d (AJ l)]]:=by
 refine zD A6 Tryz.func156 ?_;refine wk [0,1,2] [] A0 A0 ?_;exact ⟨_,(A1.ck rfl),Nat.zero_le _,_,_,rfl,rfl,rfl,rfl⟩
theorem eh (s c : Int) : B4 Tryz.prog 165 [.d (.i .i64 s),.d (.i .i64 c)] [] (.fn (.func 241) [] [.ptr 0 0 1,.ptr 1 0 1]) [.c [.d (.i .i64 s)],.c [.d (.i .i64 c)]]:=by
 refine zD A6 Tryz.func165 ?_;refine wk [0,1,2,3,4] [] A0 A0 ?_;exact ⟨_,(A1.ck rfl),Nat.zero_le _,_,_,rfl,rfl,rfl,rfl⟩
theorem cU (p : Past) (s c : Int) : B4 Tryz.prog 241 [.d p.d,.ptr 0 0 1,.ptr 1 0 1] [.c [.d (.i .i64 s)],.c [.d (.i .i64 c)]] (.d (.b (I9 s c p))) [.c [.d (.i .i64 s)],.c [.d (.i .i64 c)]]:=by
 refine zD A6 Tryz.func241 ?_;unfold Past.d Past.cells;have hI : I9 s c p = (decide (p.src = s) && decide (p.call = c)):=rfl;generalize I9 s c p = q at *
 by_cases h1 : p.src = s
 ·have f1 : (p.src == s) = true:=by simp [h1]
  by_cases h2 : p.call = c
  ·have f2 : (p.call == c) = true:=by simp [h2]
   have e : q = true:=by rw [hI];simp [h1,h2]
   subst e;refine wk [0,1,2,3,4] [] (BM f1 f2) A0 ?_;exact ⟨⟨[(4,.d (.b true))],[.c [.d (.i .i64 s)],.c [.d (.i .i64 c)]],_⟩,(A1.ck rfl),Nat.le_refl _,_,_,rfl,rfl,rfl,rfl⟩
  ·have f2 : (p.call == c) = false:=by simp [h2]
   have e : q = false:=by rw [hI];simp [h2]
   subst e;refine wk [0,1,2,3,4] [] (BM f1 f2) A0 ?_;exact ⟨⟨[(4,.d (.b false))],[.c [.d (.i .i64 s)],.c [.d (.i .i64 c)]],_⟩,(A1.ck rfl),Nat.le_refl _,_,_,rfl,rfl,rfl,rfl⟩
 ·have f1 : (p.src == s) = false:=by simp [h1]
  have e : q = false:=by rw [hI];simp [h1]
  subst e;refine wk [0,1,2,3,4] [] (AG f1) A0 ?_;exact ⟨⟨[(4,.d (.b false))],[.c [.d (.i .i64 s)],.c [.d (.i .i64 c)]],_⟩,(A1.ck rfl),Nat.le_refl _,_,_,rfl,rfl,rfl,rfl⟩
def Le (l : List Past) (s c : Int) : Int:=match l.findIdx? (I9 s c) with
 | some n => (n : Int)
 | none => -1
theorem KH {α : Type} {p : α → Bool} {l : List α} {k : Nat} {x : α} (hx : l[k]? = some x) (h : p x = true) (hn : (l.take k).any p = false) : l.findIdx? p = some k:=by
 rw [List.findIdx?_eq_some_iff_getElem];obtain ⟨hk,hv⟩:=List.getElem?_eq_some_iff.1 hx;refine ⟨hk,by rw [hv];exact h,fun j hj => ?_⟩;rw [List.any_eq_false] at hn;exact hn _ (List.mem_iff_getElem?.2 ⟨j,by rw [List.getElem?_take,if_pos hj];exact List.getElem?_eq_getElem _⟩)
variable {l : List Past}
theorem Yz {s c : Int} {k : Nat} {x : Past} (hx : l[k]? = some x) (h : I9 s c x = true) (hn : (l.take k).any (I9 s c) = false) : Le l s c = k:=by
 unfold Le;rw [KH hx h hn]
theorem Sz {s c : Int} (hn : l.any (I9 s c) = false) : Le l s c = -1:=by
 unfold Le
 have : l.findIdx? (I9 s c) = none:=by
  rw [List.findIdx?_eq_none_iff];rw [List.any_eq_false] at hn;intro x hx;simpa using hn x hx
 rw [this]
theorem Z0 (l : List Past) (s c : Int) : decide (Le l s c ≥ 0) = l.any (I9 s c):=by
 cases h : l.any (I9 s c) with
 | false => rw [Sz h];rfl
 | true =>
  obtain ⟨x,hx,hp⟩:=List.any_eq_true.1 h
  have : l.findIdx? (I9 s c) ≠ none:=by
   rw [Ne,List.findIdx?_eq_none_iff];intro hh;have:=hh x hx;rw [hp] at this;cases this
  unfold Le;split
  ·exact decide_eq_true (by omega)
  ·contradiction
theorem WR (l : List Past) (s c : Int) (hn : l.length ≤ 9223372036854775807) : B4 Tryz.prog 164 [.d (AJ l),.fn (.func 241) [] [.ptr 0 0 1,.ptr 1 0 1]] [.c [.d (.i .i64 s)],.c [.d (.i .i64 c)]] (.d (.i .i64 (Le l s c))) [.c [.d (.i .i64 s)],.c [.d (.i .i64 c)]]:=by
 refine B4.drop (K:=[.c [.d (.i .i64 s)],.c [.d (.i .i64 c)],.gone,.c [.d (.i .i64 (Le l s c))]]) _ ?_ ⟨.inr rfl,.inr rfl,trivial⟩ rfl rfl rfl;refine zD A6 Tryz.func164 ?_;have d1:=Ds.mk [] (MI l);refine wk Du [] A0 A0 ?_;clear d1
 refine zG (K:=fun r _ H' => (l.any (I9 s c) = false ∧ H' = [.c [.d (.i .i64 s)],.c [.d (.i .i64 c)],.c [.fn (.func 241) [] [.ptr 0 0 1,.ptr 1 0 1]],.c [.d (.i .i64 0)],.c [.d (AJ l)],.lp r]) ∨
  (∃ k : Nat,Le l s c = k ∧ H' = [.c [.d (.i .i64 s)],.c [.d (.i .i64 c)],.c [.fn (.func 241) [] [.ptr 0 0 1,.ptr 1 0 1]],.c [.d (.i .i64 k)],.c [.d (AJ l)],.lp (r.left .ret)])) ?_ ?_
 ·intro r hr;refine zT A6 Tryz.func234 ?_;refine wk Hv [] A0 A0 ?_;have hk:=hr.ok (k:=5) rfl;refine Bg (fun k => k ≤ l.length ∧ (l.take k).any (I9 s c) = false) (fun k : Nat => [(7,.d (.i .i64 k))]) (fun k => l.length - k) 0 ⟨Nat.zero_le _,rfl⟩ (fun _ => rfl) ?_ ?_
  ·exact A1.ck rfl
  rintro k ⟨hkk,hpre⟩
  by_cases hkl : k < l.length
  ·obtain ⟨x,hx⟩:=Ah hkl;have c1:=cU x s c;have hA:=EC (p:=I9 s c) hx;rw [hpre,Bool.false_or] at hA;unfold Past.d Past.cells at c1
   cases hb : I9 s c x with
   | true =>
    rw [hb] at c1
    have hY : YT Tryz.prog 5 [.d (.i .i64 k),.d (.agg [.i .i64 x.src,.i .i64 x.call,.i .u8 x.told.kind,.i .i64 x.told.call,.i .i64 x.told.src,.i .i64 x.told.dst,.i .i64 x.told.key,.b x.told.slow,.b x.told.done,.i .i64 x.told.place,.i .i64 x.told.pred,.is x.told.list,.s x.told.item.key,.i .i64 x.told.item.value,.i .i64 x.told.item.version,.b x.told.item.gone,.i .i64 x.told.code])] [.c [.d (.i .i64 s)],.c [.d (.i .i64 c)],.c [.fn (.func 241) [] [.ptr 0 0 1,.ptr 1 0 1]],.c [.d (.i .i64 0)],.c [.d (AJ l)],.lp r,.c [.d (.i .i64 x.src),.d (.i .i64 x.call),.d (.i .u8 x.told.kind),.d (.i .i64 x.told.call),.d (.i .i64 x.told.src),.d (.i .i64 x.told.dst),.d (.i .i64 x.told.key),.d (.b x.told.slow),.d (.b x.told.done),.d (.i .i64 x.told.place),.d (.i .i64 x.told.pred),.d (.is x.told.list),.d (.s x.told.item.key),.d (.i .i64 x.told.item.value),.d (.i .i64 x.told.item.version),.d (.b x.told.item.gone),.d (.i .i64 x.told.code)]] fun v K => v = .d (.b false) ∧ K = [.c [.d (.i .i64 s)],.c [.d (.i .i64 c)],.c [.fn (.func 241) [] [.ptr 0 0 1,.ptr 1 0 1]],.c [.d (.i .i64 k)],.c [.d (AJ l)],.lp (r.left .ret),.c [.d (.i .i64 x.src),.d (.i .i64 x.call),.d (.i .u8 x.told.kind),.d (.i .i64 x.told.call),.d (.i .i64 x.told.src),.d (.i .i64 x.told.dst),.d (.i .i64 x.told.key),.d (.b x.told.slow),.d (.b x.told.done),.d (.i .i64 x.told.place),.d (.i .i64 x.told.pred),.d (.is x.told.list),.d (.s x.told.item.key),.d (.i .i64 x.told.item.value),.d (.i .i64 x.told.item.version),.d (.b x.told.item.gone),.d (.i .i64 x.told.code)]]:=by
     refine BG hr rfl rfl rfl ?_;refine wk Du [] A0 A0 ?_;refine zR ?_;have d1:=Ds.mk [0,1] (c1);refine wk Du [] A0 A0 ?_;clear d1;exact ⟨⟨[],[.c [.d (.i .i64 s)],.c [.d (.i .i64 c)],.c [.fn (.func 241) [] [.ptr 0 0 1,.ptr 1 0 1]],.c [.d (.i .i64 k)],.c [.d (AJ l)],.lp r.busy,.c [.d (.i .i64 x.src),.d (.i .i64 x.call),.d (.i .u8 x.told.kind),.d (.i .i64 x.told.call),.d (.i .i64 x.told.src),.d (.i .i64 x.told.dst),.d (.i .i64 x.told.key),.d (.b x.told.slow),.d (.b x.told.done),.d (.i .i64 x.told.place),.d (.i .i64 x.told.pred),.d (.is x.told.list),.d (.s x.told.item.key),.d (.i .i64 x.told.item.value),.d (.i .i64 x.told.item.version),.d (.b x.told.item.gone),.d (.i .i64 x.told.code)]],_⟩,(A1.ck rfl),Nat.le_refl _,rfl,rfl,rfl⟩
    have ix1:=hx;have q1:=@hY;refine wk Hv [] A0 A0 ?_;clear q1 ix1;with_reducible repeat' first|constructor|intro hc;try simp only[AB] at hc
    exact ⟨⟨[],[.c [.d (.i .i64 s)],.c [.d (.i .i64 c)],.c [.fn (.func 241) [] [.ptr 0 0 1,.ptr 1 0 1]],.c [.d (.i .i64 k)],.c [.d (AJ l)],.lp (r.left .ret)],_⟩,(A1.ck rfl),Nat.le_refl _,_,_,rfl,rfl,.inr ⟨k,Yz hx hb hpre,rfl⟩⟩
   | false =>
    rw [hb] at c1
    have hY : YT Tryz.prog 5 [.d (.i .i64 k),.d (.agg [.i .i64 x.src,.i .i64 x.call,.i .u8 x.told.kind,.i .i64 x.told.call,.i .i64 x.told.src,.i .i64 x.told.dst,.i .i64 x.told.key,.b x.told.slow,.b x.told.done,.i .i64 x.told.place,.i .i64 x.told.pred,.is x.told.list,.s x.told.item.key,.i .i64 x.told.item.value,.i .i64 x.told.item.version,.b x.told.item.gone,.i .i64 x.told.code])] [.c [.d (.i .i64 s)],.c [.d (.i .i64 c)],.c [.fn (.func 241) [] [.ptr 0 0 1,.ptr 1 0 1]],.c [.d (.i .i64 0)],.c [.d (AJ l)],.lp r,.c [.d (.i .i64 x.src),.d (.i .i64 x.call),.d (.i .u8 x.told.kind),.d (.i .i64 x.told.call),.d (.i .i64 x.told.src),.d (.i .i64 x.told.dst),.d (.i .i64 x.told.key),.d (.b x.told.slow),.d (.b x.told.done),.d (.i .i64 x.told.place),.d (.i .i64 x.told.pred),.d (.is x.told.list),.d (.s x.told.item.key),.d (.i .i64 x.told.item.value),.d (.i .i64 x.told.item.version),.d (.b x.told.item.gone),.d (.i .i64 x.told.code)]] fun v K => v = .d (.b true) ∧ K = [.c [.d (.i .i64 s)],.c [.d (.i .i64 c)],.c [.fn (.func 241) [] [.ptr 0 0 1,.ptr 1 0 1]],.c [.d (.i .i64 0)],.c [.d (AJ l)],.lp r,.c [.d (.i .i64 x.src),.d (.i .i64 x.call),.d (.i .u8 x.told.kind),.d (.i .i64 x.told.call),.d (.i .i64 x.told.src),.d (.i .i64 x.told.dst),.d (.i .i64 x.told.key),.d (.b x.told.slow),.d (.b x.told.done),.d (.i .i64 x.told.place),.d (.i .i64 x.told.pred),.d (.is x.told.list),.d (.s x.told.item.key),.d (.i .i64 x.told.item.value),.d (.i .i64 x.told.item.version),.d (.b x.told.item.gone),.d (.i .i64 x.told.code)]]:=by
     refine BG hr rfl rfl rfl ?_;refine wk Du [] A0 A0 ?_;refine zR ?_;have d1:=Ds.mk [0,1] (c1);refine wk Du [] A0 A0 ?_;clear d1;exact ⟨⟨[],[.c [.d (.i .i64 s)],.c [.d (.i .i64 c)],.c [.fn (.func 241) [] [.ptr 0 0 1,.ptr 1 0 1]],.c [.d (.i .i64 0)],.c [.d (AJ l)],.lp r.busy,.c [.d (.i .i64 x.src),.d (.i .i64 x.call),.d (.i .u8 x.told.kind),.d (.i .i64 x.told.call),.d (.i .i64 x.told.src),.d (.i .i64 x.told.dst),.d (.i .i64 x.told.key),.d (.b x.told.slow),.d (.b x.told.done),.d (.i .i64 x.told.place),.d (.i .i64 x.told.pred),.d (.is x.told.list),.d (.s x.told.item.key),.d (.i .i64 x.told.item.value),.d (.i .i64 x.told.item.version),.d (.b x.told.item.gone),.d (.i .i64 x.told.code)]],_⟩,(A1.ck rfl),Nat.le_refl _,rfl,rfl,rfl⟩
    have ix1:=hx;have q1:=@hY;refine wk Hv [] A0 A0 ?_;clear q1 ix1;with_reducible repeat' first|constructor|intro hc;try simp only[AB] at hc
    refine ⟨k + 1,⟨hkl,by rw [hA,hb]⟩,by omega,Nat.le_refl _,?_⟩;exact A1.ck rfl
  ·have e : k = l.length:=by omega
   subst e;rw [List.take_length] at hpre;refine wk Hv [] A0 A0 ?_;with_reducible repeat' first|constructor|intro hc;try simp only[AB] at hc
   exact ⟨_,A1.refl _,Nat.le_refl _,_,_,rfl,rfl,.inl ⟨hpre,rfl⟩⟩
 ·rintro r hr y H' (⟨h,rfl⟩ | ⟨k,h,rfl⟩)
  ·refine .inl ⟨rfl,?_⟩;rw [Sz h];refine wk Du [] A0 A0 ?_;exact ⟨⟨[(4,.ptr 3 0 1)],[.c [.d (.i .i64 s)],.c [.d (.i .i64 c)],.gone,.c [.d (.i .i64 (-1))]],_⟩,(A1.ck rfl),Nat.le_of_ble_eq_true rfl,_,_,rfl,rfl,rfl,rfl⟩
  ·refine .inr ⟨.ret,rfl,?_⟩;rw [h];refine wk Du [] A0 A0 ?_;exact ⟨⟨[(4,.ptr 3 0 1)],[.c [.d (.i .i64 s)],.c [.d (.i .i64 c)],.gone,.c [.d (.i .i64 k)]],_⟩,(A1.ck rfl),Nat.le_of_ble_eq_true rfl,_,_,rfl,rfl,rfl,rfl⟩
abbrev B8 : List Nat:=[0,1,2,3,4,7,9,10,11,20,34,44]
abbrev Hw : List Nat:=[0,1,3,4,5,6,7,8,16]
theorem Zc (l : List Past) (hl : ∀ x ∈ l,B5 x.told) (hn : l.length ≤ 9223372036854775807) : Go.Gar.Fn Tryz.prog 101 [AJ l] (.b (EW l)):=by
 refine zF A6 Tryz.func101 ?_
 by_cases h40 : l.length > 40
 ·have f1 : decide ((l.length : Int) > 40) = true:=decide_eq_true (by omega);have hT : EW l = false:=by unfold EW;rw [decide_eq_false (by omega)];rfl
  refine wd B8 [] [] (AG f1) A0 ?_;refine ⟨_,_,rfl,rfl,?_⟩;simp [Ab,A9,A4,A3,hT]
 have f1 : decide ((l.length : Int) > 40) = false:=decide_eq_false (by omega);have hT : EW l = EQ l.length (D2 l):=by unfold EW;rw [decide_eq_true (by omega)];rfl
 have d1:=Ds.mk [] (MI l);refine wd B8 [] [] (AG f1) A0 ?_;clear d1
 refine zG (K:=fun r _ H' => (EQ l.length (D2 l) = true ∧ H' = [.c [.d (AJ l)],.c [.d (.b false)],.c [.d (AJ l)],.lp r]) ∨
  (EQ l.length (D2 l) = false ∧ H' = [.c [.d (AJ l)],.c [.d (.b false)],.c [.d (AJ l)],.lp (r.left .ret)])) ?_ ?_
 ·intro r hr;refine zT A6 Tryz.func234 ?_;refine wk Hw [] A0 A0 ?_;have hk:=hr.ok (k:=3) rfl;refine Bg (fun k => k ≤ l.length ∧ EQ k (D2 l) = true) (fun k : Nat => [(7,.d (.i .i64 k))]) (fun k => l.length - k) 0 ⟨Nat.zero_le _,rfl⟩ (fun _ => rfl) ?_ ?_
  ·exact A1.ck rfl
  rintro k ⟨hkk,hpre⟩
  by_cases hkl : k < l.length
  ·obtain ⟨x,hx⟩:=Ah hkl;have gx : l.getD k NY = x:=getD_at hx;have hlx:=hl x (List.mem_of_getElem? hx);have hK : D2 l k = ((x.told.right && (!x.told.asks && (decide (x.told.dst = x.src) && decide (x.told.call = x.call)))) && !(decide (Le (l.take k) x.src x.call ≥ 0))):=by unfold D2 IU;rw [gx,Z0]
   have c1:=Wi.Ex x.told (lm hlx);have c2:=Wi.J9 x.told;have d1:=eh x.src x.call;have d2:=WR (l.take k) x.src x.call (by rw [List.length_take];omega);have e1 : List.take k (List.map Past.cells l) = List.map Past.cells (List.take k l):=(List.map_take ..).symm;unfold A8.d A8.cells at c1 c2;generalize Le (l.take k) x.src x.call = fi at *
   have hY : YT Tryz.prog 3 [.d (.i .i64 k),.d (.agg [.i .i64 x.src,.i .i64 x.call,.i .u8 x.told.kind,.i .i64 x.told.call,.i .i64 x.told.src,.i .i64 x.told.dst,.i .i64 x.told.key,.b x.told.slow,.b x.told.done,.i .i64 x.told.place,.i .i64 x.told.pred,.is x.told.list,.s x.told.item.key,.i .i64 x.told.item.value,.i .i64 x.told.item.version,.b x.told.item.gone,.i .i64 x.told.code])] [.c [.d (AJ l)],.c [.d (.b false)],.c [.d (AJ l)],.lp r,.c [.d (.i .i64 x.src),.d (.i .i64 x.call),.d (.i .u8 x.told.kind),.d (.i .i64 x.told.call),.d (.i .i64 x.told.src),.d (.i .i64 x.told.dst),.d (.i .i64 x.told.key),.d (.b x.told.slow),.d (.b x.told.done),.d (.i .i64 x.told.place),.d (.i .i64 x.told.pred),.d (.is x.told.list),.d (.s x.told.item.key),.d (.i .i64 x.told.item.value),.d (.i .i64 x.told.item.version),.d (.b x.told.item.gone),.d (.i .i64 x.told.code)]] fun v K => v = .d (.b (D2 l k)) ∧ K = if D2 l k then [.c [.d (AJ l)],.c [.d (.b false)],.c [.d (AJ l)],.lp r,.c [.d (.i .i64 x.src),.d (.i .i64 x.call),.d (.i .u8 x.told.kind),.d (.i .i64 x.told.call),.d (.i .i64 x.told.src),.d (.i .i64 x.told.dst),.d (.i .i64 x.told.key),.d (.b x.told.slow),.d (.b x.told.done),.d (.i .i64 x.told.place),.d (.i .i64 x.told.pred),.d (.is x.told.list),.d (.s x.told.item.key),.d (.i .i64 x.told.item.value),.d (.i .i64 x.told.item.version),.d (.b x.told.item.gone),.d (.i .i64 x.told.code)]] else [.c [.d (AJ l)],.c [.d (.b false)],.c [.d (AJ l)],.lp (r.left .ret),.c [.d (.i .i64 x.src),.d (.i .i64 x.call),.d (.i .u8 x.told.kind),.d (.i .i64 x.told.call),.d (.i .i64 x.told.src),.d (.i .i64 x.told.dst),.d (.i .i64 x.told.key),.d (.b x.told.slow),.d (.b x.told.done),.d (.i .i64 x.told.place),.d (.i .i64 x.told.pred),.d (.is x.told.list),.d (.s x.told.item.key),.d (.i .i64 x.told.item.value),.d (.i .i64 x.told.item.version),.d (.b x.told.item.gone),.d (.i .i64 x.told.code)]]:=by
    refine BG hr rfl rfl rfl ?_;rw [hK];generalize x.told.right = rr at *;generalize x.told.asks = aa at *;clear hK;cases rr
    ·refine wd B8 [] [] A0 A0 ?_;refine zR ?_;refine wd B8 [] [] A0 (AG @c1) ?_;exact ⟨⟨[],[.c [.d (AJ l)],.c [.d (.b false)],.c [.d (AJ l)],.lp r.busy,.c [.d (.i .i64 x.src),.d (.i .i64 x.call),.d (.i .u8 x.told.kind),.d (.i .i64 x.told.call),.d (.i .i64 x.told.src),.d (.i .i64 x.told.dst),.d (.i .i64 x.told.key),.d (.b x.told.slow),.d (.b x.told.done),.d (.i .i64 x.told.place),.d (.i .i64 x.told.pred),.d (.is x.told.list),.d (.s x.told.item.key),.d (.i .i64 x.told.item.value),.d (.i .i64 x.told.item.version),.d (.b x.told.item.gone),.d (.i .i64 x.told.code)]],_⟩,(A1.ck rfl),Nat.le_refl _,rfl,rfl,rfl⟩
    cases aa
    ·by_cases h1 : x.told.dst = x.src
     ·have f2 : (x.told.dst != x.src) = false:=C7 h1
      by_cases h2 : x.told.call = x.call
      ·have f3 : (x.told.call != x.call) = false:=C7 h2;rw [decide_eq_true h1,decide_eq_true h2]
       by_cases h3 : fi ≥ 0
       ·have f4 : decide (fi ≥ 0) = true:=decide_eq_true h3;rw [f4];refine wd B8 [] [] A0 A0 ?_;refine zR ?_;have d1:=Ds.mk [] (d1);have d2:=Ds.mk [6,7] (d2);refine wd B8 [] [(0,7)] (VH f2 f3 f4 e1) (BM @c1 @c2) ?_;clear d2 d1;exact ⟨⟨[],[.c [.d (AJ l)],.c [.d (.b false)],.c [.d (AJ l)],.lp r.busy,.c [.d (.i .i64 x.src),.d (.i .i64 x.call),.d (.i .u8 x.told.kind),.d (.i .i64 x.told.call),.d (.i .i64 x.told.src),.d (.i .i64 x.told.dst),.d (.i .i64 x.told.key),.d (.b x.told.slow),.d (.b x.told.done),.d (.i .i64 x.told.place),.d (.i .i64 x.told.pred),.d (.is x.told.list),.d (.s x.told.item.key),.d (.i .i64 x.told.item.value),.d (.i .i64 x.told.item.version),.d (.b x.told.item.gone),.d (.i .i64 x.told.code)]],_⟩,(A1.ck rfl),Nat.le_refl _,rfl,rfl,rfl⟩
       ·have f4 : decide (fi ≥ 0) = false:=decide_eq_false h3;rw [f4];refine wd B8 [] [] A0 A0 ?_;refine zR ?_;have d1:=Ds.mk [] (d1);have d2:=Ds.mk [6,7] (d2);refine wd B8 [] [(0,7)] (VH f2 f3 f4 e1) (BM @c1 @c2) ?_;clear d2 d1;exact ⟨⟨[],[.c [.d (AJ l)],.c [.d (.b false)],.c [.d (AJ l)],.lp r.busy,.c [.d (.i .i64 x.src),.d (.i .i64 x.call),.d (.i .u8 x.told.kind),.d (.i .i64 x.told.call),.d (.i .i64 x.told.src),.d (.i .i64 x.told.dst),.d (.i .i64 x.told.key),.d (.b x.told.slow),.d (.b x.told.done),.d (.i .i64 x.told.place),.d (.i .i64 x.told.pred),.d (.is x.told.list),.d (.s x.told.item.key),.d (.i .i64 x.told.item.value),.d (.i .i64 x.told.item.version),.d (.b x.told.item.gone),.d (.i .i64 x.told.code)]],_⟩,(A1.ck rfl),Nat.le_refl _,rfl,rfl,rfl⟩
      ·have f3 : (x.told.call != x.call) = true:=C2 h2;rw [decide_eq_true h1,decide_eq_false h2];refine wd B8 [] [] A0 A0 ?_;refine zR ?_;refine wd B8 [] [] (BM f2 f3) (BM @c1 @c2) ?_;exact ⟨⟨[],[.c [.d (AJ l)],.c [.d (.b false)],.c [.d (AJ l)],.lp r.busy,.c [.d (.i .i64 x.src),.d (.i .i64 x.call),.d (.i .u8 x.told.kind),.d (.i .i64 x.told.call),.d (.i .i64 x.told.src),.d (.i .i64 x.told.dst),.d (.i .i64 x.told.key),.d (.b x.told.slow),.d (.b x.told.done),.d (.i .i64 x.told.place),.d (.i .i64 x.told.pred),.d (.is x.told.list),.d (.s x.told.item.key),.d (.i .i64 x.told.item.value),.d (.i .i64 x.told.item.version),.d (.b x.told.item.gone),.d (.i .i64 x.told.code)]],_⟩,(A1.ck rfl),Nat.le_refl _,rfl,rfl,rfl⟩
     ·have f2 : (x.told.dst != x.src) = true:=C2 h1;rw [decide_eq_false h1];refine wd B8 [] [] A0 A0 ?_;refine zR ?_;refine wd B8 [] [] (AG f2) (BM @c1 @c2) ?_;exact ⟨⟨[],[.c [.d (AJ l)],.c [.d (.b false)],.c [.d (AJ l)],.lp r.busy,.c [.d (.i .i64 x.src),.d (.i .i64 x.call),.d (.i .u8 x.told.kind),.d (.i .i64 x.told.call),.d (.i .i64 x.told.src),.d (.i .i64 x.told.dst),.d (.i .i64 x.told.key),.d (.b x.told.slow),.d (.b x.told.done),.d (.i .i64 x.told.place),.d (.i .i64 x.told.pred),.d (.is x.told.list),.d (.s x.told.item.key),.d (.i .i64 x.told.item.value),.d (.i .i64 x.told.item.version),.d (.b x.told.item.gone),.d (.i .i64 x.told.code)]],_⟩,(A1.ck rfl),Nat.le_refl _,rfl,rfl,rfl⟩
    ·refine wd B8 [] [] A0 A0 ?_;refine zR ?_;refine wd B8 [] [] A0 (BM @c1 @c2) ?_;exact ⟨⟨[],[.c [.d (AJ l)],.c [.d (.b false)],.c [.d (AJ l)],.lp r.busy,.c [.d (.i .i64 x.src),.d (.i .i64 x.call),.d (.i .u8 x.told.kind),.d (.i .i64 x.told.call),.d (.i .i64 x.told.src),.d (.i .i64 x.told.dst),.d (.i .i64 x.told.key),.d (.b x.told.slow),.d (.b x.told.done),.d (.i .i64 x.told.place),.d (.i .i64 x.told.pred),.d (.is x.told.list),.d (.s x.told.item.key),.d (.i .i64 x.told.item.value),.d (.i .i64 x.told.item.version),.d (.b x.told.item.gone),.d (.i .i64 x.told.code)]],_⟩,(A1.ck rfl),Nat.le_refl _,rfl,rfl,rfl⟩
   cases hb : D2 l k with
   | true =>
    rw [hb] at hY;have ix1:=hx;have q1:=@hY;refine wk Hw [] A0 A0 ?_;clear q1 ix1;with_reducible repeat' first|constructor|intro hc;try simp only[AB] at hc
    refine ⟨k + 1,⟨hkl,D9 hpre hb⟩,by omega,Nat.le_refl _,?_⟩;exact A1.ck rfl
   | false =>
    rw [hb] at hY;have ix1:=hx;have q1:=@hY;refine wk Hw [] A0 A0 ?_;clear q1 ix1;with_reducible repeat' first|constructor|intro hc;try simp only[AB] at hc
    exact ⟨⟨[],[.c [.d (AJ l)],.c [.d (.b false)],.c [.d (AJ l)],.lp (r.left .ret)],_⟩,(A1.ck rfl),Nat.le_refl _,_,_,rfl,rfl,.inr ⟨Ey hkl hb,rfl⟩⟩
  ·have e : k = l.length:=by omega
   subst e;refine wk Hw [] A0 A0 ?_;with_reducible repeat' first|constructor|intro hc;try simp only[AB] at hc
   exact ⟨_,A1.refl _,Nat.le_refl _,_,_,rfl,rfl,.inl ⟨hpre,rfl⟩⟩
 ·rintro r hr y H' (⟨h,rfl⟩ | ⟨h,rfl⟩)
  ·refine .inl ⟨rfl,?_⟩;rw [h] at hT;refine wd B8 [] [] A0 A0 ?_;refine ⟨_,_,rfl,rfl,?_⟩;simp [Ab,A9,A4,A3,hT]
  ·refine .inr ⟨.ret,rfl,?_⟩;rw [h] at hT;refine wd B8 [] [] A0 A0 ?_;refine ⟨_,_,rfl,rfl,?_⟩;simp [Ab,A9,A4,A3,hT]
end Nd
end Go.Proofs.YtkljbfejbakooaaGreatDoor
