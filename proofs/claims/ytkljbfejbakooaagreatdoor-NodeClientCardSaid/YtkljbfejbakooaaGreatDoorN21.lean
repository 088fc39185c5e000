/- Part 21 of a proof, put together by a program. Conditions: none beyond those that a theorem states. -/
import Derived.Test.YtkljbfejbakooaaGreatDoorN20
set_option linter.unusedSimpArgs false
set_option linter.unusedVariables false
set_option linter.unnecessarySimpa false
set_option maxHeartbeats 40000000
namespace Go.Proofs.YtkljbfejbakooaaGreatDoor
namespace Nd
open Go.Gar
open Wi (A8 B7 AU)
set_option maxRecDepth 4000
abbrev EV : List Nat:=[0,1,3,4,5,6,8,9,10,13]
abbrev JP : List Nat:=[0,1,3,4,5,6,7,8,16]
theorem O4 (l : List Past) : Ao Tryz.prog 156 [.d (AO l)] [] (.fn (.func 234) [] [.ptr 0 0 1]) [.c [.d (AO l)]]:=by
 refine zD A6 Tryz.func156 ?_;refine wk [0,1,2] [] A0 A0 ?_;exact ⟨_,(A3.ck rfl),Nat.zero_le _,_,_,rfl,rfl,rfl,rfl⟩
theorem lM (s c : Int) : Ao Tryz.prog 165 [.d (.i .i64 s),.d (.i .i64 c)] [] (.fn (.func 241) [] [.ptr 0 0 1,.ptr 1 0 1]) [.c [.d (.i .i64 s)],.c [.d (.i .i64 c)]]:=by
 refine zD A6 Tryz.func165 ?_;refine wk [0,1,2,3,4] [] A0 A0 ?_;exact ⟨_,(A3.ck rfl),Nat.zero_le _,_,_,rfl,rfl,rfl,rfl⟩
theorem it (p : Past) (s c : Int) : Ao Tryz.prog 241 [.d p.d,.ptr 0 0 1,.ptr 1 0 1] [.c [.d (.i .i64 s)],.c [.d (.i .i64 c)]] (.d (.b (Je s c p))) [.c [.d (.i .i64 s)],.c [.d (.i .i64 c)]]:=by
 refine zD A6 Tryz.func241 ?_;unfold Past.d Past.cells;have hI : Je s c p = (decide (p.src = s) && decide (p.call = c)):=rfl;generalize Je s c p = q at *
 by_cases h1 : p.src = s
 ·have f1 : (p.src == s) = true:=by simp [h1]
  by_cases h2 : p.call = c
  ·have f2 : (p.call == c) = true:=by simp [h2]
   have e : q = true:=by rw [hI];simp [h1,h2]
   subst e;refine wk [0,1,2,3,4] [] (Aj f1 f2) A0 ?_;exact ⟨⟨[(4,.d (.b true))],[.c [.d (.i .i64 s)],.c [.d (.i .i64 c)]],_⟩,(A3.ck rfl),Nat.le_refl _,_,_,rfl,rfl,rfl,rfl⟩
  ·have f2 : (p.call == c) = false:=by simp [h2]
   have e : q = false:=by rw [hI];simp [h2]
   subst e;refine wk [0,1,2,3,4] [] (Aj f1 f2) A0 ?_;exact ⟨⟨[(4,.d (.b false))],[.c [.d (.i .i64 s)],.c [.d (.i .i64 c)]],_⟩,(A3.ck rfl),Nat.le_refl _,_,_,rfl,rfl,rfl,rfl⟩
 ·have f1 : (p.src == s) = false:=by simp [h1]
  have e : q = false:=by rw [hI];simp [h1]
  subst e;refine wk [0,1,2,3,4] [] (AF f1) A0 ?_;exact ⟨⟨[(4,.d (.b false))],[.c [.d (.i .i64 s)],.c [.d (.i .i64 c)]],_⟩,(A3.ck rfl),Nat.le_refl _,_,_,rfl,rfl,rfl,rfl⟩
def NP (l : List Past) (s c : Int) : Int:=match l.findIdx? (Je s c) with
 | some n => (n : Int)
 | none => -1
theorem Lw {α : Type} {p : α → Bool} {l : List α} {k : Nat} {x : α} (hx : l[k]? = some x) (h : p x = true) (hn : (l.take k).any p = false) : l.findIdx? p = some k:=by
 rw [List.findIdx?_eq_some_iff_getElem];obtain ⟨hk,hv⟩:=List.getElem?_eq_some_iff.1 hx;refine ⟨hk,by rw [hv];exact h,fun j hj => ?_⟩;rw [List.any_eq_false] at hn;exact hn _ (List.mem_iff_getElem?.2 ⟨j,by rw [List.getElem?_take,if_pos hj];exact List.getElem?_eq_getElem _⟩)
variable {l : List Past}
theorem dI {s c : Int} {k : Nat} {x : Past} (hx : l[k]? = some x) (h : Je s c x = true) (hn : (l.take k).any (Je s c) = false) : NP l s c = k:=by
 unfold NP;rw [Lw hx h hn]
theorem VM {s c : Int} (hn : l.any (Je s c) = false) : NP l s c = -1:=by
 unfold NP
 have : l.findIdx? (Je s c) = none:=by
  rw [List.findIdx?_eq_none_iff];rw [List.any_eq_false] at hn;intro x hx;simpa using hn x hx
 rw [this]
theorem dJ (l : List Past) (s c : Int) : decide (NP l s c ≥ 0) = l.any (Je s c):=by
 cases h : l.any (Je s c) with
 | false => rw [VM h];rfl
 | true =>
  obtain ⟨x,hx,hp⟩:=List.any_eq_true.1 h
  have : l.findIdx? (Je s c) ≠ none:=by
   rw [Ne,List.findIdx?_eq_none_iff];intro hh;have:=hh x hx;rw [hp] at this;cases this
  unfold NP;split
  ·exact decide_eq_true (by omega)
  ·contradiction
theorem ZU (l : List Past) (s c : Int) (hn : l.length ≤ 9223372036854775807) : Ao Tryz.prog 164 [.d (AO l),.fn (.func 241) [] [.ptr 0 0 1,.ptr 1 0 1]] [.c [.d (.i .i64 s)],.c [.d (.i .i64 c)]] (.d (.i .i64 (NP l s c))) [.c [.d (.i .i64 s)],.c [.d (.i .i64 c)]]:=by
 refine Ao.drop (K:=[.c [.d (.i .i64 s)],.c [.d (.i .i64 c)],.gone,.c [.d (.i .i64 (NP l s c))]]) _ ?_ ⟨.inr rfl,.inr rfl,trivial⟩ rfl rfl rfl;refine zD A6 Tryz.func164 ?_;have d1:=Ds.mk [] (O4 l);refine wk EV [] A0 A0 ?_;clear d1
 refine zG (K:=fun r _ H' => (l.any (Je s c) = false ∧ H' = [.c [.d (.i .i64 s)],.c [.d (.i .i64 c)],.c [.fn (.func 241) [] [.ptr 0 0 1,.ptr 1 0 1]],.c [.d (.i .i64 0)],.c [.d (AO l)],.lp r]) ∨
  (∃ k : Nat,NP l s c = k ∧ H' = [.c [.d (.i .i64 s)],.c [.d (.i .i64 c)],.c [.fn (.func 241) [] [.ptr 0 0 1,.ptr 1 0 1]],.c [.d (.i .i64 k)],.c [.d (AO l)],.lp (r.left .ret)])) ?_ ?_
 ·intro r hr;refine zT A6 Tryz.func234 ?_;refine wk JP [] A0 A0 ?_;have hk:=hr.ok (k:=5) rfl;refine Cz (fun k => k ≤ l.length ∧ (l.take k).any (Je s c) = false) (fun k : Nat => [(7,.d (.i .i64 k))]) (fun k => l.length - k) 0 ⟨Nat.zero_le _,rfl⟩ (fun _ => rfl) ?_ ?_
  ·exact A3.ck rfl
  rintro k ⟨hkk,hpre⟩
  by_cases hkl : k < l.length
  ·obtain ⟨x,hx⟩:=Aa hkl;have c1:=it x s c;have hA:=Fl (p:=Je s c) hx;rw [hpre,Bool.false_or] at hA;unfold Past.d Past.cells at c1
   cases hb : Je s c x with
   | true =>
    rw [hb] at c1
    have hY : YT Tryz.prog 5 [.d (.i .i64 k),.d (.agg [.i .i64 x.src,.i .i64 x.call,.i .u8 x.told.kind,.i .i64 x.told.call,.i .i64 x.told.src,.i .i64 x.told.dst,.i .i64 x.told.key,.b x.told.slow,.b x.told.done,.i .i64 x.told.place,.i .i64 x.told.pred,.is x.told.list,.s x.told.item.key,.i .i64 x.told.item.value,.i .i64 x.told.item.version,.b x.told.item.gone,.i .i64 x.told.code])] [.c [.d (.i .i64 s)],.c [.d (.i .i64 c)],.c [.fn (.func 241) [] [.ptr 0 0 1,.ptr 1 0 1]],.c [.d (.i .i64 0)],.c [.d (AO l)],.lp r,.c [.d (.i .i64 x.src),.d (.i .i64 x.call),.d (.i .u8 x.told.kind),.d (.i .i64 x.told.call),.d (.i .i64 x.told.src),.d (.i .i64 x.told.dst),.d (.i .i64 x.told.key),.d (.b x.told.slow),.d (.b x.told.done),.d (.i .i64 x.told.place),.d (.i .i64 x.told.pred),.d (.is x.told.list),.d (.s x.told.item.key),.d (.i .i64 x.told.item.value),.d (.i .i64 x.told.item.version),.d (.b x.told.item.gone),.d (.i .i64 x.told.code)]] fun v K => v = .d (.b false) ∧ K = [.c [.d (.i .i64 s)],.c [.d (.i .i64 c)],.c [.fn (.func 241) [] [.ptr 0 0 1,.ptr 1 0 1]],.c [.d (.i .i64 k)],.c [.d (AO l)],.lp (r.left .ret),.c [.d (.i .i64 x.src),.d (.i .i64 x.call),.d (.i .u8 x.told.kind),.d (.i .i64 x.told.call),.d (.i .i64 x.told.src),.d (.i .i64 x.told.dst),.d (.i .i64 x.told.key),.d (.b x.told.slow),.d (.b x.told.done),.d (.i .i64 x.told.place),.d (.i .i64 x.told.pred),.d (.is x.told.list),.d (.s x.told.item.key),.d (.i .i64 x.told.item.value),.d (.i .i64 x.told.item.version),.d (.b x.told.item.gone),.d (.i .i64 x.told.code)]]:=by
     refine Az hr rfl rfl rfl ?_;refine wk EV [] A0 A0 ?_;refine zR ?_;have d1:=Ds.mk [0,1] (c1);refine wk EV [] A0 A0 ?_;clear d1;exact ⟨⟨[],[.c [.d (.i .i64 s)],.c [.d (.i .i64 c)],.c [.fn (.func 241) [] [.ptr 0 0 1,.ptr 1 0 1]],.c [.d (.i .i64 k)],.c [.d (AO l)],.lp r.busy,.c [.d (.i .i64 x.src),.d (.i .i64 x.call),.d (.i .u8 x.told.kind),.d (.i .i64 x.told.call),.d (.i .i64 x.told.src),.d (.i .i64 x.told.dst),.d (.i .i64 x.told.key),.d (.b x.told.slow),.d (.b x.told.done),.d (.i .i64 x.told.place),.d (.i .i64 x.told.pred),.d (.is x.told.list),.d (.s x.told.item.key),.d (.i .i64 x.told.item.value),.d (.i .i64 x.told.item.version),.d (.b x.told.item.gone),.d (.i .i64 x.told.code)]],_⟩,(A3.ck rfl),Nat.le_refl _,rfl,rfl,rfl⟩
    have ix1:=hx;have q1:=@hY;refine wk JP [] A0 A0 ?_;clear q1 ix1;with_reducible repeat' first|constructor|intro hc;try simp only[AD] at hc
    exact ⟨⟨[],[.c [.d (.i .i64 s)],.c [.d (.i .i64 c)],.c [.fn (.func 241) [] [.ptr 0 0 1,.ptr 1 0 1]],.c [.d (.i .i64 k)],.c [.d (AO l)],.lp (r.left .ret)],_⟩,(A3.ck rfl),Nat.le_refl _,_,_,rfl,rfl,.inr ⟨k,dI hx hb hpre,rfl⟩⟩
   | false =>
    rw [hb] at c1
    have hY : YT Tryz.prog 5 [.d (.i .i64 k),.d (.agg [.i .i64 x.src,.i .i64 x.call,.i .u8 x.told.kind,.i .i64 x.told.call,.i .i64 x.told.src,.i .i64 x.told.dst,.i .i64 x.told.key,.b x.told.slow,.b x.told.done,.i .i64 x.told.place,.i .i64 x.told.pred,.is x.told.list,.s x.told.item.key,.i .i64 x.told.item.value,.i .i64 x.told.item.version,.b x.told.item.gone,.i .i64 x.told.code])] [.c [.d (.i .i64 s)],.c [.d (.i .i64 c)],.c [.fn (.func 241) [] [.ptr 0 0 1,.ptr 1 0 1]],.c [.d (.i .i64 0)],.c [.d (AO l)],.lp r,.c [.d (.i .i64 x.src),.d (.i .i64 x.call),.d (.i .u8 x.told.kind),.d (.i .i64 x.told.call),.d (.i .i64 x.told.src),.d (.i .i64 x.told.dst),.d (.i .i64 x.told.key),.d (.b x.told.slow),.d (.b x.told.done),.d (.i .i64 x.told.place),.d (.i .i64 x.told.pred),.d (.is x.told.list),.d (.s x.told.item.key),.d (.i .i64 x.told.item.value),.d (.i .i64 x.told.item.version),.d (.b x.told.item.gone),.d (.i .i64 x.told.code)]] fun v K => v = .d (.b true) ∧ K = [.c [.d (.i .i64 s)],.c [.d (.i .i64 c)],.c [.fn (.func 241) [] [.ptr 0 0 1,.ptr 1 0 1]],.c [.d (.i .i64 0)],.c [.d (AO l)],.lp r,.c [.d (.i .i64 x.src),.d (.i .i64 x.call),.d (.i .u8 x.told.kind),.d (.i .i64 x.told.call),.d (.i .i64 x.told.src),.d (.i .i64 x.told.dst),.d (.i .i64 x.told.key),.d (.b x.told.slow),.d (.b x.told.done),.d (.i .i64 x.told.place),.d (.i .i64 x.told.pred),.d (.is x.told.list),.d (.s x.told.item.key),.d (.i .i64 x.told.item.value),.d (.i .i64 x.told.item.version),.d (.b x.told.item.gone),.d (.i .i64 x.told.code)]]:=by
     refine Az hr rfl rfl rfl ?_;refine wk EV [] A0 A0 ?_;refine zR ?_;have d1:=Ds.mk [0,1] (c1);refine wk EV [] A0 A0 ?_;clear d1;exact ⟨⟨[],[.c [.d (.i .i64 s)],.c [.d (.i .i64 c)],.c [.fn (.func 241) [] [.ptr 0 0 1,.ptr 1 0 1]],.c [.d (.i .i64 0)],.c [.d (AO l)],.lp r.busy,.c [.d (.i .i64 x.src),.d (.i .i64 x.call),.d (.i .u8 x.told.kind),.d (.i .i64 x.told.call),.d (.i .i64 x.told.src),.d (.i .i64 x.told.dst),.d (.i .i64 x.told.key),.d (.b x.told.slow),.d (.b x.told.done),.d (.i .i64 x.told.place),.d (.i .i64 x.told.pred),.d (.is x.told.list),.d (.s x.told.item.key),.d (.i .i64 x.told.item.value),.d (.i .i64 x.told.item.version),.d (.b x.told.item.gone),.d (.i .i64 x.told.code)]],_⟩,(A3.ck rfl),Nat.le_refl _,rfl,rfl,rfl⟩
    have ix1:=hx;have q1:=@hY;refine wk JP [] A0 A0 ?_;clear q1 ix1;with_reducible repeat' first|constructor|intro hc;try simp only[AD] at hc
    refine ⟨k + 1,⟨hkl,by rw [hA,hb]⟩,by omega,Nat.le_refl _,?_⟩;exact A3.ck rfl
  ·have e : k = l.length:=by omega
   subst e;rw [List.take_length] at hpre;refine wk JP [] A0 A0 ?_;with_reducible repeat' first|constructor|intro hc;try simp only[AD] at hc
   exact ⟨_,A3.refl _,Nat.le_refl _,_,_,rfl,rfl,.inl ⟨hpre,rfl⟩⟩
 ·rintro r hr y H' (⟨h,rfl⟩ | ⟨k,h,rfl⟩)
  ·refine .inl ⟨rfl,?_⟩;rw [VM h];refine wk EV [] A0 A0 ?_;exact ⟨⟨[(4,.ptr 3 0 1)],[.c [.d (.i .i64 s)],.c [.d (.i .i64 c)],.gone,.c [.d (.i .i64 (-1))]],_⟩,(A3.ck rfl),Nat.le_of_ble_eq_true rfl,_,_,rfl,rfl,rfl,rfl⟩
  ·refine .inr ⟨.ret,rfl,?_⟩;rw [h];refine wk EV [] A0 A0 ?_;exact ⟨⟨[(4,.ptr 3 0 1)],[.c [.d (.i .i64 s)],.c [.d (.i .i64 c)],.gone,.c [.d (.i .i64 k)]],_⟩,(A3.ck rfl),Nat.le_of_ble_eq_true rfl,_,_,rfl,rfl,rfl,rfl⟩
abbrev BO : List Nat:=[0,1,2,3,4,7,9,10,11,20,34,44]
abbrev JQ : List Nat:=[0,1,3,4,5,6,7,8,16]
theorem eK (l : List Past) (hl : ∀ x ∈ l,C3 x.told) (hn : l.length ≤ 9223372036854775807) : Go.Gar.Fn Tryz.prog 101 [AO l] (.b (FB l)):=by
 refine zF A6 Tryz.func101 ?_
 by_cases h40 : l.length > 40
 ·have f1 : decide ((l.length : Int) > 40) = true:=decide_eq_true (by omega);have hT : FB l = false:=by unfold FB;rw [decide_eq_false (by omega)];rfl
  refine wd BO [] [] (AF f1) A0 ?_;refine ⟨_,_,rfl,rfl,?_⟩;simp [AR,AB,A7,A4,hT]
 have f1 : decide ((l.length : Int) > 40) = false:=decide_eq_false (by omega);have hT : FB l = Ez l.length (Di l):=by unfold FB;rw [decide_eq_true (by omega)];rfl
 have d1:=Ds.mk [] (O4 l);refine wd BO [] [] (AF f1) A0 ?_;clear d1
 refine zG (K:=fun r _ H' => (Ez l.length (Di l) = true ∧ H' = [.c [.d (AO l)],.c [.d (.b false)],.c [.d (AO l)],.lp r]) ∨
  (Ez l.length (Di l) = false ∧ H' = [.c [.d (AO l)],.c [.d (.b false)],.c [.d (AO l)],.lp (r.left .ret)])) ?_ ?_
 ·intro r hr;refine zT A6 Tryz.func234 ?_;refine wk JQ [] A0 A0 ?_;have hk:=hr.ok (k:=3) rfl;refine Cz (fun k => k ≤ l.length ∧ Ez k (Di l) = true) (fun k : Nat => [(7,.d (.i .i64 k))]) (fun k => l.length - k) 0 ⟨Nat.zero_le _,rfl⟩ (fun _ => rfl) ?_ ?_
  ·exact A3.ck rfl
  rintro k ⟨hkk,hpre⟩
  by_cases hkl : k < l.length
  ·obtain ⟨x,hx⟩:=Aa hkl;have gx : l.getD k PT = x:=getD_at hx;have hlx:=hl x (List.mem_of_getElem? hx);have hK : Di l k = ((x.told.right && (!x.told.asks && (decide (x.told.dst = x.src) && decide (x.told.call = x.call)))) && !(decide (NP (l.take k) x.src x.call ≥ 0))):=by unfold Di Jz;rw [gx,dJ]
   have c1:=Wi.Ff x.told (lm hlx);have c2:=Wi.Ki x.told;have d1:=lM x.src x.call;have d2:=ZU (l.take k) x.src x.call (by rw [List.length_take];omega);have e1 : List.take k (List.map Past.cells l) = List.map Past.cells (List.take k l):=(List.map_take ..).symm;unfold A8.d A8.cells at c1 c2;generalize NP (l.take k) x.src x.call = fi at *
   have hY : YT Tryz.prog 3 [.d (.i .i64 k),.d (.agg [.i .i64 x.src,.i .i64 x.call,.i .u8 x.told.kind,.i .i64 x.told.call,.i .i64 x.told.src,.i .i64 x.told.dst,.i .i64 x.told.key,.b x.told.slow,.b x.told.done,.i .i64 x.told.place,.i .i64 x.told.pred,.is x.told.list,.s x.told.item.key,.i .i64 x.told.item.value,.i .i64 x.told.item.version,.b x.told.item.gone,.i .i64 x.told.code])] [.c [.d (AO l)],.c [.d (.b false)],.c [.d (AO l)],.lp r,.c [.d (.i .i64 x.src),.d (.i .i64 x.call),.d (.i .u8 x.told.kind),.d (.i .i64 x.told.call),.d (.i .i64 x.told.src),.d (.i .i64 x.told.dst),.d (.i .i64 x.told.key),.d (.b x.told.slow),.d (.b x.told.done),.d (.i .i64 x.told.place),.d (.i .i64 x.told.pred),.d (.is x.told.list),.d (.s x.told.item.key),.d (.i .i64 x.told.item.value),.d (.i .i64 x.told.item.version),.d (.b x.told.item.gone),.d (.i .i64 x.told.code)]] fun v K => v = .d (.b (Di l k)) ∧ K = if Di l k then [.c [.d (AO l)],.c [.d (.b false)],.c [.d (AO l)],.lp r,.c [.d (.i .i64 x.src),.d (.i .i64 x.call),.d (.i .u8 x.told.kind),.d (.i .i64 x.told.call),.d (.i .i64 x.told.src),.d (.i .i64 x.told.dst),.d (.i .i64 x.told.key),.d (.b x.told.slow),.d (.b x.told.done),.d (.i .i64 x.told.place),.d (.i .i64 x.told.pred),.d (.is x.told.list),.d (.s x.told.item.key),.d (.i .i64 x.told.item.value),.d (.i .i64 x.told.item.version),.d (.b x.told.item.gone),.d (.i .i64 x.told.code)]] else [.c [.d (AO l)],.c [.d (.b false)],.c [.d (AO l)],.lp (r.left .ret),.c [.d (.i .i64 x.src),.d (.i .i64 x.call),.d (.i .u8 x.told.kind),.d (.i .i64 x.told.call),.d (.i .i64 x.told.src),.d (.i .i64 x.told.dst),.d (.i .i64 x.told.key),.d (.b x.told.slow),.d (.b x.told.done),.d (.i .i64 x.told.place),.d (.i .i64 x.told.pred),.d (.is x.told.list),.d (.s x.told.item.key),.d (.i .i64 x.told.item.value),.d (.i .i64 x.told.item.version),.d (.b x.told.item.gone),.d (.i .i64 x.told.code)]]:=by
    refine Az hr rfl rfl rfl ?_;rw [hK];generalize x.told.right = rr at *;generalize x.told.asks = aa at *;clear hK;cases rr
    ·refine wd BO [] [] A0 A0 ?_;refine zR ?_;refine wd BO [] [] A0 (AF @c1) ?_;exact ⟨⟨[],[.c [.d (AO l)],.c [.d (.b false)],.c [.d (AO l)],.lp r.busy,.c [.d (.i .i64 x.src),.d (.i .i64 x.call),.d (.i .u8 x.told.kind),.d (.i .i64 x.told.call),.d (.i .i64 x.told.src),.d (.i .i64 x.told.dst),.d (.i .i64 x.told.key),.d (.b x.told.slow),.d (.b x.told.done),.d (.i .i64 x.told.place),.d (.i .i64 x.told.pred),.d (.is x.told.list),.d (.s x.told.item.key),.d (.i .i64 x.told.item.value),.d (.i .i64 x.told.item.version),.d (.b x.told.item.gone),.d (.i .i64 x.told.code)]],_⟩,(A3.ck rfl),Nat.le_refl _,rfl,rfl,rfl⟩
    cases aa
    ·by_cases h1 : x.told.dst = x.src
     ·have f2 : (x.told.dst != x.src) = false:=CI h1
      by_cases h2 : x.told.call = x.call
      ·have f3 : (x.told.call != x.call) = false:=CI h2;rw [decide_eq_true h1,decide_eq_true h2]
       by_cases h3 : fi ≥ 0
       ·have f4 : decide (fi ≥ 0) = true:=decide_eq_true h3;rw [f4];refine wd BO [] [] A0 A0 ?_;refine zR ?_;have d1:=Ds.mk [] (d1);have d2:=Ds.mk [6,7] (d2);refine wd BO [] [(0,7)] (M9 f2 f3 f4 e1) (Aj @c1 @c2) ?_;clear d2 d1;exact ⟨⟨[],[.c [.d (AO l)],.c [.d (.b false)],.c [.d (AO l)],.lp r.busy,.c [.d (.i .i64 x.src),.d (.i .i64 x.call),.d (.i .u8 x.told.kind),.d (.i .i64 x.told.call),.d (.i .i64 x.told.src),.d (.i .i64 x.told.dst),.d (.i .i64 x.told.key),.d (.b x.told.slow),.d (.b x.told.done),.d (.i .i64 x.told.place),.d (.i .i64 x.told.pred),.d (.is x.told.list),.d (.s x.told.item.key),.d (.i .i64 x.told.item.value),.d (.i .i64 x.told.item.version),.d (.b x.told.item.gone),.d (.i .i64 x.told.code)]],_⟩,(A3.ck rfl),Nat.le_refl _,rfl,rfl,rfl⟩
       ·have f4 : decide (fi ≥ 0) = false:=decide_eq_false h3;rw [f4];refine wd BO [] [] A0 A0 ?_;refine zR ?_;have d1:=Ds.mk [] (d1);have d2:=Ds.mk [6,7] (d2);refine wd BO [] [(0,7)] (M9 f2 f3 f4 e1) (Aj @c1 @c2) ?_;clear d2 d1;exact ⟨⟨[],[.c [.d (AO l)],.c [.d (.b false)],.c [.d (AO l)],.lp r.busy,.c [.d (.i .i64 x.src),.d (.i .i64 x.call),.d (.i .u8 x.told.kind),.d (.i .i64 x.told.call),.d (.i .i64 x.told.src),.d (.i .i64 x.told.dst),.d (.i .i64 x.told.key),.d (.b x.told.slow),.d (.b x.told.done),.d (.i .i64 x.told.place),.d (.i .i64 x.told.pred),.d (.is x.told.list),.d (.s x.told.item.key),.d (.i .i64 x.told.item.value),.d (.i .i64 x.told.item.version),.d (.b x.told.item.gone),.d (.i .i64 x.told.code)]],_⟩,(A3.ck rfl),Nat.le_refl _,rfl,rfl,rfl⟩
      ·have f3 : (x.told.call != x.call) = true:=CJ h2;rw [decide_eq_true h1,decide_eq_false h2];refine wd BO [] [] A0 A0 ?_;refine zR ?_;refine wd BO [] [] (Aj f2 f3) (Aj @c1 @c2) ?_;exact ⟨⟨[],[.c [.d (AO l)],.c [.d (.b false)],.c [.d (AO l)],.lp r.busy,.c [.d (.i .i64 x.src),.d (.i .i64 x.call),.d (.i .u8 x.told.kind),.d (.i .i64 x.told.call),.d (.i .i64 x.told.src),.d (.i .i64 x.told.dst),.d (.i .i64 x.told.key),.d (.b x.told.slow),.d (.b x.told.done),.d (.i .i64 x.told.place),.d (.i .i64 x.told.pred),.d (.is x.told.list),.d (.s x.told.item.key),.d (.i .i64 x.told.item.value),.d (.i .i64 x.told.item.version),.d (.b x.told.item.gone),.d (.i .i64 x.told.code)]],_⟩,(A3.ck rfl),Nat.le_refl _,rfl,rfl,rfl⟩
     ·have f2 : (x.told.dst != x.src) = true:=CJ h1;rw [decide_eq_false h1];refine wd BO [] [] A0 A0 ?_;refine zR ?_;refine wd BO [] [] (AF f2) (Aj @c1 @c2) ?_;exact ⟨⟨[],[.c [.d (AO l)],.c [.d (.b false)],.c [.d (AO l)],.lp r.busy,.c [.d (.i .i64 x.src),.d (.i .i64 x.call),.d (.i .u8 x.told.kind),.d (.i .i64 x.told.call),.d (.i .i64 x.told.src),.d (.i .i64 x.told.dst),.d (.i .i64 x.told.key),.d (.b x.told.slow),.d (.b x.told.done),.d (.i .i64 x.told.place),.d (.i .i64 x.told.pred),.d (.is x.told.list),.d (.s x.told.item.key),.d (.i .i64 x.told.item.value),.d (.i .i64 x.told.item.version),.d (.b x.told.item.gone),.d (.i .i64 x.told.code)]],_⟩,(A3.ck rfl),Nat.le_refl _,rfl,rfl,rfl⟩
    ·refine wd BO [] [] A0 A0 ?_;refine zR ?_;refine wd BO [] [] A0 (Aj @c1 @c2) ?_;exact ⟨⟨[],[.c [.d (AO l)],.c [.d (.b false)],.c [.d (AO l)],.lp r.busy,.c [.d (.i .i64 x.src),.d (.i .i64 x.call),.d (.i .u8 x.told.kind),.d (.i .i64 x.told.call),.d (.i .i64 x.told.src),.d (.i .i64 x.told.dst),.d (.i .i64 x.told.key),.d (.b x.told.slow),.d (.b x.told.done),.d (.i .i64 x.told.place),.d (.i .i64 x.told.pred),.d (.is x.told.list),.d (.s x.told.item.key),.d (.i .i64 x.told.item.value),.d (.i .i64 x.told.item.version),.d (.b x.told.item.gone),.d (.i .i64 x.told.code)]],_⟩,(A3.ck rfl),Nat.le_refl _,rfl,rfl,rfl⟩
   cases hb : Di l k with
   | true =>
    rw [hb] at hY;have ix1:=hx;have q1:=@hY;refine wk JQ [] A0 A0 ?_;clear q1 ix1;with_reducible repeat' first|constructor|intro hc;try simp only[AD] at hc
    refine ⟨k + 1,⟨hkl,Du hpre hb⟩,by omega,Nat.le_refl _,?_⟩;exact A3.ck rfl
   | false =>
    rw [hb] at hY;have ix1:=hx;have q1:=@hY;refine wk JQ [] A0 A0 ?_;clear q1 ix1;with_reducible repeat' first|constructor|intro hc;try simp only[AD] at hc
    exact ⟨⟨[],[.c [.d (AO l)],.c [.d (.b false)],.c [.d (AO l)],.lp (r.left .ret)],_⟩,(A3.ck rfl),Nat.le_refl _,_,_,rfl,rfl,.inr ⟨Fj hkl hb,rfl⟩⟩
  ·have e : k = l.length:=by omega
   subst e;refine wk JQ [] A0 A0 ?_;with_reducible repeat' first|constructor|intro hc;try simp only[AD] at hc
   exact ⟨_,A3.refl _,Nat.le_refl _,_,_,rfl,rfl,.inl ⟨hpre,rfl⟩⟩
 ·rintro r hr y H' (⟨h,rfl⟩ | ⟨h,rfl⟩)
  ·refine .inl ⟨rfl,?_⟩;rw [h] at hT;refine wd BO [] [] A0 A0 ?_;refine ⟨_,_,rfl,rfl,?_⟩;simp [AR,AB,A7,A4,hT]
  ·refine .inr ⟨.ret,rfl,?_⟩;rw [h] at hT;refine wd BO [] [] A0 A0 ?_;refine ⟨_,_,rfl,rfl,?_⟩;simp [AR,AB,A7,A4,hT]
end Nd
end Go.Proofs.YtkljbfejbakooaaGreatDoor
