/- Part 25 of the texts of this proof, put together by a program and made short.
Conditions: none; what each theorem asks stands in its own hypotheses. -/
import Derived.Test.YtagnjflbhjmefaaGreatRb19
import Derived.Test.YtagnjflbhjmefaaGreatRb24
import Derived.Sort.Walk0
import Derived.KernelRfl
import Derived.RangeFuncIn
import Derived.Sort.Grow
import Derived.Laws.Cover3
import Derived.RecoverIn
import Derived.ProofKit
import Derived.OpenShut
import Derived.CallsIn
import Derived.RangeFuncLeaves
import Derived.OrdersIn
import Derived.TacticsIn
import Derived.ChangeKeysEq
import Derived.Laws.AppendOwn
import Derived.Laws.OwnMore
import Derived.Laws.MakeOwn
import Derived.Laws.Rows
import Derived.Laws.Cells
import Derived.Laws.Tables
import Derived.Laws.CopyRow
import Derived.Laws.Strings
import Derived.Laws.IdiomStrings
import Derived.Laws.BytesArg
import Derived.Test.YtagnjflbhjmefaaGreatProg
set_option linter.unusedSimpArgs false
set_option linter.unusedVariables false
set_option linter.unnecessarySimpa false
set_option maxHeartbeats 40000000
namespace Go.Proofs.YtagnjflbhjmefaaGreat
namespace Nd
open Go.Gar
open Wi (AE Az B7)
set_option maxRecDepth 4000
theorem L8 {α : Type} {p : α → Bool} {l : List α} {k : Nat} {x : α} (hx : l[k]? = some x) (h : p x = false) : l.all p = false:=by
 rw [List.all_eq_false];exact ⟨x,List.mem_of_getElem? hx,by rw [h];decide⟩
theorem I0 {α : Type} {p : α → Bool} {l : List α} {k : Nat} {x : α} (hx : l[k]? = some x) (hp : (l.take k).all p = true) (h : p x = true) : (l.take (k + 1)).all p = true:=by
 rw [AR hx,List.all_append,hp];simp [h]
theorem OJ (l : List Node) (p : Int) : decide (CN (Do p) l < 0) = !(AZ l p):=by
 have:=E8 (Do p) l
 unfold AZ
 rw [← this]
 by_cases h : CN (Do p) l ≥ 0
 ·rw [decide_eq_true h,decide_eq_false (by omega)];rfl
 ·rw [decide_eq_false h,decide_eq_true (by omega)];rfl
theorem DN (c : AD) (h : I7 c) : Go.Gar.Fn Tryz.prog 28 [c.d] (.b (AN c)):=by
 have cp:=RI c h.nl
 have cr:=IU (ids c.nodes) (by unfold ids;rw [List.length_map];have:=h.nl;omega)
 have cb:=IU c.base (by have:=h.bl;omega)
 have cf:=fun p => KQ c p (by have:=h.nl;omega)
 obtain ⟨nodes,gone,base,grams,lost⟩:=c
 obtain ⟨hnl,hnn,hgl,hbl,hll⟩:=h
 simp only at *
 refine A3 A8 Tryz.func28 rfl rfl (Nat.le_of_ble_eq_true rfl) ?_
 unfold AD.d AD.cells at *
 simp only at *
 have hH : OB ⟨nodes,gone,base,grams,lost⟩ = (decide (2 ≤ base.length) && (decide (base.length ≤ 4) && (En base && (decide (nodes.length ≤ 12) && (En (ids nodes) && (decide (gone.length ≤ 1000) && decide (grams.length ≤ 400))))))):=rfl
 cases hh : OB ⟨nodes,gone,base,grams,lost⟩ with
 | false =>
  have hT : AN ⟨nodes,gone,base,grams,lost⟩ = false:=by unfold AN;rw [hh];rfl
  rw [hh] at hH
  rw [hT]
  clear hT hh cf hnn
  generalize En base = r1 at *
  generalize En (ids nodes) = r2 at *
  have nS:=True.intro;obtain ⟨lv,st,ns,nc⟩:=wq [0,1,2,3,4,5,46,51,73,78,88,93,124] [];have c1:=@cb;have c2:=@cp;have c3:=@cr;have pr : AC []:=trivial;refine wd ?_;clear nc ns st lv pr c3 c2 c1;repeat' (first|with_reducible constructor|(with_reducible intro hc;try simp only[A1] at hc))
  all_goals first
   | (refine ⟨_,_,rfl,rfl,?_⟩;simp only [Ao];done)
   | (exfalso;clear cb cp cr;grind)
 | true =>
 have hT : AN ⟨nodes,gone,base,grams,lost⟩ = (nodes.all (GG ⟨nodes,gone,base,grams,lost⟩) && (base.all (AZ nodes) && Ba gone.length (Nf ⟨nodes,gone,base,grams,lost⟩))):=by unfold AN;rw [hh];rfl
 rw [hh] at hH
 replace hH:=hH.symm
 simp only [Bool.and_eq_true,decide_eq_true_eq] at hH
 obtain ⟨h1,h2,h3,h4,h5,h6,h7⟩:=hH
 rw [h3] at cb
 rw [h5] at cr
 have f1 : decide ((base.length : Int) < 2) = false:=decide_eq_false (by omega)
 have f2 : decide ((base.length : Int) > 4) = false:=decide_eq_false (by omega)
 have f3 : decide ((nodes.length : Int) > 12) = false:=decide_eq_false (by omega)
 have f4 : decide ((gone.length : Int) > 1000) = false:=decide_eq_false (by omega)
 have f5 : decide ((grams.length : Int) > 400) = false:=decide_eq_false (by omega)
 clear hh
 have nS:=And.intro f1 (And.intro f2 (And.intro f3 (And.intro f4 f5)));obtain ⟨lv,st,ns,nc⟩:=wq [0,1,2,3,4,5,46,51,73,78,88,93,124] [];have c1:=@cb;have c2:=@cp;have c3:=@cr;have pr : AC []:=trivial;refine wd ?_;clear nc ns st lv pr c3 c2 c1;repeat' (first|with_reducible constructor|(with_reducible intro hc;try simp only[A1] at hc))
 refine AS (fun k => k ≤ nodes.length ∧ (nodes.take k).all (GG ⟨nodes,gone,base,grams,lost⟩) = true) (fun k : Nat => [(3,.d (.i .i64 k))]) (fun k => nodes.length - k) 0 ⟨Nat.zero_le _,rfl⟩ (fun _ => rfl) ?_ ?_
 ·exact A0.ck rfl
 rintro k ⟨hk,hpre⟩
 by_cases hkl : k < nodes.length
 ·obtain ⟨x,hx⟩:=AG hkl
  have hxo:=hnn x (List.mem_of_getElem? hx)
  have c1:=Rb x hxo
  have c2:=SP x.view.base base (by have:=hxo.vb;omega)
  have hK : GG ⟨nodes,gone,base,grams,lost⟩ x = (Cb x && decide (x.view.base = base)):=rfl
  generalize Cb x = ok at *
  generalize decide (x.view.base = base) = eq at *
  have nS:=True.intro;obtain ⟨lv,st,ns,nc⟩:=wq [0,1,2,3,4,5,46,51,73,78,88,93,124] [];have ix1:=hx;have c1:=@c1;have c2:=@c2;have pr : AC []:=trivial;refine wd ?_;clear nc ns st lv pr c2 c1 ix1;repeat' (first|with_reducible constructor|(with_reducible intro hc;try simp only[A1] at hc))
  all_goals clear c1 c2 cb cp cr cf hnn
  all_goals first
   | (refine ⟨k + 1,⟨hkl,I0 hx hpre (by rw [hK];grind)⟩,by omega,Nat.le_refl _,?_⟩
      exact A0.ck rfl)
   | (refine ⟨_,_,rfl,rfl,?_⟩;simp only [Ao];rw [hT,L8 hx (by rw [hK];grind)];rfl)
 have e : k = nodes.length:=by omega
 subst e
 rw [List.take_length] at hpre
 rw [hpre,Bool.true_and] at hT
 have nS:=True.intro;obtain ⟨lv,st,ns,nc⟩:=wq [0,1,2,3,4,5,46,51,73,78,88,93,124] [];have pr : AC []:=trivial;refine wd ?_;clear nc ns st lv pr;repeat' (first|with_reducible constructor|(with_reducible intro hc;try simp only[A1] at hc))
 refine AS (fun k => k ≤ base.length ∧ (base.take k).all (AZ nodes) = true) (fun k : Nat => [(4,.d (.i .i64 k))]) (fun k => base.length - k) 0 ⟨Nat.zero_le _,rfl⟩ (fun _ => rfl) ?_ ?_
 ·exact A0.ck rfl
 rintro k ⟨hk,hpre⟩
 by_cases hkl : k < base.length
 ·obtain ⟨x,hx⟩:=AG hkl
  have gx:=AY hx
  have c1:=cf x
  have f6:=OJ nodes x
  generalize CN (Do x) nodes = z at *
  cases hb : AZ nodes x with
  | true =>
   rw [hb] at f6
   have nS:=And.intro gx f6;obtain ⟨lv,st,ns,nc⟩:=wq [0,1,2,3,4,5,46,51,73,78,88,93,124] [];have c1:=@c1;have pr : AC []:=trivial;refine wd ?_;clear nc ns st lv pr c1;repeat' (first|with_reducible constructor|(with_reducible intro hc;try simp only[A1] at hc))
   refine ⟨k + 1,⟨hkl,I0 hx hpre hb⟩,by omega,Nat.le_refl _,?_⟩
   exact A0.ck rfl
  | false =>
   rw [hb] at f6
   have nS:=And.intro gx f6;obtain ⟨lv,st,ns,nc⟩:=wq [0,1,2,3,4,5,46,51,73,78,88,93,124] [];have c1:=@c1;have pr : AC []:=trivial;refine wd ?_;clear nc ns st lv pr c1;repeat' (first|with_reducible constructor|(with_reducible intro hc;try simp only[A1] at hc))
   refine ⟨_,_,rfl,rfl,?_⟩
   simp only [Ao];rw [hT,L8 hx hb];rfl
 have e : k = base.length:=by omega
 subst e
 rw [List.take_length] at hpre
 rw [hpre,Bool.true_and] at hT
 have nS:=True.intro;obtain ⟨lv,st,ns,nc⟩:=wq [0,1,2,3,4,5,46,51,73,78,88,93,124] [];have pr : AC []:=trivial;refine wd ?_;clear nc ns st lv pr;repeat' (first|with_reducible constructor|(with_reducible intro hc;try simp only[A1] at hc))
 refine AS (fun k => k ≤ gone.length ∧ Ba k (Nf ⟨nodes,gone,base,grams,lost⟩) = true) (fun k : Nat => [(5,.d (.i .i64 k))]) (fun k => gone.length - k) 0 ⟨Nat.zero_le _,rfl⟩ (fun _ => rfl) ?_ ?_
 ·exact A0.ck rfl
 rintro k ⟨hk,hpre⟩
 by_cases hkl : k < gone.length
 ·obtain ⟨x,hx⟩:=AG hkl
  have gx:=AY hx
  have c1:=FF x
  have c2:=cf x
  have c3:=O8 (gone.take k) x (by rw [List.length_take];omega)
  have f6 : decide (CN (Do x) nodes ≥ 0) = AZ nodes x:=E8 (Do x) nodes
  have hK : Nf ⟨nodes,gone,base,grams,lost⟩ k = (Az x && (!(AZ nodes x) && !(decide (x ∈ gone.take k)))):=by
   show (Az (gone.getD k 0) && (!(AZ nodes (gone.getD k 0)) && !(decide (gone.getD k 0 ∈ gone.take k)))) = _
   rw [gx]
  generalize CN (Do x) nodes = z at *
  generalize Az x = p1 at *
  generalize AZ nodes x = p2 at *
  generalize decide (x ∈ gone.take k) = p3 at *
  have nS:=And.intro gx f6;obtain ⟨lv,st,ns,nc⟩:=wq [0,1,2,3,4,5,46,51,73,78,88,93,124] [];have c1:=@c1;have c2:=@c2;have c3:=@c3;have pr : AC []:=trivial;refine wd ?_;clear nc ns st lv pr c3 c2 c1;repeat' (first|with_reducible constructor|(with_reducible intro hc;try simp only[A1] at hc))
  all_goals clear c1 c2 c3 cb cp cr cf hnn
  all_goals first
   | (refine ⟨k + 1,⟨hkl,B6 hpre (by rw [hK];grind)⟩,by omega,Nat.le_refl _,?_⟩
      exact A0.ck rfl)
   | (refine ⟨_,_,rfl,rfl,?_⟩;simp only [Ao];rw [hT,C4 hkl (by rw [hK];grind)])
 have e : k = gone.length:=by omega
 subst e
 rw [hpre] at hT
 have nS:=True.intro;obtain ⟨lv,st,ns,nc⟩:=wq [0,1,2,3,4,5,46,51,73,78,88,93,124] [];have pr : AC []:=trivial;refine wd ?_;clear nc ns st lv pr;repeat' (first|with_reducible constructor|(with_reducible intro hc;try simp only[A1] at hc))
 refine ⟨_,_,rfl,rfl,?_⟩;simp [AH,A6,A5,A4,hT]
end Nd
end Go.Proofs.YtagnjflbhjmefaaGreat
