/- Part 53 of the texts of this proof, put together by a program and made short.
Conditions: none; what each theorem asks stands in its own hypotheses. -/
import Derived.Test.YtagnjflbhjmefaaGreatRb45
import Derived.Test.YtagnjflbhjmefaaGreatRb46
import Derived.Test.YtagnjflbhjmefaaGreatRb49
import Derived.Ground.NamesProg
import Derived.Shelf.Slices.In.SortAlone
import Derived.Shelf.Slices.In.SortNone
import Derived.Sort.Walk0
import Derived.KernelRfl
import Derived.RangeFuncIn
import Derived.Sort.Grow
import Derived.Laws.Cover3
import Derived.RecoverIn
import Derived.ProofKit
import Derived.OpenShut
import Derived.CallsIn
import Derived.RangeFuncLeaves
import Derived.OrdersIn
import Derived.TacticsIn
import Derived.ChangeKeysEq
import Derived.Laws.AppendOwn
import Derived.Laws.OwnMore
import Derived.Laws.MakeOwn
import Derived.Laws.Rows
import Derived.Laws.Cells
import Derived.Laws.Tables
import Derived.Laws.CopyRow
import Derived.Laws.Strings
import Derived.Laws.IdiomStrings
import Derived.Laws.BytesArg
import Derived.Test.YtagnjflbhjmefaaGreatProg
set_option linter.unusedSimpArgs false
set_option linter.unusedVariables false
set_option linter.unnecessarySimpa false
set_option maxHeartbeats 40000000
namespace Go.Proofs.YtagnjflbhjmefaaGreat
namespace Nd
open Go.Gar
open Wi (AE Az B7 BC)
set_option maxRecDepth 4000
theorem De {c : AD} {gs : List Bu} (h : Bq c gs = true) : AN c = true:=by
 unfold Bq at h
 rw [Bool.and_eq_true] at h
 exact h.1
theorem TN {c : AD} {gs : List Bu} (h : Bq c gs = true) {n : Node} (hn : n ∈ c.nodes) : Es n.view.id n.view.list c.base = false:=by
 unfold Bq at h
 simp only [Bool.and_eq_true,Bool.not_eq_true'] at h
 have:=List.any_eq_false.1 h.2.1 n hn
 unfold CG at this
 simp only [Bool.or_eq_true,not_or,Bool.not_eq_true] at this
 exact this.1
theorem WJ {x : Int} : ∀ (l : List Int) (f : Int),rT x f l = true → ∀ y ∈ l,Ay y = true
 | [],f,_,y,hy => by cases hy
 | a :: r,f,h,y,hy => by
  simp only [rT,Bool.and_eq_true,decide_eq_true_eq] at h
  rcases List.mem_cons.1 hy with rfl | hy
  ·exact h.1.1
  ·exact WJ r _ h.2 y hy
theorem M8 {x q : Int} {r : List Int} : ∀ (l : List Int) (f : Int),rT x f (l ++ q :: r) = true → ∀ y ∈ r,AK x y > AK x q
 | [],f,h,y,hy => by
  simp only [List.nil_append,rT,Bool.and_eq_true,decide_eq_true_eq] at h
  exact NM r _ h.2 y hy
 | a :: l,f,h,y,hy => by
  simp only [List.cons_append,rT,Bool.and_eq_true,decide_eq_true_eq] at h
  exact M8 l _ h.2 y hy
theorem FI {c : AD} {gs : List Bu} (h : Bq c gs = true) {p : Int} (hp : AZ c.nodes p = true) :
  AZ c.nodes (B2 c.nodes p).1 = true ∧ (B2 c.nodes p).1 ≠ p ∧ Ay p = true ∧ Ay (B2 c.nodes p).1 = true ∧ ∀ b ∈ c.base,b ≠ p → AK p (B2 c.nodes p).1 ≤ AK p b:=by
 have hR:=De h
 have hh:=Nh hR hp
 obtain ⟨k,x,e1,e2,e3,e4⟩:=EC hp
 have hx:=List.mem_of_getElem? e2
 obtain ⟨hN,hB⟩:=HC hR hx
 have hid : x.view.id = p:=by
  have : Do p x = true:=e3
  unfold Do at this
  exact of_decide_eq_true this
 have hv : C1 x.view = true:=by
  simp only [Cb,Bool.and_eq_true] at hN
  exact hN.2.2.2.1
 obtain ⟨h1,h2,h3,h4,h5⟩:=Hq hv
 have hs:=TN h hx
 have e : (B2 c.nodes p).1 = EF c.nodes x.view:=by unfold B2;rw [hp,e4];rfl
 rw [hid] at h1 h3 hs
 have hpl:=BN h1
 rw [e]
 rw [e] at hh
 have hb:=GN h2
 rw [hB] at hb
 unfold EF at hh ⊢
 split
 ·rename_i q hq
  have hqn : AZ c.nodes q = true:=List.find?_some hq
  have hqm : q ∈ x.view.list:=List.mem_of_find?_eq_some hq
  unfold Bz at h3
  rw [Bool.and_eq_true] at h3
  have hr:=h3.2
  have hself : AK p p = 0:=by
   have:=Ob p
   unfold Bm at this
   unfold AK at *
   omega
  rw [← hself] at hr
  have hsk:=(Ua hb x.view.list p hr)
  rw [hs] at hsk
  have hfq:=NM x.view.list _ hr q hqm
  refine ⟨hqn,fun e => by rw [e] at hfq;omega,h1,?_,fun b hbm hbp => ?_⟩
  ·exact WJ _ _ hr q hqm
  ·refine Int.not_lt.1 fun hlt => ?_
   have hbl:=BN (hb b hbm)
   have hb0 : AK p b > 0:=by unfold AK;omega
   have hin : b ∈ x.view.list:=by
    refine Decidable.byContradiction fun hno => ?_
    have:=hsk.2 ⟨b,hbm,by omega,⟨q,hqm,hlt⟩,hno⟩
    cases this
   obtain ⟨-,la,lb,hl,hla⟩:=List.find?_eq_some_iff_append.1 hq
   rw [hl] at hin hr
   rcases List.mem_append.1 hin with hin | hin
   ·have:=hla b hin
    rw [CW hR hbm] at this
    cases this
   ·rcases List.mem_cons.1 hin with rfl | hin
    ·omega
    ·have:=M8 la _ hr b hin
     omega
 ·rename_i hq
  have e5 : P5 x.view = EN x.view.id x.view.base:=if_pos hv
  rw [e5,hid,hB]
  rw [hB] at h2
  obtain ⟨a1,a2,a3⟩:=KI h1 h2
  obtain ⟨a4,a5⟩:=SQ h1 h2
  exact ⟨CW hR a5,a3,h1,a2,a4⟩
theorem RZ {c : AD} {gs : List Bu} (h : Bq c gs = true) {p : Int} (hp : AZ c.nodes p = true) {b : Int} (hb : b ∈ c.base) : Cp p b (B2 c.nodes p).1 = false:=by
 obtain ⟨-,h2,h3,h4,h5⟩:=FI h hp
 have a1:=BN h3
 have a2:=BN h4
 unfold Cp
 rw [if_neg (by unfold Bm;omega),decide_eq_false_iff_not]
 rintro ⟨h6,h7⟩
 by_cases e : b = p
 ·subst e
  unfold AK at h6
  omega
 ·have:=h5 b hb e
  omega
theorem LD (c : AD) (gs : List Bu) (hw : R5 c) (hg : c.grams = gs.map Bu.cells) (hb : ∀ g ∈ gs,g.by_.length ≤ 1048576) : Go.Gar.Fn Tryz.prog 6 [c.d] (.b true):=by
 have cw:=H7
 have cg:=Jt c gs hw hg hb
 cases hG : GJ c gs with
 | true =>
  rw [hG] at cg
  obtain ⟨nodes,gone,base,grams,lost⟩:=c
  clear hw hg hb hG
  unfold AD.d AD.cells at *
  simp only at *
  refine A3 A8 Tryz.func6 rfl rfl (Nat.le_of_ble_eq_true rfl) ?_
  have nS:=True.intro;obtain ⟨lv,st,ns,nc⟩:=wq [0,1,2,3,4,5,6,8,9,16,22,54,59,69] [];have c1:=@cg;have c2:=@cw;refine wk ?_;clear nc ns st lv c2 c1;repeat' (first|with_reducible constructor|(with_reducible intro hc;try simp only[A1] at hc))
  refine ⟨_,_,rfl,rfl,?_⟩;simp [AH,A6,A5,A4]
 | false =>
 rw [hG] at cg
 have h:=Ie hw hG
 have cc:=If c gs h hg hb
 clear hG hw
 cases hC : Bq c gs with
 | false =>
  rw [hC] at cc
  obtain ⟨nodes,gone,base,grams,lost⟩:=c
  clear h hg hb hC
  unfold AD.d AD.cells at *
  simp only at *
  refine A3 A8 Tryz.func6 rfl rfl (Nat.le_of_ble_eq_true rfl) ?_
  have nS:=True.intro;obtain ⟨lv,st,ns,nc⟩:=wq [0,1,2,3,4,5,6,8,9,16,22,54,59,69] [];have c1:=@cg;have c2:=@cc;have c3:=@cw;refine wk ?_;clear nc ns st lv c3 c2 c1;repeat' (first|with_reducible constructor|(with_reducible intro hc;try simp only[A1] at hc))
  refine ⟨_,_,rfl,rfl,?_⟩;simp [AH,A6,A5,A4]
 | true =>
 rw [hC] at cc
 have hR:=De hC
 have cN:=fun p => Hw c p h
 have cA:=fun p => Td c p h
 have hNT : ∀ p,Eg c p = B2 c.nodes p:=fun p => by unfold Eg;rw [hR];rfl
 have hcl:=fun p (hp : AZ c.nodes p = true) => FI hC hp
 have hfr:=fun p (hp : AZ c.nodes p = true) b (hb : b ∈ c.base) => RZ hC hp hb
 have hbi:=Nw hR h
 have hnl:=h.nl
 have hbl:=h.bl
 have hid:=fun n (hn : n ∈ c.nodes) => (h.nn n hn).id
 clear h hg hb hC hR
 obtain ⟨nodes,gone,base,grams,lost⟩:=c
 simp only at *
 unfold AD.d AD.cells at *
 simp only at *
 refine A3 A8 Tryz.func6 rfl rfl (Nat.le_of_ble_eq_true rfl) ?_
 have nS:=True.intro;obtain ⟨lv,st,ns,nc⟩:=wq [0,1,2,3,4,5,6,8,9,16,22,54,59,69] [];have c1:=@cg;have c2:=@cc;refine wk ?_;clear nc ns st lv c2 c1;repeat' (first|with_reducible constructor|(with_reducible intro hc;try simp only[A1] at hc))
 refine AS (fun k => k ≤ nodes.length) (fun k : Nat => [(3,.d (.i .i64 k))]) (fun k => nodes.length - k) 0 (Nat.zero_le _) (fun _ => rfl) ?_ ?_
 ·exact A0.ck rfl
 intro k hk
 by_cases hkl : k < nodes.length
 ·obtain ⟨x,hx⟩:=AG hkl
  have hxm:=List.mem_of_getElem? hx
  have hxn : AZ nodes x.view.id = true:=by
   unfold AZ
   rw [List.any_eq_true]
   exact ⟨x,hxm,by unfold Do;exact decide_eq_true rfl⟩
  have hi:=hid x hxm
  have c1:=cN x.view.id
  rw [hNT,EH hxn] at c1
  obtain ⟨k1,k2,k3,k4,k5⟩:=hcl _ hxn
  have kf:=hfr _ hxn
  generalize (B2 nodes x.view.id).1 = q at *
  have c2:=cA q
  rw [k1] at c2
  generalize nodeAt nodes q = nd at *
  unfold Node.d Node.cells View.cells Calls.cells Job.cells at c2
  simp only [List.cons_append,List.nil_append] at c2
  have f1 : (q == x.view.id) = false:=eq_false' k2
  have qi : i64 q:=by have:=BN k4;unfold i64;omega
  have cI:=fun b hb => WW x.view.id b q hi (hbi b hb) qi
  clear cN cA hNT hcl hfr hid
  have nS:=f1;obtain ⟨lv,st,ns,nc⟩:=wq [0,1,2,3,4,5,6,8,9,16,22,54,59,69] [];have ix1:=hx;have c1:=@c1;have c2:=@c2;refine wk ?_;clear nc ns st lv c2 c1 ix1;repeat' (first|with_reducible constructor|(with_reducible intro hc;try simp only[A1] at hc))
  refine AS (fun j => j ≤ base.length) (fun j : Nat => [(9,.d (.i .i64 j))]) (fun j => base.length - j) 0 (Nat.zero_le _) (fun _ => rfl) ?_ ?_
  ·exact A0.ck rfl
  intro j hj
  by_cases hjl : j < base.length
  ·obtain ⟨b,hbj⟩:=AG hjl
   have gb:=AY hbj
   have c3:=cI b (List.mem_of_getElem? hbj)
   rw [kf b (List.mem_of_getElem? hbj)] at c3
   have nS:=gb;obtain ⟨lv,st,ns,nc⟩:=wq [0,1,2,3,4,5,6,8,9,16,22,54,59,69] [];have c1:=@c3;refine wk ?_;clear nc ns st lv c1;repeat' (first|with_reducible constructor|(with_reducible intro hc;try simp only[A1] at hc))
   refine ⟨j + 1,hjl,by omega,Nat.le_refl _,?_⟩
   exact A0.ck rfl
  ·have e : j = base.length:=by omega
   subst e
   have nS:=True.intro;obtain ⟨lv,st,ns,nc⟩:=wq [0,1,2,3,4,5,6,8,9,16,22,54,59,69] [];refine wk ?_;clear nc ns st lv;repeat' (first|with_reducible constructor|(with_reducible intro hc;try simp only[A1] at hc))
   refine ⟨k + 1,hkl,by omega,Nat.le_refl _,?_⟩
   exact A0.ck rfl
 ·have e : k = nodes.length:=by omega
  subst e
  have nS:=True.intro;obtain ⟨lv,st,ns,nc⟩:=wq [0,1,2,3,4,5,6,8,9,16,22,54,59,69] [];have c1:=@cw;refine wk ?_;clear nc ns st lv c1;repeat' (first|with_reducible constructor|(with_reducible intro hc;try simp only[A1] at hc))
  refine ⟨_,_,rfl,rfl,?_⟩;simp [AH,A6,A5,A4]
theorem count_le {α : Type} {p q : α → Bool} : ∀ {l : List α},(∀ x ∈ l,p x = true → q x = true) → l.countP p ≤ l.countP q
 | [],_ => Nat.le_refl _
 | a :: r,h => by
  have ih:=count_le (l:=r) (fun x hx => h x (List.mem_cons_of_mem _ hx))
  have ha:=h a (List.mem_cons_self ..)
  rw [List.countP_cons,List.countP_cons]
  cases hp : p a with
  | true => rw [ha hp];simp;omega
  | false => cases q a <;> simp <;> omega
theorem K1 {α : Type} {p q : α → Bool} : ∀ {l : List α} {y : α},(∀ x ∈ l,p x = true → q x = true) → y ∈ l → q y = true → p y = false → l.countP p < l.countP q
 | [],_,_,hy,_,_ => by cases hy
 | a :: r,y,h,hy,hq,hp => by
  have h':=fun x hx => h x (List.mem_cons_of_mem a hx)
  have ha:=h a (List.mem_cons_self ..)
  rw [List.countP_cons,List.countP_cons]
  rcases List.mem_cons.1 hy with rfl | hy
  ·have:=count_le h'
   rw [hq,hp];simp;omega
  ·have ih:=K1 h' hy hq hp
   cases hpa : p a with
   | true => rw [ha hpa];simp;omega
   | false => cases q a <;> simp <;> omega
def MV (x b : Int) (n : Node) : Bool:=decide (0 < AK x n.view.id ∧ AK x n.view.id < AK x b)
theorem JU {l : List Node} {p : Int} (h : AZ l p = true) : ∃ n ∈ l,n.view.id = p:=by
 unfold AZ at h
 rw [List.any_eq_true] at h
 obtain ⟨n,hn,h⟩:=h
 unfold Do at h
 exact ⟨n,hn,of_decide_eq_true h⟩
theorem NS {c : AD} {gs : List Bu} (h : Bq c gs = true) {b : Int} (hb : b ∈ c.base) : ∀ (k : Nat) (p : Int),AZ c.nodes p = true → b ≠ p → c.nodes.countP (MV p b) ≤ k →
  ∃ i,i ≤ k + 1 ∧ DD c.nodes p i ∈ c.base
 | k,p,hp,hne,hk => by
  obtain ⟨h1,h2,h3,h4,h5⟩:=FI h hp
  have hbn:=CW (De h) hb
  obtain ⟨-,-,hbp,-,-⟩:=FI h hbn
  have hle:=h5 b hb hne
  by_cases hq : (B2 c.nodes p).1 = b
  ·exact ⟨1,by omega,by show (B2 c.nodes p).1 ∈ _;rw [hq];exact hb⟩
  ·obtain ⟨n,hn,hnq⟩:=JU h1
   have a1:=BN h3
   have a2:=BN h4
   have a3:=BN hbp
   have hlt : c.nodes.countP (MV (B2 c.nodes p).1 b) < c.nodes.countP (MV p b):=by
    refine K1 (fun x hx hx1 => ?_) hn ?_ ?_
    ·unfold MV at hx1 ⊢
     rw [decide_eq_true_eq] at hx1 ⊢
     unfold AK at *
     omega
    ·unfold MV
     rw [decide_eq_true_eq,hnq]
     unfold AK at *
     omega
    ·unfold MV
     rw [decide_eq_false_iff_not,hnq]
     unfold AK at *
     omega
   match k,hk with
   | 0,hk => omega
   | k + 1,hk =>
    obtain ⟨i,hi,hw⟩:=NS h hb k (B2 c.nodes p).1 h1 (fun e => hq e.symm) (by omega)
    refine ⟨i + 1,by omega,?_⟩
    have hs : ∀ j,DD c.nodes p (j + 1) = DD c.nodes (B2 c.nodes p).1 j:=by
     intro j
     induction j with
     | zero => rfl
     | succ j ih => show (B2 c.nodes (DD c.nodes p (j + 1))).1 = (B2 c.nodes (DD c.nodes _ j)).1;rw [ih]
    rw [hs]
    exact hw
theorem MA {α : Type} {p : α → Bool} : ∀ {l : List α} {x y : α} (f : α → Int),x ∈ l → y ∈ l → f x ≠ f y → p x = false → p y = false → l.countP p + 2 ≤ l.length
 | [],_,_,_,hx,_,_,_,_ => by cases hx
 | a :: r,x,y,f,hx,hy,hne,px,py => by
  have one : ∀ {z : α},z ∈ r → p z = false → r.countP p + 1 ≤ r.length:=fun {z} hz pz => by
   have:=K1 (p:=p) (q:=fun _ => true) (l:=r) (fun _ _ _ => rfl) hz rfl pz
   rw [List.countP_true] at this
   omega
  rw [List.countP_cons,List.length_cons]
  rcases List.mem_cons.1 hx with e1 | h1
  ·rcases List.mem_cons.1 hy with e2 | h2
   ·exact absurd (by rw [e1,e2]) hne
   ·have:=one h2 py
    rw [← e1,px];simp;omega
  ·rcases List.mem_cons.1 hy with e2 | h2
   ·have:=one h1 px
    rw [← e2,py];simp;omega
   ·have:=MA f h1 h2 hne px py
    cases p a <;> simp <;> omega
theorem Oh {c : AD} {gs : List Bu} (h : Bq c gs = true) {p : Int} (hp : AZ c.nodes p = true) : ∃ i,i < c.nodes.length ∧ DD c.nodes p i ∈ c.base:=by
 by_cases hpb : p ∈ c.base
 ·obtain ⟨n,hn,-⟩:=JU hp
  exact ⟨0,List.length_pos_of_mem hn,hpb⟩
 ·have hR:=De h
  have h2:=(Ce hR).2.1
  obtain ⟨b,hb⟩ : ∃ b,b ∈ c.base:=by
   cases hc : c.base with
   | nil => rw [hc] at h2;simp at h2
   | cons b r => exact ⟨b,List.mem_cons_self ..⟩
  have hne : b ≠ p:=fun e => hpb (e ▸ hb)
  have hbn:=CW hR hb
  obtain ⟨n,hn,hnp⟩:=JU hp
  obtain ⟨m,hm,hmb⟩:=JU hbn
  have h3 : c.nodes.countP (MV p b) + 2 ≤ c.nodes.length:=by
   refine MA (fun n => n.view.id) hn hm (by rw [hnp,hmb];exact fun e => hne e.symm) ?_ ?_
   ·unfold MV
    rw [decide_eq_false_iff_not,hnp]
    unfold AK
    omega
   ·unfold MV
    rw [decide_eq_false_iff_not,hmb]
    omega
  obtain ⟨i,hi,hw⟩:=NS h hb _ p hp hne (Nat.le_refl _)
  exact ⟨i,by omega,hw⟩
theorem NJ {c : AD} {gs : List Bu} (h : Bq c gs = true) {p : Int} (hp : AZ c.nodes p = true) : ∃ j : Nat,j < c.nodes.length ∧ DR c p = ((j : Int),true):=by
 obtain ⟨i,hi,hw⟩:=Oh h hp
 unfold DR
 rw [De h,hp]
 cases hn : FR c.nodes c.base p (c.nodes.length + 1) with
 | none =>
  unfold FR at hn
  have:=List.find?_eq_none.1 hn i (List.mem_range.2 (by omega))
  exact absurd (decide_eq_true hw) this
 | some j =>
  refine ⟨j,?_,rfl⟩
  unfold FR at hn
  rw [List.find?_range_eq_some] at hn
  refine Nat.lt_of_le_of_lt (Nat.not_lt.1 fun hlt => ?_) hi
  have:=hn.2.2 i hlt
  rw [decide_eq_true hw] at this
  cases this
theorem QE {steps : Int} (h0 : 0 ≤ steps) (h1 : steps ≤ 31) : most steps = steps.toNat:=by
 have:=Qk steps
 rw [if_neg (by omega)] at this
 rw [if_neg (by omega)] at this
 omega
theorem Jd (c : AD) (gs : List Bu) (p steps : Int) (hs : i64 steps) (hw : R5 c) (hg : c.grams = gs.map Bu.cells) (hb : ∀ g ∈ gs,g.by_.length ≤ 1048576) : Go.Gar.Fn Tryz.prog 7 [c.d,.i .i64 p,.i .i64 steps] (.b true):=by
 have cw:=H7
 have cg:=Jt c gs hw hg hb
 cases hG : GJ c gs with
 | true =>
  rw [hG] at cg
  obtain ⟨nodes,gone,base,grams,lost⟩:=c
  clear hw hg hb hG
  unfold AD.d AD.cells at *
  simp only at *
  refine A3 A8 Tryz.func7 rfl rfl (Nat.le_of_ble_eq_true rfl) ?_
  have nS:=True.intro;obtain ⟨lv,st,ns,nc⟩:=wq [0,1,2,3,6,7,8,10,11,12,13,14,15,25,48,92,97,119,122] [];have c1:=@cg;have c2:=@cw;have pr : AC []:=trivial;refine wd ?_;clear nc ns st lv pr c2 c1;repeat' (first|with_reducible constructor|(with_reducible intro hc;try simp only[A1] at hc))
  refine ⟨_,_,rfl,rfl,?_⟩;simp [AH,A6,A5,A4]
 | false =>
 rw [hG] at cg
 have h:=Ie hw hG
 clear hG hw
 by_cases hst : 0 ≤ steps ∧ steps ≤ 30
 case neg =>
  obtain ⟨nodes,gone,base,grams,lost⟩:=c
  clear h hg hb
  unfold AD.d AD.cells at *
  simp only at *
  refine A3 A8 Tryz.func7 rfl rfl (Nat.le_of_ble_eq_true rfl) ?_
  have nS:=True.intro;obtain ⟨lv,st,ns,nc⟩:=wq [0,1,2,3,6,7,8,10,11,12,13,14,15,25,48,92,97,119,122] [];have c1:=@cg;have c2:=@cw;have pr : AC []:=trivial;refine wd ?_;clear nc ns st lv pr c2 c1;repeat' (first|with_reducible constructor|(with_reducible intro hc;try simp only[A1] at hc))
  all_goals first
   | (exfalso;omega)
   | (refine ⟨_,_,rfl,rfl,?_⟩;simp only [Ao];done)
 case pos =>
 obtain ⟨hs0,hs1⟩:=hst
 have cW:=JR c p steps h
 have cV:=JR c p (steps + 1) h
 have cA:=Td c p h
 have cR:=DN c h
 have hT1 : Ci c p steps = if AN c && AZ c.nodes p then wl c.nodes p (steps.toNat + 1) else []:=by unfold Ci;rw [QE hs0 (by omega)]
 have hT2 : Ci c p (steps + 1) = if AN c && AZ c.nodes p then wl c.nodes p (steps.toNat + 2) else []:=by
  unfold Ci;rw [QE (by omega) (by omega),show (steps + 1).toNat + 1 = steps.toNat + 2 by omega]
 rw [hT1] at cW
 rw [hT2] at cV
 clear hT1 hT2
 cases hRh : AN c && AZ c.nodes p with
 | false =>
  rw [hRh] at cW cV
  simp only [Bool.false_eq_true,if_false] at cW cV
  generalize nodeAt c.nodes p = nd at *
  generalize AN c = R at *
  generalize AZ c.nodes p = hn at *
  obtain ⟨nodes,gone,base,grams,lost⟩:=c
  clear h hg hb
  unfold Node.d Node.cells View.cells Calls.cells Job.cells at cA
  simp only [List.cons_append,List.nil_append] at cA
  unfold AD.d AD.cells at *
  simp only at *
  refine A3 A8 Tryz.func7 rfl rfl (Nat.le_of_ble_eq_true rfl) ?_
  have nS:=True.intro;obtain ⟨lv,st,ns,nc⟩:=wq [0,1,2,3,6,7,8,10,11,12,13,14,15,25,48,92,97,119,122] [];have c1:=@cg;have c2:=@cw;have c3:=@cW;have c4:=@cV;have c5:=@cA;have c6:=@cR;have pr : AC []:=trivial;refine wd ?_;clear nc ns st lv pr c6 c5 c4 c3 c2 c1;repeat' (first|with_reducible constructor|(with_reducible intro hc;try simp only[A1] at hc))
  all_goals first
   | (refine ⟨_,_,rfl,rfl,?_⟩;simp only [Ao];done)
   | (exfalso;clear cg cw cW cV cA cR;grind)
 | true =>
 rw [hRh] at cW cV
 simp only [if_true] at cW cV
 obtain ⟨hR,hn⟩:=Bool.and_eq_true_iff.1 hRh
 rw [hR] at cR
 rw [hn] at cA
 have cN:=fun q => Hw c q h
 have hNT : ∀ q,Eg c q = B2 c.nodes q:=fun q => by unfold Eg;rw [hR];rfl
 have cN2 : ∀ k,Go.Gar.Fn Tryz.prog 10 [c.d,.i .i64 (DD c.nodes p k)] (.tup [.i .i64 (DD c.nodes p (k + 1)),.b true]):=fun k => by
  have:=cN (DD c.nodes p k)
  rw [hNT,EH (Gb hR hn k)] at this
  exact this
 have cC:=If c gs h hg hb
 have cE:=Ks c p h
 have hre:=fun hC : Bq c gs = true => NJ hC hn
 have hl1:=El c.nodes p (steps.toNat + 1)
 have hl2:=El c.nodes p (steps.toNat + 2)
 have hn0 : 0 < steps.toNat + 1:=by omega
 have hg0 : (wl c.nodes p (steps.toNat + 1)).getD 0 0 = p:=by
  rw [List.getD_eq_getElem?_getD,Je (show 0 < steps.toNat + 1 by omega)];rfl
 have hgk : ∀ k,k < steps.toNat + 1 → (wl c.nodes p (steps.toNat + 1)).getD k 0 = DD c.nodes p k:=fun k hk => by
  rw [List.getD_eq_getElem?_getD,Je hk];rfl
 have htk : (wl c.nodes p (steps.toNat + 2)).take (wl c.nodes p (steps.toNat + 1)).length = wl c.nodes p (steps.toNat + 1):=by
  rw [hl1,JG c.nodes p (steps.toNat + 1),List.take_left' hl1]
 have cI:=MJ ((wl c.nodes p (steps.toNat + 2)).take (wl c.nodes p (steps.toNat + 1)).length) (wl c.nodes p (steps.toNat + 1)) (by rw [htk,hl1];omega) (by rw [hl1];omega)
 rw [decide_eq_true htk] at cI
 have hnl:=h.nl
 clear h hg hb cN hNT hRh hn hR htk
 generalize wl c.nodes p (steps.toNat + 1) = L1 at *
 generalize wl c.nodes p (steps.toNat + 2) = L2 at *
 generalize nodeAt c.nodes p = nd at *
 generalize DD c.nodes p = wa at *
 generalize DR c p = re at *
 generalize Bq c gs = cl at *
 obtain ⟨nodes,gone,base,grams,lost⟩:=c
 unfold Node.d Node.cells View.cells Calls.cells Job.cells at cA
 simp only [List.cons_append,List.nil_append] at cA
 unfold AD.d AD.cells at *
 simp only at *
 have f1 : (p != p) = false:=bne_self_eq_false' _
 have f2 : decide ((L1.length : Int) < 1) = false:=decide_eq_false (by omega)
 have f3 : decide ((L1.length : Int) > steps + 1) = false:=decide_eq_false (by omega)
 have f4 : decide ((L2.length : Int) < L1.length) = false:=decide_eq_false (by omega)
 refine A3 A8 Tryz.func7 rfl rfl (Nat.le_of_ble_eq_true rfl) ?_
 have nS:=And.intro hg0 (And.intro f1 (And.intro f2 (And.intro f3 f4)));obtain ⟨lv,st,ns,nc⟩:=wq [0,1,2,3,6,7,8,10,11,12,13,14,15,25,48,92,97,119,122] [];have c1:=@cg;have c2:=@cW;have c3:=@cV;have c4:=@cA;have c5:=@cR;have c6:=@cI;have pr : AC []:=trivial;refine wd ?_;clear nc ns st lv pr c6 c5 c4 c3 c2 c1;repeat' (first|with_reducible constructor|(with_reducible intro hc;try simp only[A1] at hc))
 refine AS (fun k => k ≤ steps.toNat) (fun k : Nat => [(11,.d (.i .i64 k))]) (fun k => steps.toNat - k) 0 (Nat.zero_le _) (fun _ => rfl) ?_ ?_
 ·exact A0.ck rfl
 intro k hk
 by_cases hkl : k < steps.toNat
 ·have c2:=cN2 k
  have g1:=hgk k (by omega)
  have g2 : L1.getD ((k : Int) + 1).toNat 0 = wa (k + 1):=by rw [show ((k : Int) + 1).toNat = k + 1 by omega];exact hgk (k + 1) (by omega)
  have f5 : (wa (k + 1) != wa (k + 1)) = false:=bne_self_eq_false' _
  have f6 : decide ((k : Int) + 1 < L1.length) = true:=decide_eq_true (by omega)
  have nS:=And.intro g1 (And.intro g2 (And.intro f5 f6));obtain ⟨lv,st,ns,nc⟩:=wq [0,1,2,3,6,7,8,10,11,12,13,14,15,25,48,92,97,119,122] [];have c1:=@c2;have pr : AC []:=trivial;refine wd ?_;clear nc ns st lv pr c1;repeat' (first|with_reducible constructor|(with_reducible intro hc;try simp only[A1] at hc))
  refine ⟨k + 1,hkl,by omega,Nat.le_refl _,?_⟩
  exact A0.ck rfl
 ·have e : k = steps.toNat:=by omega
  subst e
  have f6 : decide (((steps.toNat : Nat) : Int) + 1 < L1.length) = false:=decide_eq_false (by omega)
  cases cl with
  | false =>
   have nS:=f6;obtain ⟨lv,st,ns,nc⟩:=wq [0,1,2,3,6,7,8,10,11,12,13,14,15,25,48,92,97,119,122] [];have c1:=@cC;have c2:=@cw;have pr : AC []:=trivial;refine wd ?_;clear nc ns st lv pr c2 c1;repeat' (first|with_reducible constructor|(with_reducible intro hc;try simp only[A1] at hc))
   refine ⟨_,_,rfl,rfl,?_⟩;simp [AH,A6,A5,A4]
  | true =>
   obtain ⟨j,hj,hre⟩:=hre rfl
   subst hre
   have f7 : ((L1.length : Int) == steps + 1) = true:=by rw [beq_iff_eq];omega
   have f8 : decide ((j : Int) < nodes.length) = true:=decide_eq_true (by omega)
   have nS:=And.intro f6 (And.intro f7 f8);obtain ⟨lv,st,ns,nc⟩:=wq [0,1,2,3,6,7,8,10,11,12,13,14,15,25,48,92,97,119,122] [];have c1:=@cC;have c2:=@cE;have c3:=@cw;have pr : AC []:=trivial;refine wd ?_;clear nc ns st lv pr c3 c2 c1;repeat' (first|with_reducible constructor|(with_reducible intro hc;try simp only[A1] at hc))
   refine ⟨_,_,rfl,rfl,?_⟩;simp [AH,A6,A5,A4]
end Nd
end Go.Proofs.YtagnjflbhjmefaaGreat
