/- Part 47 of the texts of this proof, put together by a program and made short.
Conditions: none; what each theorem asks stands in its own hypotheses. -/
import Derived.Test.YtagnjflbhjmefaaGreatRb44
import Derived.Ground.NamesProg
import Derived.Shelf.Slices.In.SortAlone
import Derived.Shelf.Slices.In.SortNone
import Derived.Sort.Walk0
import Derived.KernelRfl
import Derived.RangeFuncIn
import Derived.Sort.Grow
import Derived.Laws.Cover3
import Derived.RecoverIn
import Derived.ProofKit
import Derived.OpenShut
import Derived.CallsIn
import Derived.RangeFuncLeaves
import Derived.OrdersIn
import Derived.TacticsIn
import Derived.ChangeKeysEq
import Derived.Laws.AppendOwn
import Derived.Laws.OwnMore
import Derived.Laws.MakeOwn
import Derived.Laws.Rows
import Derived.Laws.Cells
import Derived.Laws.Tables
import Derived.Laws.CopyRow
import Derived.Laws.Strings
import Derived.Laws.IdiomStrings
import Derived.Laws.BytesArg
import Derived.Test.YtagnjflbhjmefaaGreatProg
set_option linter.unusedSimpArgs false
set_option linter.unusedVariables false
set_option linter.unnecessarySimpa false
set_option maxHeartbeats 40000000
namespace Go.Proofs.YtagnjflbhjmefaaGreat
namespace Nd
open Go.Gar
open Wi (AE Az B7 BC)
set_option maxRecDepth 4000
def newC (id : Int) : Calls × Int:=if CZ ⟨id,0,[]⟩ then (⟨id,0,[]⟩,0) else (⟨0,0,[]⟩,2)
theorem TV (id : Int) : Go.Gar.Fn Tryz.prog 86 [.i .i64 id] (.tup [(newC id).1.d,.i .i64 (newC id).2]):=by
 have c1:=LZ ⟨id,0,[]⟩ (fun x hx => by cases hx) (Nat.zero_le _)
 unfold newC
 unfold Calls.d Calls.cells at *
 simp only at *
 refine A3 A8 Tryz.func86 rfl rfl (Nat.le_of_ble_eq_true rfl) ?_
 cases h : CZ ⟨id,0,[]⟩ with
 | true =>
  rw [h] at c1
  have nS:=True.intro;obtain ⟨lv,st,ns,nc⟩:=wq [0,2,3,4,9] [];have z1:=@c1;refine wk ?_;clear nc ns st lv z1;repeat' (first|with_reducible constructor|(with_reducible intro hc;try simp only[A1] at hc))
  refine ⟨_,_,rfl,rfl,?_⟩;simp [AH,A6,A5,A4]
 | false =>
  rw [h] at c1
  have nS:=True.intro;obtain ⟨lv,st,ns,nc⟩:=wq [0,2,3,4,9] [];have z1:=@c1;refine wk ?_;clear nc ns st lv z1;repeat' (first|with_reducible constructor|(with_reducible intro hc;try simp only[A1] at hc))
  refine ⟨_,_,rfl,rfl,?_⟩;simp [AH,A6,A5,A4]
def F9 (id : Int) (base : List Int) : Node × Int:=if (newT id base).2 = 0 ∧ (newC id).2 = 0 then (⟨(newT id base).1,0,(newC id).1,[],0,0,FX,FX,FX,0,[],[],0⟩,0) else (Di,2)
theorem Ll (id : Int) (base : List Int) (hb : base.length ≤ 1000) : (newT id base).1.base.length ≤ 1000:=by
 unfold newT;split
 ·exact hb
 ·exact Nat.zero_le _
theorem Lu (id : Int) (base : List Int) : (newT id base).1.list = []:=by
 unfold newT;split <;> rfl
theorem Qq (id : Int) (base : List Int) (h : i64 id) : i64 (newT id base).1.id:=by
 unfold newT;split
 ·exact h
 ·show i64 0;unfold i64;omega
theorem QU (id : Int) : (newC id).1.op = []:=by
 unfold newC;split <;> rfl
theorem Te : LA Di:=by
 constructor <;> first | (intro x hx;cases hx) | decide | (show i64 0;unfold i64;omega)
theorem Nm (id : Int) (base : List Int) (hid : i64 id) (hb : base.length ≤ 1000) : Go.Gar.Fn Tryz.prog 51 [.i .i64 id,.is base] (.tup [(F9 id base).1.d,.i .i64 (F9 id base).2]):=by
 have c1:=Vl id base hid hb
 have c2:=TV id
 have e1:=Ll id base hb
 have e2:=Lu id base
 have e3:=Qq id base hid
 have e4:=QU id
 have hN : F9 id base = if (newT id base).2 = 0 ∧ (newC id).2 = 0 then (⟨(newT id base).1,0,(newC id).1,[],0,0,FX,FX,FX,0,[],[],0⟩,0) else (Di,2):=rfl
 generalize F9 id base = R at *
 generalize newT id base = nt at *
 generalize newC id = nc at *
 obtain ⟨⟨vi,vb,vl,vp,vf⟩,ve⟩:=nt
 obtain ⟨⟨ci,cm,co⟩,ce⟩:=nc
 simp only at *
 subst e2
 subst e4
 have hO : LA ⟨⟨vi,vb,[],vp,vf⟩,0,⟨ci,cm,[]⟩,[],0,0,FX,FX,FX,0,[],[],0⟩:=by
  constructor <;> first | exact e3 | exact e1 | (intro x hx;cases hx) | (show ([] : List Int).length ≤ _;decide) | (simp only;exact Nat.zero_le _) | exact Nat.zero_le _
 have c3:=Km _ hO
 unfold Node.d Node.cells View.d View.cells Calls.d Calls.cells Job.cells at *
 simp only [List.cons_append,List.nil_append] at c1 c2 c3
 refine A3 A8 Tryz.func51 rfl rfl (Nat.le_of_ble_eq_true rfl) ?_
 by_cases hv : ve = 0
 case neg =>
  rw [if_neg (fun h => hv h.1)] at hN
  subst hN
  have nS:=True.intro;obtain ⟨lv,st,ns,nc⟩:=wq [0,1,4,5,6,7,8,9,26] [];have c1:=@c1;have z1:=@c2;refine wk ?_;clear nc ns st lv z1 c1;repeat' (first|with_reducible constructor|(with_reducible intro hc;try simp only[A1] at hc))
  all_goals first
   | (exfalso;omega)
   | (refine ⟨_,_,rfl,rfl,?_⟩;simp [AH,A6,A5,A4,Di,zeroV,AP,View.cells,Calls.cells,Job.cells])
 by_cases hc : ce = 0
 case neg =>
  rw [if_neg (fun h => hc h.2)] at hN
  subst hN
  subst hv
  have nS:=True.intro;obtain ⟨lv,st,ns,nc⟩:=wq [0,1,4,5,6,7,8,9,26] [];have c1:=@c1;have z1:=@c2;refine wk ?_;clear nc ns st lv z1 c1;repeat' (first|with_reducible constructor|(with_reducible intro hc;try simp only[A1] at hc))
  all_goals first
   | (exfalso;omega)
   | (refine ⟨_,_,rfl,rfl,?_⟩;simp [AH,A6,A5,A4,Di,zeroV,AP,View.cells,Calls.cells,Job.cells])
 rw [if_pos ⟨hv,hc⟩] at hN
 subst hN
 subst hv
 subst hc
 have nS:=True.intro;obtain ⟨lv,st,ns,nc⟩:=wq [0,1,4,5,6,7,8,9,26] [];have c1:=@c1;have z1:=@c2;have z2:=@c3;refine wk ?_;clear nc ns st lv z2 z1 c1;repeat' (first|with_reducible constructor|(with_reducible intro hc;try simp only[A1] at hc))
 refine ⟨_,_,rfl,rfl,?_⟩;simp [AH,A6,A5,A4]
def FD (p : Int) (n : Node) : Bool:=decide (n.view.id < p)
def OX (c : AD) (p : Int) : Bool:=Az p && (!(AZ c.nodes p) && (!(decide (p ∈ c.gone)) && decide (c.nodes.length < 12)))
def Fb (c : AD) (p : Int) : AD × Int:=if OX c p then (⟨c.nodes.takeWhile (FD p) ++ [(F9 p c.base).1] ++ c.nodes.dropWhile (FD p),c.gone,c.base,c.grams,c.lost⟩,0) else (c,2)
theorem NG {α : Type} {q : α → Bool} : ∀ {l : List α} {k : Nat},(l.take k).all q = true → (∀ x,l[k]? = some x → q x = false) → l.takeWhile q = l.take k ∧ l.dropWhile q = l.drop k
 | [],k,_,_ => by cases k <;> exact ⟨rfl,rfl⟩
 | a :: r,0,_,h => by
  have:=h a rfl
  simp [List.takeWhile_cons,List.dropWhile_cons,this]
 | a :: r,k + 1,h1,h2 => by
  simp only [List.take_succ_cons,List.all_cons,Bool.and_eq_true] at h1
  have:=NG h1.2 (fun x hx => h2 x (by simpa using hx))
  simp [List.takeWhile_cons,List.dropWhile_cons,h1.1,this.1,this.2]
theorem UD (c : AD) (p : Int) (h : I7 c) (hp : i64 p) (hb : c.base.length ≤ 1000) : Go.Gar.Fn Tryz.prog 89 [c.d,.i .i64 p] (.tup [(Fb c p).1.d,.i .i64 (Fb c p).2]):=by
 have hnl:=h.nl
 have c1:=FF p
 have c2:=KQ c p (by omega)
 have c3:=O8 c.gone p (by have:=h.gl;omega)
 have hge : decide (CN (Do p) c.nodes ≥ 0) = AZ c.nodes p:=E8 (Do p) c.nodes
 have hT : Fb c p = if OX c p then (⟨c.nodes.takeWhile (FD p) ++ [(F9 p c.base).1] ++ c.nodes.dropWhile (FD p),c.gone,c.base,c.grams,c.lost⟩,0) else (c,2):=rfl
 have hJ : OX c p = (Az p && (!(AZ c.nodes p) && (!(decide (p ∈ c.gone)) && decide (c.nodes.length < 12)))):=rfl
 generalize Fb c p = R at *
 obtain ⟨nodes,gone,base,grams,lost⟩:=c
 simp only at *
 refine A3 A8 Tryz.func89 rfl rfl (Nat.le_of_ble_eq_true rfl) ?_
 cases hq : OX ⟨nodes,gone,base,grams,lost⟩ p with
 | false =>
  rw [hq] at hT hJ
  replace hT : R = (⟨nodes,gone,base,grams,lost⟩,2):=hT
  subst hT
  clear h
  generalize CN (Do p) nodes = z at *
  generalize AZ nodes p = b1 at *
  generalize Az p = b2 at *
  generalize decide (p ∈ gone) = b3 at *
  unfold AD.d AD.cells at *
  simp only at *
  have nS:=hge;obtain ⟨lv,st,ns,nc⟩:=wq [0,1,2,4,5,6,8,9,10,31,55] [];have c1:=@c1;have c2:=@c2;have c3:=@c3;refine wk ?_;clear nc ns st lv c3 c2 c1;repeat' (first|with_reducible constructor|(with_reducible intro hc;try simp only[A1] at hc))
  all_goals first
   | (exfalso;clear c1 c2 c3 hge;grind)
   | (refine ⟨_,_,rfl,rfl,?_⟩;simp [AH,A6,A5,A4,AD.d,AD.cells])
 | true =>
 rw [hq] at hT hJ
 replace hJ:=hJ.symm
 simp only [Bool.and_eq_true,Bool.not_eq_true',decide_eq_true_eq] at hJ
 obtain ⟨h1,h2,h3,h4⟩:=hJ
 replace hT : R = (⟨nodes.takeWhile (FD p) ++ [(F9 p base).1] ++ nodes.dropWhile (FD p),gone,base,grams,lost⟩,0):=hT
 subst hT
 rw [h1] at c1
 rw [h2] at hge
 rw [h3] at c3
 clear h
 have c4:=Nm p base hp hb
 have f1 : decide ((nodes.length : Int) ≥ 12) = false:=decide_eq_false (by omega)
 generalize F9 p base = nn at *
 obtain ⟨n,e⟩:=nn
 generalize CN (Do p) nodes = z at *
 unfold Node.d at c4
 have hnc : n.cells.length = 76:=rfl
 unfold AD.d AD.cells at *
 simp only at *
 unfold Node.cells View.cells Calls.cells Job.cells at c4
 simp only [List.cons_append,List.nil_append] at c4
 have nS:=And.intro hge f1;obtain ⟨lv,st,ns,nc⟩:=wq [0,1,2,4,5,6,8,9,10,31,55] [];have c1:=@c1;have c2:=@c2;have c3:=@c3;have c4:=@c4;refine wk ?_;clear nc ns st lv c4 c3 c2 c1;repeat' (first|with_reducible constructor|(with_reducible intro hc;try simp only[A1] at hc))
 refine B3 (A0.J1 8 (.sl 76 []) rfl rfl rfl (by simp [A4])) (by simp) ?_
 refine E6 (fun k => k ≤ nodes.length ∧ (nodes.take k).all (FD p) = true) (fun k : Nat => [(8,.sl 3 (nodes.take k).length 76),(9,.d (.i .i64 k))]) (fun k => [(3,.a (A2 (nodes.take k)))]) (fun k => nodes.length - k) 0 ⟨Nat.zero_le _,rfl⟩ (fun _ => rfl) (fun _ => rfl) ?_ ?_
 ·exact A0.ck rfl
 rintro k ⟨hk,hpre⟩
 have htl : (nodes.take k).length = k:=by rw [List.length_take];omega
 by_cases hkl : k < nodes.length
 ·obtain ⟨x,hx⟩:=AG hkl
  by_cases hb : x.view.id < p
  ·have f2 : decide (x.view.id < p) = true:=decide_eq_true hb
   have hn:=AR hx
   have nS:=f2;obtain ⟨lv,st,ns,nc⟩:=wq [0,1,2,4,5,6,8,9,10,31,55] [];have ix1:=hx;refine wk ?_;clear nc ns st lv ix1;repeat' (first|with_reducible constructor|(with_reducible intro hc;try simp only[A1] at hc))
   refine ⟨k + 1,⟨hkl,I0 hx hpre f2⟩,by omega,Nat.le_refl _,?_⟩
   exact A0.cut rfl (by repeat' (first | exact True.intro | refine And.intro (by (first | rfl | ((with_reducible_and_instances refine congrArg (fun z => some (AV.d (D.i _ z))) ?_);omega) | (refine congrArg (fun z => some (AV.d (D.i _ z))) (?_ : (_ : Int) = _);omega) | (refine congrArg some ?_;simp only [hn,A2,List.map_append,List.map_cons,List.map_nil,Node.cells,View.cells,Calls.cells,Job.cells,List.cons_append,List.nil_append,List.length_append,List.length_cons,List.length_nil,List.length_map];done) | (refine congrArg some ?_;simp [hn,A2,List.map_append,List.map_cons,List.map_nil,Node.cells,View.cells,Calls.cells,Job.cells,List.cons_append,List.nil_append,List.length_append,List.length_cons,List.length_nil,List.length_map];done))) ?_)) (by repeat' (first | exact True.intro | refine And.intro (Or.inr rfl) ?_ | refine And.intro (Or.inl ⟨rfl,rfl⟩) ?_ | refine And.intro (Or.inr (by simp only [hn,A2,List.map_append,List.map_cons,List.map_nil,Node.cells,View.cells,Calls.cells,Job.cells,List.cons_append,List.nil_append,List.length_append,List.length_cons,List.length_nil,List.length_map])) ?_ | refine And.intro (Or.inr (by simp [hn,A2,List.map_append,List.map_cons,List.map_nil,Node.cells,View.cells,Calls.cells,Job.cells,List.cons_append,List.nil_append,List.length_append,List.length_cons,List.length_nil,List.length_map])) ?_)) (by first | rfl | (simp (decide:=true) [AT,A7.ok,AV.oks,AV.ok,hk];done)) rfl
  ·have f2 : decide (x.view.id < p) = false:=decide_eq_false hb
   obtain ⟨e1,e2⟩:=NG hpre (fun y hy => by rw [hx] at hy;cases hy;exact f2)
   rw [e1,e2]
   have nS:=f2;obtain ⟨lv,st,ns,nc⟩:=wq [0,1,2,4,5,6,8,9,10,31,55] [];have ix1:=hx;refine wk ?_;clear nc ns st lv ix1;repeat' (first|with_reducible constructor|(with_reducible intro hc;try simp only[A1] at hc))
   refine ⟨_,_,rfl,rfl,?_⟩;simp [AH,A6,A5,A4,AD.d,AD.cells,HF,A2,htl,List.map_append,List.map_cons,List.map_nil,Node.cells,View.cells,Calls.cells,Job.cells,List.cons_append,List.nil_append,List.length_append,List.length_cons,List.length_nil,List.length_map,List.length_take,List.length_drop,List.map_take,List.map_drop]
 ·have e : k = nodes.length:=by omega
  obtain ⟨e1,e2⟩:=NG hpre (fun y hy => by have:=(List.getElem?_eq_some_iff.1 hy).1;omega)
  rw [e1,e2]
  have nS:=True.intro;obtain ⟨lv,st,ns,nc⟩:=wq [0,1,2,4,5,6,8,9,10,31,55] [];refine wk ?_;clear nc ns st lv;repeat' (first|with_reducible constructor|(with_reducible intro hc;try simp only[A1] at hc))
  refine ⟨_,_,rfl,rfl,?_⟩;simp [AH,A6,A5,A4,AD.d,AD.cells,HF,A2,htl,List.map_append,List.map_cons,List.map_nil,Node.cells,View.cells,Calls.cells,Job.cells,List.cons_append,List.nil_append,List.length_append,List.length_cons,List.length_nil,List.length_map,List.length_take,List.length_drop,List.map_take,List.map_drop]
theorem Vw (c : AD) (p b k v r : Int) (ky bt : List UInt8) (g : Bool) (h : I7 c) (hp : i64 p) (hb : c.base.length ≤ 1000) : Go.Gar.Fn Tryz.prog 52 [c.d,.agg [.i .u8 7,.i .i64 p,.i .i64 b,.i .i64 k,.by bt,.s ky,.i .i64 v,.i .i64 r,.b g]] (.tup [(Fb c p).1.d,.i .i64 (Fb c p).2]):=by
 have c1:=UD c p h hp hb
 generalize Fb c p = R at *
 obtain ⟨⟨n1,g1,b1,l1,o1⟩,e⟩:=R
 obtain ⟨nodes,gone,base,grams,lost⟩:=c
 unfold AD.d AD.cells at *
 simp only at *
 refine A3 A8 Tryz.func52 rfl rfl (Nat.le_of_ble_eq_true rfl) ?_
 have nS:=True.intro;obtain ⟨lv,st,ns,nc⟩:=wq [0,1,2,3,4,5,6,8,9,18,26,34,42] [];have c1:=@c1;refine wk ?_;clear nc ns st lv c1;repeat' (first|with_reducible constructor|(with_reducible intro hc;try simp only[A1] at hc))
 refine ⟨_,_,rfl,rfl,?_⟩;simp [AH,A6,A5,A4]
theorem V4 (c : AD) (p b k v r : Int) (ky bt : List UInt8) (g : Bool) (h : I7 c) (hg : c.grams = []) (hp : i64 p) (hb : c.base.length ≤ 1000) (hR : AN c = true) : Go.Gar.Fn Tryz.prog 29 [c.d,.agg [.i .u8 7,.i .i64 p,.i .i64 b,.i .i64 k,.by bt,.s ky,.i .i64 v,.i .i64 r,.b g]] (.tup [(Fb c p).1.d,.i .i64 (Fb c p).2]):=by
 have c1:=Vw c p b k v r ky bt g h hp hb
 have c2:=DN c h
 rw [hR] at c2
 generalize Fb c p = R at *
 obtain ⟨⟨n1,g1,b1,l1,o1⟩,e⟩:=R
 obtain ⟨nodes,gone,base,grams,lost⟩:=c
 replace hg : grams = []:=hg
 subst hg
 have c3:=V6 nodes gone base lost h
 unfold AD.d AD.cells at *
 simp only at *
 refine A3 A8 Tryz.func29 rfl rfl (Nat.le_of_ble_eq_true rfl) ?_
 have nS:=True.intro;obtain ⟨lv,st,ns,nc⟩:=wq [0,1,2,3,4,5,10] [];have c1:=@c1;have c2:=@c2;have c3:=@c3;refine wk ?_;clear nc ns st lv c3 c2 c1;repeat' (first|with_reducible constructor|(with_reducible intro hc;try simp only[A1] at hc))
 refine ⟨_,_,rfl,rfl,?_⟩;simp [AH,A6,A5,A4]
abbrev Pl : AD:=⟨[],[],[],[],0⟩
def MF (base : List Int) : AD × Int:=if (decide (2 ≤ base.length) && (decide (base.length ≤ 4) && En base)) then (⟨base.map fun b => (F9 b base).1,[],base,[],0⟩,0) else (Pl,2)
theorem PD (base : List Int) (hb : ∀ y ∈ base,i64 y) (hl : base.length ≤ 1000) : Go.Gar.Fn Tryz.prog 22 [.is base] (.tup [(MF base).1.d,.i .i64 (MF base).2]):=by
 have c1:=IU base (by omega)
 have hT : MF base = if (decide (2 ≤ base.length) && (decide (base.length ≤ 4) && En base)) then (⟨base.map fun b => (F9 b base).1,[],base,[],0⟩,0) else (Pl,2):=rfl
 generalize MF base = R at *
 refine A3 A8 Tryz.func22 rfl rfl (Nat.le_of_ble_eq_true rfl) ?_
 cases hq : (decide (2 ≤ base.length) && (decide (base.length ≤ 4) && En base)) with
 | false =>
  rw [hq] at hT
  replace hT : R = (Pl,2):=hT
  subst hT
  generalize En base = rb at *
  have nS:=True.intro;obtain ⟨lv,st,ns,nc⟩:=wq [0,2,3,4,5,6,20,29] [];have c1:=@c1;refine wk ?_;clear nc ns st lv c1;repeat' (first|with_reducible constructor|(with_reducible intro hc;try simp only[A1] at hc))
  all_goals first
   | (exfalso;clear c1;grind)
   | (refine ⟨_,_,rfl,rfl,?_⟩;simp [AH,A6,A5,A4,AD.d,AD.cells])
 | true =>
 rw [hq] at hT
 simp only [Bool.and_eq_true,decide_eq_true_eq] at hq
 obtain ⟨h1,h2,h3⟩:=hq
 replace hT : R = (⟨base.map fun b => (F9 b base).1,[],base,[],0⟩,0):=hT
 subst hT
 rw [h3] at c1
 have f1 : decide ((base.length : Int) < 2) = false:=decide_eq_false (by omega)
 have f2 : decide ((base.length : Int) > 4) = false:=decide_eq_false (by omega)
 have nS:=And.intro f1 f2;obtain ⟨lv,st,ns,nc⟩:=wq [0,2,3,4,5,6,20,29] [];have c1:=@c1;refine wk ?_;clear nc ns st lv c1;repeat' (first|with_reducible constructor|(with_reducible intro hc;try simp only[A1] at hc))
 refine B3 (A0.Mr 1 0 (.sl 76 []) rfl rfl rfl rfl (by simp [A4])) (by simp) ?_
 refine B3 (A0.WR 1 1 (.is []) rfl rfl rfl rfl trivial) (by simp) ?_
 refine B3 (A0.WR 1 3 (.sl 3 []) rfl rfl rfl rfl (by simp [A4])) (by simp) ?_
 obtain ⟨Lf,hLf⟩ : ∃ Lf : Nat → List Node,Lf = fun k => (base.take k).map fun b => (F9 b base).1:=⟨_,rfl⟩
 have hL0 : Lf 0 = []:=by rw [hLf];rfl
 have hLl : ∀ k,(Lf k).length ≤ k:=fun k => by rw [hLf];simp only [List.length_map];exact List.length_take_le _ _
 have hLe : base.map (fun b => (F9 b base).1) = Lf base.length:=by rw [hLf];simp only [List.take_length]
 have hLs : ∀ k x,base[k]? = some x → Lf (k + 1) = Lf k ++ [(F9 x base).1]:=fun k x hx => by rw [hLf];simp only [AR hx,List.map_append,List.map_cons,List.map_nil]
 rw [hLe]
 clear hLf hLe
 refine E6 (fun k => k ≤ base.length) (fun k : Nat => [(5,.d (.i .i64 k))]) (fun k => [(1,.c [.sl 2 (Lf k).length 76,.d (.is []),.d (.is base),.d (.sl 3 []),.d (.i .i64 0)]),(2,.a (A2 (Lf k)))]) (fun k => base.length - k) 0 (Nat.zero_le _) (fun _ => rfl) (fun _ => rfl) ?_ ?_
 ·rw [hL0]
  exact A0.ck rfl
 intro k hk
 have htl:=hLl k
 by_cases hkl : k < base.length
 ·obtain ⟨x,hx⟩:=AG hkl
  have gx:=AY hx
  have c2:=Nm x base (hb x (List.mem_of_getElem? hx)) hl
  have hm:=hLs k x hx
  generalize F9 x base = nn at *
  obtain ⟨n,e⟩:=nn
  unfold Node.d Node.cells View.cells Calls.cells Job.cells at c2
  simp only [List.cons_append,List.nil_append] at c2
  simp only at hm
  have nS:=gx;obtain ⟨lv,st,ns,nc⟩:=wq [0,2,3,4,5,6,20,29] [];have c1:=@c2;refine wk ?_;clear nc ns st lv c1;repeat' (first|with_reducible constructor|(with_reducible intro hc;try simp only[A1] at hc))
  refine ⟨k + 1,hkl,by omega,Nat.le_refl _,?_⟩
  exact A0.cut rfl (by repeat' (first | exact True.intro | refine And.intro (by (first | rfl | ((with_reducible_and_instances refine congrArg (fun z => some (AV.d (D.i _ z))) ?_);omega) | (refine congrArg (fun z => some (AV.d (D.i _ z))) (?_ : (_ : Int) = _);omega) | (refine congrArg some ?_;simp only [hm,A2,List.map_append,List.map_cons,List.map_nil,Node.cells,View.cells,Calls.cells,Job.cells,List.cons_append,List.nil_append,List.length_append,List.length_cons,List.length_nil,List.length_map];done) | (refine congrArg some ?_;simp [hm,A2,List.map_append,List.map_cons,List.map_nil,Node.cells,View.cells,Calls.cells,Job.cells,List.cons_append,List.nil_append,List.length_append,List.length_cons,List.length_nil,List.length_map];done))) ?_)) (by repeat' (first | exact True.intro | refine And.intro (Or.inr rfl) ?_ | refine And.intro (Or.inl ⟨rfl,rfl⟩) ?_ | refine And.intro (Or.inr (by simp only [hm,A2,List.map_append,List.map_cons,List.map_nil,Node.cells,View.cells,Calls.cells,Job.cells,List.cons_append,List.nil_append,List.length_append,List.length_cons,List.length_nil,List.length_map])) ?_ | refine And.intro (Or.inr (by simp [hm,A2,List.map_append,List.map_cons,List.map_nil,Node.cells,View.cells,Calls.cells,Job.cells,List.cons_append,List.nil_append,List.length_append,List.length_cons,List.length_nil,List.length_map])) ?_)) (by first | rfl | (simp (decide:=true) [AT,A7.ok,AV.oks,AV.ok,hk];done)) rfl
 ·have e : k = base.length:=by omega
  subst e
  have nS:=True.intro;obtain ⟨lv,st,ns,nc⟩:=wq [0,2,3,4,5,6,20,29] [];refine wk ?_;clear nc ns st lv;repeat' (first|with_reducible constructor|(with_reducible intro hc;try simp only[A1] at hc))
  refine ⟨_,_,rfl,rfl,?_⟩;simp [AH,A6,A5,A4,AD.d,AD.cells,HF]
end Nd
end Go.Proofs.YtagnjflbhjmefaaGreat
