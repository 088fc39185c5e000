/- Part 13 of the texts of this proof, put together by a program and made short.
Conditions: none; what each theorem asks stands in its own hypotheses. -/
import Derived.Test.YtagnjflbhjmefaaGreatRb12
import Derived.KernelRfl
import Derived.RangeFuncIn
import Derived.Sort.Grow
import Derived.Laws.Cover3
import Derived.RecoverIn
import Derived.ProofKit
import Derived.OpenShut
import Derived.CallsIn
import Derived.RangeFuncLeaves
import Derived.OrdersIn
import Derived.TacticsIn
import Derived.ChangeKeysEq
import Derived.Laws.AppendOwn
import Derived.Laws.OwnMore
import Derived.Laws.MakeOwn
import Derived.Laws.Rows
import Derived.Laws.Cells
import Derived.Laws.Tables
import Derived.Laws.CopyRow
import Derived.Laws.Strings
import Derived.Laws.IdiomStrings
import Derived.Laws.BytesArg
import Derived.Test.YtagnjflbhjmefaaGreatProg
set_option linter.unusedSimpArgs false
set_option linter.unusedVariables false
set_option linter.unnecessarySimpa false
set_option maxHeartbeats 40000000
namespace Go.Proofs.YtagnjflbhjmefaaGreat
open Go.Gar
set_option maxRecDepth 4000
theorem L3 (b : List UInt8) (hb : b.length < 70368744177664) : Go.Gar.Fn Tryz.prog 196 [.by b] (Bg (Ag b)):=by
 refine A3 A8 Tryz.func196 rfl rfl (Nat.le_of_ble_eq_true rfl) ?_
 rcases b with _ | ⟨m,r⟩
 ·have nS:=True.intro;obtain ⟨lv,st,ns,nc⟩:=wq [0,2,3,4,5,6,7,10,16,21,24,46] [];refine wk ?_;clear nc ns st lv;repeat' (first|with_reducible constructor|(with_reducible intro hc;try simp only[A1] at hc))
  refine ⟨_,_,rfl,rfl,?_⟩;simp [AH,A6,A5,A4,Ag,Bg]
 have hm:=m.toNat_lt
 simp only [List.length_cons] at hb
 by_cases h6 : m.toNat > 6
 ·have nS:=True.intro;obtain ⟨lv,st,ns,nc⟩:=wq [0,2,3,4,5,6,7,10,16,21,24,46] [];refine wk ?_;clear nc ns st lv;repeat' (first|with_reducible constructor|(with_reducible intro hc;try simp only[A1] at hc))
  refine ⟨_,_,rfl,rfl,?_⟩;simp [AH,A6,A5,A4,Ag,Bg,h6]
 by_cases hr : r.length < m.toNat
 ·have nS:=True.intro;obtain ⟨lv,st,ns,nc⟩:=wq [0,2,3,4,5,6,7,10,16,21,24,46] [];refine wk ?_;clear nc ns st lv;repeat' (first|with_reducible constructor|(with_reducible intro hc;try simp only[A1] at hc))
  refine ⟨_,_,rfl,rfl,?_⟩;simp [AH,A6,A5,A4,Ag,Bg,h6,hr]
 have hlt : ∀ k,k ≤ m.toNat → Cq (r.take k) < 281474976710656:=by
  intro k hk
  have:=JO (r.take k)
  have h6' : (r.take k).length ≤ 6:=by simp;omega
  have : 256 ^ (r.take k).length ≤ 256 ^ 6:=Nat.pow_le_pow_right (by decide) h6'
  omega
 have nS:=True.intro;obtain ⟨lv,st,ns,nc⟩:=wq [0,2,3,4,5,6,7,10,16,21,24,46] [];refine wk ?_;clear nc ns st lv;repeat' (first|with_reducible constructor|(with_reducible intro hc;try simp only[A1] at hc))
 refine Aq (fun k => k ≤ m.toNat) (fun k : Nat => ⟨[(0,.d (.by (m :: r))),(2,.d (.i .i64 0)),(3,.e0),(4,.d (.i .i64 0)),(5,.d (.i .i64 m.toNat)),(6,.d (.i .i64 (Cq (r.take k) : Nat))),(7,.d (.i .i64 ((k + 1 : Nat) : Int)))],[],54⟩) (fun k => m.toNat - k) 0 (Nat.zero_le _) ?_ (Nat.le_refl _) ?_
 ·exact A0.ck rfl
 intro k hk
 have hv:=hlt k hk
 by_cases hkm : k < m.toNat
 ·have e3 : (Cq (r.take k) : Int) * 256 + ((r.getD k 0).toNat : Int) = (Cq (r.take (k + 1)) : Nat):=by
   have:=Lb r k (by omega)
   omega
  have hv':=hlt (k + 1) hkm
  have hd:=(r.getD k 0).toNat_lt
  have nS:=e3;obtain ⟨lv,st,ns,nc⟩:=wq [0,2,3,4,5,6,7,10,16,21,24,46] [];refine wk ?_;clear nc ns st lv;repeat' (first|with_reducible constructor|(with_reducible intro hc;try simp only[A1] at hc))
  rotate_left
  ·rw [e3];exact Cl rfl (IK _ (by omega))
  refine ⟨k + 1,hkm,by omega,Nat.le_refl _,?_⟩
  exact A0.ck rfl
 ·have hkm' : k = m.toNat:=by omega
  subst hkm'
  by_cases hP : (m.toNat > 0 ∧ r.getD 0 0 = 0) ∨ Cq (r.take m.toNat) > 1099511627776
  ·have hT : Ag (m :: r) = (0,[],12):=by simp only [Ag,if_neg h6,if_neg hr,if_pos hP]
   rw [hT]
   have nS:=True.intro;obtain ⟨lv,st,ns,nc⟩:=wq [0,2,3,4,5,6,7,10,16,21,24,46] [];refine wk ?_;clear nc ns st lv;repeat' (first|with_reducible constructor|(with_reducible intro hc;try simp only[A1] at hc))
   all_goals first
    | (refine ⟨_,_,rfl,rfl,?_⟩;simp [AH,A6,A5,A4,Bg];done)
    | (exfalso;rcases hP with ⟨h,h'⟩ | h <;> first | omega | (have h':=congrArg UInt8.toNat h';simp only [UInt8.toNat_zero] at h';omega))
  ·have hT : Ag (m :: r) = (Cq (r.take m.toNat),r.drop m.toNat,0):=by simp only [Ag,if_neg h6,if_neg hr,if_neg hP]
   rw [hT]
   have e5 : (1 + (m.toNat : Int)).toNat = m.toNat + 1:=by omega
   have nS:=e5;obtain ⟨lv,st,ns,nc⟩:=wq [0,2,3,4,5,6,7,10,16,21,24,46] [];refine wk ?_;clear nc ns st lv;repeat' (first|with_reducible constructor|(with_reducible intro hc;try simp only[A1] at hc))
   all_goals first
    | (refine ⟨_,_,rfl,rfl,?_⟩;simp [AH,A6,A5,A4,Bg];done)
    | (exfalso;exact hP (.inl ⟨by omega,u8z (by omega)⟩))
    | (exfalso;exact hP (.inr (by omega)))
theorem K4 (l : List Int) : Go.Gar.Fn Tryz.prog 204 [.is l] (.tup [.by (KW l).1,.i .i64 (KW l).2]):=by
 refine A3 A8 Tryz.func204 rfl rfl (Nat.le_of_ble_eq_true rfl) ?_
 by_cases hl : l.length > 255
 ·have nS:=True.intro;obtain ⟨lv,st,ns,nc⟩:=wq [0,2,3,4,5,6,7,10,18,30] [];refine wk ?_;clear nc ns st lv;repeat' (first|with_reducible constructor|(with_reducible intro hc;try simp only[A1] at hc))
  refine ⟨_,_,rfl,rfl,?_⟩;simp [AH,A6,A5,A4,KW,hl]
 have h1 : (l.length : Int) % 256 = l.length:=by omega
 have nS:=h1;obtain ⟨lv,st,ns,nc⟩:=wq [0,2,3,4,5,6,7,10,18,30] [];have ow : Lv [14]:=trivial;refine wk ?_;clear nc ns st lv ow;repeat' (first|with_reducible constructor|(with_reducible intro hc;try simp only[A1] at hc))
 refine Aq (fun k => k ≤ l.length ∧ (l.take k).all fits = true) (fun k : Nat => ⟨[(0,.d (.is l)),(2,.e0),(3,.d (.i .i64 0)),(4,.sl 0 (UInt8.ofNat l.length :: AA (l.take k)).length 1),(5,.d (.i .i64 k))],[.a (.by (UInt8.ofNat l.length :: AA (l.take k)))],36⟩) (fun k => l.length - k) 0 ⟨Nat.zero_le _,by simp⟩ ?_ (Nat.le_refl _) ?_
 ·exact A0.ck rfl
 rintro k ⟨hk,hpre⟩
 have hlen:=MC _ hpre
 have htl : (l.take k).length ≤ k:=List.length_take_le _ _
 by_cases hka : k < l.length
 ·by_cases hf : fits (l.getD k 0) = true
  ·obtain ⟨m,hm,hm'⟩:=Hm hf
   have hnext : (UInt8.ofNat l.length :: AA (l.take k)) ++ Ck m = UInt8.ofNat l.length :: AA (l.take (k + 1)):=by
    rw [FW hka,hm];simp
   have hnext' : AA (l.take k) ++ Ck m = AA (l.take (k + 1)):=by
    rw [FW hka,hm];simp
   have hnl:=BJ m hm'
   have hput : Nb (m : Int) = (Ck m,0):=by rw [hm] at hf;simp [Nb,hf]
   rw [hm] at hf
   have nS:=And.intro hm (And.intro hput hnext');obtain ⟨lv,st,ns,nc⟩:=wq [0,2,3,4,5,6,7,10,18,30] [];have c1:=Qo m;refine wk ?_;clear nc ns st lv c1;repeat' (first|with_reducible constructor|(with_reducible intro hc;try simp only[A1] at hc))
   refine ⟨k + 1,⟨hka,by rw [Gt hka,hpre,hm,hf];rfl⟩,by omega,Nat.le_refl _,?_⟩
   exact A0.cut rfl (by repeat' (first | exact True.intro | refine And.intro (by (first | rfl | ((with_reducible_and_instances refine congrArg (fun z => some (AV.d (D.i _ z))) ?_);omega) | (refine congrArg (fun z => some (AV.d (D.i _ z))) (?_ : (_ : Int) = _);omega) | (refine congrArg some ?_;simp only [List.cons_append,hnext'];done) | (refine congrArg some ?_;simp [List.cons_append,hnext'];done))) ?_)) (by repeat' (first | exact True.intro | refine And.intro (Or.inr rfl) ?_ | refine And.intro (Or.inl ⟨rfl,rfl⟩) ?_ | refine And.intro (Or.inr (by simp only [List.cons_append,hnext'])) ?_ | refine And.intro (Or.inr (by simp [List.cons_append,hnext'])) ?_)) (by first | rfl | (simp (decide:=true) [AT,A7.ok,AV.oks,AV.ok,hk];done)) rfl
  ·have hf' : fits (l.getD k 0) = false:=by simpa using hf
   have hall : l.all fits = false:=by
    rw [← List.take_append_drop (k + 1) l,List.all_append,Gt hka,hf'];simp
   have hput : Nb (l.getD k 0) = ([],2):=by unfold Nb;rw [if_neg hf]
   have nS:=hput;obtain ⟨lv,st,ns,nc⟩:=wq [0,2,3,4,5,6,7,10,18,30] [];have c1:=Qo (l.getD k 0);refine wk ?_;clear nc ns st lv c1;repeat' (first|with_reducible constructor|(with_reducible intro hc;try simp only[A1] at hc))
   refine ⟨_,_,rfl,rfl,?_⟩;simp [AH,A6,A5,A4,KW,hl,hall]
 ·have e : k = l.length:=by omega
  subst e
  rw [List.take_length] at hpre
  have nS:=True.intro;obtain ⟨lv,st,ns,nc⟩:=wq [0,2,3,4,5,6,7,10,18,30] [];refine wk ?_;clear nc ns st lv;repeat' (first|with_reducible constructor|(with_reducible intro hc;try simp only[A1] at hc))
  refine ⟨_,_,rfl,rfl,?_⟩;simp [AH,A6,A5,A4,KW,hl,hpre]
theorem MZ (b : List UInt8) (hb : b.length < 70368744177664) : Go.Gar.Fn Tryz.prog 197 [.by b] (EM (AX b)):=by
 refine A3 A8 Tryz.func197 rfl rfl (Nat.le_of_ble_eq_true rfl) ?_
 rcases b with _ | ⟨m,r⟩
 ·have nS:=True.intro;obtain ⟨lv,st,ns,nc⟩:=wq [0,2,3,4,5,6,7,8,9,10,13,21,31] [];refine wk ?_;clear nc ns st lv;repeat' (first|with_reducible constructor|(with_reducible intro hc;try simp only[A1] at hc))
  refine ⟨_,_,rfl,rfl,?_⟩;simp [AH,A6,A5,A4,AX,EM]
 have hm:=m.toNat_lt
 simp only [List.length_cons] at hb
 have nS:=True.intro;obtain ⟨lv,st,ns,nc⟩:=wq [0,2,3,4,5,6,7,8,9,10,13,21,31] [];refine wk ?_;clear nc ns st lv;repeat' (first|with_reducible constructor|(with_reducible intro hc;try simp only[A1] at hc))
 refine B3 (A0.J1 5 (.is []) rfl rfl rfl trivial) (by simp) ?_
 refine Aq (α:=Nat × List UInt8 × List Int) (fun x => x.1 ≤ m.toNat ∧ x.2.1.length ≤ r.length ∧ x.2.2.length = x.1 ∧ Bi (m.toNat - x.1) x.2.1 x.2.2 = Bi m.toNat r [])
  (fun x => ⟨[(0,.d (.by (m :: r))),(2,.e0),(3,.e0),(5,.sl 0 x.2.2.length 1),(6,.d (.by x.2.1)),(4,.d (.i .i64 0)),(7,.d (.i .i64 x.1))],[.a (.is x.2.2)],42⟩) (fun x => m.toNat - x.1) (0,r,[]) ⟨Nat.zero_le _,Nat.le_refl _,rfl,rfl⟩ ?_ (by simp) ?_
 ·exact A0.ck rfl
 rintro ⟨k,rest,acc⟩ ⟨hk,hrl,hal,hT⟩
 simp only at hk hrl hal hT
 have hl:=EA rest
 have hv:=O6 rest
 by_cases hkm : k < m.toNat
 ·rw [show m.toNat - k = (m.toNat - (k + 1)) + 1 by omega] at hT
  simp only [Bi] at hT
  by_cases he : (Ag rest).2.2 = 0
  ·rw [if_pos he] at hT
   have nS:=And.intro he @Bg.eq_1;obtain ⟨lv,st,ns,nc⟩:=wq [0,2,3,4,5,6,7,8,9,10,13,21,31] [];have c1:=L3 rest (by omega);refine wk ?_;clear nc ns st lv c1;repeat' (first|with_reducible constructor|(with_reducible intro hc;try simp only[A1] at hc))
   refine ⟨(k + 1,(Ag rest).2.1,acc ++ [((Ag rest).1 : Int)]),⟨hkm,by simp only;omega,by simp;omega,hT⟩,by simp only;omega,by simp,?_⟩
   exact A0.ck rfl
  ·rw [if_neg he] at hT
   have nS:=@Bg.eq_1;obtain ⟨lv,st,ns,nc⟩:=wq [0,2,3,4,5,6,7,8,9,10,13,21,31] [];have c1:=L3 rest (by omega);refine wk ?_;clear nc ns st lv c1;repeat' (first|with_reducible constructor|(with_reducible intro hc;try simp only[A1] at hc))
   have e : AX (m :: r) = ([],[],(Ag rest).2.2):=hT.symm
   refine ⟨_,_,rfl,rfl,?_⟩;simp [AH,A6,A5,A4,e,EM]
 ·have e : k = m.toNat:=by omega
  subst e
  rw [Nat.sub_self] at hT
  have e : AX (m :: r) = (acc,rest,0):=hT.symm
  have nS:=True.intro;obtain ⟨lv,st,ns,nc⟩:=wq [0,2,3,4,5,6,7,8,9,10,13,21,31] [];refine wk ?_;clear nc ns st lv;repeat' (first|with_reducible constructor|(with_reducible intro hc;try simp only[A1] at hc))
  refine ⟨_,_,rfl,rfl,?_⟩;simp [AH,A6,A5,A4,e,EM]
end Go.Proofs.YtagnjflbhjmefaaGreat
namespace Go.Proofs.YtagnjflbhjmefaaGreat
namespace Wi
open Go.Gar
set_option maxRecDepth 4000
theorem O7 (x : Item) : Go.Gar.Fn Tryz.prog 156 [x.d] (.b (B7 x)):=by
 obtain ⟨k,v,n,g⟩:=x
 refine A3 A8 Tryz.func156 rfl rfl (Nat.le_of_ble_eq_true rfl) ?_
 have nS:=True.intro;obtain ⟨lv,st,ns,nc⟩:=wq [0,1,2] [];refine wk ?_;clear nc ns st lv;repeat' (first|with_reducible constructor|(with_reducible intro hc;try simp only[A1] at hc))
 all_goals (refine ⟨_,_,rfl,rfl,?_⟩;simp_all [BQ,B7,NN,isVal] <;> omega)
theorem Qh (x : Item) : Go.Gar.Fn Tryz.prog 164 [x.d] (.b (B7 x)):=by
 obtain ⟨k,v,n,g⟩:=x
 have h1:=O4 k
 have h2:=Jk v
 have h3:=Jk n
 refine A3 A8 Tryz.func164 rfl rfl (Nat.le_of_ble_eq_true rfl) ?_
 have nS:=True.intro;obtain ⟨lv,st,ns,nc⟩:=wq [0,1,2] [];have c1:=@h1;have c2:=@h2;have c3:=@h3;refine wk ?_;clear nc ns st lv c3 c2 c1;repeat' (first|with_reducible constructor|(with_reducible intro hc;try simp only[A1] at hc))
 all_goals (refine ⟨_,_,rfl,rfl,?_⟩;simp_all [BQ,B7])
def D3 (s : Int) (l : List Int) : Bool:=l.all fun p => Az p && decide (p ≠ s)
def Cm (l : List Int) (s : Int) : Bool:=D3 s l && decide l.Nodup && decide (l.length ≤ 3)
theorem Ox {s : Int} {l : List Int} {k : Nat} (hk : k < l.length) : D3 s (l.take (k + 1)) = (D3 s (l.take k) && (Az (l.getD k 0) && decide (l.getD k 0 ≠ s))):=by
 unfold D3
 rw [List.take_succ_eq_append_getElem hk,List.getD_eq_getElem?_getD,List.getElem?_eq_getElem hk,List.all_append]
 simp only [List.all_cons,List.all_nil,Bool.and_true,Option.getD_some]
theorem Us {s : Int} {l : List Int} {k : Nat} (h : D3 s (l.take k) = false) : D3 s l = false:=by
 have e : D3 s l = (D3 s (l.take k) && D3 s (l.drop k)):=by
  unfold D3
  rw [← List.all_append,List.take_append_drop]
 rw [e,h];rfl
theorem OG {l : List Int} {j k : Nat} (hj : j < k) (hk : k < l.length) (h : l.getD j 0 = l.getD k 0) : ¬ l.Nodup:=by
 intro hn
 rw [List.getD_eq_getElem?_getD,List.getD_eq_getElem?_getD,List.getElem?_eq_getElem hk,List.getElem?_eq_getElem (by omega : j < l.length)] at h
 simp only [Option.getD_some] at h
 exact (List.pairwise_iff_getElem.1 hn) j k (by omega) hk hj h
theorem K7 {l : List Int} {k : Nat} (hk : k < l.length) (h : (l.take k).Nodup) (hall : ∀ j,j < k → l.getD j 0 ≠ l.getD k 0) : (l.take (k + 1)).Nodup:=by
 rw [List.take_succ_eq_append_getElem hk,List.nodup_append]
 refine ⟨h,by simp,?_⟩
 intro a ha b hb
 simp at hb
 subst hb
 obtain ⟨j,hj,e⟩:=List.mem_iff_getElem.1 ha
 rw [List.length_take] at hj
 have:=hall j (by omega)
 rw [List.getD_eq_getElem?_getD,List.getD_eq_getElem?_getD,List.getElem?_eq_getElem hk,List.getElem?_eq_getElem (by omega : j < l.length)] at this
 simp at this
 rw [← e,List.getElem_take]
 exact this
theorem K4 (l : List Int) (s : Int) (hl : l.length < 9223372036854775807) : Go.Gar.Fn Tryz.prog 277 [.is l,.i .i64 s] (.b (Cm l s)):=by
 refine A3 A8 Tryz.func277 rfl rfl (Nat.le_of_ble_eq_true rfl) ?_
 have nS:=True.intro;obtain ⟨lv,st,ns,nc⟩:=wq [0,1,4,5,6,10,26,29,40] [];have pr : AC []:=trivial;refine wd ?_;clear nc ns st lv pr;repeat' (first|with_reducible constructor|(with_reducible intro hc;try simp only[A1] at hc))
 refine Aq (fun k => k ≤ l.length ∧ D3 s (l.take k) = true ∧ (l.take k).Nodup) (fun k : Nat => ⟨[(0,.d (.is l)),(1,.d (.i .i64 s)),(5,.d (.i .i64 k))],[],44⟩) (fun k => l.length - k) 0 ⟨Nat.zero_le _,by simp [D3],by simp⟩ ?_ (Nat.le_refl _) ?_
 ·exact A0.ck rfl
 rintro k ⟨hk,hok,hnd⟩
 by_cases hkl : k < l.length
 ·have hst:=Ox (s:=s) hkl
  rw [hok,Bool.true_and] at hst
  have hp:=BM (l.getD k 0)
  by_cases hb : Az (l.getD k 0) = true ∧ l.getD k 0 ≠ s
  ·rw [hb.1] at hp
   have f1:=eq_false' hb.2
   have nS:=f1;obtain ⟨lv,st,ns,nc⟩:=wq [0,1,4,5,6,10,26,29,40] [];have c1:=@hp;have pr : AC []:=trivial;refine wd ?_;clear nc ns st lv pr c1;repeat' (first|with_reducible constructor|(with_reducible intro hc;try simp only[A1] at hc))
   refine Aq (fun j => j ≤ k ∧ ∀ i,i < j → l.getD i 0 ≠ l.getD k 0) (fun j : Nat => ⟨[(0,.d (.is l)),(1,.d (.i .i64 s)),(5,.d (.i .i64 k)),(6,.d (.i .i64 j))],[],44⟩) (fun j => k - j) 0 ⟨Nat.zero_le _,fun i h => by omega⟩ ?_ (Nat.le_refl _) ?_
   ·exact A0.ck rfl
   rintro j ⟨hj,hall⟩
   by_cases hjk : j < k
   ·have nS:=True.intro;obtain ⟨lv,st,ns,nc⟩:=wq [0,1,4,5,6,10,26,29,40] [];have pr : AC []:=trivial;refine wd ?_;clear nc ns st lv pr;repeat' (first|with_reducible constructor|(with_reducible intro hc;try simp only[A1] at hc))
    ·have e : Cm l s = false:=by simp [Cm,OG hjk hkl hc]
     refine ⟨_,_,rfl,rfl,?_⟩;simp [AH,A6,A5,A4,e]
    ·refine ⟨j + 1,⟨hjk,fun i hi => ?_⟩,by omega,Nat.le_refl _,?_⟩
     ·rcases Nat.lt_or_eq_of_le (Nat.le_of_lt_succ hi) with h | h
      ·exact hall i h
      ·rw [h];exact hc
     exact A0.ck rfl
   ·have e : j = k:=by omega
    have nS:=True.intro;obtain ⟨lv,st,ns,nc⟩:=wq [0,1,4,5,6,10,26,29,40] [];have pr : AC []:=trivial;refine wd ?_;clear nc ns st lv pr;repeat' (first|with_reducible constructor|(with_reducible intro hc;try simp only[A1] at hc))
    refine ⟨k + 1,⟨hkl,by rw [hst,hb.1,decide_eq_true hb.2];rfl,K7 hkl hnd fun i hi => hall i (by omega)⟩,by omega,Nat.le_refl _,?_⟩
    exact A0.ck rfl
  ·have e : Cm l s = false:=by
    have h2 : D3 s (l.take (k + 1)) = false:=by
     rw [hst]
     cases h : Az (l.getD k 0) with
     | false => rfl
     | true => simp only [Bool.true_and,decide_eq_false_iff_not];exact fun h3 => hb ⟨h,h3⟩
    simp [Cm,Us h2]
   cases h : Az (l.getD k 0) with
   | false =>
    rw [h] at hp
    have nS:=True.intro;obtain ⟨lv,st,ns,nc⟩:=wq [0,1,4,5,6,10,26,29,40] [];have c1:=@hp;have pr : AC []:=trivial;refine wd ?_;clear nc ns st lv pr c1;repeat' (first|with_reducible constructor|(with_reducible intro hc;try simp only[A1] at hc))
    refine ⟨_,_,rfl,rfl,?_⟩;simp [AH,A6,A5,A4,e]
   | true =>
    rw [h] at hp
    have f1 : (l.getD k 0 == s) = true:=by rw [beq_iff_eq];exact Classical.not_not.1 fun h3 => hb ⟨h,h3⟩
    have nS:=f1;obtain ⟨lv,st,ns,nc⟩:=wq [0,1,4,5,6,10,26,29,40] [];have c1:=@hp;have pr : AC []:=trivial;refine wd ?_;clear nc ns st lv pr c1;repeat' (first|with_reducible constructor|(with_reducible intro hc;try simp only[A1] at hc))
    refine ⟨_,_,rfl,rfl,?_⟩;simp [AH,A6,A5,A4,e]
 ·have e : k = l.length:=by omega
  subst e
  rw [List.take_length] at hok hnd
  have e2 : Cm l s = decide ((l.length : Int) ≤ 3):=by
   simp only [Cm,hok,decide_eq_true hnd,Bool.and_self,Bool.true_and]
   congr 1;simp;omega
  have nS:=True.intro;obtain ⟨lv,st,ns,nc⟩:=wq [0,1,4,5,6,10,26,29,40] [];have pr : AC []:=trivial;refine wd ?_;clear nc ns st lv pr;repeat' (first|with_reducible constructor|(with_reducible intro hc;try simp only[A1] at hc))
  refine ⟨_,_,rfl,rfl,?_⟩;simp [AH,A6,A5,A4,e2]
def apartB (s : Int) (l : List Int) : Bool:=l.all (fun p => decide (p ≠ s)) && decide l.Nodup
theorem Sp (s : Int) (l : List Int) (hl : l.length < 9223372036854775807) : Go.Gar.Fn Tryz.prog 249 [.i .i64 s,.is l] (.b (apartB s l)):=by
 have cut : ∀ k,k < l.length → (l.take (k + 1)).all (fun p => decide (p ≠ s)) = ((l.take k).all (fun p => decide (p ≠ s)) && decide (l.getD k 0 ≠ s)):=by
  intro k hk
  rw [List.take_succ_eq_append_getElem hk,List.getD_eq_getElem?_getD,List.getElem?_eq_getElem hk,List.all_append]
  simp only [List.all_cons,List.all_nil,Bool.and_true,Option.getD_some]
 refine A3 A8 Tryz.func249 rfl rfl (Nat.le_of_ble_eq_true rfl) ?_
 have nS:=True.intro;obtain ⟨lv,st,ns,nc⟩:=wq [0,1,4,5,6,7,8,9,10,23] [];refine wk ?_;clear nc ns st lv;repeat' (first|with_reducible constructor|(with_reducible intro hc;try simp only[A1] at hc))
 refine Aq (fun k => k ≤ l.length ∧ (l.take k).all (fun p => decide (p ≠ s)) = true ∧ (l.take k).Nodup) (fun k : Nat => ⟨[(0,.d (.i .i64 s)),(1,.d (.is l)),(7,.d (.is l)),(8,.d (.i .i64 l.length)),(9,.d (.i .i64 k))],[],25⟩) (fun k => l.length - k) 0 ⟨Nat.zero_le _,by simp,by simp⟩ ?_ (Nat.le_refl _) ?_
 ·exact A0.ck rfl
 rintro k ⟨hk,hok,hnd⟩
 by_cases hkl : k < l.length
 ·have hst:=cut k hkl
  have hco:=Iv (l.take k) (l.getD k 0) (by rw [List.length_take];omega)
  rw [hok,Bool.true_and] at hst
  by_cases hb : l.getD k 0 = s
  ·have f1:=Ar hb
   have e : apartB s l = false:=by
    unfold apartB
    have : l.getD k 0 ∈ l:=by
     rw [List.getD_eq_getElem?_getD,List.getElem?_eq_getElem hkl];exact List.getElem_mem hkl
    have h2 : l.all (fun p => decide (p ≠ s)) = false:=by
     rw [List.all_eq_false];exact ⟨_,this,by rw [hb];simp⟩
    rw [h2];rfl
   have nS:=f1;obtain ⟨lv,st,ns,nc⟩:=wq [0,1,4,5,6,7,8,9,10,23] [];refine wk ?_;clear nc ns st lv;repeat' (first|with_reducible constructor|(with_reducible intro hc;try simp only[A1] at hc))
   refine ⟨_,_,rfl,rfl,?_⟩;simp [AH,A6,A5,A4,e]
  ·have f1:=eq_false' hb
   by_cases hm : l.getD k 0 ∈ l.take k
   ·rw [decide_eq_true hm] at hco
    have e : apartB s l = false:=by
     unfold apartB
     obtain ⟨j,hj,e⟩:=List.mem_iff_getElem.1 hm
     rw [List.length_take] at hj
     have : ¬ l.Nodup:=OG (j:=j) (k:=k) (by omega) hkl (by rw [← e,List.getElem_take,List.getD_eq_getElem?_getD,List.getElem?_eq_getElem (by omega : j < l.length)];rfl)
     simp [this]
    have nS:=f1;obtain ⟨lv,st,ns,nc⟩:=wq [0,1,4,5,6,7,8,9,10,23] [];have c1:=@hco;refine wk ?_;clear nc ns st lv c1;repeat' (first|with_reducible constructor|(with_reducible intro hc;try simp only[A1] at hc))
    refine ⟨_,_,rfl,rfl,?_⟩;simp [AH,A6,A5,A4,e]
   ·rw [decide_eq_false hm] at hco
    have nS:=f1;obtain ⟨lv,st,ns,nc⟩:=wq [0,1,4,5,6,7,8,9,10,23] [];have c1:=@hco;refine wk ?_;clear nc ns st lv c1;repeat' (first|with_reducible constructor|(with_reducible intro hc;try simp only[A1] at hc))
    refine ⟨k + 1,⟨hkl,by rw [hst,decide_eq_true hb],K7 hkl hnd fun i hi h => hm ?_⟩,by omega,Nat.le_refl _,?_⟩
    ·rw [← h,List.getD_eq_getElem?_getD,List.getElem?_eq_getElem (by omega : i < l.length)]
     exact List.mem_iff_getElem.2 ⟨i,by rw [List.length_take];omega,by rw [List.getElem_take];rfl⟩
    exact A0.ck rfl
 ·have e : k = l.length:=by omega
  subst e
  rw [List.take_length] at hok hnd
  have e2 : apartB s l = true:=by unfold apartB;rw [hok,decide_eq_true hnd];rfl
  have nS:=True.intro;obtain ⟨lv,st,ns,nc⟩:=wq [0,1,4,5,6,7,8,9,10,23] [];refine wk ?_;clear nc ns st lv;repeat' (first|with_reducible constructor|(with_reducible intro hc;try simp only[A1] at hc))
  refine ⟨_,_,rfl,rfl,?_⟩;simp [AH,A6,A5,A4,e2]
theorem VW (a b : AE) (ha : a.list.length < 9223372036854775807) : Go.Gar.Fn Tryz.prog 192 [a.d,b.d] (.b (decide (a = b))):=by
 have hE:=LU a.list b.list ha
 obtain ⟨k,c,s,d,ky,sl,dn,pl,pr,l,⟨ik,iv,ir,ig⟩,co⟩:=a
 obtain ⟨k',c',s',d',ky',sl',dn',pl',pr',l',⟨ik',iv',ir',ig'⟩,co'⟩:=b
 have hI:=Fj ⟨ik,iv,ir,ig⟩ ⟨ik',iv',ir',ig'⟩
 refine A3 A8 Tryz.func192 rfl rfl (Nat.le_of_ble_eq_true rfl) ?_
 have nS:=hI;obtain ⟨lv,st,ns,nc⟩:=wq [0,1,2,3,4] [];have c1:=@hE;refine wk ?_;clear nc ns st lv c1;repeat' (first|with_reducible constructor|(with_reducible intro hc;try simp only[A1] at hc))
 all_goals (clear ha hE;refine ⟨_,_,rfl,rfl,?_⟩;simp_all [BQ,DW])
def AE.beside (m : AE) : AE :=
 if m.kind = 4 then { m with kind:=0,call:=0,src:=0,dst:=0,key:=0,slow:=false } else
 if m.kind = 5 then { m with kind:=0,call:=0,src:=0,dst:=0,item:=AP } else
 if m.kind = 6 then { m with kind:=0,call:=0,src:=0,dst:=0,item:=⟨[],m.item.value,m.item.version,m.item.gone⟩ } else
 if m.kind = 7 then { m with kind:=0,call:=0,src:=0,dst:=0,pred:=0,list:=[] } else
 if m.kind = 10 then { m with kind:=0,call:=0,src:=0,dst:=0,place:=0,done:=false } else
 if m.kind = 11 then { m with kind:=0,call:=0,src:=0,dst:=0,code:=0 } else
 if m.kind = 12 then { m with kind:=0,call:=0,src:=0,dst:=0,code:=0,item:=AP } else
 { m with kind:=0,call:=0,src:=0,dst:=0 }
def AE.holds (m : AE) : Bool :=
 if m.kind = 5 then B7 m.item else
 if m.kind = 6 then NN m.item.key else
 if m.kind = 7 then decide ((m.list.length : Int) ≤ 3) && apartB m.src m.list else
 if m.kind = 11 then decide (m.code = 0) || decide (m.code = 200) else
 if m.kind = 12 then (decide (m.code = 0) && B7 m.item) || (decide (m.code = 201) && decide (m.item = AP)) else true
theorem SF (m : AE) : Go.Gar.Fn Tryz.prog 193 [m.d] m.beside.d:=by
 obtain ⟨k,c,s,d,ky,sl,dn,pl,pr,l,⟨ik,iv,ir,ig⟩,co⟩:=m
 refine A3 A8 Tryz.func193 rfl rfl (Nat.le_of_ble_eq_true rfl) ?_
 have nS:=True.intro;obtain ⟨lv,st,ns,nc⟩:=wq [0,1,2,4,5,9,13,17,21,25,28] [];refine wk ?_;clear nc ns st lv;repeat' (first|with_reducible constructor|(with_reducible intro hc;try simp only[A1] at hc))
 all_goals (refine ⟨_,_,rfl,rfl,?_⟩;simp [*,AE.beside,AE.d,AE.cells,AP,II,CC,Co,Ao,Jq,A5,A6,A4])
theorem T8 (m : AE) (hl : m.list.length < 9223372036854775807) : Go.Gar.Fn Tryz.prog 187 [m.d] (.b m.holds):=by
 obtain ⟨k,c,s,d,ky,sl,dn,pl,pr,l,⟨ik,iv,ir,ig⟩,co⟩:=m
 have hk:=O4 ik
 have hP:=Qh ⟨ik,iv,ir,ig⟩
 have hL:=Sp s l hl
 have i2:=Fj ⟨ik,iv,ir,ig⟩ ⟨[],0,0,false⟩
 refine A3 A8 Tryz.func187 rfl rfl (Nat.le_of_ble_eq_true rfl) ?_
 have nS:=i2;obtain ⟨lv,st,ns,nc⟩:=wq [0,1,2,4,5,10,16,29,39] [];have c1:=@hk;have c2:=@hP;have c3:=@hL;refine wk ?_;clear nc ns st lv c3 c2 c1;repeat' (first|with_reducible constructor|(with_reducible intro hc;try simp only[A1] at hc))
 all_goals (clear hk hP hL i2;refine ⟨_,_,rfl,rfl,?_⟩;simp_all [BQ,AE.holds,AP,DW] <;> (intro;exfalso;omega))
theorem IA (a c : Int) (h : 0 ≤ a ∧ a < 65536) : Go.Gar.Fn Tryz.prog 190 [.i .i64 a,.i .i64 c] (.b (decide (c > a * 1048576) && decide (c ≤ (a + 1) * 1048576))):=by
 refine A3 A8 Tryz.func190 rfl rfl (Nat.le_of_ble_eq_true rfl) ?_
 have nS:=True.intro;obtain ⟨lv,st,ns,nc⟩:=wq [0,1,4] [];refine wk ?_;clear nc ns st lv;repeat' (first|with_reducible constructor|(with_reducible intro hc;try simp only[A1] at hc))
 all_goals (refine ⟨_,_,rfl,rfl,?_⟩;simp_all [BQ] <;> omega)
def mC (m : AE) : List AV:=[.d (.i .u8 m.kind),.d (.i .i64 m.call),.d (.i .i64 m.src),.d (.i .i64 m.dst),.d (.i .i64 m.key),.d (.b m.slow),.d (.b m.done),.d (.i .i64 m.place),.d (.i .i64 m.pred),.d (.is m.list),.d (.s m.item.key),.d (.i .i64 m.item.value),.d (.i .i64 m.item.version),.d (.b m.item.gone),.d (.i .i64 m.code)]
theorem Sb (m : AE) : BK Tryz.prog 188 [.d m.d] [] (.fn (.func 250) [] [.ptr 0 0 15]) [.c (mC m)]:=by
 refine AB A8 Tryz.func188 rfl rfl (Nat.le_of_ble_eq_true rfl) ?_
 have nS:=True.intro;obtain ⟨lv,st,ns,nc⟩:=wq [0,1,2] [];refine wk ?_;clear nc ns st lv;repeat' (first|with_reducible constructor|(with_reducible intro hc;try simp only[A1] at hc))
 exact ⟨_,(A0.ck rfl),Nat.zero_le _,_,_,rfl,rfl,rfl,rfl⟩
def AE.Cz (m : AE) : Bool :=
 Az m.src && Az m.dst && (if m.kind = 4 then Az m.key else if m.kind = 10 then Az m.place else if m.kind = 7 then (decide (m.pred = -1) || Az m.pred) && m.list.all Az else true)
end Wi
end Go.Proofs.YtagnjflbhjmefaaGreat
