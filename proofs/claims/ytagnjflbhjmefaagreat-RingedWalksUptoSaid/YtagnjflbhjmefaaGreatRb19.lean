/- Part 19 of the texts of this proof, put together by a program and made short.
Conditions: none; what each theorem asks stands in its own hypotheses. -/
import Derived.Test.YtagnjflbhjmefaaGreatRb17
import Derived.KernelRfl
import Derived.RangeFuncIn
import Derived.Sort.Grow
import Derived.Laws.Cover3
import Derived.RecoverIn
import Derived.ProofKit
import Derived.OpenShut
import Derived.CallsIn
import Derived.RangeFuncLeaves
import Derived.OrdersIn
import Derived.TacticsIn
import Derived.ChangeKeysEq
import Derived.Laws.AppendOwn
import Derived.Laws.OwnMore
import Derived.Laws.MakeOwn
import Derived.Laws.Rows
import Derived.Laws.Cells
import Derived.Laws.Tables
import Derived.Laws.CopyRow
import Derived.Laws.Strings
import Derived.Laws.IdiomStrings
import Derived.Laws.BytesArg
import Derived.Test.YtagnjflbhjmefaaGreatProg
set_option linter.unusedSimpArgs false
set_option linter.unusedVariables false
set_option linter.unnecessarySimpa false
set_option maxHeartbeats 40000000
namespace Go.Proofs.YtagnjflbhjmefaaGreat
namespace Wi
open Go.Gar
set_option maxRecDepth 4000
def PR (m : AE) : List UInt8 × Int:=if m.right then (D5 m,0) else ([],2)
def rH (b : List UInt8) : List A7:=[.c [.d (.by b)]]
def BY (b : List UInt8) : Option (Nat × List UInt8):=if (Ag b).2.2 = 0 then some ((Ag b).1,(Ag b).2.1) else none
def DF (b : List UInt8) : Option (Bool × List UInt8):=match BY b with
 | some (n,r) => if n > 1 then none else some (n == 1,r)
 | none => none
def Ej (b : List UInt8) : Option (List UInt8 × List UInt8):=if (AQ b).2.2 = 0 then some ((AQ b).1,(AQ b).2.1) else none
def Fa (b : List UInt8) : Option (List Int × List UInt8):=if (AX b).2.2 = 0 then some ((AX b).1,(AX b).2.1) else none
def E1 (b : List UInt8) : Option (Item × List UInt8):=match Ej b with
 | none => none
 | some (k,b1) => match BY b1 with
  | none => none
  | some (v,b2) => match BY b2 with
   | none => none
   | some (n,b3) => match DF b3 with
    | none => none
    | some (g,b4) => some (⟨k,v,n,g⟩,b4)
theorem F7 {b r : List UInt8} {n : Nat} (h : BY b = some (n,r)) : Ag b = (n,r,0):=by
 unfold BY at h
 split at h
 ·rename_i e
  cases h
  rw [← e]
 ·cases h
theorem Lq {b : List UInt8} (h : BY b = none) : (Ag b).2.2 ≠ 0:=by
 unfold BY at h
 split at h
 ·cases h
 ·assumption
theorem H8 {b r s : List UInt8} (h : Ej b = some (s,r)) : AQ b = (s,r,0):=by
 unfold Ej at h
 split at h
 ·rename_i e
  cases h
  rw [← e]
 ·cases h
theorem Ps {b : List UInt8} (h : Ej b = none) : (AQ b).2.2 ≠ 0:=by
 unfold Ej at h
 split at h
 ·cases h
 ·assumption
theorem HA {b r : List UInt8} {l : List Int} (h : Fa b = some (l,r)) : AX b = (l,r,0):=by
 unfold Fa at h
 split at h
 ·rename_i e
  cases h
  rw [← e]
 ·cases h
theorem Pk {b : List UInt8} (h : Fa b = none) : (AX b).2.2 ≠ 0:=by
 unfold Fa at h
 split at h
 ·cases h
 ·assumption
theorem EA (b : List UInt8) : (Ag b).2.1.length ≤ b.length:=by
 unfold Ag
 split
 ·simp
 ·repeat' split
  all_goals simp
  omega
theorem Aa {b r : List UInt8} {n : Nat} (h : BY b = some (n,r)) : r.length ≤ b.length:=by
 have:=EA b;rw [F7 h] at this;exact this
theorem GW {b r s : List UInt8} (h : Ej b = some (s,r)) : r.length ≤ b.length:=by
 have e:=H8 h
 unfold AQ at e
 split at e
 ·simp at e
 ·split at e
  ·simp at e
  ·simp only [Prod.mk.injEq] at e
   rw [← e.2.1];simp;omega
theorem Ib {b r : List UInt8} {g : Bool} (h : DF b = some (g,r)) : r.length ≤ b.length:=by
 unfold DF at h
 split at h
 ·rename_i n r' e
  split at h
  ·cases h
  ·cases h;exact Aa e
 ·cases h
theorem Al (b : List UInt8) (hb : b.length < 70368744177664) (n : Nat) (r : List UInt8) (h : BY b = some (n,r)) : BK Tryz.prog 175 [.ptr 0 0 1] (rH b) (.d (.i .i64 n)) (rH r):=by
 have ht:=JL b hb
 rw [F7 h] at ht
 unfold Bg at ht
 refine AB A8 Tryz.func175 rfl rfl (Nat.le_of_ble_eq_true rfl) ?_
 unfold rH
 have nS:=True.intro;obtain ⟨lv,st,ns,nc⟩:=wq [0,2,3,4,5] [];have c1:=@ht;have c2:=Ii 12;refine wk ?_;clear nc ns st lv c2 c1;repeat' (first|with_reducible constructor|(with_reducible intro hc;try simp only[A1] at hc))
 exact ⟨⟨[(2,.d (.i .i64 n))],rH r,Tryz.f175.ntmps⟩,(A0.ck rfl),Nat.le_refl _,_,_,rfl,rfl,rfl,rfl⟩
theorem Bj (b : List UInt8) (hb : b.length < 70368744177664) (h : BY b = none) : HI Tryz.prog 175 [.ptr 0 0 1] (rH b) (pF 12) [.gone]:=by
 have ht:=JL b hb
 unfold Bg at ht
 have hd:=Jm (Ag b).2.2 12 (Lq h)
 refine BD A8 Tryz.func175 rfl rfl (Nat.le_of_ble_eq_true rfl) ?_
 unfold rH
 have nS:=True.intro;obtain ⟨lv,st,ns,nc⟩:=wq [0,2,3,4,5] [];have c1:=@ht;have x1:=Ds.mk [] (hd);refine wx ?_;clear nc ns st lv x1 c1;repeat' (first|with_reducible constructor|(with_reducible intro hc;try simp only[A1] at hc))
 exact ⟨rfl,⟨[],[.gone],Tryz.f175.ntmps⟩,(A0.ck rfl),Nat.le_refl _,rfl⟩
theorem N2 (b : List UInt8) (hb : b.length < 70368744177664) (s r : List UInt8) (h : Ej b = some (s,r)) : BK Tryz.prog 181 [.ptr 0 0 1] (rH b) (.d (.s s)) (rH r):=by
 have ht:=Il b hb
 rw [H8 h] at ht
 unfold Dq at ht
 refine AB A8 Tryz.func181 rfl rfl (Nat.le_of_ble_eq_true rfl) ?_
 unfold rH
 have nS:=True.intro;obtain ⟨lv,st,ns,nc⟩:=wq [0,2,3,4,5] [];have c1:=@ht;have c2:=Ii 12;refine wk ?_;clear nc ns st lv c2 c1;repeat' (first|with_reducible constructor|(with_reducible intro hc;try simp only[A1] at hc))
 exact ⟨⟨[(2,.d (.s s))],rH r,Tryz.f181.ntmps⟩,(A0.ck rfl),Nat.le_refl _,_,_,rfl,rfl,rfl,rfl⟩
theorem QA (b : List UInt8) (hb : b.length < 70368744177664) (h : Ej b = none) : HI Tryz.prog 181 [.ptr 0 0 1] (rH b) (pF 12) [.gone]:=by
 have ht:=Il b hb
 unfold Dq at ht
 have hd:=Jm (AQ b).2.2 12 (Ps h)
 refine BD A8 Tryz.func181 rfl rfl (Nat.le_of_ble_eq_true rfl) ?_
 unfold rH
 have nS:=True.intro;obtain ⟨lv,st,ns,nc⟩:=wq [0,2,3,4,5] [];have c1:=@ht;have x1:=Ds.mk [] (hd);refine wx ?_;clear nc ns st lv x1 c1;repeat' (first|with_reducible constructor|(with_reducible intro hc;try simp only[A1] at hc))
 exact ⟨rfl,⟨[],[.gone],Tryz.f181.ntmps⟩,(A0.ck rfl),Nat.le_refl _,rfl⟩
theorem W1 (b : List UInt8) (hb : b.length < 70368744177664) (l : List Int) (r : List UInt8) (h : Fa b = some (l,r)) : BK Tryz.prog 183 [.ptr 0 0 1] (rH b) (.d (.is l)) (rH r):=by
 have ht:=Io b hb
 rw [HA h] at ht
 unfold EM at ht
 refine AB A8 Tryz.func183 rfl rfl (Nat.le_of_ble_eq_true rfl) ?_
 unfold rH
 have nS:=True.intro;obtain ⟨lv,st,ns,nc⟩:=wq [0,2,3,4,5] [];have c1:=@ht;have c2:=Ii 12;refine wk ?_;clear nc ns st lv c2 c1;repeat' (first|with_reducible constructor|(with_reducible intro hc;try simp only[A1] at hc))
 exact ⟨⟨[(2,.d (.is l))],rH r,Tryz.f183.ntmps⟩,(A0.ck rfl),Nat.le_refl _,_,_,rfl,rfl,rfl,rfl⟩
theorem VP (b : List UInt8) (hb : b.length < 70368744177664) (h : Fa b = none) : HI Tryz.prog 183 [.ptr 0 0 1] (rH b) (pF 12) [.gone]:=by
 have ht:=Io b hb
 unfold EM at ht
 have hd:=Jm (AX b).2.2 12 (Pk h)
 refine BD A8 Tryz.func183 rfl rfl (Nat.le_of_ble_eq_true rfl) ?_
 unfold rH
 have nS:=True.intro;obtain ⟨lv,st,ns,nc⟩:=wq [0,2,3,4,5] [];have c1:=@ht;have x1:=Ds.mk [] (hd);refine wx ?_;clear nc ns st lv x1 c1;repeat' (first|with_reducible constructor|(with_reducible intro hc;try simp only[A1] at hc))
 exact ⟨rfl,⟨[],[.gone],Tryz.f183.ntmps⟩,(A0.ck rfl),Nat.le_refl _,rfl⟩
theorem NI (b : List UInt8) (hb : b.length < 70368744177664) (g : Bool) (r : List UInt8) (h : DF b = some (g,r)) : BK Tryz.prog 177 [.ptr 0 0 1] (rH b) (.d (.b g)) (rH r):=by
 unfold DF at h
 split at h
 ·rename_i n r' hn
  split at h
  ·cases h
  ·rename_i h1
   simp only [Option.some.injEq,Prod.mk.injEq] at h
   obtain ⟨rfl,rfl⟩:=h
   have ht:=Al b hb n r' hn
   have e : ((n : Int) == 1) = (n == 1):=by rw [DW,DW];congr 1;simp;omega
   refine AB A8 Tryz.func177 rfl rfl (Nat.le_of_ble_eq_true rfl) ?_
   unfold rH at *
   have nS:=e;obtain ⟨lv,st,ns,nc⟩:=wq [0,2,3,7] [];have d1:=Ds.mk [0] (ht);refine wk ?_;clear nc ns st lv d1;repeat' (first|with_reducible constructor|(with_reducible intro hc;try simp only[A1] at hc))
   exact ⟨⟨[(2,.d (.b (n == 1)))],rH r',Tryz.f177.ntmps⟩,(A0.ck rfl),Nat.le_refl _,_,_,rfl,rfl,rfl,rfl⟩
 ·cases h
theorem Mj (b : List UInt8) (hb : b.length < 70368744177664) (h : DF b = none) : HI Tryz.prog 177 [.ptr 0 0 1] (rH b) (pF 12) [.gone]:=by
 unfold DF at h
 refine BD A8 Tryz.func177 rfl rfl (Nat.le_of_ble_eq_true rfl) ?_
 split at h
 ·rename_i n r' hn
  split at h
  ·rename_i h1
   have ht:=Al b hb n r' hn
   unfold rH at *
   have nS:=True.intro;obtain ⟨lv,st,ns,nc⟩:=wq [0,2,3,7] [];have d1:=Ds.mk [0] (ht);refine wx ?_;clear nc ns st lv d1;repeat' (first|with_reducible constructor|(with_reducible intro hc;try simp only[A1] at hc))
   exact ⟨rfl,⟨[],[.gone],Tryz.f177.ntmps⟩,(A0.ck rfl),Nat.le_refl _,rfl⟩
  ·cases h
 ·rename_i hn
  have ht:=Bj b hb hn
  unfold rH at *
  have nS:=True.intro;obtain ⟨lv,st,ns,nc⟩:=wq [0,2,3,7] [];have x1:=Ds.mk [0] (ht);refine wx ?_;clear nc ns st lv x1;repeat' (first|with_reducible constructor|(with_reducible intro hc;try simp only[A1] at hc))
  exact ⟨rfl,⟨[],[.gone],Tryz.f177.ntmps⟩,(A0.ck rfl),Nat.le_refl _,rfl⟩
theorem Qp (b : List UInt8) (hb : b.length < 70368744177664) (x : Item) (r : List UInt8) (h : E1 b = some (x,r)) : BK Tryz.prog 179 [.ptr 0 0 1] (rH b) (.d x.d) (rH r):=by
 unfold E1 at h
 split at h
 ·cases h
 rename_i k b1 h1
 split at h
 ·cases h
 rename_i v b2 h2
 split at h
 ·cases h
 rename_i n b3 h3
 split at h
 ·cases h
 rename_i g b4 h4
 simp only [Option.some.injEq,Prod.mk.injEq] at h
 obtain ⟨rfl,rfl⟩:=h
 have l1:=GW h1
 have l2:=Aa h2
 have l3:=Aa h3
 have c1:=N2 b hb k b1 h1
 have c2:=Al b1 (by omega) v b2 h2
 have c3:=Al b2 (by omega) n b3 h3
 have c4:=NI b3 (by omega) g b4 h4
 refine BK.drop (K:=[.c [.d (.by b4)],.c [.d (.s k),.d (.i .i64 v),.d (.i .i64 n),.d (.b g)]]) _ ?_ ⟨.inr rfl,trivial⟩ rfl rfl rfl
 refine AB A8 Tryz.func179 rfl rfl (Nat.le_of_ble_eq_true rfl) ?_
 unfold rH at *
 have nS:=True.intro;obtain ⟨lv,st,ns,nc⟩:=wq [0,2] [];have d1:=Ds.mk [0] (c1);have d2:=Ds.mk [0] (c2);have d3:=Ds.mk [0] (c3);have d4:=Ds.mk [0] (c4);refine wk ?_;clear nc ns st lv d4 d3 d2 d1;repeat' (first|with_reducible constructor|(with_reducible intro hc;try simp only[A1] at hc))
 exact ⟨_,A0.refl _,Nat.le_add_right _ _,_,_,rfl,rfl,rfl,rfl⟩
theorem Qg (b : List UInt8) (hb : b.length < 70368744177664) (h : E1 b = none) : HI Tryz.prog 179 [.ptr 0 0 1] (rH b) (pF 12) [.gone]:=by
 refine BD A8 Tryz.func179 rfl rfl (Nat.le_of_ble_eq_true rfl) ?_
 cases h1 : Ej b with
 | none =>
  have c1:=QA b hb h1
  unfold rH at *
  have nS:=True.intro;obtain ⟨lv,st,ns,nc⟩:=wq [0,2] [];have x1:=Ds.mk [0] (c1);refine wx ?_;clear nc ns st lv x1;repeat' (first|with_reducible constructor|(with_reducible intro hc;try simp only[A1] at hc))
  exact ⟨rfl,⟨[],[.gone],Tryz.f179.ntmps⟩,(A0.ck rfl),Nat.le_refl _,rfl⟩
 | some p =>
 obtain ⟨k,b1⟩:=p
 have l1:=GW h1
 have c1:=N2 b hb k b1 h1
 cases h2 : BY b1 with
 | none =>
  have c2:=Bj b1 (by omega) h2
  unfold rH at *
  have nS:=True.intro;obtain ⟨lv,st,ns,nc⟩:=wq [0,2] [];have d1:=Ds.mk [0] (c1);have x1:=Ds.mk [0] (c2);refine wx ?_;clear nc ns st lv x1 d1;repeat' (first|with_reducible constructor|(with_reducible intro hc;try simp only[A1] at hc))
  exact ⟨rfl,⟨[],[.gone],Tryz.f179.ntmps⟩,(A0.ck rfl),Nat.le_refl _,rfl⟩
 | some p =>
 obtain ⟨v,b2⟩:=p
 have l2:=Aa h2
 have c2:=Al b1 (by omega) v b2 h2
 cases h3 : BY b2 with
 | none =>
  have c3:=Bj b2 (by omega) h3
  unfold rH at *
  have nS:=True.intro;obtain ⟨lv,st,ns,nc⟩:=wq [0,2] [];have d1:=Ds.mk [0] (c1);have d2:=Ds.mk [0] (c2);have x1:=Ds.mk [0] (c3);refine wx ?_;clear nc ns st lv x1 d2 d1;repeat' (first|with_reducible constructor|(with_reducible intro hc;try simp only[A1] at hc))
  exact ⟨rfl,⟨[],[.gone],Tryz.f179.ntmps⟩,(A0.ck rfl),Nat.le_refl _,rfl⟩
 | some p =>
 obtain ⟨n,b3⟩:=p
 have l3:=Aa h3
 have c3:=Al b2 (by omega) n b3 h3
 cases h4 : DF b3 with
 | none =>
  have c4:=Mj b3 (by omega) h4
  unfold rH at *
  have nS:=True.intro;obtain ⟨lv,st,ns,nc⟩:=wq [0,2] [];have d1:=Ds.mk [0] (c1);have d2:=Ds.mk [0] (c2);have d3:=Ds.mk [0] (c3);have x1:=Ds.mk [0] (c4);refine wx ?_;clear nc ns st lv x1 d3 d2 d1;repeat' (first|with_reducible constructor|(with_reducible intro hc;try simp only[A1] at hc))
  exact ⟨rfl,⟨[],[.gone],Tryz.f179.ntmps⟩,(A0.ck rfl),Nat.le_refl _,rfl⟩
 | some p =>
  unfold E1 at h
  simp only [h1,h2,h3,h4] at h
  cases h
theorem Lw {b r : List UInt8} {x : Item} (h : E1 b = some (x,r)) : r.length ≤ b.length:=by
 unfold E1 at h
 split at h
 ·cases h
 rename_i k b1 h1
 split at h
 ·cases h
 rename_i v b2 h2
 split at h
 ·cases h
 rename_i n b3 h3
 split at h
 ·cases h
 rename_i g b4 h4
 simp only [Option.some.injEq,Prod.mk.injEq] at h
 obtain ⟨rfl,rfl⟩:=h
 have l1:=GW h1
 have l2:=Aa h2
 have l3:=Aa h3
 have l4:=Ib h4
 omega
def DG (m : AE) (b : List UInt8) : Option (AE × List UInt8):=match BY b with
 | none => none
 | some (k,b1) => if k ≥ 13 then none else match BY b1 with
  | none => none
  | some (c,b2) => match BY b2 with
   | none => none
   | some (s,b3) => match BY b3 with
    | none => none
    | some (d,b4) => some ({ m with kind:=k,call:=c,src:=s,dst:=d },b4)
def hH (m : AE) (b : List UInt8) : List A7:=[.c [.d (.by b)],.c (mC m)]
def uC : List AV:=List.replicate 15 .u
theorem MY (m : AE) (b : List UInt8) (hb : b.length < 70368744177664) (m' : AE) (r : List UInt8) (h : DG m b = some (m',r)) : BK Tryz.prog 134 [.ptr 0 0 1,.ptr 1 0 15] (hH m b) (.tup []) (hH m' r):=by
 unfold DG at h
 split at h
 ·cases h
 rename_i k b1 h1
 split at h
 ·cases h
 rename_i hk
 split at h
 ·cases h
 rename_i c b2 h2
 split at h
 ·cases h
 rename_i s b3 h3
 split at h
 ·cases h
 rename_i d b4 h4
 simp only [Option.some.injEq,Prod.mk.injEq] at h
 obtain ⟨rfl,rfl⟩:=h
 have l1:=Aa h1
 have l2:=Aa h2
 have l3:=Aa h3
 have c1:=Al b hb k b1 h1
 have c2:=Al b1 (by omega) c b2 h2
 have c3:=Al b2 (by omega) s b3 h3
 have c4:=Al b3 (by omega) d b4 h4
 have e : (k : Int) % 256 = k:=by omega
 refine AB A8 Tryz.func134 rfl rfl (Nat.le_of_ble_eq_true rfl) ?_
 unfold rH hH mC at *
 have nS:=e;obtain ⟨lv,st,ns,nc⟩:=wq [0,1,4,8] [];have d1:=Ds.mk [0] (c1);have d2:=Ds.mk [0] (c2);have d3:=Ds.mk [0] (c3);have d4:=Ds.mk [0] (c4);refine wk ?_;clear nc ns st lv d4 d3 d2 d1;repeat' (first|with_reducible constructor|(with_reducible intro hc;try simp only[A1] at hc))
 exact ⟨_,A0.refl _,Nat.le_refl _,_,_,rfl,rfl,rfl,rfl⟩
theorem Xo {E : Nat → Option Ap} {env : List (Nat × AV)} {b : List UInt8} {cs : List AV} {n : Nat} (hcs : cs.length = 15) : A0 ⟨env,[.c [.d (.by b)],.c cs],n⟩ ⟨[],[.gone,.c uC],n⟩ :=
 (A0.us (S:=⟨env,[.c [.d (.by b)],.c cs],n⟩) 1 15 rfl hcs.symm).trans' (A0.cut (S':=⟨[],[.gone,.c uC],n⟩) rfl trivial ⟨.inl ⟨rfl,rfl⟩,.inr rfl,trivial⟩ rfl rfl) (Nat.le_refl _)
theorem VF (m : AE) (b : List UInt8) (hb : b.length < 70368744177664) (h : DG m b = none) : HI Tryz.prog 134 [.ptr 0 0 1,.ptr 1 0 15] (hH m b) (pF 12) [.gone,.c uC]:=by
 refine BD A8 Tryz.func134 rfl rfl (Nat.le_of_ble_eq_true rfl) ?_
 unfold DG at h
 cases h1 : BY b with
 | none =>
  have c1:=Bj b hb h1
  unfold hH rH mC at *
  have nS:=True.intro;obtain ⟨lv,st,ns,nc⟩:=wq [0,1,4,8] [];have x1:=Ds.mk [0] (c1);refine wx ?_;clear nc ns st lv x1;repeat' (first|with_reducible constructor|(with_reducible intro hc;try simp only[A1] at hc))
  exact ⟨rfl,_,(A0.us (S:=⟨_,[.gone,.c _],_⟩) 1 15 rfl rfl),Nat.le_refl _,rfl⟩
 | some p =>
 obtain ⟨k,b1⟩:=p
 rw [h1] at h
 simp only at h
 have l1:=Aa h1
 have c1:=Al b hb k b1 h1
 split at h
 ·rename_i hk
  unfold hH rH mC at *
  have nS:=True.intro;obtain ⟨lv,st,ns,nc⟩:=wq [0,1,4,8] [];have d1:=Ds.mk [0] (c1);refine wx ?_;clear nc ns st lv d1;repeat' (first|with_reducible constructor|(with_reducible intro hc;try simp only[A1] at hc))
  exact ⟨rfl,_,Xo (E:=T.get) rfl,Nat.le_refl _,rfl⟩
 rename_i hk
 have e : (k : Int) % 256 = k:=by omega
 cases h2 : BY b1 with
 | none =>
  have c2:=Bj b1 (by omega) h2
  unfold hH rH mC at *
  have nS:=e;obtain ⟨lv,st,ns,nc⟩:=wq [0,1,4,8] [];have d1:=Ds.mk [0] (c1);have x1:=Ds.mk [0] (c2);refine wx ?_;clear nc ns st lv x1 d1;repeat' (first|with_reducible constructor|(with_reducible intro hc;try simp only[A1] at hc))
  exact ⟨rfl,_,(A0.us (S:=⟨_,[.gone,.c _],_⟩) 1 15 rfl rfl),Nat.le_refl _,rfl⟩
 | some p =>
 obtain ⟨c,b2⟩:=p
 rw [h2] at h
 simp only at h
 have l2:=Aa h2
 have c2:=Al b1 (by omega) c b2 h2
 cases h3 : BY b2 with
 | none =>
  have c3:=Bj b2 (by omega) h3
  unfold hH rH mC at *
  have nS:=e;obtain ⟨lv,st,ns,nc⟩:=wq [0,1,4,8] [];have d1:=Ds.mk [0] (c1);have d2:=Ds.mk [0] (c2);have x1:=Ds.mk [0] (c3);refine wx ?_;clear nc ns st lv x1 d2 d1;repeat' (first|with_reducible constructor|(with_reducible intro hc;try simp only[A1] at hc))
  exact ⟨rfl,_,(A0.us (S:=⟨_,[.gone,.c _],_⟩) 1 15 rfl rfl),Nat.le_refl _,rfl⟩
 | some p =>
 obtain ⟨s,b3⟩:=p
 rw [h3] at h
 simp only at h
 have l3:=Aa h3
 have c3:=Al b2 (by omega) s b3 h3
 cases h4 : BY b3 with
 | none =>
  have c4:=Bj b3 (by omega) h4
  unfold hH rH mC at *
  have nS:=e;obtain ⟨lv,st,ns,nc⟩:=wq [0,1,4,8] [];have d1:=Ds.mk [0] (c1);have d2:=Ds.mk [0] (c2);have d3:=Ds.mk [0] (c3);have x1:=Ds.mk [0] (c4);refine wx ?_;clear nc ns st lv x1 d3 d2 d1;repeat' (first|with_reducible constructor|(with_reducible intro hc;try simp only[A1] at hc))
  exact ⟨rfl,_,(A0.us (S:=⟨_,[.gone,.c _],_⟩) 1 15 rfl rfl),Nat.le_refl _,rfl⟩
 | some p =>
  rw [h4] at h
  cases h
theorem IS {m m' : AE} {b r : List UInt8} (h : DG m b = some (m',r)) : r.length ≤ b.length:=by
 unfold DG at h
 split at h
 ·cases h
 rename_i k b1 h1
 split at h
 ·cases h
 split at h
 ·cases h
 rename_i c b2 h2
 split at h
 ·cases h
 rename_i s b3 h3
 split at h
 ·cases h
 rename_i d b4 h4
 simp only [Option.some.injEq,Prod.mk.injEq] at h
 obtain ⟨rfl,rfl⟩:=h
 have l1:=Aa h1
 have l2:=Aa h2
 have l3:=Aa h3
 have l4:=Aa h4
 omega
end Wi
end Go.Proofs.YtagnjflbhjmefaaGreat
