/- Part 35 of the texts of this proof, put together by a program and made short.
Conditions: none; what each theorem asks stands in its own hypotheses. -/
import Derived.Test.YtagnjflbhjmefaaGreatRb17
import Derived.KernelRfl
import Derived.RangeFuncIn
import Derived.Sort.Grow
import Derived.Laws.Cover3
import Derived.RecoverIn
import Derived.ProofKit
import Derived.OpenShut
import Derived.CallsIn
import Derived.RangeFuncLeaves
import Derived.OrdersIn
import Derived.TacticsIn
import Derived.ChangeKeysEq
import Derived.Laws.AppendOwn
import Derived.Laws.OwnMore
import Derived.Laws.MakeOwn
import Derived.Laws.Rows
import Derived.Laws.Cells
import Derived.Laws.Tables
import Derived.Laws.CopyRow
import Derived.Laws.Strings
import Derived.Laws.IdiomStrings
import Derived.Laws.BytesArg
import Derived.Test.YtagnjflbhjmefaaGreatProg
set_option linter.unusedSimpArgs false
set_option linter.unusedVariables false
set_option linter.unnecessarySimpa false
set_option maxHeartbeats 40000000
namespace Go.Proofs.YtagnjflbhjmefaaGreat
namespace Wi
open Go.Gar
set_option maxRecDepth 4000
theorem XT {P : Program} {ro : Option Nat} {ops : Array Oper} {i : Nat} {rest : List Oper} {Q : Exit → St → Prop} {o : Oper} {en e : List (Nat × AV)} {hp H' : List A7} {nt g : Nat} {xs : List AV} {r : AV} (hT : BK P g xs hp r H') (hg : A9 ops en o = some true) (h : BA en o.op = some (g,xs)) (hd : AJ o.dst nt = true) (he : Af o.dst r en = some e)
  (k : Wl P ro ops (i + 1) rest ⟨e,H',nt⟩ Q) : Wl P ro ops i (o :: rest) ⟨en,hp,nt⟩ Q:=by
 rw [AO he] at k
 exact Xh hg h hd hT fun r K ⟨h1,h2⟩ => by subst h1;subst h2;exact k
theorem W7 (l : List UInt8) : BK Tryz.prog 173 [.d (.by l)] [] (.fn (.func 243) [] [.ptr 0 0 1]) [.c [.d (.by l)]]:=by
 refine AB A8 Tryz.func173 rfl rfl (Nat.le_of_ble_eq_true rfl) ?_
 have nS:=True.intro;obtain ⟨lv,st,ns,nc⟩:=wq [0,1,2] [];refine wk ?_;clear nc ns st lv;repeat' (first|with_reducible constructor|(with_reducible intro hc;try simp only[A1] at hc))
 exact ⟨_,(A0.ck rfl),Nat.zero_le _,_,_,rfl,rfl,rfl,rfl⟩
def ones : BitVec 32:=4294967295#32
def Gk (l : List UInt8) : BitVec 32:=CM ones (CJ l ++ List.replicate 32 false)
theorem Kz {l : List UInt8} {k : Nat} {d : UInt8} (h : l[k]? = some d) : CJ (l.take (k + 1)) = CJ (l.take k) ++ C8 d:=by
 rw [AR h];simp [CJ]
theorem VA : C8 0 = List.replicate 8 false:=by decide
theorem XZ (l : List UInt8) (hl : l.length < 70368744177664) : Go.Gar.Fn Tryz.prog 131 [.by l] (u32 (Gk l)):=by
 refine A3 A8 Tryz.func131 rfl rfl (Nat.le_of_ble_eq_true rfl) ?_
 have hb:=W7 l
 have nS:=True.intro;obtain ⟨lv,st,ns,nc⟩:=wq [0,2,3,4,6,7] [];have d1:=Ds.mk [] (hb);refine wk ?_;clear nc ns st lv d1;repeat' (first|with_reducible constructor|(with_reducible intro hc;try simp only[A1] at hc))
 refine Bn (K:=fun r _ H' => H' = Fs l r (Gk l)) rfl (by first | (simp only [Ai,Ae,Nat.reduceAdd,Int.reduceAdd,Int.reduceSub,Int.reduceMul,Int.reduceToNat];done) | (simp only [Ai,Ae,Nat.reduceAdd,Int.reduceAdd,Int.reduceSub,Int.reduceMul,Int.reduceToNat];rfl) | rfl) (by first | (simp only [Ai,Ae,Nat.reduceAdd,Int.reduceAdd,Int.reduceSub,Int.reduceMul,Int.reduceToNat];done) | (simp only [Ai,Ae,Nat.reduceAdd,Int.reduceAdd,Int.reduceSub,Int.reduceMul,Int.reduceToNat];rfl) | rfl) (fun r => (by first | (simp only [Ai,Ae,Nat.reduceAdd,Int.reduceAdd,Int.reduceSub,Int.reduceMul,Int.reduceToNat];done) | (simp only [Ai,Ae,Nat.reduceAdd,Int.reduceAdd,Int.reduceSub,Int.reduceMul,Int.reduceToNat];rfl) | rfl)) ?_ ?_
 ·intro r hr
  have hk:=hr.ok (k:=3) rfl
  have hY : ∀ s b,YT Tryz.prog 2 [.d (.b b)] (Fs l r s) fun x K => x = .d (.b true) ∧ K = Fs l r (Dm s b):=by
   intro s b
   have hs:=WA s b
   unfold Fs u32 at *
   refine B0 hr rfl rfl rfl ?_
   have nS:=True.intro;obtain ⟨lv,st,ns,nc⟩:=wq [0,2,3,4,6,7] [];refine wk ?_;clear nc ns st lv;repeat' (first|with_reducible constructor|(with_reducible intro hc;try simp only[A1] at hc))
   refine ⟨rfl,CB (by first | (simp only [Ai,Ae,Nat.reduceAdd,Int.reduceAdd,Int.reduceSub,Int.reduceMul,Int.reduceToNat];done) | (simp only [Ai,Ae,Nat.reduceAdd,Int.reduceAdd,Int.reduceSub,Int.reduceMul,Int.reduceToNat];rfl) | rfl) ?_⟩
   have nS:=True.intro;obtain ⟨lv,st,ns,nc⟩:=wq [0,2,3,4,6,7] [];have c1:=@hs;refine wk ?_;clear nc ns st lv c1;repeat' (first|with_reducible constructor|(with_reducible intro hc;try simp only[A1] at hc))
   refine ⟨_,A0.refl _,Nat.le_refl _,rfl,rfl,?_⟩
   simp only [List.set_cons_succ,List.set_cons_zero]
  refine BP A8 Tryz.func243 rfl rfl (Nat.le_of_ble_eq_true rfl) ?_
  have hz:=hY
  unfold Fs at hz ⊢
  have nS:=True.intro;obtain ⟨lv,st,ns,nc⟩:=wq [0,1,4,5,6,7,8,14,16,17,20] [];refine wk ?_;clear nc ns st lv;repeat' (first|with_reducible constructor|(with_reducible intro hc;try simp only[A1] at hc))
  refine Aq (fun k => k ≤ l.length) (fun k : Nat => ⟨[(0,.yl 2),(5,.d (.by l)),(6,.d (.i .i64 l.length)),(7,.d (.i .i64 k))],Fs l r (CM ones (CJ (l.take k))),22⟩) (fun k => l.length - k) 0 (Nat.zero_le _) ?_ (Nat.le_refl _) ?_
  ·unfold Fs
   exact A0.ck rfl
  intro k hkl
  unfold Fs
  by_cases hlt : k < l.length
  ·obtain ⟨d,hd⟩:=AG hlt
   have hs:=Fv d l r (CM ones (CJ (l.take k))) (hk 3 rfl).1 hY
   have e1:=Kz hd
   have e2 : CM (CM ones (CJ (l.take k))) (C8 d) = CM ones (CJ (l.take (k + 1))):=by rw [e1,F4]
   rw [e2] at hs
   have gd : l.getD k 0 = d:=by rw [List.getD_eq_getElem?_getD,hd];rfl
   have nS:=gd
   repeat' (first | ((with_reducible refine sg ?_);first | with_reducible rfl | ((with_reducible refine Cy ?_);first | kernel_rfl | rfl | (simp [Bh,C9,nS];done)) | with_reducible refine Cl ?_ ?_ | with_reducible exact Nat.beq_refl _ | with_reducible exact Ad _ | ((with_reducible refine decide_eq_true ?_);first | omega | (simp only [Bl,nS];omega)) | decide | (simp [Bl,slc,Ac,D.one,Ax,AV.one,nS];done) | (simp [Bl,nS];omega)) | ((with_reducible refine WX ?_);first | (refine EZ rfl ?_;refine WT A8 rfl rfl rfl rfl ?_) | refine Xq A8 rfl rfl rfl rfl ?_ ?_ | refine Xn [0,1,4,5,6,7,8,14,16,17,20] rfl ?_) | refine Fz ?_ | refine GL ?_ | (refine XT hs rfl rfl rfl rfl ?_) | refine EI ?_ | refine Fw ?_ | refine D9 ?_ | refine EJ ?_ | refine CQ rfl ?_ | refine CP rfl ?_ | (refine GB rfl (fun hc => ?_) (fun hc => ?_) <;> (try simp only [A1] at hc) <;> (try (exfalso;omega))))
   refine ⟨k + 1,hlt,by omega,Nat.le_refl _,?_⟩
   exact A0.ck rfl
  ·have e : l.take k = l:=List.take_of_length_le (by omega)
   rw [e]
   have nS:=True.intro;obtain ⟨lv,st,ns,nc⟩:=wq [0,1,4,5,6,7,8,14,16,17,20] [];refine wk ?_;clear nc ns st lv;repeat' (first|with_reducible constructor|(with_reducible intro hc;try simp only[A1] at hc))
   refine Aq (fun k => k ≤ 4) (fun k : Nat => ⟨[(0,.yl 2),(16,.d (.i .i64 k))],Fs l r (CM ones (CJ l ++ List.replicate (8 * k) false)),22⟩) (fun k => 4 - k) 0 (Nat.zero_le _) ?_ (Nat.le_refl _) ?_
   ·unfold Fs
    simp only [Nat.mul_zero,List.replicate_zero,List.append_nil]
    exact A0.ck rfl
   intro j hj
   unfold Fs
   by_cases hjl : j < 4
   ·have hs:=Fv 0 l r (CM ones (CJ l ++ List.replicate (8 * j) false)) (hk 3 rfl).1 hY
    have e2 : CM (CM ones (CJ l ++ List.replicate (8 * j) false)) (C8 0) = CM ones (CJ l ++ List.replicate (8 * (j + 1)) false):=by
     rw [VA,← F4,List.append_assoc,List.replicate_append_replicate];rfl
    rw [e2] at hs
    have nS:=True.intro
    repeat' (first | ((with_reducible refine sg ?_);first | with_reducible rfl | ((with_reducible refine Cy ?_);first | kernel_rfl | rfl | (simp [Bh,C9,nS];done)) | with_reducible refine Cl ?_ ?_ | with_reducible exact Nat.beq_refl _ | with_reducible exact Ad _ | ((with_reducible refine decide_eq_true ?_);first | omega | (simp only [Bl,nS];omega)) | decide | (simp [Bl,slc,Ac,D.one,Ax,AV.one,nS];done) | (simp [Bl,nS];omega)) | ((with_reducible refine WX ?_);first | (refine EZ rfl ?_;refine WT A8 rfl rfl rfl rfl ?_) | refine Xq A8 rfl rfl rfl rfl ?_ ?_ | refine Xn [0,1,4,5,6,7,8,14,16,17,20] rfl ?_) | refine Fz ?_ | refine GL ?_ | (refine XT hs rfl rfl rfl rfl ?_) | refine EI ?_ | refine Fw ?_ | refine D9 ?_ | refine EJ ?_ | refine CQ rfl ?_ | refine CP rfl ?_ | (refine GB rfl (fun hc => ?_) (fun hc => ?_) <;> (try simp only [A1] at hc) <;> (try (exfalso;omega))))
    refine ⟨j + 1,hjl,by omega,Nat.le_refl _,?_⟩
    exact A0.ck rfl
   ·have e4 : j = 4:=by omega
    subst e4
    have nS:=True.intro;obtain ⟨lv,st,ns,nc⟩:=wq [0,1,4,5,6,7,8,14,16,17,20] [];refine wk ?_;clear nc ns st lv;repeat' (first|with_reducible constructor|(with_reducible intro hc;try simp only[A1] at hc))
    refine ⟨_,A0.refl _,Nat.le_refl _,_,_,rfl,rfl,?_⟩
    rfl
 ·rintro r hr x H' rfl
  refine .inl ⟨rfl,?_⟩
  unfold Fs u32
  have nS:=True.intro;obtain ⟨lv,st,ns,nc⟩:=wq [0,2,3,4,6,7] [];refine wk ?_;clear nc ns st lv;repeat' (first|with_reducible constructor|(with_reducible intro hc;try simp only[A1] at hc))
  refine ⟨_,_,rfl,rfl,?_⟩;simp [AH,A6,A5,A4]
theorem VQ (l : List UInt8) (hl : l.length < 70368744177664) : Go.Gar.Fn Tryz.prog 195 [.by l] (u32 (Gk l)):=by
 refine A3 A8 Tryz.func195 rfl rfl (Nat.le_of_ble_eq_true rfl) ?_
 have nS:=True.intro;obtain ⟨lv,st,ns,nc⟩:=wq [0,2,3,4,5,6,10,14,29] [];refine wk ?_;clear nc ns st lv;repeat' (first|with_reducible constructor|(with_reducible intro hc;try simp only[A1] at hc))
 refine Aq (fun k => k ≤ l.length) (fun k : Nat => ⟨[(0,.d (.by l)),(2,.d (.i .u32 0)),(3,.d (u32 (CM ones (CJ (l.take k))))),(4,.d (.i .i64 k))],[],35⟩) (fun k => l.length - k) 0 (Nat.zero_le _) ?_ (Nat.le_refl _) ?_
 ·exact A0.ck rfl
 intro k hkl
 by_cases hlt : k < l.length
 ·obtain ⟨d,hd⟩:=AG hlt
  have gd : l.getD k 0 = d:=by rw [List.getD_eq_getElem?_getD,hd];rfl
  have nS:=True.intro;obtain ⟨lv,st,ns,nc⟩:=wq [0,2,3,4,5,6,10,14,29] [];refine wk ?_;clear nc ns st lv;repeat' (first|with_reducible constructor|(with_reducible intro hc;try simp only[A1] at hc))
  refine Aq (fun j => j ≤ 8) (fun j : Nat => ⟨[(0,.d (.by l)),(2,.d (.i .u32 0)),(3,.d (u32 (CM (CM ones (CJ (l.take k))) ((C8 d).take j)))),(4,.d (.i .i64 k)),(5,.d (.i .i64 (7 - j)))],[],35⟩) (fun j => 8 - j) 0 (Nat.zero_le _) ?_ (Nat.le_refl _) ?_
  ·exact A0.ck rfl
  intro j hj
  by_cases hj8 : j < 8
  ·have h0 : Dm (CM (CM ones (CJ (l.take k))) ((C8 d).take j)) (Bc .and .u8 ((d.toNat : Int).fdiv (2 ^ min (7 - (j : Int)).toNat IntKind.u8.bits)) 1 == 1) = CM (CM ones (CJ (l.take k))) ((C8 d).take (j + 1)):=by
    rw [UJ d (7 - j) (by omega) (by omega),KV d j hj8,F4,show (7 - (j : Int)).toNat = 7 - j by omega]
    rfl
   have hw : (7 - (j : Int)) % 18446744073709551616 = 7 - j:=by omega
   have hs:=OK (CM (CM ones (CJ (l.take k))) ((C8 d).take j)) (Bc .and .u8 ((d.toNat : Int).fdiv (2 ^ min (7 - (j : Int)).toNat IntKind.u8.bits)) 1 == 1)
   rw [h0] at hs
   have nS:=And.intro gd hw;obtain ⟨lv,st,ns,nc⟩:=wq [0,2,3,4,5,6,10,14,29] [];have c1:=@hs;refine wk ?_;clear nc ns st lv c1;repeat' (first|with_reducible constructor|(with_reducible intro hc;try simp only[A1] at hc))
   refine ⟨j + 1,hj8,by omega,Nat.le_refl _,?_⟩
   exact A0.ck rfl
  ·have hj8 : j = 8:=by omega
   subst hj8
   have e : (C8 d).take 8 = C8 d:=List.take_of_length_le (by simp [C8])
   have e2 : CM (CM ones (CJ (l.take k))) ((C8 d).take 8) = CM ones (CJ (l.take (k + 1))):=by rw [e,Kz hd,F4]
   rw [e2]
   have nS:=True.intro;obtain ⟨lv,st,ns,nc⟩:=wq [0,2,3,4,5,6,10,14,29] [];refine wk ?_;clear nc ns st lv;repeat' (first|with_reducible constructor|(with_reducible intro hc;try simp only[A1] at hc))
   refine ⟨k + 1,hlt,by omega,Nat.le_refl _,?_⟩
   exact A0.ck rfl
 ·have e : l.take k = l:=List.take_of_length_le (by omega)
  rw [e]
  have nS:=True.intro;obtain ⟨lv,st,ns,nc⟩:=wq [0,2,3,4,5,6,10,14,29] [];refine wk ?_;clear nc ns st lv;repeat' (first|with_reducible constructor|(with_reducible intro hc;try simp only[A1] at hc))
  refine Aq (fun k => k ≤ 32) (fun k : Nat => ⟨[(2,.d (.i .u32 0)),(3,.d (u32 (CM ones (CJ l ++ List.replicate k false)))),(6,.d (.i .i64 k))],[],35⟩) (fun k => 32 - k) 0 (Nat.zero_le _) ?_ (Nat.le_refl _) ?_
  ·simp only [List.replicate_zero,List.append_nil]
   exact A0.ck rfl
  intro j hj
  by_cases hj8 : j < 32
  ·have hs:=OK (CM ones (CJ l ++ List.replicate j false)) false
   have h0 : Dm (CM ones (CJ l ++ List.replicate j false)) false = CM ones (CJ l ++ List.replicate (j + 1) false):=by
    rw [List.replicate_succ',← List.append_assoc,F4 _ (CJ l ++ List.replicate j false) [false]];rfl
   rw [h0] at hs
   have nS:=True.intro;obtain ⟨lv,st,ns,nc⟩:=wq [0,2,3,4,5,6,10,14,29] [];have c1:=@hs;refine wk ?_;clear nc ns st lv c1;repeat' (first|with_reducible constructor|(with_reducible intro hc;try simp only[A1] at hc))
   refine ⟨j + 1,hj8,by omega,Nat.le_refl _,?_⟩
   exact A0.ck rfl
  ·have e4 : j = 32:=by omega
   subst e4
   have nS:=True.intro;obtain ⟨lv,st,ns,nc⟩:=wq [0,2,3,4,5,6,10,14,29] [];refine wk ?_;clear nc ns st lv;repeat' (first|with_reducible constructor|(with_reducible intro hc;try simp only[A1] at hc))
   refine ⟨_,_,rfl,rfl,?_⟩;simp [AH,A6,A5,A4,Gk]
def hdr (n : Int) : List UInt8:=[UInt8.ofNat (Int.toNat 71),UInt8.ofNat (Int.toNat 1),UInt8.ofNat (n / 256 % 256).toNat,UInt8.ofNat (n % 256).toNat]
def be4 (s : BitVec 32) : List UInt8:=[UInt8.ofNat ((s.toNat : Int) / 16777216 % 256).toNat,UInt8.ofNat ((s.toNat : Int) / 65536 % 256).toNat,UInt8.ofNat ((s.toNat : Int) / 256 % 256).toNat,UInt8.ofNat ((s.toNat : Int) % 256).toNat]
def CV (p : List UInt8) : List UInt8 × Int:=if p.length > 112 then ([],2) else (hdr p.length ++ p ++ be4 (Gk (hdr p.length ++ p)),0)
theorem fd24 (n : Nat) : (n : Int).fdiv (2 ^ min 24 IntKind.u32.bits) = n / 16777216:=by rw [Int.fdiv_eq_ediv_of_nonneg _ (by decide)];rfl
theorem fd16 (n : Nat) : (n : Int).fdiv (2 ^ min 16 IntKind.u32.bits) = n / 65536:=by rw [Int.fdiv_eq_ediv_of_nonneg _ (by decide)];rfl
theorem fd8 (n : Nat) : (n : Int).fdiv (2 ^ min 8 IntKind.u32.bits) = n / 256:=by rw [Int.fdiv_eq_ediv_of_nonneg _ (by decide)];rfl
theorem SH (p : List UInt8) : Go.Gar.Fn Tryz.prog 137 [.by p] (.tup [.by (CV p).1,.i .i64 (CV p).2]):=by
 have hz:=TS (p.length : Int)
 refine A3 A8 Tryz.func137 rfl rfl (Nat.le_of_ble_eq_true rfl) ?_
 by_cases h : p.length > 112
 ·have e : CV p = ([],2):=if_pos h
  rw [if_pos (by omega)] at hz
  have nS:=True.intro;obtain ⟨lv,st,ns,nc⟩:=wq [0,2,3,4,5,6,11] [];have c1:=@hz;refine wk ?_;clear nc ns st lv c1;repeat' (first|with_reducible constructor|(with_reducible intro hc;try simp only[A1] at hc))
  refine ⟨_,_,rfl,rfl,?_⟩;simp [AH,A6,A5,A4,e]
 ·have e : CV p = (hdr p.length ++ p ++ be4 (Gk (hdr p.length ++ p)),0):=if_neg h
  rw [if_neg (by omega)] at hz
  have hs:=VQ (hdr p.length ++ p) (by simp [hdr];omega)
  have f0:=eq_false' (show (p.length : Int) + 8 ≠ 0 by omega)
  unfold hdr at hs
  have nS:=f0
  repeat' (first | ((with_reducible refine sg ?_);first | with_reducible rfl | ((with_reducible refine Cy ?_);first | kernel_rfl | rfl | (simp [Bh,C9,nS];done)) | with_reducible refine Cl ?_ ?_ | with_reducible exact Nat.beq_refl _ | with_reducible exact Ad _ | ((with_reducible refine decide_eq_true ?_);first | omega | (simp only [Bl,nS];omega)) | decide | (simp [Bl,slc,Ac,D.one,Ax,AV.one,nS];done) | (simp [Bl,nS];omega)) | ((with_reducible refine WX ?_);first | (refine EZ rfl ?_;refine WT A8 rfl rfl rfl rfl ?_) | refine Xd [17,35] A8 rfl rfl rfl rfl rfl rfl ?_ ?_ | refine Xq A8 rfl rfl rfl rfl ?_ ?_ | refine Xn [0,2,3,4,5,6,11] rfl ?_ | refine XF (hz) rfl rfl rfl rfl ?_ | refine Xw A8 rfl rfl rfl rfl ?_ ?_) | refine Fz ?_ | refine GL ?_ | (refine XT (Fn.read hs rfl (by simp [CC,Co,HF,A6])) rfl rfl rfl rfl ?_) | refine EI ?_ | refine Fw ?_ | refine D9 ?_ | refine EJ ?_ | refine CQ rfl ?_ | refine CP rfl ?_ | (refine GB rfl (fun hc => ?_) (fun hc => ?_) <;> (try simp only [A1] at hc) <;> (try (exfalso;omega))))
  unfold u32
  have nS:=f0;obtain ⟨lv,st,ns,nc⟩:=wq [0,2,3,4,5,6,11] [];have c1:=@hz;have ow : Lv [17,35]:=trivial;refine wk ?_;clear nc ns st lv ow c1;repeat' (first|with_reducible constructor|(with_reducible intro hc;try simp only[A1] at hc))
  refine ⟨_,_,rfl,rfl,?_⟩;simp [AH,A6,A5,A4,e,hdr,be4,fd24,fd16,fd8]
def FV (b : List UInt8) : Nat:=(b.getD 2 0).toNat * 256 + (b.getD 3 0).toNat
def Bf (b : List UInt8) : List UInt8 × Int :=
 if b.length < 8 then ([],11) else
 if 120 < b.length ∨ ¬ ((b.getD 0 0).toNat : Int) = 71 ∨ ¬ ((b.getD 1 0).toNat : Int) = 1 ∨ ¬ b.length = FV b + 8 then ([],12) else
 if (List.range 4).all (fun i => b.getD (4 + FV b + i) 0 == (be4 (Gk (b.take (4 + FV b)))).getD i 0) then ((b.drop 4).take (FV b),0) else ([],12)
theorem Wq : ∀ (d e : Fin 256),Bc .or .i64 (IntKind.wrap .i64 ((d.1 : Int) * 2 ^ min 8 64)) e.1 = (d.1 * 256 + e.1 : Nat):=by decide +kernel
theorem XL (s : BitVec 32) (k : Nat) (hk : k < 4) : (s.toNat : Int).fdiv (2 ^ min (24 - 8 * (k : Int)).toNat IntKind.u32.bits) % 256 = (((be4 s).getD k 0).toNat : Int):=by
 have hs:=s.isLt
 have key : ∀ n : Nat,((UInt8.ofNat ((n : Int) % 256).toNat).toNat : Int) = n % 256:=fun n => by
  simp [UInt8.toNat_ofNat'];omega
 have e : k = 0 ∨ k = 1 ∨ k = 2 ∨ k = 3:=by omega
 rw [Int.fdiv_eq_ediv_of_nonneg _ (by exact Int.le_of_lt (Int.pow_pos (by decide)))]
 rcases e with rfl | rfl | rfl | rfl
 ·have:=key (s.toNat / 16777216);simp [be4,IntKind.bits] at this ⊢;omega
 ·have:=key (s.toNat / 65536);simp [be4,IntKind.bits] at this ⊢;omega
 ·have:=key (s.toNat / 256);simp [be4,IntKind.bits] at this ⊢;omega
 ·have:=key (s.toNat);simp [be4,IntKind.bits] at this ⊢;omega
theorem WE (b : List UInt8) (hb : b.length < 70368744177664) : Go.Gar.Fn Tryz.prog 79 [.by b] (.tup [.by (Bf b).1,.i .i64 (Bf b).2]):=by
 refine A3 A8 Tryz.func79 rfl rfl (Nat.le_of_ble_eq_true rfl) ?_
 have hor : Bc .or .i64 (IntKind.wrap .i64 (((b.getD 2 0).toNat : Int) * 2 ^ min 8 64)) ((b.getD 3 0).toNat : Int) = (FV b : Nat):=Wq ⟨(b.getD 2 0).toNat,(b.getD 2 0).toNat_lt⟩ ⟨(b.getD 3 0).toNat,(b.getD 3 0).toNat_lt⟩
 have hz:=Vm (FV b : Int)
 by_cases h8 : b.length < 8
 ·have e : Bf b = ([],11):=if_pos h8
  have nS:=True.intro;obtain ⟨lv,st,ns,nc⟩:=wq [0,2,3,4,5,6,9,24,39,45,46,61] [];have pr : AC []:=trivial;have sc : No 3:=trivial;refine wd ?_;clear nc ns st lv sc pr;repeat' (first|with_reducible constructor|(with_reducible intro hc;try simp only[A1] at hc))
  refine ⟨_,_,rfl,rfl,?_⟩;simp [AH,A6,A5,A4,e]
 by_cases h : 120 < b.length ∨ ¬ ((b.getD 0 0).toNat : Int) = 71 ∨ ¬ ((b.getD 1 0).toNat : Int) = 1 ∨ ¬ b.length = FV b + 8
 ·have e : Bf b = ([],12):=by
   unfold Bf;rw [if_neg h8,if_pos h]
  by_cases hq : FV b ≤ 112
  ·rw [if_neg (by omega)] at hz
   have nS:=hor;obtain ⟨lv,st,ns,nc⟩:=wq [0,2,3,4,5,6,9,24,39,45,46,61] [];have c1:=@hz;have pr : AC []:=trivial;have sc : No 3:=trivial;refine wd ?_;clear nc ns st lv sc pr c1;repeat' (first|with_reducible constructor|(with_reducible intro hc;try simp only[A1] at hc))
   all_goals try (exfalso;omega)
   all_goals (refine ⟨_,_,rfl,rfl,?_⟩;simp [AH,A6,A5,A4,e])
  ·rw [if_pos (by omega)] at hz
   have nS:=hor;obtain ⟨lv,st,ns,nc⟩:=wq [0,2,3,4,5,6,9,24,39,45,46,61] [];have c1:=@hz;have pr : AC []:=trivial;have sc : No 3:=trivial;refine wd ?_;clear nc ns st lv sc pr c1;repeat' (first|with_reducible constructor|(with_reducible intro hc;try simp only[A1] at hc))
   all_goals try (exfalso;omega)
   all_goals (refine ⟨_,_,rfl,rfl,?_⟩;simp [AH,A6,A5,A4,e])
 have hn : b.length = FV b + 8:=by omega
 have h0 : ((b.getD 0 0).toNat : Int) = 71:=by omega
 have h1 : ((b.getD 1 0).toNat : Int) = 1:=by omega
 have hl : b.length ≤ 120:=by omega
 rw [if_neg (by omega)] at hz
 have htk : (b.take (4 + FV b)).length = 4 + FV b:=by rw [List.length_take];omega
 have hs:=XZ (b.take (4 + FV b)) (by omega)
 have e1 : ((4 : Int) + (FV b : Int)).toNat = 4 + FV b:=by omega
 have nS:=And.intro hor e1;obtain ⟨lv,st,ns,nc⟩:=wq [0,2,3,4,5,6,9,24,39,45,46,61] [];have c1:=@hz;have c2:=@hs;have pr : AC []:=trivial;have sc : No 3:=trivial;refine wd ?_;clear nc ns st lv sc pr c2 c1;repeat' (first|with_reducible constructor|(with_reducible intro hc;try simp only[A1] at hc))
 unfold u32
 refine Aq (fun k => k ≤ 4 ∧ ∀ i,i < k → b.getD (4 + FV b + i) 0 = (be4 (Gk (b.take (4 + FV b)))).getD i 0) (fun k : Nat => ⟨[(0,.d (.by b)),(4,.d (.i .i64 (FV b))),(5,.d (u32 (Gk (b.take (4 + FV b))))),(45,.d (.i .i64 k))],[],68⟩) (fun k => 4 - k) 0 ⟨Nat.zero_le _,fun i hi => by omega⟩ ?_ (Nat.le_refl _) ?_
 ·unfold u32
  exact A0.ck rfl
 rintro k ⟨hk,hall⟩
 unfold u32
 by_cases hk4 : k < 4
 ·have e2 : ((4 : Int) + (FV b : Int) + (k : Int)).toNat = 4 + FV b + k:=by omega
  have e3:=XL (Gk (b.take (4 + FV b))) k hk4
  by_cases hm : b.getD (4 + FV b + k) 0 = (be4 (Gk (b.take (4 + FV b)))).getD k 0
  ·have e4 : (((b.getD (4 + FV b + k) 0).toNat : Int) != (((be4 (Gk (b.take (4 + FV b)))).getD k 0).toNat : Int)) = false:=by rw [hm];simp
   have nS:=And.intro e2 (And.intro e3 e4);obtain ⟨lv,st,ns,nc⟩:=wq [0,2,3,4,5,6,9,24,39,45,46,61] [];have pr : AC []:=trivial;have sc : No 3:=trivial;refine wd ?_;clear nc ns st lv sc pr;repeat' (first|with_reducible constructor|(with_reducible intro hc;try simp only[A1] at hc))
   refine ⟨k + 1,⟨hk4,fun i hi => ?_⟩,by omega,Nat.le_refl _,?_⟩
   ·rcases Nat.lt_or_eq_of_le (Nat.le_of_lt_succ hi) with h | h
    ·exact hall i h
    ·rw [h];exact hm
   exact A0.ck rfl
  ·have e4 : (((b.getD (4 + FV b + k) 0).toNat : Int) != (((be4 (Gk (b.take (4 + FV b)))).getD k 0).toNat : Int)) = true:=by
    rw [bne_iff_ne];intro h;exact hm (UInt8.toNat_inj.1 (by omega))
   have e : Bf b = ([],12):=by
    unfold Bf
    rw [if_neg h8,if_neg h,if_neg]
    intro ha
    rw [List.all_eq_true] at ha
    exact hm (by simpa using ha k (List.mem_range.2 hk4))
   have nS:=And.intro e2 (And.intro e3 e4);obtain ⟨lv,st,ns,nc⟩:=wq [0,2,3,4,5,6,9,24,39,45,46,61] [];have pr : AC []:=trivial;have sc : No 3:=trivial;refine wd ?_;clear nc ns st lv sc pr;repeat' (first|with_reducible constructor|(with_reducible intro hc;try simp only[A1] at hc))
   refine ⟨_,_,rfl,rfl,?_⟩;simp [AH,A6,A5,A4,e]
 ·have e : Bf b = ((b.drop 4).take (FV b),0):=by
   unfold Bf
   rw [if_neg h8,if_neg h,if_pos]
   rw [List.all_eq_true]
   intro i hi
   simpa using hall i (by have:=List.mem_range.1 hi;omega)
  have e5 : (b.take (4 + FV b)).drop 4 = (b.drop 4).take (FV b):=by rw [List.drop_take];congr 1;omega
  have nS:=e1;obtain ⟨lv,st,ns,nc⟩:=wq [0,2,3,4,5,6,9,24,39,45,46,61] [];have pr : AC []:=trivial;have sc : No 3:=trivial;refine wd ?_;clear nc ns st lv sc pr;repeat' (first|with_reducible constructor|(with_reducible intro hc;try simp only[A1] at hc))
  refine ⟨_,_,rfl,rfl,?_⟩;simp [AH,A6,A5,A4,e,e5]
theorem Ec (n : Int) : (hdr n).length = 4:=rfl
theorem NO (s : BitVec 32) : (be4 s).length = 4:=rfl
theorem WH (n : Nat) (h : n < 256) : (UInt8.ofNat n).toNat = n:=by simp [UInt8.toNat_ofNat'];omega
theorem GO {p : List UInt8} (h : p.length ≤ 112) : CV p = (hdr p.length ++ p ++ be4 (Gk (hdr p.length ++ p)),0):=if_neg (by omega)
theorem T9 (n : Nat) (h : n < 65536) : hdr n = [71,1,UInt8.ofNat (n / 256),UInt8.ofNat (n % 256)]:=by
 have e1 : ((n : Int) / 256 % 256).toNat = n / 256:=by omega
 have e2 : ((n : Int) % 256).toNat = n % 256:=by omega
 unfold hdr
 rw [e1,e2]
 rfl
theorem Px {p : List UInt8} (h : p.length ≤ 112) : Bf (CV p).1 = (p,0):=by
 rw [GO h]
 generalize hs : be4 (Gk (hdr p.length ++ p)) = S
 have hS : S.length = 4:=by rw [← hs];rfl
 have hb : hdr p.length ++ p ++ S = 71 :: 1 :: UInt8.ofNat (p.length / 256) :: UInt8.ofNat (p.length % 256) :: (p ++ S):=by
  rw [T9 p.length (by omega)];rfl
 have hfr : FV (hdr p.length ++ p ++ S) = p.length:=by
  rw [hb]
  unfold FV
  simp only [List.getD_cons_succ,List.getD_cons_zero]
  rw [WH _ (by omega),WH _ (by omega)]
  omega
 have htk : (hdr p.length ++ p ++ S).take (4 + p.length) = hdr p.length ++ p:=by
  rw [List.take_append_of_le_length (by simp [Ec]),List.take_of_length_le (by simp [Ec])]
 unfold Bf
 rw [hfr,htk,hs]
 rw [if_neg (by simp [Ec];omega),if_neg]
 ·rw [if_pos]
  ·rw [hb];simp
  ·rw [List.all_eq_true]
   intro i hi
   have hi:=List.mem_range.1 hi
   rw [beq_iff_eq,List.getD_eq_getElem?_getD,List.getD_eq_getElem?_getD,List.getElem?_append_right (by simp [Ec])]
   congr 2
   simp [Ec]
 ·rw [hb]
  simp [hS]
  omega
theorem Nn {b p : List UInt8} {e : Int} (h : Bf b = (p,e)) : (e = 0 ∧ p.length ≤ 112 ∧ (CV p).1 = b) ∨ (e = 11 ∧ b.length < 8 ∧ p = []) ∨ (e = 12 ∧ 8 ≤ b.length ∧ p = []):=by
 unfold Bf at h
 split at h
 ·cases h;exact .inr (.inl ⟨rfl,by assumption,rfl⟩)
 rename_i h8
 split at h
 ·cases h;exact .inr (.inr ⟨rfl,by omega,rfl⟩)
 rename_i hc
 split at h
 ·rename_i hall
  simp only [Prod.mk.injEq] at h
  obtain ⟨rfl,rfl⟩:=h
  refine .inl ⟨rfl,by simp;omega,?_⟩
  have hn : b.length = FV b + 8:=by omega
  have hpl : ((b.drop 4).take (FV b)).length = FV b:=by simp;omega
  obtain ⟨b0,b1,b2,b3,t,rfl⟩ : ∃ b0 b1 b2 b3 t,b = b0 :: b1 :: b2 :: b3 :: t:=by
   rcases b with _ | ⟨b0,_ | ⟨b1,_ | ⟨b2,_ | ⟨b3,t⟩⟩⟩⟩ <;> first | exact ⟨_,_,_,_,_,rfl⟩ | (simp at h8)
  have hfr : FV (b0 :: b1 :: b2 :: b3 :: t) = b2.toNat * 256 + b3.toNat:=rfl
  have l2:=b2.toNat_lt
  have l3:=b3.toNat_lt
  have e0 : b0 = 71:=UInt8.toNat_inj.1 (by have : ((b0.toNat : Nat) : Int) = 71:=by simpa using Classical.not_not.1 (fun h => hc (.inr (.inl h)))
                                           have : (71 : UInt8).toNat = 71:=rfl
                                           omega)
  have e1 : b1 = 1:=UInt8.toNat_inj.1 (by have : ((b1.toNat : Nat) : Int) = 1:=by simpa using Classical.not_not.1 (fun h => hc (.inr (.inr (.inl h))))
                                          have : (1 : UInt8).toNat = 1:=rfl
                                          omega)
  rw [GO (by rw [hpl];omega),hpl]
  have hh : hdr (FV (b0 :: b1 :: b2 :: b3 :: t)) = [b0,b1,b2,b3]:=by
   rw [T9 _ (by omega),hfr,e0,e1,show (b2.toNat * 256 + b3.toNat) / 256 = b2.toNat by omega,show (b2.toNat * 256 + b3.toNat) % 256 = b3.toNat by omega]
   simp
  generalize hN : FV (b0 :: b1 :: b2 :: b3 :: t) = N at *
  have htk : (b0 :: b1 :: b2 :: b3 :: t).take (4 + N) = hdr N ++ List.take N (List.drop 4 (b0 :: b1 :: b2 :: b3 :: t)):=by
   rw [hh,show 4 + N = N + 4 by omega];rfl
  have htl : (b0 :: b1 :: b2 :: b3 :: t).drop (4 + N) = be4 (Gk ((b0 :: b1 :: b2 :: b3 :: t).take (4 + N))):=by
   apply List.ext_getElem?
   intro i
   rw [List.getElem?_drop]
   rcases Nat.lt_or_ge i 4 with hi | hi
   ·have:=List.all_eq_true.1 hall i (List.mem_range.2 hi)
    rw [beq_iff_eq,List.getD_eq_getElem?_getD,List.getD_eq_getElem?_getD] at this
    rw [List.getElem?_eq_getElem (by omega)] at this ⊢
    rw [List.getElem?_eq_getElem (by rw [NO];exact hi)] at this ⊢
    simpa using this
   ·rw [List.getElem?_eq_none (by omega),List.getElem?_eq_none (by rw [NO];exact hi)]
  rw [← htk,← htl]
  exact List.take_append_drop _ _
 ·cases h;exact .inr (.inr ⟨rfl,by omega,rfl⟩)
end Wi
end Go.Proofs.YtagnjflbhjmefaaGreat
