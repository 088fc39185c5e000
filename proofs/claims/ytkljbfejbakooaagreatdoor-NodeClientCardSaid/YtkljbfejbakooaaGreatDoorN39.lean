/- Part 39 of a proof, put together by a program. Conditions: none beyond those that a theorem states. -/
import Derived.Test.YtkljbfejbakooaaGreatDoorN30
set_option linter.unusedSimpArgs false
set_option linter.unusedVariables false
set_option linter.unnecessarySimpa false
set_option maxHeartbeats 40000000
namespace Go.Proofs.YtkljbfejbakooaaGreatDoor
namespace Wi
open Go.Gar
set_option maxRecDepth 4000
abbrev Lq : List Nat:=[0,1,4,5,6,7,8,14,16,17,20]
theorem XT {P : Program} {ro : Option Nat} {ops : Array Oper} {i : Nat} {rest : List Oper} {Q : Exit → St → Prop} {o : Oper} {en e : List (Nat × AV)} {hp H' : List A5} {nt g : Nat} {xs : List AV} {r : AV} (hT : Ao P g xs hp r H') (hg : AA ops en o = some true) (h : B4 en o.op = some (g,xs)) (hd : AH o.dst nt = true) (he : Ai o.dst r en = some e)
  (k : Wl P ro ops (i + 1) rest ⟨e,H',nt⟩ Q) : Wl P ro ops i (o :: rest) ⟨en,hp,nt⟩ Q:=by
 rw [AM he] at k;exact cY hg h hd hT fun r K ⟨h1,h2⟩ => by subst h1;subst h2;exact k
theorem ct (l : List UInt8) : Ao Tryz.prog 258 [.d (.by l)] [] (.fn (.func 307) [] [.ptr 0 0 1]) [.c [.d (.by l)]]:=by
 refine zD A6 Tryz.func258 ?_;refine wk [0,1,2] [] A0 A0 ?_;exact ⟨_,(A3.ck rfl),Nat.zero_le _,_,_,rfl,rfl,rfl,rfl⟩
def ones : BitVec 32:=4294967295#32
def I1 (l : List UInt8) : BitVec 32:=D4 ones (D1 l ++ List.replicate 32 false)
theorem N6 {l : List UInt8} {k : Nat} {d : UInt8} (h : l[k]? = some d) : D1 (l.take (k + 1)) = D1 (l.take k) ++ Cs d:=by
 rw [AP h];simp [D1]
theorem cr : Cs 0 = List.replicate 8 false:=by decide
theorem YL (l : List UInt8) (hl : l.length < 70368744177664) : Go.Gar.Fn Tryz.prog 178 [.by l] (u32 (I1 l)):=by
 refine zF A6 Tryz.func178 ?_;have hb:=ct l;have d1:=Ds.mk [] (hb);refine wk [0,2,3,4,6,7] [] A0 A0 ?_;clear d1;refine zG (K:=fun r _ H' => H' = Ig l r (I1 l)) ?_ ?_
 ·intro r hr;have hk:=hr.ok (k:=3) rfl
  have hY : ∀ s b,YT Tryz.prog 2 [.d (.b b)] (Ig l r s) fun x K => x = .d (.b true) ∧ K = Ig l r (Eo s b):=by
   intro s b;have hs:=cM s b;unfold Ig u32 at *;refine Az hr rfl rfl rfl ?_;refine wk [0,2,3,4,6,7] [] A0 A0 ?_;refine zR ?_;refine wk [0,2,3,4,6,7] [] A0 (AF @hs) ?_;refine ⟨_,A3.refl _,Nat.le_refl _,rfl,rfl,?_⟩;simp only [List.set_cons_succ,List.set_cons_zero]
  refine zT A6 Tryz.func307 ?_;have hz:=hY;unfold Ig at hz ⊢;refine wk Lq [] A0 A0 ?_;refine Ac (fun k => k ≤ l.length) (fun k : Nat => ⟨[(0,.yl 2),(5,.d (.by l)),(6,.d (.i .i64 l.length)),(7,.d (.i .i64 k))],Ig l r (D4 ones (D1 (l.take k))),22⟩) (fun k => l.length - k) 0 (Nat.zero_le _) ?_ (Nat.le_refl _) ?_
  ·unfold Ig;exact A3.ck rfl
  intro k hkl;unfold Ig
  by_cases hlt : k < l.length
  ·obtain ⟨d,hd⟩:=Aa hlt;have hs:=Kz d l r (D4 ones (D1 (l.take k))) (hk 3 rfl).1 hY;have e1:=N6 hd;have e2 : D4 (D4 ones (D1 (l.take k))) (Cs d) = D4 ones (D1 (l.take (k + 1))):=by rw [e1,Gq]
   rw [e2] at hs;have gd : l.getD k 0 = d:=by rw [List.getD_eq_getElem?_getD,hd];rfl
   have nS:=gd
   repeat' (first | ((with_reducible refine sg ?_);first | with_reducible rfl | ((with_reducible refine Db ?_);first | kernel_rfl | rfl | (simp [Bw,CV,nS];done)) | with_reducible refine Cr ?_ ?_ | with_reducible exact Nat.beq_refl _ | with_reducible exact AT _ | ((with_reducible refine decide_eq_true ?_);first | omega | (simp only [Bm,nS];omega)) | decide | (simp [Bm,slc,AX,D.one,B1,AV.one,nS];done) | (simp [Bm,nS];omega)) | ((with_reducible refine ZZ ?_);first | (refine E5 rfl ?_;refine YZ A6 rfl rfl rfl rfl ?_) | refine Xq A6 rfl rfl rfl rfl ?_ ?_ | refine Xn [0,1,4,5,6,7,8,14,16,17,20] rfl ?_) | refine Fi ?_ | refine Df ?_ | (refine XT hs rfl rfl rfl rfl ?_) | refine Dr ?_ | refine Fh ?_ | refine Ci ?_ | refine Dq ?_ | refine C1 rfl ?_ | refine C0 rfl ?_ | (refine Fg rfl (fun hc => ?_) (fun hc => ?_) <;> (try simp only [AD] at hc) <;> (try (exfalso;omega))))
   refine ⟨k + 1,hlt,by omega,Nat.le_refl _,?_⟩;exact A3.ck rfl
  ·have e : l.take k = l:=List.take_of_length_le (by omega);rw [e];refine wk Lq [] A0 A0 ?_;with_reducible repeat' first|constructor|intro hc;try simp only[AD] at hc
   refine Ac (fun k => k ≤ 4) (fun k : Nat => ⟨[(0,.yl 2),(16,.d (.i .i64 k))],Ig l r (D4 ones (D1 l ++ List.replicate (8 * k) false)),22⟩) (fun k => 4 - k) 0 (Nat.zero_le _) ?_ (Nat.le_refl _) ?_
   ·unfold Ig;simp only [Nat.mul_zero,List.replicate_zero,List.append_nil];exact A3.ck rfl
   intro j hj;unfold Ig
   by_cases hjl : j < 4
   ·have hs:=Kz 0 l r (D4 ones (D1 l ++ List.replicate (8 * j) false)) (hk 3 rfl).1 hY
    have e2 : D4 (D4 ones (D1 l ++ List.replicate (8 * j) false)) (Cs 0) = D4 ones (D1 l ++ List.replicate (8 * (j + 1)) false):=by
     rw [cr,← Gq,List.append_assoc,List.replicate_append_replicate];rfl
    rw [e2] at hs;have nS:=True.intro
    repeat' (first | ((with_reducible refine sg ?_);first | with_reducible rfl | ((with_reducible refine Db ?_);first | kernel_rfl | rfl | (simp [Bw,CV,nS];done)) | with_reducible refine Cr ?_ ?_ | with_reducible exact Nat.beq_refl _ | with_reducible exact AT _ | ((with_reducible refine decide_eq_true ?_);first | omega | (simp only [Bm,nS];omega)) | decide | (simp [Bm,slc,AX,D.one,B1,AV.one,nS];done) | (simp [Bm,nS];omega)) | ((with_reducible refine ZZ ?_);first | (refine E5 rfl ?_;refine YZ A6 rfl rfl rfl rfl ?_) | refine Xq A6 rfl rfl rfl rfl ?_ ?_ | refine Xn [0,1,4,5,6,7,8,14,16,17,20] rfl ?_) | refine Fi ?_ | refine Df ?_ | (refine XT hs rfl rfl rfl rfl ?_) | refine Dr ?_ | refine Fh ?_ | refine Ci ?_ | refine Dq ?_ | refine C1 rfl ?_ | refine C0 rfl ?_ | (refine Fg rfl (fun hc => ?_) (fun hc => ?_) <;> (try simp only [AD] at hc) <;> (try (exfalso;omega))))
    refine ⟨j + 1,hjl,by omega,Nat.le_refl _,?_⟩;exact A3.ck rfl
   ·have e4 : j = 4:=by omega
    subst e4;refine wk Lq [] A0 A0 ?_;refine ⟨_,A3.refl _,Nat.le_refl _,_,_,rfl,rfl,?_⟩;rfl
 ·rintro r hr x H' rfl;refine .inl ⟨rfl,?_⟩;unfold Ig u32;refine wk [0,2,3,4,6,7] [] A0 A0 ?_;exact zE
abbrev EY : List Nat:=[0,2,3,4,5,6,10,14,29]
theorem eH (l : List UInt8) (hl : l.length < 70368744177664) : Go.Gar.Fn Tryz.prog 220 [.by l] (u32 (I1 l)):=by
 refine zF A6 Tryz.func220 ?_;refine wk EY [] A0 A0 ?_;refine Ac (fun k => k ≤ l.length) (fun k : Nat => ⟨[(0,.d (.by l)),(2,.d (.i .u32 0)),(3,.d (u32 (D4 ones (D1 (l.take k))))),(4,.d (.i .i64 k))],[],35⟩) (fun k => l.length - k) 0 (Nat.zero_le _) ?_ (Nat.le_refl _) ?_
 ·exact A3.ck rfl
 intro k hkl
 by_cases hlt : k < l.length
 ·obtain ⟨d,hd⟩:=Aa hlt;have gd : l.getD k 0 = d:=by rw [List.getD_eq_getElem?_getD,hd];rfl
  refine wk EY [] A0 A0 ?_;with_reducible repeat' first|constructor|intro hc;try simp only[AD] at hc
  refine Ac (fun j => j ≤ 8) (fun j : Nat => ⟨[(0,.d (.by l)),(2,.d (.i .u32 0)),(3,.d (u32 (D4 (D4 ones (D1 (l.take k))) ((Cs d).take j)))),(4,.d (.i .i64 k)),(5,.d (.i .i64 (7 - j)))],[],35⟩) (fun j => 8 - j) 0 (Nat.zero_le _) ?_ (Nat.le_refl _) ?_
  ·exact A3.ck rfl
  intro j hj
  by_cases hj8 : j < 8
  ·have h0 : Eo (D4 (D4 ones (D1 (l.take k))) ((Cs d).take j)) (C2 .and .u8 ((d.toNat : Int).fdiv (2 ^ min (7 - (j : Int)).toNat IntKind.u8.bits)) 1 == 1) = D4 (D4 ones (D1 (l.take k))) ((Cs d).take (j + 1)):=by
    rw [Yv d (7 - j) (by omega) (by omega),N5 d j hj8,Gq,show (7 - (j : Int)).toNat = 7 - j by omega];rfl
   have hw : (7 - (j : Int)) % 18446744073709551616 = 7 - j:=by omega
   have hs:=Ss (D4 (D4 ones (D1 (l.take k))) ((Cs d).take j)) (C2 .and .u8 ((d.toNat : Int).fdiv (2 ^ min (7 - (j : Int)).toNat IntKind.u8.bits)) 1 == 1);rw [h0] at hs;refine wk EY [] (Aj gd hw) (AF @hs) ?_;with_reducible repeat' first|constructor|intro hc;try simp only[AD] at hc
   refine ⟨j + 1,hj8,by omega,Nat.le_refl _,?_⟩;exact A3.ck rfl
  ·have hj8 : j = 8:=by omega
   subst hj8;have e : (Cs d).take 8 = Cs d:=List.take_of_length_le (by simp [Cs]);have e2 : D4 (D4 ones (D1 (l.take k))) ((Cs d).take 8) = D4 ones (D1 (l.take (k + 1))):=by rw [e,N6 hd,Gq]
   rw [e2];refine wk EY [] A0 A0 ?_;refine ⟨k + 1,hlt,by omega,Nat.le_refl _,?_⟩;exact A3.ck rfl
 ·have e : l.take k = l:=List.take_of_length_le (by omega);rw [e];refine wk EY [] A0 A0 ?_;with_reducible repeat' first|constructor|intro hc;try simp only[AD] at hc
  refine Ac (fun k => k ≤ 32) (fun k : Nat => ⟨[(2,.d (.i .u32 0)),(3,.d (u32 (D4 ones (D1 l ++ List.replicate k false)))),(6,.d (.i .i64 k))],[],35⟩) (fun k => 32 - k) 0 (Nat.zero_le _) ?_ (Nat.le_refl _) ?_
  ·simp only [List.replicate_zero,List.append_nil];exact A3.ck rfl
  intro j hj
  by_cases hj8 : j < 32
  ·have hs:=Ss (D4 ones (D1 l ++ List.replicate j false)) false
   have h0 : Eo (D4 ones (D1 l ++ List.replicate j false)) false = D4 ones (D1 l ++ List.replicate (j + 1) false):=by
    rw [List.replicate_succ',← List.append_assoc,Gq _ (D1 l ++ List.replicate j false) [false]];rfl
   rw [h0] at hs;refine wk EY [] A0 (AF @hs) ?_;with_reducible repeat' first|constructor|intro hc;try simp only[AD] at hc
   refine ⟨j + 1,hj8,by omega,Nat.le_refl _,?_⟩;exact A3.ck rfl
  ·have e4 : j = 32:=by omega
   subst e4;refine wk EY [] A0 A0 ?_;refine ⟨_,_,rfl,rfl,?_⟩;simp [AR,AB,A7,A4,I1]
def hdr (n : Int) : List UInt8:=[UInt8.ofNat (Int.toNat 71),UInt8.ofNat (Int.toNat 1),UInt8.ofNat (n / 256 % 256).toNat,UInt8.ofNat (n % 256).toNat]
def be4 (s : BitVec 32) : List UInt8:=[UInt8.ofNat ((s.toNat : Int) / 16777216 % 256).toNat,UInt8.ofNat ((s.toNat : Int) / 65536 % 256).toNat,UInt8.ofNat ((s.toNat : Int) / 256 % 256).toNat,UInt8.ofNat ((s.toNat : Int) % 256).toNat]
def BX (p : List UInt8) : List UInt8 × Int:=if p.length > 112 then ([],2) else (hdr p.length ++ p ++ be4 (I1 (hdr p.length ++ p)),0)
theorem kW (n : Nat) : (n : Int).fdiv (2 ^ min 24 IntKind.u32.bits) = n / 16777216:=by rw [Int.fdiv_eq_ediv_of_nonneg _ (by decide)];rfl
theorem kV (n : Nat) : (n : Int).fdiv (2 ^ min 16 IntKind.u32.bits) = n / 65536:=by rw [Int.fdiv_eq_ediv_of_nonneg _ (by decide)];rfl
theorem fd8 (n : Nat) : (n : Int).fdiv (2 ^ min 8 IntKind.u32.bits) = n / 256:=by rw [Int.fdiv_eq_ediv_of_nonneg _ (by decide)];rfl
theorem PD (p : List UInt8) : Go.Gar.Fn Tryz.prog 142 [.by p] (.tup [.by (BX p).1,.i .i64 (BX p).2]):=by
 have hz:=bF (p.length : Int);refine zF A6 Tryz.func142 ?_
 by_cases h : p.length > 112
 ·have e : BX p = ([],2):=if_pos h;rw [if_pos (by omega)] at hz;refine wk [0,2,3,4,5,6,11] [] A0 (AF @hz) ?_;refine ⟨_,_,rfl,rfl,?_⟩;simp [AR,AB,A7,A4,e]
 ·have e : BX p = (hdr p.length ++ p ++ be4 (I1 (hdr p.length ++ p)),0):=if_neg h;rw [if_neg (by omega)] at hz;have hs:=eH (hdr p.length ++ p) (by simp [hdr];omega);have f0:=eq_false' (show (p.length : Int) + 8 ≠ 0 by omega);unfold hdr at hs;have nS:=f0
  repeat' (first | ((with_reducible refine sg ?_);first | with_reducible rfl | ((with_reducible refine Db ?_);first | kernel_rfl | rfl | (simp [Bw,CV,nS];done)) | with_reducible refine Cr ?_ ?_ | with_reducible exact Nat.beq_refl _ | with_reducible exact AT _ | ((with_reducible refine decide_eq_true ?_);first | omega | (simp only [Bm,nS];omega)) | decide | (simp [Bm,slc,AX,D.one,B1,AV.one,nS];done) | (simp [Bm,nS];omega)) | ((with_reducible refine ZZ ?_);first | (refine E5 rfl ?_;refine YZ A6 rfl rfl rfl rfl ?_) | refine gE [17,35] A6 rfl rfl rfl rfl rfl rfl ?_ ?_ | refine Xq A6 rfl rfl rfl rfl ?_ ?_ | refine Xn [0,2,3,4,5,6,11] rfl ?_ | refine XF (hz) rfl rfl rfl rfl ?_ | refine Xw A6 rfl rfl rfl rfl ?_ ?_) | refine Fi ?_ | refine Df ?_ | (refine XT (Fn.read hs rfl (by simp [Bu,CU,Jk,AB])) rfl rfl rfl rfl ?_) | refine Dr ?_ | refine Fh ?_ | refine Ci ?_ | refine Dq ?_ | refine C1 rfl ?_ | refine C0 rfl ?_ | (refine Fg rfl (fun hc => ?_) (fun hc => ?_) <;> (try simp only [AD] at hc) <;> (try (exfalso;omega))))
  unfold u32;have ow : Lv [17,35]:=trivial;refine wk [0,2,3,4,5,6,11] [] (AF f0) (AF @hz) ?_;clear ow;refine ⟨_,_,rfl,rfl,?_⟩;simp [AR,AB,A7,A4,e,hdr,be4,kW,kV,fd8]
theorem Y4 (p : List UInt8) : Go.Gar.Fn Tryz.prog 196 [.by p] (.tup [.by (BX p).1,.i .i64 (BX p).2]):=by
 have hz:=Uq (p.length : Int);refine zF A6 Tryz.func196 ?_
 by_cases h : p.length > 112
 ·have e : BX p = ([],2):=if_pos h;rw [if_pos (by omega)] at hz;have sc : No 3:=trivial;refine wk [0,2,3,4,5,6,10] [] A0 (AF @hz) ?_;clear sc;with_reducible repeat' first|constructor|intro hc;try simp only[AD] at hc
  refine ⟨_,_,rfl,rfl,?_⟩;simp [AR,AB,A7,A4,e]
 ·have e : BX p = (hdr p.length ++ p ++ be4 (I1 (hdr p.length ++ p)),0):=if_neg h;rw [if_neg (by omega)] at hz;have hs:=YL (hdr p.length ++ p) (by simp [hdr];omega);unfold hdr at hs;have f0 : FE (K.int .u8) 1 (Int.toNat 0) [D.i .u8 0] = .by []:=rfl
  have nS:=True.intro
  repeat' (first | ((with_reducible refine sg ?_);first | with_reducible rfl | ((with_reducible refine Db ?_);first | kernel_rfl | rfl | (simp [Bw,CV,nS];done)) | with_reducible refine Cr ?_ ?_ | with_reducible exact Nat.beq_refl _ | with_reducible exact AT _ | ((with_reducible refine decide_eq_true ?_);first | omega | (simp only [Bm,nS];omega)) | decide | (simp [Bm,slc,AX,D.one,B1,AV.one,nS];done) | (simp [Bm,nS];omega)) | ((with_reducible refine ZZ ?_);first | (refine E5 rfl ?_;refine YZ A6 rfl rfl rfl rfl ?_) | refine gE [13,40] A6 rfl rfl rfl rfl rfl rfl ?_ ?_ | refine Xq A6 rfl rfl rfl rfl ?_ ?_ | refine Xn [0,2,3,4,5,6,10] rfl ?_ | refine XaB 13 (D.by []) A6 rfl rfl rfl (by first | rfl | simp [FE]) rfl rfl rfl rfl ?_ ?_ | refine XF (hz) rfl rfl rfl rfl ?_ | refine Xa A6 rfl rfl rfl rfl rfl ?_ ?_ | refine Xw A6 rfl rfl rfl rfl ?_ ?_) | refine Fi ?_ | refine Df ?_ | (refine XT (Fn.read hs rfl (by simp [Bu,CU,Jk,AB])) rfl rfl rfl rfl ?_) | refine Dr ?_ | refine Fh ?_ | refine Ci ?_ | refine Dq ?_ | refine PZ 3 ?_ | refine I7 ?_ | refine GI ?_ | refine C1 rfl ?_ | refine C0 rfl ?_ | (refine Fg rfl (fun hc => ?_) (fun hc => ?_) <;> (try simp only [AD] at hc) <;> (try (exfalso;omega))))
  unfold u32;have ow : Lv [13,40]:=trivial;have sc : No 3:=trivial;refine wk [0,2,3,4,5,6,10] [] A0 (AF @hz) ?_;clear sc ow;refine ⟨_,_,rfl,rfl,?_⟩;simp [AR,AB,A7,A4,e,hdr,be4,kW,kV,fd8]
abbrev EZ : List Nat:=[0,2,3,4,5,6,9,24,39,45,46,61]
def Hq (b : List UInt8) : Nat:=(b.getD 2 0).toNat * 256 + (b.getD 3 0).toNat
def As (b : List UInt8) : List UInt8 × Int :=
 if b.length < 8 then ([],11) else
 if 120 < b.length ∨ ¬ ((b.getD 0 0).toNat : Int) = 71 ∨ ¬ ((b.getD 1 0).toNat : Int) = 1 ∨ ¬ b.length = Hq b + 8 then ([],12) else
 if (List.range 4).all (fun i => b.getD (4 + Hq b + i) 0 == (be4 (I1 (b.take (4 + Hq b)))).getD i 0) then ((b.drop 4).take (Hq b),0) else ([],12)
theorem iP : ∀ (d e : Fin 256),C2 .or .i64 (IntKind.wrap .i64 ((d.1 : Int) * 2 ^ min 8 64)) e.1 = (d.1 * 256 + e.1 : Nat):=by decide +kernel
theorem gP (s : BitVec 32) (k : Nat) (hk : k < 4) : (s.toNat : Int).fdiv (2 ^ min (24 - 8 * (k : Int)).toNat IntKind.u32.bits) % 256 = (((be4 s).getD k 0).toNat : Int):=by
 have hs:=s.isLt
 have key : ∀ n : Nat,((UInt8.ofNat ((n : Int) % 256).toNat).toNat : Int) = n % 256:=fun n => by
  simp [UInt8.toNat_ofNat'];omega
 have e : k = 0 ∨ k = 1 ∨ k = 2 ∨ k = 3:=by omega
 rw [Int.fdiv_eq_ediv_of_nonneg _ (by exact Int.le_of_lt (Int.pow_pos (by decide)))];rcases e with rfl | rfl | rfl | rfl
 ·have:=key (s.toNat / 16777216);simp [be4,IntKind.bits] at this ⊢;omega
 ·have:=key (s.toNat / 65536);simp [be4,IntKind.bits] at this ⊢;omega
 ·have:=key (s.toNat / 256);simp [be4,IntKind.bits] at this ⊢;omega
 ·have:=key (s.toNat);simp [be4,IntKind.bits] at this ⊢;omega
theorem cC (b : List UInt8) (hb : b.length < 70368744177664) : Go.Gar.Fn Tryz.prog 116 [.by b] (.tup [.by (As b).1,.i .i64 (As b).2]):=by
 refine zF A6 Tryz.func116 ?_;have hor : C2 .or .i64 (IntKind.wrap .i64 (((b.getD 2 0).toNat : Int) * 2 ^ min 8 64)) ((b.getD 3 0).toNat : Int) = (Hq b : Nat):=iP ⟨(b.getD 2 0).toNat,(b.getD 2 0).toNat_lt⟩ ⟨(b.getD 3 0).toNat,(b.getD 3 0).toNat_lt⟩;have hz:=Uq (Hq b : Int)
 by_cases h8 : b.length < 8
 ·have e : As b = ([],11):=if_pos h8;have sc : No 3:=trivial;refine wd EZ [] [] A0 A0 ?_;clear sc;with_reducible repeat' first|constructor|intro hc;try simp only[AD] at hc
  refine ⟨_,_,rfl,rfl,?_⟩;simp [AR,AB,A7,A4,e]
 by_cases h : 120 < b.length ∨ ¬ ((b.getD 0 0).toNat : Int) = 71 ∨ ¬ ((b.getD 1 0).toNat : Int) = 1 ∨ ¬ b.length = Hq b + 8
 ·have e : As b = ([],12):=by
   unfold As;rw [if_neg h8,if_pos h]
  by_cases hq : Hq b ≤ 112
  ·rw [if_neg (by omega)] at hz;have sc : No 3:=trivial;refine wd EZ [] [] (AF hor) (AF @hz) ?_;clear sc;with_reducible repeat' first|constructor|intro hc;try simp only[AD] at hc
   all_goals try (exfalso;omega)
   all_goals (refine ⟨_,_,rfl,rfl,?_⟩;simp [AR,AB,A7,A4,e])
  ·rw [if_pos (by omega)] at hz;have sc : No 3:=trivial;refine wd EZ [] [] (AF hor) (AF @hz) ?_;clear sc;with_reducible repeat' first|constructor|intro hc;try simp only[AD] at hc
   all_goals try (exfalso;omega)
   all_goals (refine ⟨_,_,rfl,rfl,?_⟩;simp [AR,AB,A7,A4,e])
 have hn : b.length = Hq b + 8:=by omega
 have h0 : ((b.getD 0 0).toNat : Int) = 71:=by omega
 have h1 : ((b.getD 1 0).toNat : Int) = 1:=by omega
 have hl : b.length ≤ 120:=by omega
 rw [if_neg (by omega)] at hz;have htk : (b.take (4 + Hq b)).length = 4 + Hq b:=by rw [List.length_take];omega
 have hs:=YL (b.take (4 + Hq b)) (by omega);have e1 : ((4 : Int) + (Hq b : Int)).toNat = 4 + Hq b:=by omega
 have sc : No 3:=trivial;refine wd EZ [] [] (Aj hor e1) (Aj @hz @hs) ?_;clear sc;with_reducible repeat' first|constructor|intro hc;try simp only[AD] at hc
 unfold u32;refine Ac (fun k => k ≤ 4 ∧ ∀ i,i < k → b.getD (4 + Hq b + i) 0 = (be4 (I1 (b.take (4 + Hq b)))).getD i 0) (fun k : Nat => ⟨[(0,.d (.by b)),(4,.d (.i .i64 (Hq b))),(5,.d (u32 (I1 (b.take (4 + Hq b))))),(45,.d (.i .i64 k))],[],68⟩) (fun k => 4 - k) 0 ⟨Nat.zero_le _,fun i hi => by omega⟩ ?_ (Nat.le_refl _) ?_
 ·unfold u32;exact A3.ck rfl
 rintro k ⟨hk,hall⟩;unfold u32
 by_cases hk4 : k < 4
 ·have e2 : ((4 : Int) + (Hq b : Int) + (k : Int)).toNat = 4 + Hq b + k:=by omega
  have e3:=gP (I1 (b.take (4 + Hq b))) k hk4
  by_cases hm : b.getD (4 + Hq b + k) 0 = (be4 (I1 (b.take (4 + Hq b)))).getD k 0
  ·have e4 : (((b.getD (4 + Hq b + k) 0).toNat : Int) != (((be4 (I1 (b.take (4 + Hq b)))).getD k 0).toNat : Int)) = false:=by rw [hm];simp
   have sc : No 3:=trivial;refine wd EZ [] [] (Dl e2 e3 e4) A0 ?_;clear sc;with_reducible repeat' first|constructor|intro hc;try simp only[AD] at hc
   refine ⟨k + 1,⟨hk4,fun i hi => ?_⟩,by omega,Nat.le_refl _,?_⟩
   ·rcases Nat.lt_or_eq_of_le (Nat.le_of_lt_succ hi) with h | h
    ·exact hall i h
    ·rw [h];exact hm
   exact A3.ck rfl
  ·have e4 : (((b.getD (4 + Hq b + k) 0).toNat : Int) != (((be4 (I1 (b.take (4 + Hq b)))).getD k 0).toNat : Int)) = true:=by
    rw [bne_iff_ne];intro h;exact hm (UInt8.toNat_inj.1 (by omega))
   have e : As b = ([],12):=by
    unfold As;rw [if_neg h8,if_neg h,if_neg];intro ha;rw [List.all_eq_true] at ha;exact hm (by simpa using ha k (List.mem_range.2 hk4))
   have sc : No 3:=trivial;refine wd EZ [] [] (Dl e2 e3 e4) A0 ?_;clear sc;with_reducible repeat' first|constructor|intro hc;try simp only[AD] at hc
   refine ⟨_,_,rfl,rfl,?_⟩;simp [AR,AB,A7,A4,e]
 ·have e : As b = ((b.drop 4).take (Hq b),0):=by
   unfold As;rw [if_neg h8,if_neg h,if_pos];rw [List.all_eq_true];intro i hi;simpa using hall i (by have:=List.mem_range.1 hi;omega)
  have e5 : (b.take (4 + Hq b)).drop 4 = (b.drop 4).take (Hq b):=by rw [List.drop_take];congr 1;omega
  have sc : No 3:=trivial;refine wd EZ [] [] (AF e1) A0 ?_;clear sc;with_reducible repeat' first|constructor|intro hc;try simp only[AD] at hc
  refine ⟨_,_,rfl,rfl,?_⟩;simp [AR,AB,A7,A4,e,e5]
theorem GR (n : Int) : (hdr n).length = 4:=rfl
theorem Pm (s : BitVec 32) : (be4 s).length = 4:=rfl
theorem fb (n : Nat) (h : n < 256) : (UInt8.ofNat n).toNat = n:=by simp [UInt8.toNat_ofNat'];omega
variable {p : List UInt8}
theorem FV (h : p.length ≤ 112) : BX p = (hdr p.length ++ p ++ be4 (I1 (hdr p.length ++ p)),0):=if_neg (by omega)
theorem Zj (n : Nat) (h : n < 65536) : hdr n = [71,1,UInt8.ofNat (n / 256),UInt8.ofNat (n % 256)]:=by
 have e1 : ((n : Int) / 256 % 256).toNat = n / 256:=by omega
 have e2 : ((n : Int) % 256).toNat = n % 256:=by omega
 unfold hdr;rw [e1,e2];rfl
theorem Nr (h : p.length ≤ 112) : As (BX p).1 = (p,0):=by
 rw [FV h];generalize hs : be4 (I1 (hdr p.length ++ p)) = S;have hS : S.length = 4:=by rw [← hs];rfl
 have hb : hdr p.length ++ p ++ S = 71 :: 1 :: UInt8.ofNat (p.length / 256) :: UInt8.ofNat (p.length % 256) :: (p ++ S):=by
  rw [Zj p.length (by omega)];rfl
 have hfr : Hq (hdr p.length ++ p ++ S) = p.length:=by
  rw [hb];unfold Hq;simp only [List.getD_cons_succ,List.getD_cons_zero];rw [fb _ (by omega),fb _ (by omega)];omega
 have htk : (hdr p.length ++ p ++ S).take (4 + p.length) = hdr p.length ++ p:=by
  rw [List.take_append_of_le_length (by simp [GR]),List.take_of_length_le (by simp [GR])]
 unfold As;rw [hfr,htk,hs];rw [if_neg (by simp [GR];omega),if_neg]
 ·rw [if_pos]
  ·rw [hb];simp
  ·rw [List.all_eq_true];intro i hi;have hi:=List.mem_range.1 hi;rw [beq_iff_eq,List.getD_eq_getElem?_getD,List.getD_eq_getElem?_getD,List.getElem?_append_right (by simp [GR])]
   congr 2
   simp [GR]
 ·rw [hb];simp [hS];omega
theorem Sc {b : List UInt8} {e : Int} (h : As b = (p,e)) : (e = 0 ∧ p.length ≤ 112 ∧ (BX p).1 = b) ∨ (e = 11 ∧ b.length < 8 ∧ p = []) ∨ (e = 12 ∧ 8 ≤ b.length ∧ p = []):=by
 unfold As at h;split at h
 ·cases h;exact .inr (.inl ⟨rfl,by assumption,rfl⟩)
 rename_i h8;split at h
 ·cases h;exact .inr (.inr ⟨rfl,by omega,rfl⟩)
 rename_i hc;split at h
 ·rename_i hall;simp only [Prod.mk.injEq] at h;obtain ⟨rfl,rfl⟩:=h;refine .inl ⟨rfl,by simp;omega,?_⟩;have hn : b.length = Hq b + 8:=by omega
  have hpl : ((b.drop 4).take (Hq b)).length = Hq b:=by simp;omega
  obtain ⟨b0,b1,b2,b3,t,rfl⟩ : ∃ b0 b1 b2 b3 t,b = b0 :: b1 :: b2 :: b3 :: t:=by
   rcases b with _ | ⟨b0,_ | ⟨b1,_ | ⟨b2,_ | ⟨b3,t⟩⟩⟩⟩ <;> first | exact ⟨_,_,_,_,_,rfl⟩ | (simp at h8)
  have hfr : Hq (b0 :: b1 :: b2 :: b3 :: t) = b2.toNat * 256 + b3.toNat:=rfl;have l2:=b2.toNat_lt;have l3:=b3.toNat_lt
  have e0 : b0 = 71:=UInt8.toNat_inj.1 (by have : ((b0.toNat : Nat) : Int) = 71:=by simpa using Classical.not_not.1 (fun h => hc (.inr (.inl h)))
                                           have : (71 : UInt8).toNat = 71:=rfl
                                           omega)
  have e1 : b1 = 1:=UInt8.toNat_inj.1 (by have : ((b1.toNat : Nat) : Int) = 1:=by simpa using Classical.not_not.1 (fun h => hc (.inr (.inr (.inl h))))
                                          have : (1 : UInt8).toNat = 1:=rfl
                                          omega)
  rw [FV (by rw [hpl];omega),hpl]
  have hh : hdr (Hq (b0 :: b1 :: b2 :: b3 :: t)) = [b0,b1,b2,b3]:=by
   rw [Zj _ (by omega),hfr,e0,e1,show (b2.toNat * 256 + b3.toNat) / 256 = b2.toNat by omega,show (b2.toNat * 256 + b3.toNat) % 256 = b3.toNat by omega];simp
  generalize hN : Hq (b0 :: b1 :: b2 :: b3 :: t) = N at *
  have htk : (b0 :: b1 :: b2 :: b3 :: t).take (4 + N) = hdr N ++ List.take N (List.drop 4 (b0 :: b1 :: b2 :: b3 :: t)):=by
   rw [hh,show 4 + N = N + 4 by omega];rfl
  have htl : (b0 :: b1 :: b2 :: b3 :: t).drop (4 + N) = be4 (I1 ((b0 :: b1 :: b2 :: b3 :: t).take (4 + N))):=by
   apply List.ext_getElem?;intro i;rw [List.getElem?_drop];rcases Nat.lt_or_ge i 4 with hi | hi
   ·have:=List.all_eq_true.1 hall i (List.mem_range.2 hi);rw [beq_iff_eq,List.getD_eq_getElem?_getD,List.getD_eq_getElem?_getD] at this;rw [List.getElem?_eq_getElem (by omega)] at this ⊢;rw [List.getElem?_eq_getElem (by rw [Pm];exact hi)] at this ⊢;simpa using this
   ·rw [List.getElem?_eq_none (by omega),List.getElem?_eq_none (by rw [Pm];exact hi)]
  rw [← htk,← htl];exact List.take_append_drop _ _
 ·cases h;exact .inr (.inr ⟨rfl,by omega,rfl⟩)
end Wi
end Go.Proofs.YtkljbfejbakooaaGreatDoor
