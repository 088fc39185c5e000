/- Part 11 of a proof, put together by a program. Conditions: none beyond those that a theorem states. -/
import Derived.Test.YtkljbfejbakooaaGreatDoorB08
import Derived.Test.YtkljbfejbakooaaGreatDoorB10
set_option linter.unusedSimpArgs false
set_option linter.unusedVariables false
set_option linter.unnecessarySimpa false
set_option maxHeartbeats 40000000
namespace Go.Proofs.YtkljbfejbakooaaGreatDoor
namespace Wi
open Go.Gar
set_option maxRecDepth 4000
abbrev I0 : List Nat:=[0,1,4,5,13,17]
def CP (d : UInt8) : List Bool:=(List.range 8).map fun k => d.toNat.testBit (7 - k)
def CX (l : List UInt8) : List Bool:=l.flatMap CP
theorem Yh : ∀ (d : Fin 256) (i : Fin 8),(BY .and .u8 ((d.1 : Int).fdiv (2 ^ min ((i.1 : Nat) : Int).toNat IntKind.u8.bits)) 1 == 1) = d.1.testBit i.1:=by decide +kernel
theorem Vu (d : UInt8) (i : Int) (h : 0 ≤ i) (h' : i ≤ 7) : (BY .and .u8 ((d.toNat : Int).fdiv (2 ^ min i.toNat IntKind.u8.bits)) 1 == 1) = d.toNat.testBit i.toNat:=by
 obtain ⟨n,rfl⟩ : ∃ n : Nat,i = n:=⟨i.toNat,by omega⟩;exact Yh ⟨d.toNat,d.toNat_lt⟩ ⟨n,by omega⟩
theorem LK (d : UInt8) (k : Nat) (h : k < 8) : (CP d).take (k + 1) = (CP d).take k ++ [d.toNat.testBit (7 - k)]:=by
 rw [List.take_succ_eq_append_getElem (by simp [CP];exact h)];simp [CP]
def HP (l : List UInt8) (r : Lp) (s : BitVec 32) : List A2:=[.c [.d (u32 s)],.c [.d (.by l)],.lp r]
theorem JO (d : UInt8) (l : List UInt8) (r : Lp) (s : BitVec 32) (hk : Cy 3 r.env = true) (hY : ∀ s b,YT Tryz.prog 2 [.d (.b b)] (HP l r s) fun x K => x = .d (.b true) ∧ K = HP l r (ED s b)) :
  I5 Tryz.prog 308 [.d (.i .u8 d.toNat),.yl 2] (HP l r s) fun x K => x = .d (.b true) ∧ K = HP l r (Cc s (CP d)):=by
 refine zT A6 Tryz.func308 ?_;unfold HP at hY ⊢
 have hb : ∀ k : Nat,k < 8 → ED (Cc s ((CP d).take k)) (BY .and .u8 ((d.toNat : Int).fdiv (2 ^ min (7 - (k : Int)).toNat IntKind.u8.bits)) 1 == 1) = Cc s ((CP d).take (k + 1)):=by
  intro k hk;rw [Vu d (7 - k) (by omega) (by omega),LK d k hk,Fi,show (7 - (k : Int)).toNat = 7 - k by omega];rfl
 refine wk I0 [] A0 A0 ?_;refine VY 0 _ (fun k : Nat => 1 ≤ k ∧ k < 8) (fun k : Nat => ⟨[(0,.d (.i .u8 d.toNat)),(1,.yl 2),(4,.d (.b false)),(5,.d (.i .i64 (7 - k)))],[.c [.d (u32 (Cc s ((CP d).take k)))],.c [.d (.by l)],.lp r],18⟩) (fun k => 8 - k) 8 2 2 rfl ?_ ?_
 ·have h0 : ED s (BY .and .u8 ((d.toNat : Int).fdiv (2 ^ min 7 8)) 1 == 1) = Cc s ((CP d).take 1):=hb 0 (by omega);have q1:=@hY;refine wk I0 [] A0 A0 ?_;clear q1;refine ⟨1,⟨by omega,by omega⟩,(show 8 - 1 < 8 by omega),Nat.le_of_ble_eq_true rfl,?_⟩;exact (have nC:=h0;A1.cn rfl)
 ·rintro k ⟨k1,k8⟩;have h0:=hb k k8;have e7 : (7 - (k : Int)).toNat = 7 - k:=by omega
  have h1:=h0;rw [e7,show IntKind.u8.bits = 8 from rfl] at h1
  by_cases h : k + 1 < 8
  ·have q1:=@hY;refine wk I0 [] A0 A0 ?_;clear q1;with_reducible repeat' first|constructor|intro hc;try simp only[AB] at hc
   refine ⟨k + 1,⟨by omega,h⟩,(show 8 - (k + 1) < 8 - k by omega),Nat.le_of_ble_eq_true rfl,?_⟩;exact (have nC:=And.intro h0 h1;A1.cn rfl)
  ·have hf : (CP d).take (k + 1) = CP d:=List.take_of_length_le (by simp [CP];omega);rw [hf] at h0 h1;have q1:=@hY;refine wk I0 [] A0 A0 ?_;clear q1;with_reducible repeat' first|constructor|intro hc;try simp only[AB] at hc
   refine ⟨_,A1.refl _,Nat.le_refl _,_,_,rfl,rfl,rfl,?_⟩;simp only [e7,h1]
abbrev K9 : List Nat:=[0,1,4,5,6,7,8,14,16,17,20]
theorem XT {P : Program} {ro : Option Nat} {ops : Array Oper} {i : Nat} {rest : List Oper} {Q : Exit → St → Prop} {o : Oper} {en e : List (Nat × AV)} {hp H' : List A2} {nt g : Nat} {xs : List AV} {r : AV} (hT : B4 P g xs hp r H') (hg : A7 ops en o = some true) (h : Am en o.op = some (g,xs)) (hd : AD o.dst nt = true) (he : AW o.dst r en = some e)
  (k : Wl P ro ops (i + 1) rest ⟨e,H',nt⟩ Q) : Wl P ro ops i (o :: rest) ⟨en,hp,nt⟩ Q:=by
 rw [AL he] at k;exact YW hg h hd hT fun r K ⟨h1,h2⟩ => by subst h1;subst h2;exact k
theorem Yj (l : List UInt8) : B4 Tryz.prog 258 [.d (.by l)] [] (.fn (.func 307) [] [.ptr 0 0 1]) [.c [.d (.by l)]]:=by
 refine zD A6 Tryz.func258 ?_;refine wk [0,1,2] [] A0 A0 ?_;exact ⟨_,(A1.ck rfl),Nat.zero_le _,_,_,rfl,rfl,rfl,rfl⟩
def ones : BitVec 32:=4294967295#32
def Gq (l : List UInt8) : BitVec 32:=Cc ones (CX l ++ List.replicate 32 false)
theorem LM {l : List UInt8} {k : Nat} {d : UInt8} (h : l[k]? = some d) : CX (l.take (k + 1)) = CX (l.take k) ++ CP d:=by
 rw [As h];simp [CX]
theorem Yi : CP 0 = List.replicate 8 false:=by decide
theorem VR (l : List UInt8) (hl : l.length < 70368744177664) : Go.Gar.Fn Tryz.prog 178 [.by l] (u32 (Gq l)):=by
 refine zF A6 Tryz.func178 ?_;have hb:=Yj l;have d1:=Ds.mk [] (hb);refine wk [0,2,3,4,6,7] [] A0 A0 ?_;clear d1;refine zG (K:=fun r _ H' => H' = HP l r (Gq l)) ?_ ?_
 ·intro r hr;have hk:=hr.ok (k:=3) rfl
  have hY : ∀ s b,YT Tryz.prog 2 [.d (.b b)] (HP l r s) fun x K => x = .d (.b true) ∧ K = HP l r (ED s b):=by
   intro s b;have hs:=YO s b;unfold HP u32 at *;refine BG hr rfl rfl rfl ?_;refine wk [0,2,3,4,6,7] [] A0 A0 ?_;refine zR ?_;refine wk [0,2,3,4,6,7] [] A0 (AG @hs) ?_;refine ⟨_,A1.refl _,Nat.le_refl _,rfl,rfl,?_⟩;simp only [List.set_cons_succ,List.set_cons_zero]
  refine zT A6 Tryz.func307 ?_;have hz:=hY;unfold HP at hz ⊢;refine wk K9 [] A0 A0 ?_;refine Ae (fun k => k ≤ l.length) (fun k : Nat => ⟨[(0,.yl 2),(5,.d (.by l)),(6,.d (.i .i64 l.length)),(7,.d (.i .i64 k))],HP l r (Cc ones (CX (l.take k))),22⟩) (fun k => l.length - k) 0 (Nat.zero_le _) ?_ (Nat.le_refl _) ?_
  ·unfold HP;exact A1.ck rfl
  intro k hkl;unfold HP
  by_cases hlt : k < l.length
  ·obtain ⟨d,hd⟩:=Ah hlt;have hs:=JO d l r (Cc ones (CX (l.take k))) (hk 3 rfl).1 hY;have e1:=LM hd;have e2 : Cc (Cc ones (CX (l.take k))) (CP d) = Cc ones (CX (l.take (k + 1))):=by rw [e1,Fi]
   rw [e2] at hs;have gd : l.getD k 0 = d:=by rw [List.getD_eq_getElem?_getD,hd];rfl
   have nS:=gd
   repeat' (first | ((with_reducible refine sg ?_);first | with_reducible rfl | ((with_reducible refine Cz ?_);first | kernel_rfl | rfl | (simp [Bb,CE,nS];done)) | with_reducible refine CV ?_ ?_ | with_reducible exact Nat.beq_refl _ | with_reducible exact AO _ | ((with_reducible refine decide_eq_true ?_);first | omega | (simp only [BU,nS];omega)) | decide | (simp [BU,slc,AQ,D.one,Al,AV.one,nS];done) | (simp [BU,nS];omega)) | ((with_reducible refine Y7 ?_);first | (refine E0 rfl ?_;refine Y5 A6 rfl rfl rfl rfl ?_) | refine Xq A6 rfl rfl rfl rfl ?_ ?_ | refine Xn [0,1,4,5,6,7,8,14,16,17,20] rfl ?_) | refine FF ?_ | refine EB ?_ | (refine XT hs rfl rfl rfl rfl ?_) | refine DT ?_ | refine FE ?_ | refine CW ?_ | refine DR ?_ | refine Bo rfl ?_ | refine Bn rfl ?_ | (refine FX rfl (fun hc => ?_) (fun hc => ?_) <;> (try simp only [AB] at hc) <;> (try (exfalso;omega))))
   refine ⟨k + 1,hlt,by omega,Nat.le_refl _,?_⟩;exact A1.ck rfl
  ·have e : l.take k = l:=List.take_of_length_le (by omega);rw [e];refine wk K9 [] A0 A0 ?_;with_reducible repeat' first|constructor|intro hc;try simp only[AB] at hc
   refine Ae (fun k => k ≤ 4) (fun k : Nat => ⟨[(0,.yl 2),(16,.d (.i .i64 k))],HP l r (Cc ones (CX l ++ List.replicate (8 * k) false)),22⟩) (fun k => 4 - k) 0 (Nat.zero_le _) ?_ (Nat.le_refl _) ?_
   ·unfold HP;simp only [Nat.mul_zero,List.replicate_zero,List.append_nil];exact A1.ck rfl
   intro j hj;unfold HP
   by_cases hjl : j < 4
   ·have hs:=JO 0 l r (Cc ones (CX l ++ List.replicate (8 * j) false)) (hk 3 rfl).1 hY
    have e2 : Cc (Cc ones (CX l ++ List.replicate (8 * j) false)) (CP 0) = Cc ones (CX l ++ List.replicate (8 * (j + 1)) false):=by
     rw [Yi,← Fi,List.append_assoc,List.replicate_append_replicate];rfl
    rw [e2] at hs;have nS:=True.intro
    repeat' (first | ((with_reducible refine sg ?_);first | with_reducible rfl | ((with_reducible refine Cz ?_);first | kernel_rfl | rfl | (simp [Bb,CE,nS];done)) | with_reducible refine CV ?_ ?_ | with_reducible exact Nat.beq_refl _ | with_reducible exact AO _ | ((with_reducible refine decide_eq_true ?_);first | omega | (simp only [BU,nS];omega)) | decide | (simp [BU,slc,AQ,D.one,Al,AV.one,nS];done) | (simp [BU,nS];omega)) | ((with_reducible refine Y7 ?_);first | (refine E0 rfl ?_;refine Y5 A6 rfl rfl rfl rfl ?_) | refine Xq A6 rfl rfl rfl rfl ?_ ?_ | refine Xn [0,1,4,5,6,7,8,14,16,17,20] rfl ?_) | refine FF ?_ | refine EB ?_ | (refine XT hs rfl rfl rfl rfl ?_) | refine DT ?_ | refine FE ?_ | refine CW ?_ | refine DR ?_ | refine Bo rfl ?_ | refine Bn rfl ?_ | (refine FX rfl (fun hc => ?_) (fun hc => ?_) <;> (try simp only [AB] at hc) <;> (try (exfalso;omega))))
    refine ⟨j + 1,hjl,by omega,Nat.le_refl _,?_⟩;exact A1.ck rfl
   ·have e4 : j = 4:=by omega
    subst e4;refine wk K9 [] A0 A0 ?_;refine ⟨_,A1.refl _,Nat.le_refl _,_,_,rfl,rfl,?_⟩;rfl
 ·rintro r hr x H' rfl;refine .inl ⟨rfl,?_⟩;unfold HP u32;refine wk [0,2,3,4,6,7] [] A0 A0 ?_;exact zE
abbrev Dx : List Nat:=[0,2,3,4,5,6,10,14,29]
theorem ZY (l : List UInt8) (hl : l.length < 70368744177664) : Go.Gar.Fn Tryz.prog 220 [.by l] (u32 (Gq l)):=by
 refine zF A6 Tryz.func220 ?_;refine wk Dx [] A0 A0 ?_;refine Ae (fun k => k ≤ l.length) (fun k : Nat => ⟨[(0,.d (.by l)),(2,.d (.i .u32 0)),(3,.d (u32 (Cc ones (CX (l.take k))))),(4,.d (.i .i64 k))],[],35⟩) (fun k => l.length - k) 0 (Nat.zero_le _) ?_ (Nat.le_refl _) ?_
 ·exact A1.ck rfl
 intro k hkl
 by_cases hlt : k < l.length
 ·obtain ⟨d,hd⟩:=Ah hlt;have gd : l.getD k 0 = d:=by rw [List.getD_eq_getElem?_getD,hd];rfl
  refine wk Dx [] A0 A0 ?_;with_reducible repeat' first|constructor|intro hc;try simp only[AB] at hc
  refine Ae (fun j => j ≤ 8) (fun j : Nat => ⟨[(0,.d (.by l)),(2,.d (.i .u32 0)),(3,.d (u32 (Cc (Cc ones (CX (l.take k))) ((CP d).take j)))),(4,.d (.i .i64 k)),(5,.d (.i .i64 (7 - j)))],[],35⟩) (fun j => 8 - j) 0 (Nat.zero_le _) ?_ (Nat.le_refl _) ?_
  ·exact A1.ck rfl
  intro j hj
  by_cases hj8 : j < 8
  ·have h0 : ED (Cc (Cc ones (CX (l.take k))) ((CP d).take j)) (BY .and .u8 ((d.toNat : Int).fdiv (2 ^ min (7 - (j : Int)).toNat IntKind.u8.bits)) 1 == 1) = Cc (Cc ones (CX (l.take k))) ((CP d).take (j + 1)):=by
    rw [Vu d (7 - j) (by omega) (by omega),LK d j hj8,Fi,show (7 - (j : Int)).toNat = 7 - j by omega];rfl
   have hw : (7 - (j : Int)) % 18446744073709551616 = 7 - j:=by omega
   have hs:=QM (Cc (Cc ones (CX (l.take k))) ((CP d).take j)) (BY .and .u8 ((d.toNat : Int).fdiv (2 ^ min (7 - (j : Int)).toNat IntKind.u8.bits)) 1 == 1);rw [h0] at hs;refine wk Dx [] (BM gd hw) (AG @hs) ?_;with_reducible repeat' first|constructor|intro hc;try simp only[AB] at hc
   refine ⟨j + 1,hj8,by omega,Nat.le_refl _,?_⟩;exact A1.ck rfl
  ·have hj8 : j = 8:=by omega
   subst hj8;have e : (CP d).take 8 = CP d:=List.take_of_length_le (by simp [CP]);have e2 : Cc (Cc ones (CX (l.take k))) ((CP d).take 8) = Cc ones (CX (l.take (k + 1))):=by rw [e,LM hd,Fi]
   rw [e2];refine wk Dx [] A0 A0 ?_;refine ⟨k + 1,hlt,by omega,Nat.le_refl _,?_⟩;exact A1.ck rfl
 ·have e : l.take k = l:=List.take_of_length_le (by omega);rw [e];refine wk Dx [] A0 A0 ?_;with_reducible repeat' first|constructor|intro hc;try simp only[AB] at hc
  refine Ae (fun k => k ≤ 32) (fun k : Nat => ⟨[(2,.d (.i .u32 0)),(3,.d (u32 (Cc ones (CX l ++ List.replicate k false)))),(6,.d (.i .i64 k))],[],35⟩) (fun k => 32 - k) 0 (Nat.zero_le _) ?_ (Nat.le_refl _) ?_
  ·simp only [List.replicate_zero,List.append_nil];exact A1.ck rfl
  intro j hj
  by_cases hj8 : j < 32
  ·have hs:=QM (Cc ones (CX l ++ List.replicate j false)) false
   have h0 : ED (Cc ones (CX l ++ List.replicate j false)) false = Cc ones (CX l ++ List.replicate (j + 1) false):=by
    rw [List.replicate_succ',← List.append_assoc,Fi _ (CX l ++ List.replicate j false) [false]];rfl
   rw [h0] at hs;refine wk Dx [] A0 (AG @hs) ?_;with_reducible repeat' first|constructor|intro hc;try simp only[AB] at hc
   refine ⟨j + 1,hj8,by omega,Nat.le_refl _,?_⟩;exact A1.ck rfl
  ·have e4 : j = 32:=by omega
   subst e4;refine wk Dx [] A0 A0 ?_;refine ⟨_,_,rfl,rfl,?_⟩;simp [Ab,A9,A4,A3,Gq]
def hdr (n : Int) : List UInt8:=[UInt8.ofNat (Int.toNat 71),UInt8.ofNat (Int.toNat 1),UInt8.ofNat (n / 256 % 256).toNat,UInt8.ofNat (n % 256).toNat]
def be4 (s : BitVec 32) : List UInt8:=[UInt8.ofNat ((s.toNat : Int) / 16777216 % 256).toNat,UInt8.ofNat ((s.toNat : Int) / 65536 % 256).toNat,UInt8.ofNat ((s.toNat : Int) / 256 % 256).toNat,UInt8.ofNat ((s.toNat : Int) % 256).toNat]
def BH (p : List UInt8) : List UInt8 × Int:=if p.length > 112 then ([],2) else (hdr p.length ++ p ++ be4 (Gq (hdr p.length ++ p)),0)
theorem eD (n : Nat) : (n : Int).fdiv (2 ^ min 24 IntKind.u32.bits) = n / 16777216:=by rw [Int.fdiv_eq_ediv_of_nonneg _ (by decide)];rfl
theorem eC (n : Nat) : (n : Int).fdiv (2 ^ min 16 IntKind.u32.bits) = n / 65536:=by rw [Int.fdiv_eq_ediv_of_nonneg _ (by decide)];rfl
theorem fd8 (n : Nat) : (n : Int).fdiv (2 ^ min 8 IntKind.u32.bits) = n / 256:=by rw [Int.fdiv_eq_ediv_of_nonneg _ (by decide)];rfl
theorem Hn (p : List UInt8) : Go.Gar.Fn Tryz.prog 142 [.by p] (.tup [.by (BH p).1,.i .i64 (BH p).2]):=by
 have hz:=XR (p.length : Int);refine zF A6 Tryz.func142 ?_
 by_cases h : p.length > 112
 ·have e : BH p = ([],2):=if_pos h;rw [if_pos (by omega)] at hz;refine wk [0,2,3,4,5,6,11] [] A0 (AG @hz) ?_;refine ⟨_,_,rfl,rfl,?_⟩;simp [Ab,A9,A4,A3,e]
 ·have e : BH p = (hdr p.length ++ p ++ be4 (Gq (hdr p.length ++ p)),0):=if_neg h;rw [if_neg (by omega)] at hz;have hs:=ZY (hdr p.length ++ p) (by simp [hdr];omega);have f0:=eq_false' (show (p.length : Int) + 8 ≠ 0 by omega);unfold hdr at hs;have nS:=f0
  repeat' (first | ((with_reducible refine sg ?_);first | with_reducible rfl | ((with_reducible refine Cz ?_);first | kernel_rfl | rfl | (simp [Bb,CE,nS];done)) | with_reducible refine CV ?_ ?_ | with_reducible exact Nat.beq_refl _ | with_reducible exact AO _ | ((with_reducible refine decide_eq_true ?_);first | omega | (simp only [BU,nS];omega)) | decide | (simp [BU,slc,AQ,D.one,Al,AV.one,nS];done) | (simp [BU,nS];omega)) | ((with_reducible refine Y7 ?_);first | (refine E0 rfl ?_;refine Y5 A6 rfl rfl rfl rfl ?_) | refine YZ [17,35] A6 rfl rfl rfl rfl rfl rfl ?_ ?_ | refine Xq A6 rfl rfl rfl rfl ?_ ?_ | refine Xn [0,2,3,4,5,6,11] rfl ?_ | refine XF (hz) rfl rfl rfl rfl ?_ | refine Xw A6 rfl rfl rfl rfl ?_ ?_) | refine FF ?_ | refine EB ?_ | (refine XT (Fn.read hs rfl (by simp [BS,C4,IF,A9])) rfl rfl rfl rfl ?_) | refine DT ?_ | refine FE ?_ | refine CW ?_ | refine DR ?_ | refine Bo rfl ?_ | refine Bn rfl ?_ | (refine FX rfl (fun hc => ?_) (fun hc => ?_) <;> (try simp only [AB] at hc) <;> (try (exfalso;omega))))
  unfold u32;have ow : Lv [17,35]:=trivial;refine wk [0,2,3,4,5,6,11] [] (AG f0) (AG @hz) ?_;clear ow;refine ⟨_,_,rfl,rfl,?_⟩;simp [Ab,A9,A4,A3,e,hdr,be4,eD,eC,fd8]
theorem VI (p : List UInt8) : Go.Gar.Fn Tryz.prog 196 [.by p] (.tup [.by (BH p).1,.i .i64 (BH p).2]):=by
 have hz:=SP (p.length : Int);refine zF A6 Tryz.func196 ?_
 by_cases h : p.length > 112
 ·have e : BH p = ([],2):=if_pos h;rw [if_pos (by omega)] at hz;have sc : No 3:=trivial;refine wk [0,2,3,4,5,6,10] [] A0 (AG @hz) ?_;clear sc;with_reducible repeat' first|constructor|intro hc;try simp only[AB] at hc
  refine ⟨_,_,rfl,rfl,?_⟩;simp [Ab,A9,A4,A3,e]
 ·have e : BH p = (hdr p.length ++ p ++ be4 (Gq (hdr p.length ++ p)),0):=if_neg h;rw [if_neg (by omega)] at hz;have hs:=VR (hdr p.length ++ p) (by simp [hdr];omega);unfold hdr at hs;have f0 : EZ (K.int .u8) 1 (Int.toNat 0) [D.i .u8 0] = .by []:=rfl
  have nS:=True.intro
  repeat' (first | ((with_reducible refine sg ?_);first | with_reducible rfl | ((with_reducible refine Cz ?_);first | kernel_rfl | rfl | (simp [Bb,CE,nS];done)) | with_reducible refine CV ?_ ?_ | with_reducible exact Nat.beq_refl _ | with_reducible exact AO _ | ((with_reducible refine decide_eq_true ?_);first | omega | (simp only [BU,nS];omega)) | decide | (simp [BU,slc,AQ,D.one,Al,AV.one,nS];done) | (simp [BU,nS];omega)) | ((with_reducible refine Y7 ?_);first | (refine E0 rfl ?_;refine Y5 A6 rfl rfl rfl rfl ?_) | refine YZ [13,40] A6 rfl rfl rfl rfl rfl rfl ?_ ?_ | refine Xq A6 rfl rfl rfl rfl ?_ ?_ | refine Xn [0,2,3,4,5,6,10] rfl ?_ | refine XaB 13 (D.by []) A6 rfl rfl rfl (by first | rfl | simp [EZ]) rfl rfl rfl rfl ?_ ?_ | refine XF (hz) rfl rfl rfl rfl ?_ | refine Xa A6 rfl rfl rfl rfl rfl ?_ ?_ | refine Xw A6 rfl rfl rfl rfl ?_ ?_) | refine FF ?_ | refine EB ?_ | (refine XT (Fn.read hs rfl (by simp [BS,C4,IF,A9])) rfl rfl rfl rfl ?_) | refine DT ?_ | refine FE ?_ | refine CW ?_ | refine DR ?_ | refine Ng 3 ?_ | refine Gv ?_ | refine FD ?_ | refine Bo rfl ?_ | refine Bn rfl ?_ | (refine FX rfl (fun hc => ?_) (fun hc => ?_) <;> (try simp only [AB] at hc) <;> (try (exfalso;omega))))
  unfold u32;have ow : Lv [13,40]:=trivial;have sc : No 3:=trivial;refine wk [0,2,3,4,5,6,10] [] A0 (AG @hz) ?_;clear sc ow;refine ⟨_,_,rfl,rfl,?_⟩;simp [Ab,A9,A4,A3,e,hdr,be4,eD,eC,fd8]
end Wi
end Go.Proofs.YtkljbfejbakooaaGreatDoor
