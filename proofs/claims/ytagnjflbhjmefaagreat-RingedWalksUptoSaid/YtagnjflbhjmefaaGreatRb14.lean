/- Part 14 of the texts of this proof, put together by a program and made short.
Conditions: none; what each theorem asks stands in its own hypotheses. -/
import Derived.Test.YtagnjflbhjmefaaGreatRb13
import Derived.KernelRfl
import Derived.RangeFuncIn
import Derived.Sort.Grow
import Derived.Laws.Cover3
import Derived.RecoverIn
import Derived.ProofKit
import Derived.OpenShut
import Derived.CallsIn
import Derived.RangeFuncLeaves
import Derived.OrdersIn
import Derived.TacticsIn
import Derived.ChangeKeysEq
import Derived.Laws.AppendOwn
import Derived.Laws.OwnMore
import Derived.Laws.MakeOwn
import Derived.Laws.Rows
import Derived.Laws.Cells
import Derived.Laws.Tables
import Derived.Laws.CopyRow
import Derived.Laws.Strings
import Derived.Laws.IdiomStrings
import Derived.Laws.BytesArg
import Derived.Test.YtagnjflbhjmefaaGreatProg
set_option linter.unusedSimpArgs false
set_option linter.unusedVariables false
set_option linter.unnecessarySimpa false
set_option maxHeartbeats 40000000
namespace Go.Proofs.YtagnjflbhjmefaaGreat
namespace Wi
open Go.Gar
set_option maxRecDepth 4000
def AE.bare (m : AE) : AE :=
 if m.kind = 4 then { m with key:=0,slow:=false } else
 if m.kind = 5 then { m with item:=AP } else
 if m.kind = 6 then { m with item:=AP } else
 if m.kind = 7 then { m with pred:=0,list:=[] } else
 if m.kind = 10 then { m with place:=0,done:=false } else
 if m.kind = 11 then { m with code:=0 } else
 if m.kind = 12 then { m with code:=0,item:=AP } else m
def AE.has (m : AE) : Bool :=
 if m.kind = 4 then Az m.key else
 if m.kind = 5 then B7 m.item else
 if m.kind = 6 then B7 m.item && decide (m.item = ⟨m.item.key,0,0,false⟩) else
 if m.kind = 7 then (decide (m.pred = -1) || Az m.pred) && Cm m.list m.src else
 if m.kind = 10 then Az m.place else
 if m.kind = 11 then decide (m.code = 0) || decide (m.code = 200) else
 if m.kind = 12 then (decide (m.code = 0) && B7 m.item) || (decide (m.code = 201) && decide (m.item = AP)) else true
theorem VK (m : AE) : Go.Gar.Fn Tryz.prog 220 [m.d] m.bare.d:=by
 obtain ⟨k,c,s,d,ky,sl,dn,pl,pr,l,⟨ik,iv,ir,ig⟩,co⟩:=m
 refine A3 A8 Tryz.func220 rfl rfl (Nat.le_of_ble_eq_true rfl) ?_
 have nS:=True.intro;obtain ⟨lv,st,ns,nc⟩:=wq [0,1,2,4,5,9,14,18,22,25] [];refine wk ?_;clear nc ns st lv;repeat' (first|with_reducible constructor|(with_reducible intro hc;try simp only[A1] at hc))
 all_goals (refine ⟨_,_,rfl,rfl,?_⟩;simp [*,AE.bare,AE.d,AE.cells,AP,II,CC,Co,Ao,Jq,A5,A6,A4])
theorem XY (m : AE) (hl : m.list.length < 9223372036854775807) : Go.Gar.Fn Tryz.prog 221 [m.d] (.b m.has):=by
 obtain ⟨k,c,s,d,ky,sl,dn,pl,pr,l,⟨ik,iv,ir,ig⟩,co⟩:=m
 have hp:=BM
 have hP:=O7 ⟨ik,iv,ir,ig⟩
 have hL:=K4 l s hl
 have i1:=Fj ⟨ik,iv,ir,ig⟩ ⟨ik,0,0,false⟩
 have i2:=Fj ⟨ik,iv,ir,ig⟩ ⟨[],0,0,false⟩
 refine A3 A8 Tryz.func221 rfl rfl (Nat.le_of_ble_eq_true rfl) ?_
 have nS:=And.intro i1 i2;obtain ⟨lv,st,ns,nc⟩:=wq [0,1,2,4,5,10,15,29,46,51,61] [];have c1:=@hp;have c2:=@hP;have c3:=@hL;refine wk ?_;clear nc ns st lv c3 c2 c1;repeat' (first|with_reducible constructor|(with_reducible intro hc;try simp only[A1] at hc))
 all_goals (clear hp hP hL i1 i2;refine ⟨_,_,rfl,rfl,?_⟩;simp_all [BQ,AE.has,AP,DW])
theorem Cw {n : Int} (h : Az n = true) : 0 ≤ n ∧ n < 65536:=by simpa [Az] using h
theorem QT {n : Int} : Az n = true ↔ 0 ≤ n ∧ n < 65536:=by simp [Az]
def AE.empty (m : AE) : AE:=⟨m.kind,m.call,m.src,m.dst,0,false,false,0,0,[],AP,0⟩
def AE.Fu (m : AE) : Bool:=decide (1 ≤ m.kind) && decide (m.kind < 13) && Az m.src && Az m.dst && decide (m.src ≠ m.dst) && decide (m.asker * 1048576 + 1 ≤ m.call) && decide (m.call < m.asker * 1048576 + 1 + 1048576)
def AE.right (m : AE) : Bool:=m.Fu && (decide (m.bare = m.empty) && m.has)
theorem TD (m : AE) (hl : m.list.length < 9223372036854775807) : m.bare.list.length < 9223372036854775807:=by
 unfold AE.bare
 repeat' split
 all_goals first | exact hl | (show ([] : List Int).length < 9223372036854775807;decide)
theorem GX (m : AE) (hl : m.list.length < 9223372036854775807) : Go.Gar.Fn Tryz.prog 151 [m.d] (.b m.right):=by
 have hb:=VK m
 have hh:=XY m hl
 have hA:=Rj m
 have hS:=UK m.bare m.empty (TD m hl)
 have hp1:=BM m.src
 have hp2:=BM m.dst
 have hR : m.right = (m.Fu && (decide (m.bare = m.empty) && m.has)):=rfl
 have hH : m.Fu = (decide (1 ≤ m.kind) && decide (m.kind < 13) && Az m.src && Az m.dst && decide (m.src ≠ m.dst) && decide (m.asker * 1048576 + 1 ≤ m.call) && decide (m.call < m.asker * 1048576 + 1 + 1048576)):=rfl
 have hAb : Az m.src = true → Az m.dst = true → 0 ≤ m.asker ∧ m.asker < 65536:=by
  intro h1 h2
  unfold AE.asker
  split
  ·exact Cw h1
  ·exact Cw h2
 unfold AE.d AE.cells at hb hh hA hS ⊢
 simp only [AE.empty,AP] at hS
 generalize m.bare = B at *
 generalize m.has = hs at *
 generalize m.asker = A at *
 generalize m.right = R at *
 generalize m.Fu = H at *
 obtain ⟨k,c,s,d,ky,sl,dn,pl,pr,l,⟨ik,iv,ir,ig⟩,co⟩:=m
 refine A3 A8 Tryz.func151 rfl rfl (Nat.le_of_ble_eq_true rfl) ?_
 simp only at *
 cases h1 : Az s with
 | false =>
  rw [h1] at hp1 hH
  have nS:=True.intro;obtain ⟨lv,st,ns,nc⟩:=wq [0,1,2,3,4,31,46] [];have c1:=@hp1;have pr : AC []:=trivial;refine wd ?_;clear nc ns st lv pr c1;repeat' (first|with_reducible constructor|(with_reducible intro hc;try simp only[A1] at hc))
  all_goals (refine ⟨_,_,rfl,rfl,?_⟩;simp_all [BQ])
 | true =>
 rw [h1] at hp1 hH
 cases h2 : Az d with
 | false =>
  rw [h2] at hp2 hH
  have nS:=True.intro;obtain ⟨lv,st,ns,nc⟩:=wq [0,1,2,3,4,31,46] [];have c1:=@hp1;have c2:=@hp2;have pr : AC []:=trivial;refine wd ?_;clear nc ns st lv pr c2 c1;repeat' (first|with_reducible constructor|(with_reducible intro hc;try simp only[A1] at hc))
  all_goals (refine ⟨_,_,rfl,rfl,?_⟩;simp_all [BQ])
 | true =>
 rw [h2] at hp2 hH
 have hA2:=hAb h1 h2
 have nS:=True.intro;obtain ⟨lv,st,ns,nc⟩:=wq [0,1,2,3,4,31,46] [];have c1:=@hp1;have c2:=@hp2;have c3:=@hA;have c4:=@hb;have c5:=@hh;have z1:=@hS;have pr : AC []:=trivial;refine wd ?_;clear nc ns st lv pr z1 c5 c4 c3 c2 c1;repeat' (first|with_reducible constructor|(with_reducible intro hc;try simp only[A1] at hc))
 all_goals (clear hb hh hA hS hp1 hp2 hAb;refine ⟨_,_,rfl,rfl,?_⟩;simp_all [BQ,AE.empty,AP] <;> omega)
theorem Uj (n c : Int) : Go.Gar.Fn Tryz.prog 133 [.ifc 149 (.agg #[.int .i64 n]),.i .i64 c] (.i .i64 n):=by
 refine A3 A8 Tryz.func133 rfl rfl (Nat.le_of_ble_eq_true rfl) ?_
 have nS:=True.intro;obtain ⟨lv,st,ns,nc⟩:=wq [0,1,4,5,6,12] [];refine wk ?_;clear nc ns st lv;repeat' (first|with_reducible constructor|(with_reducible intro hc;try simp only[A1] at hc))
 refine ⟨_,_,rfl,rfl,?_⟩;simp [AH,A6,A5,A4]
theorem S9.at {P : Program} {f : FuncId} {args : List AV} {H : List A7} {u : FrameMode} {H' : List A7} (ids : List Nat) (h : S9 P f args H u H') {xs : List AV} {H2 H3 : List A7} (hx : AV.C7 (rn ids H2.length) args = xs) (hn : nodupB ids = true) (hm : Bw (rn ids H2.length) H2 ids H) (ho : AT H.length H = true) (ha : AV.oks H.length args = true) (hH : J5 ids H2 (E4 (rn ids H2.length) H') = H3) : S9 P f xs H2 u H3:=by
 subst hx;subst hH
 exact h.ren ids hn hm ho ha
def D5 (m : AE) : List UInt8:=AA [m.kind,m.call,m.src,m.dst] ++ BV m
theorem DC {n : Int} (h : 0 ≤ n ∧ n ≤ 1099511627776) : fits n = true:=by simp [fits];omega
theorem BS {n : Int} (h : Az n = true) : fits n = true:=DC (by have:=Cw h;omega)
theorem Nv {n : Int} (h : isVal n = true) : fits n = true:=DC (by simp [isVal] at h;omega)
theorem FA {x : Item} (h : B7 x = true) : x.key.length ≤ 255 ∧ fits x.value = true ∧ fits x.version = true:=by
 simp only [B7,Bool.and_eq_true] at h
 refine ⟨?_,Nv h.1.2,Nv h.2⟩
 have:=h.1.1
 simp [NN] at this;omega
theorem Ek {m : AE} (h : m.right = true) : (1 ≤ m.kind ∧ m.kind < 13) ∧ (Az m.src = true ∧ Az m.dst = true) ∧ m.src ≠ m.dst ∧ (m.asker * 1048576 + 1 ≤ m.call ∧ m.call < m.asker * 1048576 + 1 + 1048576) ∧ m.bare = m.empty ∧ m.has = true:=by
 simp only [AE.right,AE.Fu,Bool.and_eq_true,decide_eq_true_eq] at h
 obtain ⟨⟨⟨⟨⟨⟨⟨h1,h2⟩,h3⟩,h4⟩,h5⟩,h6⟩,h7⟩,h8,h9⟩:=h
 exact ⟨⟨h1,h2⟩,⟨h3,h4⟩,h5,⟨h6,h7⟩,h8,h9⟩
theorem Hu {l : List Int} {s : Int} (h : Cm l s = true) : l.length ≤ 3 ∧ l.all fits = true:=by
 simp only [Cm,D3,Bool.and_eq_true,decide_eq_true_eq] at h
 refine ⟨h.2,?_⟩
 rw [List.all_eq_true] at *
 intro x hx
 have:=h.1.1 x hx
 simp only [Bool.and_eq_true] at this
 exact BS this.1
theorem JP {m : AE} (h : m.right = true) : 0 ≤ m.asker ∧ m.asker < 65536:=by
 obtain ⟨_,⟨h1,h2⟩,_⟩:=Ek h
 unfold AE.asker
 split
 ·exact Cw h1
 ·exact Cw h2
end Wi
end Go.Proofs.YtagnjflbhjmefaaGreat
namespace Go.Proofs.YtagnjflbhjmefaaGreat
open Go.Gar
set_option maxRecDepth 4000
def Bm (n : Int) : Int:=n % 65536
def AK (a b : Int) : Int:=(b - a) % 65536
theorem IX (n : Int) : 0 ≤ Bm n ∧ Bm n < 65536:=by unfold Bm;omega
theorem QG (a b : Int) : 0 ≤ AK a b ∧ AK a b < 65536:=by unfold AK;omega
theorem Uc (a b : Int) : Bm (Bm b - Bm a) = AK a b:=by unfold Bm AK;omega
theorem X3 (n : Int) : Bc .and .i64 n 65535 = Bm n:=by
 have h1 : ((BitVec.ofInt 64 n) &&& (BitVec.ofInt 64 65535)).toNat = (n % 65536).toNat:=by
  rw [BitVec.toNat_and]
  have e1 : (BitVec.ofInt 64 65535).toNat = 2 ^ 16 - 1:=by decide
  rw [e1,Nat.and_two_pow_sub_one_eq_mod,BitVec.toNat_ofInt]
  omega
 have e : Bc .and .i64 n 65535 = IntKind.wrap .i64 (((BitVec.ofInt 64 n) &&& (BitVec.ofInt 64 65535)).toNat : Int):=rfl
 rw [e,h1,IntKind.wrap_i64]
 unfold Bm
 omega
theorem Ve (n : Int) : (n.tmod 65536 + 65536).tmod 65536 = Bm n:=by
 have h1:=Int.tmod_lt_of_pos n (show (0 : Int) < 65536 by decide)
 have h2:=Int.lt_tmod_of_pos n (show (0 : Int) < 65536 by decide)
 rw [Int.tmod_eq_emod_of_nonneg (by omega)]
 unfold Bm
 have h3:=Int.tmod_add_mul_tdiv n 65536
 omega
theorem G9 (n : Int) : Go.Gar.Fn Tryz.prog 76 [.i .i64 n] (.i .i64 (Bm n)):=by
 have e:=X3 n
 refine A3 A8 Tryz.func76 rfl rfl (Nat.le_of_ble_eq_true rfl) ?_
 have nS:=e;obtain ⟨lv,st,ns,nc⟩:=wq [0,2] [];refine wk ?_;clear nc ns st lv;repeat' (first|with_reducible constructor|(with_reducible intro hc;try simp only[A1] at hc))
 refine ⟨_,_,rfl,rfl,?_⟩;simp [AH,A6,A5,A4]
theorem IV (a b : Int) : Go.Gar.Fn Tryz.prog 129 [.i .i64 a,.i .i64 b] (.i .i64 (AK a b)):=by
 have c1:=G9 a
 have c2:=G9 b
 have c3:=G9 (Bm b - Bm a)
 rw [Uc] at c3
 have h1:=IX a
 have h2:=IX b
 refine A3 A8 Tryz.func129 rfl rfl (Nat.le_of_ble_eq_true rfl) ?_
 have nS:=True.intro;obtain ⟨lv,st,ns,nc⟩:=wq [0,1,4] [];have c1:=@c1;have c2:=@c2;have c3:=@c3;refine wk ?_;clear nc ns st lv c3 c2 c1;repeat' (first|with_reducible constructor|(with_reducible intro hc;try simp only[A1] at hc))
 refine ⟨_,_,rfl,rfl,?_⟩;simp [AH,A6,A5,A4]
theorem BM (n : Int) (hn : -9223372036854775808 ≤ n ∧ n ≤ 9223372036854775807) : Go.Gar.Fn Tryz.prog 56 [.i .i64 n] (.i .i64 (Bm n)):=by
 have e:=Ve n
 have h1:=Int.tmod_lt_of_pos n (show (0 : Int) < 65536 by decide)
 have h2:=Int.lt_tmod_of_pos n (show (0 : Int) < 65536 by decide)
 refine A3 A8 Tryz.func56 rfl rfl (Nat.le_of_ble_eq_true rfl) ?_
 have nS:=e;obtain ⟨lv,st,ns,nc⟩:=wq [0,2] [];refine wk ?_;clear nc ns st lv;repeat' (first|with_reducible constructor|(with_reducible intro hc;try simp only[A1] at hc))
 refine ⟨_,_,rfl,rfl,?_⟩;simp [AH,A6,A5,A4]
def i64 (n : Int) : Prop:=-9223372036854775808 ≤ n ∧ n ≤ 9223372036854775807
theorem GT (a b : Int) (ha : i64 a) (hb : i64 b) : Go.Gar.Fn Tryz.prog 53 [.i .i64 a,.i .i64 b] (.i .i64 (AK a b)):=by
 have h1:=IX a
 have h2:=IX b
 have c1:=BM a ha
 have c2:=BM b hb
 have c3:=BM (Bm b - Bm a) (by omega)
 rw [Uc] at c3
 refine A3 A8 Tryz.func53 rfl rfl (Nat.le_of_ble_eq_true rfl) ?_
 have nS:=True.intro;obtain ⟨lv,st,ns,nc⟩:=wq [0,1,4] [];have c1:=@c1;have c2:=@c2;have c3:=@c3;refine wk ?_;clear nc ns st lv c3 c2 c1;repeat' (first|with_reducible constructor|(with_reducible intro hc;try simp only[A1] at hc))
 refine ⟨_,_,rfl,rfl,?_⟩;simp [AH,A6,A5,A4]
def Ay (n : Int) : Bool:=decide (0 ≤ n ∧ n < 65536)
theorem BN {n : Int} (h : Ay n = true) : 0 ≤ n ∧ n < 65536:=by simpa [Ay] using h
theorem EU (n : Int) : Go.Gar.Fn Tryz.prog 158 [.i .i64 n] (.b (Ay n)):=by
 refine A3 A8 Tryz.func158 rfl rfl (Nat.le_of_ble_eq_true rfl) ?_
 by_cases h1 : 0 ≤ n
 ·have f1 : decide (n ≥ 0) = true:=decide_eq_true h1
  by_cases h2 : n < 65536
  ·have f2 : decide (n < 65536) = true:=decide_eq_true h2
   have e : Ay n = true:=decide_eq_true ⟨h1,h2⟩
   rw [e]
   have nS:=And.intro f1 f2;obtain ⟨lv,st,ns,nc⟩:=wq [0,2] [];refine wk ?_;clear nc ns st lv;repeat' (first|with_reducible constructor|(with_reducible intro hc;try simp only[A1] at hc))
   refine ⟨_,_,rfl,rfl,?_⟩;simp [AH,A6,A5,A4]
  ·have f2 : decide (n < 65536) = false:=decide_eq_false h2
   have e : Ay n = false:=decide_eq_false fun h => h2 h.2
   rw [e]
   have nS:=And.intro f1 f2;obtain ⟨lv,st,ns,nc⟩:=wq [0,2] [];refine wk ?_;clear nc ns st lv;repeat' (first|with_reducible constructor|(with_reducible intro hc;try simp only[A1] at hc))
   refine ⟨_,_,rfl,rfl,?_⟩;simp [AH,A6,A5,A4]
 ·have f1 : decide (n ≥ 0) = false:=decide_eq_false h1
  have e : Ay n = false:=decide_eq_false fun h => h1 h.1
  rw [e]
  have nS:=f1;obtain ⟨lv,st,ns,nc⟩:=wq [0,2] [];refine wk ?_;clear nc ns st lv;repeat' (first|with_reducible constructor|(with_reducible intro hc;try simp only[A1] at hc))
  refine ⟨_,_,rfl,rfl,?_⟩;simp [AH,A6,A5,A4]
theorem R2 (n : Int) : Go.Gar.Fn Tryz.prog 223 [.i .i64 n] (.b (Ay n)):=by
 refine A3 A8 Tryz.func223 rfl rfl (Nat.le_of_ble_eq_true rfl) ?_
 by_cases h1 : 0 ≤ n
 ·have f1 : decide (n ≥ 0) = true:=decide_eq_true h1
  by_cases h2 : n < 65536
  ·have f2 : decide (n < 65536) = true:=decide_eq_true h2
   have e : Ay n = true:=decide_eq_true ⟨h1,h2⟩
   rw [e]
   have nS:=And.intro f1 f2;obtain ⟨lv,st,ns,nc⟩:=wq [0,2] [];refine wk ?_;clear nc ns st lv;repeat' (first|with_reducible constructor|(with_reducible intro hc;try simp only[A1] at hc))
   refine ⟨_,_,rfl,rfl,?_⟩;simp [AH,A6,A5,A4]
  ·have f2 : decide (n < 65536) = false:=decide_eq_false h2
   have e : Ay n = false:=decide_eq_false fun h => h2 h.2
   rw [e]
   have nS:=And.intro f1 f2;obtain ⟨lv,st,ns,nc⟩:=wq [0,2] [];refine wk ?_;clear nc ns st lv;repeat' (first|with_reducible constructor|(with_reducible intro hc;try simp only[A1] at hc))
   refine ⟨_,_,rfl,rfl,?_⟩;simp [AH,A6,A5,A4]
 ·have f1 : decide (n ≥ 0) = false:=decide_eq_false h1
  have e : Ay n = false:=decide_eq_false fun h => h1 h.1
  rw [e]
  have nS:=f1;obtain ⟨lv,st,ns,nc⟩:=wq [0,2] [];refine wk ?_;clear nc ns st lv;repeat' (first|with_reducible constructor|(with_reducible intro hc;try simp only[A1] at hc))
  refine ⟨_,_,rfl,rfl,?_⟩;simp [AH,A6,A5,A4]
theorem H6 (n : Int) : Go.Gar.Fn Tryz.prog 125 [.i .i64 n] (.b (Ay n)):=by
 refine A3 A8 Tryz.func125 rfl rfl (Nat.le_of_ble_eq_true rfl) ?_
 by_cases h1 : 0 ≤ n
 ·have f1 : decide (n ≥ 0) = true:=decide_eq_true h1
  by_cases h2 : n < 65536
  ·have f2 : decide (n < 65536) = true:=decide_eq_true h2
   have e : Ay n = true:=decide_eq_true ⟨h1,h2⟩
   rw [e]
   have nS:=And.intro f1 f2;obtain ⟨lv,st,ns,nc⟩:=wq [0,2] [];refine wk ?_;clear nc ns st lv;repeat' (first|with_reducible constructor|(with_reducible intro hc;try simp only[A1] at hc))
   refine ⟨_,_,rfl,rfl,?_⟩;simp [AH,A6,A5,A4]
  ·have f2 : decide (n < 65536) = false:=decide_eq_false h2
   have e : Ay n = false:=decide_eq_false fun h => h2 h.2
   rw [e]
   have nS:=And.intro f1 f2;obtain ⟨lv,st,ns,nc⟩:=wq [0,2] [];refine wk ?_;clear nc ns st lv;repeat' (first|with_reducible constructor|(with_reducible intro hc;try simp only[A1] at hc))
   refine ⟨_,_,rfl,rfl,?_⟩;simp [AH,A6,A5,A4]
 ·have f1 : decide (n ≥ 0) = false:=decide_eq_false h1
  have e : Ay n = false:=decide_eq_false fun h => h1 h.1
  rw [e]
  have nS:=f1;obtain ⟨lv,st,ns,nc⟩:=wq [0,2] [];refine wk ?_;clear nc ns st lv;repeat' (first|with_reducible constructor|(with_reducible intro hc;try simp only[A1] at hc))
  refine ⟨_,_,rfl,rfl,?_⟩;simp [AH,A6,A5,A4]
theorem PC (n : Int) : Go.Gar.Fn Tryz.prog 171 [.i .i64 n] (.b (Ay n)):=by
 refine A3 A8 Tryz.func171 rfl rfl (Nat.le_of_ble_eq_true rfl) ?_
 by_cases h1 : 0 ≤ n
 ·have f1 : decide (n ≥ 0) = true:=decide_eq_true h1
  by_cases h2 : n < 65536
  ·have f2 : decide (n < 65536) = true:=decide_eq_true h2
   have e : Ay n = true:=decide_eq_true ⟨h1,h2⟩
   rw [e]
   have nS:=And.intro f1 f2;obtain ⟨lv,st,ns,nc⟩:=wq [0,2] [];refine wk ?_;clear nc ns st lv;repeat' (first|with_reducible constructor|(with_reducible intro hc;try simp only[A1] at hc))
   refine ⟨_,_,rfl,rfl,?_⟩;simp [AH,A6,A5,A4]
  ·have f2 : decide (n < 65536) = false:=decide_eq_false h2
   have e : Ay n = false:=decide_eq_false fun h => h2 h.2
   rw [e]
   have nS:=And.intro f1 f2;obtain ⟨lv,st,ns,nc⟩:=wq [0,2] [];refine wk ?_;clear nc ns st lv;repeat' (first|with_reducible constructor|(with_reducible intro hc;try simp only[A1] at hc))
   refine ⟨_,_,rfl,rfl,?_⟩;simp [AH,A6,A5,A4]
 ·have f1 : decide (n ≥ 0) = false:=decide_eq_false h1
  have e : Ay n = false:=decide_eq_false fun h => h1 h.1
  rw [e]
  have nS:=f1;obtain ⟨lv,st,ns,nc⟩:=wq [0,2] [];refine wk ?_;clear nc ns st lv;repeat' (first|with_reducible constructor|(with_reducible intro hc;try simp only[A1] at hc))
  refine ⟨_,_,rfl,rfl,?_⟩;simp [AH,A6,A5,A4]
theorem AY {l : List Int} {k : Nat} {x : Int} (hx : l[k]? = some x) : l.getD k 0 = x:=by rw [List.getD_eq_getElem?_getD,hx];rfl
end Go.Proofs.YtagnjflbhjmefaaGreat
