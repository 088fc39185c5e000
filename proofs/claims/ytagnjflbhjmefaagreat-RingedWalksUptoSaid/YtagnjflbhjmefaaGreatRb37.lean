/- Part 37 of the texts of this proof, put together by a program and made short.
Conditions: none; what each theorem asks stands in its own hypotheses. -/
import Derived.Test.YtagnjflbhjmefaaGreatRb34
import Derived.KernelRfl
import Derived.RangeFuncIn
import Derived.Sort.Grow
import Derived.Laws.Cover3
import Derived.RecoverIn
import Derived.ProofKit
import Derived.OpenShut
import Derived.CallsIn
import Derived.RangeFuncLeaves
import Derived.OrdersIn
import Derived.TacticsIn
import Derived.ChangeKeysEq
import Derived.Laws.AppendOwn
import Derived.Laws.OwnMore
import Derived.Laws.MakeOwn
import Derived.Laws.Rows
import Derived.Laws.Cells
import Derived.Laws.Tables
import Derived.Laws.CopyRow
import Derived.Laws.Strings
import Derived.Laws.IdiomStrings
import Derived.Laws.BytesArg
import Derived.Test.YtagnjflbhjmefaaGreatProg
set_option linter.unusedSimpArgs false
set_option linter.unusedVariables false
set_option linter.unnecessarySimpa false
set_option maxHeartbeats 40000000
namespace Go.Proofs.YtagnjflbhjmefaaGreat
namespace Wi
open Go.Gar
set_option maxRecDepth 4000
theorem Tb (m : Nat) (hm : m ≤ 1099511627776) : BK Tryz.prog 252 [.d (.i .i64 m)] [] (.tup [.sl 0 (Ck m).length 1,.d (.i .i64 0)]) [.a (.by (Ck m))]:=by
 have hs:=size_le m (by omega)
 refine AB A8 Tryz.func252 rfl rfl (Nat.le_of_ble_eq_true rfl) ?_
 have nS:=True.intro;obtain ⟨lv,st,ns,nc⟩:=wq [0,2,3,4,10,12] [];refine wk ?_;clear nc ns st lv;repeat' (first|with_reducible constructor|(with_reducible intro hc;try simp only[A1] at hc))
 refine B3 (A0.e0 4 (.by []) rfl rfl rfl trivial) (by simp) ?_
 refine Aq (fun k => k ≤ size m) (fun k : Nat => ⟨[(0,.d (.i .i64 (m / 256 ^ k : Nat))),(2,.e0),(3,.d (.i .i64 0)),(4,.d (.by (Dj m k)))],[],27⟩) (fun k => size m - k) 0 (Nat.zero_le _) ?_ (by simp) ?_
 ·exact A0.ck rfl
 intro k hk
 have hsp:=size_pos (n:=m) (k:=k)
 have hle : m / 256 ^ k ≤ m:=Nat.div_le_self _ _
 have hll : (Dj m k).length = k:=by simp [Dj]
 by_cases hkm : k < size m
 ·have hp:=hsp.2 hkm
  have e1 : ((m / 256 ^ k : Nat) : Int).tmod 256 = ((m / 256 ^ k % 256 : Nat) : Int):=by
   rw [Int.tmod_eq_emod_of_nonneg (by omega)];rfl
  have e2 : ((m / 256 ^ k % 256 : Nat) : Int) % 256 = ((m / 256 ^ k % 256 : Nat) : Int):=by omega
  have e3 : ((m / 256 ^ k : Nat) : Int).tdiv 256 = ((m / 256 ^ (k + 1) : Nat) : Int):=by
   rw [Int.tdiv_eq_ediv_of_nonneg (by omega),Nat.pow_succ,← Nat.div_div_eq_div_mul];rfl
  have e4 : (UInt8.ofNat (m / 256 ^ k % 256) :: Dj m k) = Dj m (k + 1):=(Ex m k).symm
  have hle' : m / 256 ^ (k + 1) ≤ m:=Nat.div_le_self _ _
  have nS:=And.intro e1 (And.intro e2 (And.intro e3 e4));obtain ⟨lv,st,ns,nc⟩:=wq [0,2,3,4,10,12] [];have ow : Lv [16]:=trivial;refine wk ?_;clear nc ns st lv ow;repeat' (first|with_reducible constructor|(with_reducible intro hc;try simp only[A1] at hc))
  rotate_left
  ·rw [e3];exact Cl rfl (IK _ (by omega))
  refine ⟨k + 1,hkm,by omega,Nat.zero_le _,?_⟩
  refine A0.trans' (A0.Sx 4 0 (x:=.by (Dj m (k + 1))) (congrArg (fun z => some (A7.a (D.by z))) e4) rfl rfl) ?_ (Nat.zero_le _)
  exact A0.ck rfl
 ·have e : k = size m:=by omega
  subst e
  have h0 : m / 256 ^ size m = 0:=Nat.eq_zero_of_not_pos (fun h => absurd (hsp.1 h) (Nat.lt_irrefl _))
  have e5 : ((size m : Nat) : Int) % 256 = size m:=by omega
  have e6 : Dj m (size m) = GD m:=rfl
  have e7 : (GD m).length = size m:=by simp [GD]
  have nS:=And.intro h0 (And.intro e5 (And.intro e6 e7));obtain ⟨lv,st,ns,nc⟩:=wq [0,2,3,4,10,12] [];have ow : Lv [24]:=trivial;refine wk ?_;clear nc ns st lv ow;repeat' (first|with_reducible constructor|(with_reducible intro hc;try simp only[A1] at hc))
  refine ⟨⟨[(2,.sl 0 (Ck m).length 1),(3,.d (.i .i64 0))],[.a (.by (Ck m))],Tryz.f252.ntmps⟩,?_,Nat.zero_le _,_,_,rfl,rfl,rfl,rfl⟩
  exact A0.cut rfl (by repeat' (first | exact True.intro | refine And.intro (by (first | rfl | ((with_reducible_and_instances refine congrArg (fun z => some (AV.d (D.i _ z))) ?_);omega) | (refine congrArg (fun z => some (AV.d (D.i _ z))) (?_ : (_ : Int) = _);omega) | (refine congrArg some ?_;simp only [Ck,e6,e7];done) | (refine congrArg some ?_;simp [Ck,e6,e7];done))) ?_)) (by repeat' (first | exact True.intro | refine And.intro (Or.inr rfl) ?_ | refine And.intro (Or.inl ⟨rfl,rfl⟩) ?_ | refine And.intro (Or.inr (by simp only [Ck,e6,e7])) ?_ | refine And.intro (Or.inr (by simp [Ck,e6,e7])) ?_)) (by first | rfl | (simp (decide:=true) [AT,A7.ok,AV.oks,AV.ok,hk];done)) rfl
theorem SR (s : List UInt8) (h : s.length ≤ 255) : BK Tryz.prog 203 [.d (.s s)] [] (.tup [.sl 0 (BF s).length 1,.d (.i .i64 0)]) [.a (.by (BF s))]:=by
 have h1 : decide ((s.length : Int) > 255) = false:=by simp;omega
 have h2 : (s.length : Int) % 256 = s.length:=by omega
 refine AB A8 Tryz.func203 rfl rfl (Nat.le_of_ble_eq_true rfl) ?_
 have nS:=And.intro h1 h2;obtain ⟨lv,st,ns,nc⟩:=wq [0,2,3,6] [];have ow : Lv [10]:=trivial;refine wk ?_;clear nc ns st lv ow;repeat' (first|with_reducible constructor|(with_reducible intro hc;try simp only[A1] at hc))
 refine ⟨⟨[(2,.sl 0 (BF s).length 1),(3,.d (.i .i64 0))],[.a (.by (BF s))],Tryz.f203.ntmps⟩,?_,Nat.zero_le _,_,_,rfl,rfl,rfl,rfl⟩
 exact A0.cut rfl (by repeat' (first | exact True.intro | refine And.intro (by (first | rfl | ((with_reducible_and_instances refine congrArg (fun z => some (AV.d (D.i _ z))) ?_);omega) | (refine congrArg (fun z => some (AV.d (D.i _ z))) (?_ : (_ : Int) = _);omega) | (refine congrArg some ?_;simp only [BF];done) | (refine congrArg some ?_;simp [BF];done))) ?_)) (by repeat' (first | exact True.intro | refine And.intro (Or.inr rfl) ?_ | refine And.intro (Or.inl ⟨rfl,rfl⟩) ?_ | refine And.intro (Or.inr (by simp only [BF])) ?_ | refine And.intro (Or.inr (by simp [BF])) ?_)) (by first | rfl | (simp (decide:=true) [AT,A7.ok,AV.oks,AV.ok,hk];done)) rfl
theorem K2 (n : Int) (hf : fits n = true) : BK Tryz.prog 200 [.d (.i .i64 n)] [] (.sl 0 (Ck n.toNat).length 1) [.a (.by (Ck n.toNat))]:=by
 obtain ⟨e,hm⟩:=Ak hf
 have hp:=Tb n.toNat hm
 rw [e] at hp
 refine AB A8 Tryz.func200 rfl rfl (Nat.le_of_ble_eq_true rfl) ?_
 have nS:=True.intro;obtain ⟨lv,st,ns,nc⟩:=wq [0,2,3] [];have d1:=Ds.mk [] (hp);refine wk ?_;clear nc ns st lv d1;repeat' (first|with_reducible constructor|(with_reducible intro hc;try simp only[A1] at hc))
 exact ⟨⟨[(2,.sl 0 (Ck n.toNat).length 1)],[.a (.by (Ck n.toNat))],Tryz.f200.ntmps⟩,(A0.ck rfl),Nat.zero_le _,_,_,rfl,rfl,rfl,rfl⟩
theorem BL (n : Int) (hf : fits n = true) : Go.Gar.Fn Tryz.prog 200 [.i .i64 n] (.by (Ck n.toNat)):=by
 refine Ee (ds:=[.i .i64 n]) (K2 n hf) ?_
 simp [HF,A6]
theorem Mv (b : Bool) : Go.Gar.Fn Tryz.prog 201 [.b b] (.i .i64 (CR b)):=by
 refine A3 A8 Tryz.func201 rfl rfl (Nat.le_of_ble_eq_true rfl) ?_
 cases b
 ·have nS:=True.intro;obtain ⟨lv,st,ns,nc⟩:=wq [0,2,3] [];refine wk ?_;clear nc ns st lv;repeat' (first|with_reducible constructor|(with_reducible intro hc;try simp only[A1] at hc))
  refine ⟨_,_,rfl,rfl,?_⟩;simp [AH,A6,A5,A4,CR]
 ·have nS:=True.intro;obtain ⟨lv,st,ns,nc⟩:=wq [0,2,3] [];refine wk ?_;clear nc ns st lv;repeat' (first|with_reducible constructor|(with_reducible intro hc;try simp only[A1] at hc))
  refine ⟨_,_,rfl,rfl,?_⟩;simp [AH,A6,A5,A4,CR]
theorem R1 (x : Item) (hk : x.key.length ≤ 255) (hv : fits x.value = true) (hn : fits x.version = true) : BK Tryz.prog 202 [.d x.d] [] (.sl 1 (B4 x).length 1) [.gone,.a (.by (B4 x))]:=by
 obtain ⟨k,v,n,g⟩:=x
 have ht:=SR k hk
 have h1:=BL v hv
 have h2:=BL n hn
 have h3:=Mv g
 have h4:=BL (CR g) (D1 g)
 have l1:=BJ v.toNat (Ak hv).2
 have l2:=BJ n.toNat (Ak hn).2
 have l3:=BJ (CR g).toNat (Ak (D1 g)).2
 have l0 : (BF k).length = k.length + 1:=rfl
 refine AB A8 Tryz.func202 rfl rfl (Nat.le_of_ble_eq_true rfl) ?_
 simp only at hk
 unfold Item.d Item.cells
 have nS:=True.intro;obtain ⟨lv,st,ns,nc⟩:=wq [0,1,2,3] [];have d1:=Ds.mk [] (ht);have c1:=@h1;have c2:=@h2;have c3:=@h3;have c4:=@h4;have pr : AC [(5,4),(6,4)]:=trivial;refine wd ?_;clear nc ns st lv pr c4 c3 c2 c1 d1;repeat' (first|with_reducible constructor|(with_reducible intro hc;try simp only[A1] at hc))
 refine ⟨⟨[(2,.sl 1 (B4 ⟨k,v,n,g⟩).length 1)],[.gone,.a (.by (B4 ⟨k,v,n,g⟩))],Tryz.f202.ntmps⟩,?_,Nat.zero_le _,_,_,rfl,rfl,rfl,rfl⟩
 exact A0.cut rfl (by repeat' (first | exact True.intro | refine And.intro (by (first | rfl | ((with_reducible_and_instances refine congrArg (fun z => some (AV.d (D.i _ z))) ?_);omega) | (refine congrArg (fun z => some (AV.d (D.i _ z))) (?_ : (_ : Int) = _);omega) | (refine congrArg some ?_;simp only [B4,AA,List.append_assoc,List.append_nil];done) | (refine congrArg some ?_;simp [B4,AA,List.append_assoc,List.append_nil];done))) ?_)) (by repeat' (first | exact True.intro | refine And.intro (Or.inr rfl) ?_ | refine And.intro (Or.inl ⟨rfl,rfl⟩) ?_ | refine And.intro (Or.inr (by simp only [B4,AA,List.append_assoc,List.append_nil])) ?_ | refine And.intro (Or.inr (by simp [B4,AA,List.append_assoc,List.append_nil])) ?_)) (by first | rfl | (simp (decide:=true) [AT,A7.ok,AV.oks,AV.ok,hk];done)) rfl
theorem NR (x : Item) (hk : x.key.length ≤ 255) (hv : fits x.value = true) (hn : fits x.version = true) : Go.Gar.Fn Tryz.prog 202 [x.d] (.by (B4 x)):=by
 refine Ee (ds:=[x.d]) (R1 x hk hv hn) ?_
 simp [HF,A6]
theorem OQ (m : AE) (hl : m.list.length < 9223372036854775807) : Go.Gar.Fn Tryz.prog 140 [m.d] (.tup [.by (PR m).1,.i .i64 (PR m).2]):=by
 have hR:=GX m hl
 cases h : m.right with
 | false =>
  rw [h] at hR
  have e : PR m = ([],2):=by unfold PR;rw [h];rfl
  unfold AE.d AE.cells at *
  refine A3 A8 Tryz.func140 rfl rfl (Nat.le_of_ble_eq_true rfl) ?_
  have nS:=True.intro;obtain ⟨lv,st,ns,nc⟩:=wq [0,1,2,3,4,5,7,11,29,30,42,49,61,77,89,96,105] [];have c1:=@hR;have pr : AC []:=trivial;refine wd ?_;clear nc ns st lv pr c1;repeat' (first|with_reducible constructor|(with_reducible intro hc;try simp only[A1] at hc))
  refine ⟨_,_,rfl,rfl,?_⟩;simp [AH,A6,A5,A4,e]
 | true =>
 rw [h] at hR
 have e : PR m = (D5 m,0):=by unfold PR;rw [if_pos h]
 have hlen:=OM h
 obtain ⟨⟨k1,k2⟩,⟨p1,p2⟩,_,⟨c1,c2⟩,hb,hh⟩:=Ek h
 have ha:=JP h
 have fk : fits m.kind = true:=DC (by omega)
 have fc : fits m.call = true:=DC (by omega)
 have n0:=K2 m.kind fk
 have n1:=BL m.call fc
 have n2:=BL m.src (BS p1)
 have n3:=BL m.dst (BS p2)
 have l0:=BJ m.kind.toNat (Ak fk).2
 have l1:=BJ m.call.toNat (Ak fc).2
 have l2:=BJ m.src.toNat (Ak (BS p1)).2
 have l3:=BJ m.dst.toNat (Ak (BS p2)).2
 rw [e]
 clear e ha c1 c2 h hb
 obtain ⟨k,c,s,d,ky,sl,dn,pl,pr,l,⟨ik,iv,ir,ig⟩,co⟩:=m
 unfold AE.d AE.cells at *
 simp only at *
 refine A3 A8 Tryz.func140 rfl rfl (Nat.le_of_ble_eq_true rfl) ?_
 have nS:=True.intro;obtain ⟨lv,st,ns,nc⟩:=wq [0,1,2,3,4,5,7,11,29,30,42,49,61,77,89,96,105] [4];have c1:=@hR;have d1:=Ds.mk [] (n0);have c2:=@n1;have c3:=@n2;have c4:=@n3;have pr : AC [(4,3),(5,3),(8,3),(9,3),(8,7),(9,7),(12,3),(13,3),(12,7),(13,7),(12,11),(13,11)]:=trivial;refine wd ?_;clear nc ns st lv pr c4 c3 c2 d1 c1;repeat' (first|with_reducible constructor|(with_reducible intro hc;try simp only[A1] at hc))
 have hkind : k = 1 ∨ k = 2 ∨ k = 3 ∨ k = 4 ∨ k = 5 ∨ k = 6 ∨ k = 7 ∨ k = 8 ∨ k = 9 ∨ k = 10 ∨ k = 11 ∨ k = 12:=by omega
 clear hR n0 n1 n2 n3 k1 k2 hl
 unfold AE.has at hh
 rcases hkind with rfl | rfl | rfl | rfl | rfl | rfl | rfl | rfl | rfl | rfl | rfl | rfl
 ·have nS:=True.intro;obtain ⟨lv,st,ns,nc⟩:=wq [0,1,2,3,4,5,7,11,29,30,42,49,61,77,89,96,105] [];have pr : AC [(5,4),(6,4)]:=trivial;refine wd ?_;clear nc ns st lv pr;repeat' (first|with_reducible constructor|(with_reducible intro hc;try simp only[A1] at hc))
  refine ⟨_,_,rfl,rfl,?_⟩;simp [AH,A6,A5,A4,D5,BV,AA,B4,BF,List.append_assoc,List.append_nil,List.cons_append,List.nil_append,Int.reduceEq,if_true,if_false]
 ·have nS:=True.intro;obtain ⟨lv,st,ns,nc⟩:=wq [0,1,2,3,4,5,7,11,29,30,42,49,61,77,89,96,105] [];have pr : AC [(5,4),(6,4)]:=trivial;refine wd ?_;clear nc ns st lv pr;repeat' (first|with_reducible constructor|(with_reducible intro hc;try simp only[A1] at hc))
  refine ⟨_,_,rfl,rfl,?_⟩;simp [AH,A6,A5,A4,D5,BV,AA,B4,BF,List.append_assoc,List.append_nil,List.cons_append,List.nil_append,Int.reduceEq,if_true,if_false]
 ·have nS:=True.intro;obtain ⟨lv,st,ns,nc⟩:=wq [0,1,2,3,4,5,7,11,29,30,42,49,61,77,89,96,105] [];have pr : AC [(5,4),(6,4)]:=trivial;refine wd ?_;clear nc ns st lv pr;repeat' (first|with_reducible constructor|(with_reducible intro hc;try simp only[A1] at hc))
  refine ⟨_,_,rfl,rfl,?_⟩;simp [AH,A6,A5,A4,D5,BV,AA,B4,BF,List.append_assoc,List.append_nil,List.cons_append,List.nil_append,Int.reduceEq,if_true,if_false]
 ·simp only [Int.reduceEq,if_true,if_false,Bool.and_eq_true,Bool.or_eq_true,decide_eq_true_eq] at hh
  have hb:=Mv sl
  have n4:=BL ky (BS hh)
  have l4:=BJ (ky).toNat (Ak (BS hh)).2
  have n5:=BL (CR sl) (D1 sl)
  have l5:=BJ ((CR sl)).toNat (Ak (D1 sl)).2
  have nS:=True.intro;obtain ⟨lv,st,ns,nc⟩:=wq [0,1,2,3,4,5,7,11,29,30,42,49,61,77,89,96,105] [];have c1:=@hb;have c2:=@n4;have c3:=@n5;have pr : AC [(5,4),(6,4)]:=trivial;refine wd ?_;clear nc ns st lv pr c3 c2 c1;repeat' (first|with_reducible constructor|(with_reducible intro hc;try simp only[A1] at hc))
  refine ⟨_,_,rfl,rfl,?_⟩;simp [AH,A6,A5,A4,D5,BV,AA,B4,BF,List.append_assoc,List.append_nil,List.cons_append,List.nil_append,Int.reduceEq,if_true,if_false]
 ·simp only [Int.reduceEq,if_true,if_false,Bool.and_eq_true,Bool.or_eq_true,decide_eq_true_eq] at hh
  obtain ⟨a1,a2,a3⟩:=FA hh
  have hq:=NR ⟨ik,iv,ir,ig⟩ a1 a2 a3
  have lq:=Gc hh
  unfold Item.d Item.cells at hq
  have nS:=True.intro;obtain ⟨lv,st,ns,nc⟩:=wq [0,1,2,3,4,5,7,11,29,30,42,49,61,77,89,96,105] [];have c1:=@hq;have pr : AC [(5,4),(6,4)]:=trivial;refine wd ?_;clear nc ns st lv pr c1;repeat' (first|with_reducible constructor|(with_reducible intro hc;try simp only[A1] at hc))
  refine ⟨_,_,rfl,rfl,?_⟩;simp [AH,A6,A5,A4,D5,BV,AA,B4,BF,List.append_assoc,List.append_nil,List.cons_append,List.nil_append,Int.reduceEq,if_true,if_false]
 ·simp only [Int.reduceEq,if_true,if_false,Bool.and_eq_true,Bool.or_eq_true,decide_eq_true_eq] at hh
  obtain ⟨a1,a2,a3⟩:=FA hh.1
  have a1 : ik.length ≤ 255:=a1
  have hq:=U5 ik
  have et : textS ik = (BF ik,0):=by unfold textS BF;rw [if_neg (by omega)]
  rw [et] at hq
  have lq : (BF ik).length = ik.length + 1:=rfl
  have nS:=True.intro;obtain ⟨lv,st,ns,nc⟩:=wq [0,1,2,3,4,5,7,11,29,30,42,49,61,77,89,96,105] [];have c1:=@hq;have pr : AC [(5,4),(6,4)]:=trivial;refine wd ?_;clear nc ns st lv pr c1;repeat' (first|with_reducible constructor|(with_reducible intro hc;try simp only[A1] at hc))
  refine ⟨_,_,rfl,rfl,?_⟩;simp [AH,A6,A5,A4,D5,BV,AA,B4,BF,List.append_assoc,List.append_nil,List.cons_append,List.nil_append,Int.reduceEq,if_true,if_false]
 ·simp only [Int.reduceEq,if_true,if_false,Bool.and_eq_true,Bool.or_eq_true,decide_eq_true_eq] at hh
  have hL:=Hu hh.2
  have hf : fits (pr + 1) = true:=by
   rcases hh.1 with h | h
   ·subst h;rfl
   ·exact DC (by have:=Cw h;omega)
  have hpr : -1 ≤ pr ∧ pr ≤ 1099511627776:=by simp [fits] at hf;omega
  have n4:=BL (pr + 1) hf
  have l4:=BJ ((pr + 1)).toNat (Ak hf).2
  have hq:=Go.Proofs.YtagnjflbhjmefaaGreat.K4 l
  have et : KW l = (UInt8.ofNat l.length :: AA l,0):=by unfold KW;rw [if_neg (by omega),if_pos hL.2]
  rw [et] at hq
  simp only at hq
  have lq:=MC l hL.2
  have lq2 : (UInt8.ofNat l.length :: AA l).length = (AA l).length + 1:=rfl
  generalize hLL : UInt8.ofNat l.length :: AA l = LL at hq lq2
  have nS:=True.intro;obtain ⟨lv,st,ns,nc⟩:=wq [0,1,2,3,4,5,7,11,29,30,42,49,61,77,89,96,105] [];have c1:=@n4;have c2:=@hq;have pr : AC [(5,4),(6,4)]:=trivial;refine wd ?_;clear nc ns st lv pr c2 c1;repeat' (first|with_reducible constructor|(with_reducible intro hc;try simp only[A1] at hc))
  refine ⟨_,_,rfl,rfl,?_⟩;simp [AH,A6,A5,A4,D5,BV,AA,B4,BF,List.append_assoc,List.append_nil,List.cons_append,List.nil_append,Int.reduceEq,if_true,if_false,hLL]
 ·have nS:=True.intro;obtain ⟨lv,st,ns,nc⟩:=wq [0,1,2,3,4,5,7,11,29,30,42,49,61,77,89,96,105] [];have pr : AC [(5,4),(6,4)]:=trivial;refine wd ?_;clear nc ns st lv pr;repeat' (first|with_reducible constructor|(with_reducible intro hc;try simp only[A1] at hc))
  refine ⟨_,_,rfl,rfl,?_⟩;simp [AH,A6,A5,A4,D5,BV,AA,B4,BF,List.append_assoc,List.append_nil,List.cons_append,List.nil_append,Int.reduceEq,if_true,if_false]
 ·have nS:=True.intro;obtain ⟨lv,st,ns,nc⟩:=wq [0,1,2,3,4,5,7,11,29,30,42,49,61,77,89,96,105] [];have pr : AC [(5,4),(6,4)]:=trivial;refine wd ?_;clear nc ns st lv pr;repeat' (first|with_reducible constructor|(with_reducible intro hc;try simp only[A1] at hc))
  refine ⟨_,_,rfl,rfl,?_⟩;simp [AH,A6,A5,A4,D5,BV,AA,B4,BF,List.append_assoc,List.append_nil,List.cons_append,List.nil_append,Int.reduceEq,if_true,if_false]
 ·simp only [Int.reduceEq,if_true,if_false,Bool.and_eq_true,Bool.or_eq_true,decide_eq_true_eq] at hh
  have hb:=Mv dn
  have n4:=BL pl (BS hh)
  have l4:=BJ (pl).toNat (Ak (BS hh)).2
  have n5:=BL (CR dn) (D1 dn)
  have l5:=BJ ((CR dn)).toNat (Ak (D1 dn)).2
  have nS:=True.intro;obtain ⟨lv,st,ns,nc⟩:=wq [0,1,2,3,4,5,7,11,29,30,42,49,61,77,89,96,105] [];have c1:=@hb;have c2:=@n4;have c3:=@n5;have pr : AC [(5,4),(6,4)]:=trivial;refine wd ?_;clear nc ns st lv pr c3 c2 c1;repeat' (first|with_reducible constructor|(with_reducible intro hc;try simp only[A1] at hc))
  refine ⟨_,_,rfl,rfl,?_⟩;simp [AH,A6,A5,A4,D5,BV,AA,B4,BF,List.append_assoc,List.append_nil,List.cons_append,List.nil_append,Int.reduceEq,if_true,if_false]
 ·simp only [Int.reduceEq,if_true,if_false,Bool.and_eq_true,Bool.or_eq_true,decide_eq_true_eq] at hh
  have hf : fits co = true:=by rcases hh with h | h <;> rw [h] <;> rfl
  have n4:=BL co hf
  have l4:=BJ (co).toNat (Ak hf).2
  have nS:=True.intro;obtain ⟨lv,st,ns,nc⟩:=wq [0,1,2,3,4,5,7,11,29,30,42,49,61,77,89,96,105] [];have c1:=@n4;have pr : AC [(5,4),(6,4)]:=trivial;refine wd ?_;clear nc ns st lv pr c1;repeat' (first|with_reducible constructor|(with_reducible intro hc;try simp only[A1] at hc))
  refine ⟨_,_,rfl,rfl,?_⟩;simp [AH,A6,A5,A4,D5,BV,AA,B4,BF,List.append_assoc,List.append_nil,List.cons_append,List.nil_append,Int.reduceEq,if_true,if_false]
 ·simp only [Int.reduceEq,if_true,if_false,Bool.and_eq_true,Bool.or_eq_true,decide_eq_true_eq] at hh
  rcases hh with ⟨h0,h1⟩ | ⟨h0,h1⟩
  ·subst h0
   have n4:=BL (0 : Int) rfl
   have l4:=BJ ((0 : Int)).toNat (Ak rfl).2
   obtain ⟨a1,a2,a3⟩:=FA h1
   have hq:=NR ⟨ik,iv,ir,ig⟩ a1 a2 a3
   have lq:=Gc h1
   unfold Item.d Item.cells at hq
   have l4 : (Ck 0).length ≤ 7:=l4
   have nS:=True.intro;obtain ⟨lv,st,ns,nc⟩:=wq [0,1,2,3,4,5,7,11,29,30,42,49,61,77,89,96,105] [];have c1:=@n4;have c2:=@hq;have pr : AC [(5,4),(6,4)]:=trivial;refine wd ?_;clear nc ns st lv pr c2 c1;repeat' (first|with_reducible constructor|(with_reducible intro hc;try simp only[A1] at hc))
   refine ⟨_,_,rfl,rfl,?_⟩;simp [AH,A6,A5,A4,D5,BV,AA,B4,BF,List.append_assoc,List.append_nil,List.cons_append,List.nil_append,Int.reduceEq,if_true,if_false,show Int.toNat 0 = 0 from rfl]
  ·subst h0
   have n4:=BL (201 : Int) rfl
   have l4:=BJ ((201 : Int)).toNat (Ak rfl).2
   have l4 : (Ck 201).length ≤ 7:=l4
   have nS:=True.intro;obtain ⟨lv,st,ns,nc⟩:=wq [0,1,2,3,4,5,7,11,29,30,42,49,61,77,89,96,105] [];have c1:=@n4;have pr : AC [(5,4),(6,4)]:=trivial;refine wd ?_;clear nc ns st lv pr c1;repeat' (first|with_reducible constructor|(with_reducible intro hc;try simp only[A1] at hc))
   refine ⟨_,_,rfl,rfl,?_⟩;simp [AH,A6,A5,A4,D5,BV,AA,B4,BF,List.append_assoc,List.append_nil,List.cons_append,List.nil_append,Int.reduceEq,if_true,if_false]
end Wi
end Go.Proofs.YtagnjflbhjmefaaGreat
