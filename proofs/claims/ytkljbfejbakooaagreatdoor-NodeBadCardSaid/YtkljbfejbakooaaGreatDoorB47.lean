/- Part 47 of a proof, put together by a program. Conditions: none beyond those that a theorem states. -/
import Derived.Test.YtkljbfejbakooaaGreatDoorB26
import Derived.Test.YtkljbfejbakooaaGreatDoorB42
set_option linter.unusedSimpArgs false
set_option linter.unusedVariables false
set_option linter.unnecessarySimpa false
set_option maxHeartbeats 40000000
namespace Go.Proofs.YtkljbfejbakooaaGreatDoor
namespace Wi
open Go.Gar
set_option maxRecDepth 4000
abbrev B1 : List Nat:=[0,1,2,3,4,5,7,11,29,30,42,49,61,77,89,96,105]
theorem Xf (m : Nat) (hm : m ≤ 1099511627776) : B4 Tryz.prog 298 [.d (.i .i64 m)] [] (.tup [.sl 0 (B0 m).length 1,.d (.i .i64 0)]) [.a (.by (B0 m))]:=by
 have hs:=size_le m (by omega);refine zD A6 Tryz.func298 ?_;refine wk [0,2,3,4,10,12] [] A0 A0 ?_;with_reducible repeat' first|constructor|intro hc;try simp only[AB] at hc
 refine Bp (A1.e0 4 (.by []) rfl rfl rfl trivial) (by simp) ?_;refine Ae (fun k => k ≤ size m) (fun k : Nat => ⟨[(0,.d (.i .i64 (m / 256 ^ k : Nat))),(2,.e0),(3,.d (.i .i64 0)),(4,.d (.by (EI m k)))],[],27⟩) (fun k => size m - k) 0 (Nat.zero_le _) ?_ (by simp) ?_
 ·exact A1.ck rfl
 intro k hk;have hsp:=size_pos (n:=m) (k:=k);have hle : m / 256 ^ k ≤ m:=Nat.div_le_self _ _;have hll : (EI m k).length = k:=by simp [EI]
 by_cases hkm : k < size m
 ·have hp:=hsp.2 hkm
  have e1 : ((m / 256 ^ k : Nat) : Int).tmod 256 = ((m / 256 ^ k % 256 : Nat) : Int):=by
   rw [Int.tmod_eq_emod_of_nonneg (by omega)];rfl
  have e2 : ((m / 256 ^ k % 256 : Nat) : Int) % 256 = ((m / 256 ^ k % 256 : Nat) : Int):=by omega
  have e3 : ((m / 256 ^ k : Nat) : Int).tdiv 256 = ((m / 256 ^ (k + 1) : Nat) : Int):=by
   rw [Int.tdiv_eq_ediv_of_nonneg (by omega),Nat.pow_succ,← Nat.div_div_eq_div_mul];rfl
  have e4 : (UInt8.ofNat (m / 256 ^ k % 256) :: EI m k) = EI m (k + 1):=(Ft m k).symm;have hle' : m / 256 ^ (k + 1) ≤ m:=Nat.div_le_self _ _;have ow : Lv [16]:=trivial;refine wk [0,2,3,4,10,12] [] (VH e1 e2 e3 e4) A0 ?_;clear ow;with_reducible repeat' first|constructor|intro hc;try simp only[AB] at hc
  rotate_left
  ·rw [e3];exact CV rfl (Jk _ (by omega))
  refine ⟨k + 1,hkm,by omega,Nat.zero_le _,?_⟩;refine A1.trans' (A1.Z2 4 0 (x:=.by (EI m (k + 1))) (congrArg (fun z => some (A2.a (D.by z))) e4) rfl rfl) ?_ (Nat.zero_le _);exact A1.ck rfl
 ·have e : k = size m:=by omega
  subst e;have h0 : m / 256 ^ size m = 0:=Nat.eq_zero_of_not_pos (fun h => absurd (hsp.1 h) (Nat.lt_irrefl _));have e5 : ((size m : Nat) : Int) % 256 = size m:=by omega
  have e6 : EI m (size m) = FC m:=rfl;have e7 : (FC m).length = size m:=by simp [FC]
  have ow : Lv [24]:=trivial;refine wk [0,2,3,4,10,12] [] (VH h0 e5 e6 e7) A0 ?_;clear ow;with_reducible repeat' first|constructor|intro hc;try simp only[AB] at hc
  refine ⟨⟨[(2,.sl 0 (B0 m).length 1),(3,.d (.i .i64 0))],[.a (.by (B0 m))],Tryz.f298.ntmps⟩,?_,Nat.zero_le _,_,_,rfl,rfl,rfl,rfl⟩;exact (have nC:=And.intro @B0.eq_1 (And.intro e6 e7);A1.cn rfl)
theorem Us (s : List UInt8) (h : s.length ≤ 255) : B4 Tryz.prog 228 [.d (.s s)] [] (.tup [.sl 0 (B7 s).length 1,.d (.i .i64 0)]) [.a (.by (B7 s))]:=by
 have h1 : decide ((s.length : Int) > 255) = false:=by simp;omega
 have h2 : (s.length : Int) % 256 = s.length:=by omega
 refine zD A6 Tryz.func228 ?_;have ow : Lv [10]:=trivial;refine wk [0,2,3,6] [] (BM h1 h2) A0 ?_;clear ow;with_reducible repeat' first|constructor|intro hc;try simp only[AB] at hc
 refine ⟨⟨[(2,.sl 0 (B7 s).length 1),(3,.d (.i .i64 0))],[.a (.by (B7 s))],Tryz.f228.ntmps⟩,?_,Nat.zero_le _,_,_,rfl,rfl,rfl,rfl⟩;exact (have nC:=@B7.eq_1;A1.cn rfl)
theorem Ly (n : Int) (hf : fits n = true) : B4 Tryz.prog 225 [.d (.i .i64 n)] [] (.sl 0 (B0 n.toNat).length 1) [.a (.by (B0 n.toNat))]:=by
 obtain ⟨e,hm⟩:=Ac hf;have hp:=Xf n.toNat hm;rw [e] at hp;refine zD A6 Tryz.func225 ?_;have d1:=Ds.mk [] (hp);refine wk [0,2,3] [] A0 A0 ?_;clear d1;with_reducible repeat' first|constructor|intro hc;try simp only[AB] at hc
 exact ⟨⟨[(2,.sl 0 (B0 n.toNat).length 1)],[.a (.by (B0 n.toNat))],Tryz.f225.ntmps⟩,(A1.ck rfl),Nat.zero_le _,_,_,rfl,rfl,rfl,rfl⟩
theorem BJ (n : Int) (hf : fits n = true) : Go.Gar.Fn Tryz.prog 225 [.i .i64 n] (.by (B0 n.toNat)):=by
 refine DO (ds:=[.i .i64 n]) (Ly n hf) ?_;simp [IF,A9]
theorem Oa (b : Bool) : Go.Gar.Fn Tryz.prog 226 [.b b] (.i .i64 (Bq b)):=by
 refine zF A6 Tryz.func226 ?_;cases b
 ·refine wk [0,2,3] [] A0 A0 ?_;with_reducible repeat' first|constructor|intro hc;try simp only[AB] at hc
  refine ⟨_,_,rfl,rfl,?_⟩;simp [Ab,A9,A4,A3,Bq]
 ·refine wk [0,2,3] [] A0 A0 ?_;with_reducible repeat' first|constructor|intro hc;try simp only[AB] at hc
  refine ⟨_,_,rfl,rfl,?_⟩;simp [Ab,A9,A4,A3,Bq]
theorem Ue (x : Item) (hk : x.key.length ≤ 255) (hv : fits x.value = true) (hn : fits x.version = true) : B4 Tryz.prog 227 [.d x.d] [] (.sl 1 (Ax x).length 1) [.gone,.a (.by (Ax x))]:=by
 obtain ⟨k,v,n,g⟩:=x;have ht:=Us k hk;have h1:=BJ v hv;have h2:=BJ n hn;have h3:=Oa g;have h4:=BJ (Bq g) (CQ g);have l1:=BC v.toNat (Ac hv).2;have l2:=BC n.toNat (Ac hn).2;have l3:=BC (Bq g).toNat (Ac (CQ g)).2;have l0 : (B7 k).length = k.length + 1:=rfl;refine zD A6 Tryz.func227 ?_;simp only at hk;unfold Item.d Item.cells;have d1:=Ds.mk [] (ht);refine wd [0,1,2,3] [] [(5,4),(6,4)] A0 (VH @h1 @h2 @h3 @h4) ?_;clear d1;with_reducible repeat' first|constructor|intro hc;try simp only[AB] at hc
 refine ⟨⟨[(2,.sl 1 (Ax ⟨k,v,n,g⟩).length 1)],[.gone,.a (.by (Ax ⟨k,v,n,g⟩))],Tryz.f227.ntmps⟩,?_,Nat.zero_le _,_,_,rfl,rfl,rfl,rfl⟩;exact A1.cut rfl (by repeat' (first | exact True.intro | refine And.intro (by (first | rfl | ((with_reducible_and_instances refine congrArg (fun z => some (AV.d (D.i _ z))) ?_);omega) | (refine congrArg (fun z => some (AV.d (D.i _ z))) (?_ : (_ : Int) = _);omega) | (refine congrArg some ?_;simp only [Ax,A5,List.append_assoc,List.append_nil];done) | (refine congrArg some ?_;simp [Ax,A5,List.append_assoc,List.append_nil];done))) ?_)) (by repeat' (first | exact True.intro | refine And.intro (Or.inr rfl) ?_ | refine And.intro (Or.inl ⟨rfl,rfl⟩) ?_ | refine And.intro (Or.inr (by simp only [Ax,A5,List.append_assoc,List.append_nil])) ?_ | refine And.intro (Or.inr (by simp [Ax,A5,List.append_assoc,List.append_nil])) ?_)) (by first | rfl | (simp (decide:=true) [AY,A2.ok,AV.oks,AV.ok,hk];done)) rfl
theorem Q9 (x : Item) (hk : x.key.length ≤ 255) (hv : fits x.value = true) (hn : fits x.version = true) : Go.Gar.Fn Tryz.prog 227 [x.d] (.by (Ax x)):=by
 refine DO (ds:=[x.d]) (Ue x hk hv hn) ?_;simp [IF,A9]
theorem KQ (m : A8) (hl : m.list.length < 9223372036854775807) : Go.Gar.Fn Tryz.prog 145 [m.d] (.tup [.by (GT m).1,.i .i64 (GT m).2]):=by
 have hR:=Es m hl
 cases h : m.right with
 | false =>
  rw [h] at hR;have e : GT m = ([],2):=by unfold GT;rw [h];rfl
  unfold A8.d A8.cells at *;refine zF A6 Tryz.func145 ?_;refine wd B1 [] [] A0 (AG @hR) ?_;with_reducible repeat' first|constructor|intro hc;try simp only[AB] at hc
  refine ⟨_,_,rfl,rfl,?_⟩;simp [Ab,A9,A4,A3,e]
 | true =>
 rw [h] at hR;have e : GT m = (Ag m,0):=by unfold GT;rw [if_pos h]
 have hlen:=HJ h;obtain ⟨⟨k1,k2⟩,⟨p1,p2⟩,_,⟨c1,c2⟩,hb,hh⟩:=Ej h;have ha:=Im h;have fk : fits m.kind = true:=C1 (by omega);have fc : fits m.call = true:=C1 (by omega);have n0:=Ly m.kind fk;have n1:=BJ m.call fc;have n2:=BJ m.src (Az p1);have n3:=BJ m.dst (Az p2);have l0:=BC m.kind.toNat (Ac fk).2;have l1:=BC m.call.toNat (Ac fc).2;have l2:=BC m.src.toNat (Ac (Az p1)).2;have l3:=BC m.dst.toNat (Ac (Az p2)).2;rw [e];clear e ha c1 c2 h hb;obtain ⟨k,c,s,d,ky,sl,dn,pl,pr,l,⟨ik,iv,ir,ig⟩,co⟩:=m;unfold A8.d A8.cells at *;simp only at *;refine zF A6 Tryz.func145 ?_;have d1:=Ds.mk [] (n0);refine wd B1 [4] [(4,3),(5,3),(8,3),(9,3),(8,7),(9,7),(12,3),(13,3),(12,7),(13,7),(12,11),(13,11)] A0 (VH @hR @n1 @n2 @n3) ?_;clear d1;with_reducible repeat' first|constructor|intro hc;try simp only[AB] at hc
 have hkind : k = 1 ∨ k = 2 ∨ k = 3 ∨ k = 4 ∨ k = 5 ∨ k = 6 ∨ k = 7 ∨ k = 8 ∨ k = 9 ∨ k = 10 ∨ k = 11 ∨ k = 12:=by omega
 clear hR n0 n1 n2 n3 k1 k2 hl;unfold A8.has at hh;rcases hkind with rfl | rfl | rfl | rfl | rfl | rfl | rfl | rfl | rfl | rfl | rfl | rfl
 ·refine wd B1 [] [(5,4),(6,4)] A0 A0 ?_;with_reducible repeat' first|constructor|intro hc;try simp only[AB] at hc
  refine ⟨_,_,rfl,rfl,?_⟩;simp [Ab,A9,A4,A3,Ag,Av,A5,Ax,B7,List.append_assoc,List.append_nil,List.cons_append,List.nil_append,Int.reduceEq,if_true,if_false]
 ·refine wd B1 [] [(5,4),(6,4)] A0 A0 ?_;with_reducible repeat' first|constructor|intro hc;try simp only[AB] at hc
  refine ⟨_,_,rfl,rfl,?_⟩;simp [Ab,A9,A4,A3,Ag,Av,A5,Ax,B7,List.append_assoc,List.append_nil,List.cons_append,List.nil_append,Int.reduceEq,if_true,if_false]
 ·refine wd B1 [] [(5,4),(6,4)] A0 A0 ?_;with_reducible repeat' first|constructor|intro hc;try simp only[AB] at hc
  refine ⟨_,_,rfl,rfl,?_⟩;simp [Ab,A9,A4,A3,Ag,Av,A5,Ax,B7,List.append_assoc,List.append_nil,List.cons_append,List.nil_append,Int.reduceEq,if_true,if_false]
 ·simp only [Int.reduceEq,if_true,if_false,Bool.and_eq_true,Bool.or_eq_true,decide_eq_true_eq] at hh;have hb:=Oa sl;have n4:=BJ ky (Az hh);have l4:=BC (ky).toNat (Ac (Az hh)).2;have n5:=BJ (Bq sl) (CQ sl);have l5:=BC ((Bq sl)).toNat (Ac (CQ sl)).2;refine wd B1 [] [(5,4),(6,4)] A0 (EP @hb @n4 @n5) ?_;with_reducible repeat' first|constructor|intro hc;try simp only[AB] at hc
  refine ⟨_,_,rfl,rfl,?_⟩;simp [Ab,A9,A4,A3,Ag,Av,A5,Ax,B7,List.append_assoc,List.append_nil,List.cons_append,List.nil_append,Int.reduceEq,if_true,if_false]
 ·simp only [Int.reduceEq,if_true,if_false,Bool.and_eq_true,Bool.or_eq_true,decide_eq_true_eq] at hh;obtain ⟨a1,a2,a3⟩:=ES hh;have hq:=Q9 ⟨ik,iv,ir,ig⟩ a1 a2 a3;have lq:=Hm hh;unfold Item.d Item.cells at hq;refine wd B1 [] [(5,4),(6,4)] A0 (AG @hq) ?_;with_reducible repeat' first|constructor|intro hc;try simp only[AB] at hc
  refine ⟨_,_,rfl,rfl,?_⟩;simp [Ab,A9,A4,A3,Ag,Av,A5,Ax,B7,List.append_assoc,List.append_nil,List.cons_append,List.nil_append,Int.reduceEq,if_true,if_false]
 ·simp only [Int.reduceEq,if_true,if_false,Bool.and_eq_true,Bool.or_eq_true,decide_eq_true_eq] at hh;obtain ⟨a1,a2,a3⟩:=ES hh.1;have a1 : ik.length ≤ 255:=a1;have hq:=Xi ik;have et : textS ik = (B7 ik,0):=by unfold textS B7;rw [if_neg (by omega)]
  rw [et] at hq;have lq : (B7 ik).length = ik.length + 1:=rfl;refine wd B1 [] [(5,4),(6,4)] A0 (AG @hq) ?_;with_reducible repeat' first|constructor|intro hc;try simp only[AB] at hc
  refine ⟨_,_,rfl,rfl,?_⟩;simp [Ab,A9,A4,A3,Ag,Av,A5,Ax,B7,List.append_assoc,List.append_nil,List.cons_append,List.nil_append,Int.reduceEq,if_true,if_false]
 ·simp only [Int.reduceEq,if_true,if_false,Bool.and_eq_true,Bool.or_eq_true,decide_eq_true_eq] at hh;have hL:=HF hh.2
  have hf : fits (pr + 1) = true:=by
   rcases hh.1 with h | h
   ·subst h;rfl
   ·exact C1 (by have:=DG h;omega)
  have hpr : -1 ≤ pr ∧ pr ≤ 1099511627776:=by simp [fits] at hf;omega
  have n4:=BJ (pr + 1) hf;have l4:=BC ((pr + 1)).toNat (Ac hf).2;have hq:=Go.Proofs.YtkljbfejbakooaaGreatDoor.Xd l;have et : FR l = (UInt8.ofNat l.length :: A5 l,0):=by unfold FR;rw [if_neg (by omega),if_pos hL.2]
  rw [et] at hq;simp only at hq;have lq:=DF l hL.2;have lq2 : (UInt8.ofNat l.length :: A5 l).length = (A5 l).length + 1:=rfl;generalize hLL : UInt8.ofNat l.length :: A5 l = LL at hq lq2;refine wd B1 [] [(5,4),(6,4)] A0 (BM @n4 @hq) ?_;with_reducible repeat' first|constructor|intro hc;try simp only[AB] at hc
  refine ⟨_,_,rfl,rfl,?_⟩;simp [Ab,A9,A4,A3,Ag,Av,A5,Ax,B7,List.append_assoc,List.append_nil,List.cons_append,List.nil_append,Int.reduceEq,if_true,if_false,hLL]
 ·refine wd B1 [] [(5,4),(6,4)] A0 A0 ?_;with_reducible repeat' first|constructor|intro hc;try simp only[AB] at hc
  refine ⟨_,_,rfl,rfl,?_⟩;simp [Ab,A9,A4,A3,Ag,Av,A5,Ax,B7,List.append_assoc,List.append_nil,List.cons_append,List.nil_append,Int.reduceEq,if_true,if_false]
 ·refine wd B1 [] [(5,4),(6,4)] A0 A0 ?_;with_reducible repeat' first|constructor|intro hc;try simp only[AB] at hc
  refine ⟨_,_,rfl,rfl,?_⟩;simp [Ab,A9,A4,A3,Ag,Av,A5,Ax,B7,List.append_assoc,List.append_nil,List.cons_append,List.nil_append,Int.reduceEq,if_true,if_false]
 ·simp only [Int.reduceEq,if_true,if_false,Bool.and_eq_true,Bool.or_eq_true,decide_eq_true_eq] at hh;have hb:=Oa dn;have n4:=BJ pl (Az hh);have l4:=BC (pl).toNat (Ac (Az hh)).2;have n5:=BJ (Bq dn) (CQ dn);have l5:=BC ((Bq dn)).toNat (Ac (CQ dn)).2;refine wd B1 [] [(5,4),(6,4)] A0 (EP @hb @n4 @n5) ?_;with_reducible repeat' first|constructor|intro hc;try simp only[AB] at hc
  refine ⟨_,_,rfl,rfl,?_⟩;simp [Ab,A9,A4,A3,Ag,Av,A5,Ax,B7,List.append_assoc,List.append_nil,List.cons_append,List.nil_append,Int.reduceEq,if_true,if_false]
 ·simp only [Int.reduceEq,if_true,if_false,Bool.and_eq_true,Bool.or_eq_true,decide_eq_true_eq] at hh;have hf : fits co = true:=by rcases hh with h | h <;> rw [h] <;> rfl
  have n4:=BJ co hf;have l4:=BC (co).toNat (Ac hf).2;refine wd B1 [] [(5,4),(6,4)] A0 (AG @n4) ?_;with_reducible repeat' first|constructor|intro hc;try simp only[AB] at hc
  refine ⟨_,_,rfl,rfl,?_⟩;simp [Ab,A9,A4,A3,Ag,Av,A5,Ax,B7,List.append_assoc,List.append_nil,List.cons_append,List.nil_append,Int.reduceEq,if_true,if_false]
 ·simp only [Int.reduceEq,if_true,if_false,Bool.and_eq_true,Bool.or_eq_true,decide_eq_true_eq] at hh;rcases hh with ⟨h0,h1⟩ | ⟨h0,h1⟩
  ·subst h0;have n4:=BJ (0 : Int) rfl;have l4:=BC ((0 : Int)).toNat (Ac rfl).2;obtain ⟨a1,a2,a3⟩:=ES h1;have hq:=Q9 ⟨ik,iv,ir,ig⟩ a1 a2 a3;have lq:=Hm h1;unfold Item.d Item.cells at hq;have l4 : (B0 0).length ≤ 7:=l4;refine wd B1 [] [(5,4),(6,4)] A0 (BM @n4 @hq) ?_;with_reducible repeat' first|constructor|intro hc;try simp only[AB] at hc
   refine ⟨_,_,rfl,rfl,?_⟩;simp [Ab,A9,A4,A3,Ag,Av,A5,Ax,B7,List.append_assoc,List.append_nil,List.cons_append,List.nil_append,Int.reduceEq,if_true,if_false,show Int.toNat 0 = 0 from rfl]
  ·subst h0;have n4:=BJ (201 : Int) rfl;have l4:=BC ((201 : Int)).toNat (Ac rfl).2;have l4 : (B0 201).length ≤ 7:=l4;refine wd B1 [] [(5,4),(6,4)] A0 (AG @n4) ?_;with_reducible repeat' first|constructor|intro hc;try simp only[AB] at hc
   refine ⟨_,_,rfl,rfl,?_⟩;simp [Ab,A9,A4,A3,Ag,Av,A5,Ax,B7,List.append_assoc,List.append_nil,List.cons_append,List.nil_append,Int.reduceEq,if_true,if_false]
end Wi
end Go.Proofs.YtkljbfejbakooaaGreatDoor
