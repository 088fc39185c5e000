/- Part 47 of a proof, put together by a program. Conditions: none beyond those that a theorem states. -/
import Derived.Test.YtkljbfejbakooaaGreatDoorN44
set_option linter.unusedSimpArgs false
set_option linter.unusedVariables false
set_option linter.unnecessarySimpa false
set_option maxHeartbeats 40000000
namespace Go.Proofs.YtkljbfejbakooaaGreatDoor
open Go.Gar
set_option maxRecDepth 4000
abbrev GD : List Nat:=[0,2,3,4,5,6,7,10,16,21,24,46]
abbrev Il : List Nat:=[0,2,3,4,5,6,7,10,18,30]
abbrev Im : List Nat:=[0,2,3,4,5,6,7,8,9,10,13,21,31]
theorem O1 (b : List UInt8) (hb : b.length < 70368744177664) : Go.Gar.Fn Tryz.prog 221 [.by b] (CB (Ak b)):=by
 refine zF A6 Tryz.func221 ?_;rcases b with _ | ⟨m,r⟩
 ·refine wk GD [] A0 A0 ?_;refine ⟨_,_,rfl,rfl,?_⟩;simp [AR,AB,A7,A4,Ak,CB]
 have hm:=m.toNat_lt;simp only [List.length_cons] at hb
 by_cases h6 : m.toNat > 6
 ·refine wk GD [] A0 A0 ?_;with_reducible repeat' first|constructor|intro hc;try simp only[AD] at hc
  refine ⟨_,_,rfl,rfl,?_⟩;simp [AR,AB,A7,A4,Ak,CB,h6]
 by_cases hr : r.length < m.toNat
 ·refine wk GD [] A0 A0 ?_;with_reducible repeat' first|constructor|intro hc;try simp only[AD] at hc
  refine ⟨_,_,rfl,rfl,?_⟩;simp [AR,AB,A7,A4,Ak,CB,h6,hr]
 have hlt : ∀ k,k ≤ m.toNat → Dk (r.take k) < 281474976710656:=by
  intro k hk;have:=Mi (r.take k);have h6' : (r.take k).length ≤ 6:=by simp;omega
  have : 256 ^ (r.take k).length ≤ 256 ^ 6:=Nat.pow_le_pow_right (by decide) h6';omega
 refine wk GD [] A0 A0 ?_;with_reducible repeat' first|constructor|intro hc;try simp only[AD] at hc
 refine Ac (fun k => k ≤ m.toNat) (fun k : Nat => ⟨[(0,.d (.by (m :: r))),(2,.d (.i .i64 0)),(3,.e0),(4,.d (.i .i64 0)),(5,.d (.i .i64 m.toNat)),(6,.d (.i .i64 (Dk (r.take k) : Nat))),(7,.d (.i .i64 ((k + 1 : Nat) : Int)))],[],54⟩) (fun k => m.toNat - k) 0 (Nat.zero_le _) ?_ (Nat.le_refl _) ?_
 ·exact A3.ck rfl
 intro k hk;have hv:=hlt k hk
 by_cases hkm : k < m.toNat
 ·have e3 : (Dk (r.take k) : Int) * 256 + ((r.getD k 0).toNat : Int) = (Dk (r.take (k + 1)) : Nat):=by
   have:=PQ r k (by omega);omega
  have hv':=hlt (k + 1) hkm;have hd:=(r.getD k 0).toNat_lt;refine wk GD [] (AF e3) A0 ?_;with_reducible repeat' first|constructor|intro hc;try simp only[AD] at hc
  rotate_left
  ·rw [e3];exact Cr rfl (LO _ (by omega))
  refine ⟨k + 1,hkm,by omega,Nat.le_refl _,?_⟩;exact A3.ck rfl
 ·have hkm' : k = m.toNat:=by omega
  subst hkm'
  by_cases hP : (m.toNat > 0 ∧ r.getD 0 0 = 0) ∨ Dk (r.take m.toNat) > 1099511627776
  ·have hT : Ak (m :: r) = (0,[],12):=by simp only [Ak,if_neg h6,if_neg hr,if_pos hP]
   rw [hT];refine wk GD [] A0 A0 ?_;with_reducible repeat' first|constructor|intro hc;try simp only[AD] at hc
   all_goals first
    | (refine ⟨_,_,rfl,rfl,?_⟩;simp [AR,AB,A7,A4,CB];done)
    | (exfalso;rcases hP with ⟨h,h'⟩ | h <;> first | omega | (have h':=congrArg UInt8.toNat h';simp only [UInt8.toNat_zero] at h';omega))
  ·have hT : Ak (m :: r) = (Dk (r.take m.toNat),r.drop m.toNat,0):=by simp only [Ak,if_neg h6,if_neg hr,if_neg hP]
   rw [hT];have e5 : (1 + (m.toNat : Int)).toNat = m.toNat + 1:=by omega
   refine wk GD [] (AF e5) A0 ?_;with_reducible repeat' first|constructor|intro hc;try simp only[AD] at hc
   all_goals first
    | (refine ⟨_,_,rfl,rfl,?_⟩;simp [AR,AB,A7,A4,CB];done)
    | (exfalso;exact hP (.inl ⟨by omega,u8z (by omega)⟩))
    | (exfalso;exact hP (.inr (by omega)))
theorem bO (l : List Int) : Go.Gar.Fn Tryz.prog 229 [.is l] (.tup [.by (GU l).1,.i .i64 (GU l).2]):=by
 refine zF A6 Tryz.func229 ?_
 by_cases hl : l.length > 255
 ·refine wk Il [] A0 A0 ?_;with_reducible repeat' first|constructor|intro hc;try simp only[AD] at hc
  refine ⟨_,_,rfl,rfl,?_⟩;simp [AR,AB,A7,A4,GU,hl]
 have h1 : (l.length : Int) % 256 = l.length:=by omega
 have ow : Lv [14]:=trivial;refine wk Il [] (AF h1) A0 ?_;clear ow;with_reducible repeat' first|constructor|intro hc;try simp only[AD] at hc
 refine Ac (fun k => k ≤ l.length ∧ (l.take k).all fits = true) (fun k : Nat => ⟨[(0,.d (.is l)),(2,.e0),(3,.d (.i .i64 0)),(4,.sl 0 (UInt8.ofNat l.length :: A9 (l.take k)).length 1),(5,.d (.i .i64 k))],[.a (.by (UInt8.ofNat l.length :: A9 (l.take k)))],36⟩) (fun k => l.length - k) 0 ⟨Nat.zero_le _,by simp⟩ ?_ (Nat.le_refl _) ?_
 ·exact A3.ck rfl
 rintro k ⟨hk,hpre⟩;have hlen:=Dx _ hpre;have htl : (l.take k).length ≤ k:=List.length_take_le _ _
 by_cases hka : k < l.length
 ·by_cases hf : fits (l.getD k 0) = true
  ·obtain ⟨m,hm,hm'⟩:=Gu hf
   have hnext : (UInt8.ofNat l.length :: A9 (l.take k)) ++ BH m = UInt8.ofNat l.length :: A9 (l.take (k + 1)):=by
    rw [Dm hka,hm];simp
   have hnext' : A9 (l.take k) ++ BH m = A9 (l.take (k + 1)):=by
    rw [Dm hka,hm];simp
   have hnl:=BS m hm';have hput : Kp (m : Int) = (BH m,0):=by rw [hm] at hf;simp [Kp,hf]
   rw [hm] at hf;refine wk Il [] (Dl hm hput hnext') (AF (Vv m)) ?_;with_reducible repeat' first|constructor|intro hc;try simp only[AD] at hc
   refine ⟨k + 1,⟨hka,by rw [Ec hka,hpre,hm,hf];rfl⟩,by omega,Nat.le_refl _,?_⟩;exact (have nC:=hnext';A3.co rfl)
  ·have hf' : fits (l.getD k 0) = false:=by simpa using hf
   have hall : l.all fits = false:=by
    rw [← List.take_append_drop (k + 1) l,List.all_append,Ec hka,hf'];simp
   have hput : Kp (l.getD k 0) = ([],2):=by unfold Kp;rw [if_neg hf]
   refine wk Il [] (AF hput) (AF (Vv (l.getD k 0))) ?_;with_reducible repeat' first|constructor|intro hc;try simp only[AD] at hc
   refine ⟨_,_,rfl,rfl,?_⟩;simp [AR,AB,A7,A4,GU,hl,hall]
 ·have e : k = l.length:=by omega
  subst e;rw [List.take_length] at hpre;refine wk Il [] A0 A0 ?_;with_reducible repeat' first|constructor|intro hc;try simp only[AD] at hc
  refine ⟨_,_,rfl,rfl,?_⟩;simp [AR,AB,A7,A4,GU,hl,hpre]
theorem Qf (b : List UInt8) (hb : b.length < 70368744177664) : Go.Gar.Fn Tryz.prog 222 [.by b] (G9 (AZ b)):=by
 refine zF A6 Tryz.func222 ?_;rcases b with _ | ⟨m,r⟩
 ·refine wk Im [] A0 A0 ?_;refine ⟨_,_,rfl,rfl,?_⟩;simp [AR,AB,A7,A4,AZ,G9]
 have hm:=m.toNat_lt;simp only [List.length_cons] at hb;refine wk Im [] A0 A0 ?_;refine Ap (A3.Z9 5 (.is []) rfl rfl rfl trivial) (by simp) ?_
 refine Ac (α:=Nat × List UInt8 × List Int) (fun x => x.1 ≤ m.toNat ∧ x.2.1.length ≤ r.length ∧ x.2.2.length = x.1 ∧ CC (m.toNat - x.1) x.2.1 x.2.2 = CC m.toNat r [])
  (fun x => ⟨[(0,.d (.by (m :: r))),(2,.e0),(3,.e0),(5,.sl 0 x.2.2.length 1),(6,.d (.by x.2.1)),(4,.d (.i .i64 0)),(7,.d (.i .i64 x.1))],[.a (.is x.2.2)],42⟩) (fun x => m.toNat - x.1) (0,r,[]) ⟨Nat.zero_le _,Nat.le_refl _,rfl,rfl⟩ ?_ (by simp) ?_
 ·exact A3.ck rfl
 rintro ⟨k,rest,acc⟩ ⟨hk,hrl,hal,hT⟩;simp only at hk hrl hal hT;have hl:=FX rest;have hv:=T3 rest
 by_cases hkm : k < m.toNat
 ·rw [show m.toNat - k = (m.toNat - (k + 1)) + 1 by omega] at hT;simp only [CC] at hT
  by_cases he : (Ak rest).2.2 = 0
  ·rw [if_pos he] at hT;refine wk Im [] (Aj he @CB.eq_1) (AF (O1 rest (by omega))) ?_;with_reducible repeat' first|constructor|intro hc;try simp only[AD] at hc
   refine ⟨(k + 1,(Ak rest).2.1,acc ++ [((Ak rest).1 : Int)]),⟨hkm,by simp only;omega,by simp;omega,hT⟩,by simp only;omega,by simp,?_⟩;exact A3.ck rfl
  ·rw [if_neg he] at hT;refine wk Im [] (AF @CB.eq_1) (AF (O1 rest (by omega))) ?_;with_reducible repeat' first|constructor|intro hc;try simp only[AD] at hc
   have e : AZ (m :: r) = ([],[],(Ak rest).2.2):=hT.symm;refine ⟨_,_,rfl,rfl,?_⟩;simp [AR,AB,A7,A4,e,G9]
 ·have e : k = m.toNat:=by omega
  subst e;rw [Nat.sub_self] at hT;have e : AZ (m :: r) = (acc,rest,0):=hT.symm;refine wk Im [] A0 A0 ?_;with_reducible repeat' first|constructor|intro hc;try simp only[AD] at hc
  refine ⟨_,_,rfl,rfl,?_⟩;simp [AR,AB,A7,A4,e,G9]
end Go.Proofs.YtkljbfejbakooaaGreatDoor
namespace Go.Proofs.YtkljbfejbakooaaGreatDoor
namespace Wi
open Go.Gar
set_option maxRecDepth 4000
abbrev BJ : List Nat:=[0,1,2,3,4,5,7,11,29,30,42,49,61,77,89,96,105]
theorem bQ (m : Nat) (hm : m ≤ 1099511627776) : Ao Tryz.prog 298 [.d (.i .i64 m)] [] (.tup [.sl 0 (BH m).length 1,.d (.i .i64 0)]) [.a (.by (BH m))]:=by
 have hs:=size_le m (by omega);refine zD A6 Tryz.func298 ?_;refine wk [0,2,3,4,10,12] [] A0 A0 ?_;with_reducible repeat' first|constructor|intro hc;try simp only[AD] at hc
 refine Ap (A3.e0 4 (.by []) rfl rfl rfl trivial) (by simp) ?_;refine Ac (fun k => k ≤ size m) (fun k : Nat => ⟨[(0,.d (.i .i64 (m / 256 ^ k : Nat))),(2,.e0),(3,.d (.i .i64 0)),(4,.d (.by (Eu m k)))],[],27⟩) (fun k => size m - k) 0 (Nat.zero_le _) ?_ (by simp) ?_
 ·exact A3.ck rfl
 intro k hk;have hsp:=size_pos (n:=m) (k:=k);have hle : m / 256 ^ k ≤ m:=Nat.div_le_self _ _;have hll : (Eu m k).length = k:=by simp [Eu]
 by_cases hkm : k < size m
 ·have hp:=hsp.2 hkm
  have e1 : ((m / 256 ^ k : Nat) : Int).tmod 256 = ((m / 256 ^ k % 256 : Nat) : Int):=by
   rw [Int.tmod_eq_emod_of_nonneg (by omega)];rfl
  have e2 : ((m / 256 ^ k % 256 : Nat) : Int) % 256 = ((m / 256 ^ k % 256 : Nat) : Int):=by omega
  have e3 : ((m / 256 ^ k : Nat) : Int).tdiv 256 = ((m / 256 ^ (k + 1) : Nat) : Int):=by
   rw [Int.tdiv_eq_ediv_of_nonneg (by omega),Nat.pow_succ,← Nat.div_div_eq_div_mul];rfl
  have e4 : (UInt8.ofNat (m / 256 ^ k % 256) :: Eu m k) = Eu m (k + 1):=(Gz m k).symm;have hle' : m / 256 ^ (k + 1) ≤ m:=Nat.div_le_self _ _;have ow : Lv [16]:=trivial;refine wk [0,2,3,4,10,12] [] (M9 e1 e2 e3 e4) A0 ?_;clear ow;with_reducible repeat' first|constructor|intro hc;try simp only[AD] at hc
  rotate_left
  ·rw [e3];exact Cr rfl (LO _ (by omega))
  refine ⟨k + 1,hkm,by omega,Nat.zero_le _,?_⟩;refine A3.trans' (A3.dL 4 0 (x:=.by (Eu m (k + 1))) (congrArg (fun z => some (A5.a (D.by z))) e4) rfl rfl) ?_ (Nat.zero_le _);exact A3.ck rfl
 ·have e : k = size m:=by omega
  subst e;have h0 : m / 256 ^ size m = 0:=Nat.eq_zero_of_not_pos (fun h => absurd (hsp.1 h) (Nat.lt_irrefl _));have e5 : ((size m : Nat) : Int) % 256 = size m:=by omega
  have e6 : Eu m (size m) = GG m:=rfl;have e7 : (GG m).length = size m:=by simp [GG]
  have ow : Lv [24]:=trivial;refine wk [0,2,3,4,10,12] [] (M9 h0 e5 e6 e7) A0 ?_;clear ow;with_reducible repeat' first|constructor|intro hc;try simp only[AD] at hc
  refine ⟨⟨[(2,.sl 0 (BH m).length 1),(3,.d (.i .i64 0))],[.a (.by (BH m))],Tryz.f298.ntmps⟩,?_,Nat.zero_le _,_,_,rfl,rfl,rfl,rfl⟩;exact (have nC:=And.intro @BH.eq_1 (And.intro e6 e7);A3.cn rfl)
theorem XY (s : List UInt8) (h : s.length ≤ 255) : Ao Tryz.prog 228 [.d (.s s)] [] (.tup [.sl 0 (BM s).length 1,.d (.i .i64 0)]) [.a (.by (BM s))]:=by
 have h1 : decide ((s.length : Int) > 255) = false:=by simp;omega
 have h2 : (s.length : Int) % 256 = s.length:=by omega
 refine zD A6 Tryz.func228 ?_;have ow : Lv [10]:=trivial;refine wk [0,2,3,6] [] (Aj h1 h2) A0 ?_;clear ow;with_reducible repeat' first|constructor|intro hc;try simp only[AD] at hc
 refine ⟨⟨[(2,.sl 0 (BM s).length 1),(3,.d (.i .i64 0))],[.a (.by (BM s))],Tryz.f228.ntmps⟩,?_,Nat.zero_le _,_,_,rfl,rfl,rfl,rfl⟩;exact (have nC:=@BM.eq_1;A3.cn rfl)
theorem Nl (n : Int) (hf : fits n = true) : Ao Tryz.prog 225 [.d (.i .i64 n)] [] (.sl 0 (BH n.toNat).length 1) [.a (.by (BH n.toNat))]:=by
 obtain ⟨e,hm⟩:=Aq hf;have hp:=bQ n.toNat hm;rw [e] at hp;refine zD A6 Tryz.func225 ?_;have d1:=Ds.mk [] (hp);refine wk [0,2,3] [] A0 A0 ?_;clear d1;with_reducible repeat' first|constructor|intro hc;try simp only[AD] at hc
 exact ⟨⟨[(2,.sl 0 (BH n.toNat).length 1)],[.a (.by (BH n.toNat))],Tryz.f225.ntmps⟩,(A3.ck rfl),Nat.zero_le _,_,_,rfl,rfl,rfl,rfl⟩
theorem Bb (n : Int) (hf : fits n = true) : Go.Gar.Fn Tryz.prog 225 [.i .i64 n] (.by (BH n.toNat)):=by
 refine E3 (ds:=[.i .i64 n]) (Nl n hf) ?_;simp [Jk,AB]
theorem Qg (b : Bool) : Go.Gar.Fn Tryz.prog 226 [.b b] (.i .i64 (CH b)):=by
 refine zF A6 Tryz.func226 ?_;cases b
 ·refine wk [0,2,3] [] A0 A0 ?_;with_reducible repeat' first|constructor|intro hc;try simp only[AD] at hc
  refine ⟨_,_,rfl,rfl,?_⟩;simp [AR,AB,A7,A4,CH]
 ·refine wk [0,2,3] [] A0 A0 ?_;with_reducible repeat' first|constructor|intro hc;try simp only[AD] at hc
  refine ⟨_,_,rfl,rfl,?_⟩;simp [AR,AB,A7,A4,CH]
theorem XI (x : Item) (hk : x.key.length ≤ 255) (hv : fits x.value = true) (hn : fits x.version = true) : Ao Tryz.prog 227 [.d x.d] [] (.sl 1 (BE x).length 1) [.gone,.a (.by (BE x))]:=by
 obtain ⟨k,v,n,g⟩:=x;have ht:=XY k hk;have h1:=Bb v hv;have h2:=Bb n hn;have h3:=Qg g;have h4:=Bb (CH g) (Ct g);have l1:=BS v.toNat (Aq hv).2;have l2:=BS n.toNat (Aq hn).2;have l3:=BS (CH g).toNat (Aq (Ct g)).2;have l0 : (BM k).length = k.length + 1:=rfl;refine zD A6 Tryz.func227 ?_;simp only at hk;unfold Item.d Item.cells;have d1:=Ds.mk [] (ht);refine wd [0,1,2,3] [] [(5,4),(6,4)] A0 (M9 @h1 @h2 @h3 @h4) ?_;clear d1;with_reducible repeat' first|constructor|intro hc;try simp only[AD] at hc
 refine ⟨⟨[(2,.sl 1 (BE ⟨k,v,n,g⟩).length 1)],[.gone,.a (.by (BE ⟨k,v,n,g⟩))],Tryz.f227.ntmps⟩,?_,Nat.zero_le _,_,_,rfl,rfl,rfl,rfl⟩;exact A3.cut rfl (by repeat' (first | exact True.intro | refine And.intro (by (first | rfl | ((with_reducible_and_instances refine congrArg (fun z => some (AV.d (D.i _ z))) ?_);omega) | (refine congrArg (fun z => some (AV.d (D.i _ z))) (?_ : (_ : Int) = _);omega) | (refine congrArg some ?_;simp only [BE,A9,List.append_assoc,List.append_nil];done) | (refine congrArg some ?_;simp [BE,A9,List.append_assoc,List.append_nil];done))) ?_)) (by repeat' (first | exact True.intro | refine And.intro (Or.inr rfl) ?_ | refine And.intro (Or.inl ⟨rfl,rfl⟩) ?_ | refine And.intro (Or.inr (by simp only [BE,A9,List.append_assoc,List.append_nil])) ?_ | refine And.intro (Or.inr (by simp [BE,A9,List.append_assoc,List.append_nil])) ?_)) (by first | rfl | (simp (decide:=true) [Ag,A5.ok,AV.oks,AV.ok,hk];done)) rfl
theorem Si (x : Item) (hk : x.key.length ≤ 255) (hv : fits x.value = true) (hn : fits x.version = true) : Go.Gar.Fn Tryz.prog 227 [x.d] (.by (BE x)):=by
 refine E3 (ds:=[x.d]) (XI x hk hv hn) ?_;simp [Jk,AB]
theorem M2 (m : A8) (hl : m.list.length < 9223372036854775807) : Go.Gar.Fn Tryz.prog 145 [m.d] (.tup [.by (Ha m).1,.i .i64 (Ha m).2]):=by
 have hR:=J9 m hl
 cases h : m.right with
 | false =>
  rw [h] at hR;have e : Ha m = ([],2):=by unfold Ha;rw [h];rfl
  unfold A8.d A8.cells at *;refine zF A6 Tryz.func145 ?_;refine wd BJ [] [] A0 (AF @hR) ?_;with_reducible repeat' first|constructor|intro hc;try simp only[AD] at hc
  refine ⟨_,_,rfl,rfl,?_⟩;simp [AR,AB,A7,A4,e]
 | true =>
 rw [h] at hR;have e : Ha m = (Ay m,0):=by unfold Ha;rw [if_pos h]
 have hlen:=IW h;obtain ⟨⟨k1,k2⟩,⟨p1,p2⟩,_,⟨c1,c2⟩,hb,hh⟩:=FO h;have ha:=KG h;have fk : fits m.kind = true:=CR (by omega);have fc : fits m.call = true:=CR (by omega);have n0:=Nl m.kind fk;have n1:=Bb m.call fc;have n2:=Bb m.src (BG p1);have n3:=Bb m.dst (BG p2);have l0:=BS m.kind.toNat (Aq fk).2;have l1:=BS m.call.toNat (Aq fc).2;have l2:=BS m.src.toNat (Aq (BG p1)).2;have l3:=BS m.dst.toNat (Aq (BG p2)).2;rw [e];clear e ha c1 c2 h hb;obtain ⟨k,c,s,d,ky,sl,dn,pl,pr,l,⟨ik,iv,ir,ig⟩,co⟩:=m;unfold A8.d A8.cells at *;simp only at *;refine zF A6 Tryz.func145 ?_;have d1:=Ds.mk [] (n0);refine wd BJ [4] [(4,3),(5,3),(8,3),(9,3),(8,7),(9,7),(12,3),(13,3),(12,7),(13,7),(12,11),(13,11)] A0 (M9 @hR @n1 @n2 @n3) ?_;clear d1;with_reducible repeat' first|constructor|intro hc;try simp only[AD] at hc
 have hkind : k = 1 ∨ k = 2 ∨ k = 3 ∨ k = 4 ∨ k = 5 ∨ k = 6 ∨ k = 7 ∨ k = 8 ∨ k = 9 ∨ k = 10 ∨ k = 11 ∨ k = 12:=by omega
 clear hR n0 n1 n2 n3 k1 k2 hl;unfold A8.has at hh;rcases hkind with rfl | rfl | rfl | rfl | rfl | rfl | rfl | rfl | rfl | rfl | rfl | rfl
 ·refine wd BJ [] [(5,4),(6,4)] A0 A0 ?_;with_reducible repeat' first|constructor|intro hc;try simp only[AD] at hc
  refine ⟨_,_,rfl,rfl,?_⟩;simp [AR,AB,A7,A4,Ay,BC,A9,BE,BM,List.append_assoc,List.append_nil,List.cons_append,List.nil_append,Int.reduceEq,if_true,if_false]
 ·refine wd BJ [] [(5,4),(6,4)] A0 A0 ?_;with_reducible repeat' first|constructor|intro hc;try simp only[AD] at hc
  refine ⟨_,_,rfl,rfl,?_⟩;simp [AR,AB,A7,A4,Ay,BC,A9,BE,BM,List.append_assoc,List.append_nil,List.cons_append,List.nil_append,Int.reduceEq,if_true,if_false]
 ·refine wd BJ [] [(5,4),(6,4)] A0 A0 ?_;with_reducible repeat' first|constructor|intro hc;try simp only[AD] at hc
  refine ⟨_,_,rfl,rfl,?_⟩;simp [AR,AB,A7,A4,Ay,BC,A9,BE,BM,List.append_assoc,List.append_nil,List.cons_append,List.nil_append,Int.reduceEq,if_true,if_false]
 ·simp only [Int.reduceEq,if_true,if_false,Bool.and_eq_true,Bool.or_eq_true,decide_eq_true_eq] at hh;have hb:=Qg sl;have n4:=Bb ky (BG hh);have l4:=BS (ky).toNat (Aq (BG hh)).2;have n5:=Bb (CH sl) (Ct sl);have l5:=BS ((CH sl)).toNat (Aq (Ct sl)).2;refine wd BJ [] [(5,4),(6,4)] A0 (Dl @hb @n4 @n5) ?_;with_reducible repeat' first|constructor|intro hc;try simp only[AD] at hc
  refine ⟨_,_,rfl,rfl,?_⟩;simp [AR,AB,A7,A4,Ay,BC,A9,BE,BM,List.append_assoc,List.append_nil,List.cons_append,List.nil_append,Int.reduceEq,if_true,if_false]
 ·simp only [Int.reduceEq,if_true,if_false,Bool.and_eq_true,Bool.or_eq_true,decide_eq_true_eq] at hh;obtain ⟨a1,a2,a3⟩:=F4 hh;have hq:=Si ⟨ik,iv,ir,ig⟩ a1 a2 a3;have lq:=J7 hh;unfold Item.d Item.cells at hq;refine wd BJ [] [(5,4),(6,4)] A0 (AF @hq) ?_;with_reducible repeat' first|constructor|intro hc;try simp only[AD] at hc
  refine ⟨_,_,rfl,rfl,?_⟩;simp [AR,AB,A7,A4,Ay,BC,A9,BE,BM,List.append_assoc,List.append_nil,List.cons_append,List.nil_append,Int.reduceEq,if_true,if_false]
 ·simp only [Int.reduceEq,if_true,if_false,Bool.and_eq_true,Bool.or_eq_true,decide_eq_true_eq] at hh;obtain ⟨a1,a2,a3⟩:=F4 hh.1;have a1 : ik.length ≤ 255:=a1;have hq:=bU ik;have et : textS ik = (BM ik,0):=by unfold textS BM;rw [if_neg (by omega)]
  rw [et] at hq;have lq : (BM ik).length = ik.length + 1:=rfl;refine wd BJ [] [(5,4),(6,4)] A0 (AF @hq) ?_;with_reducible repeat' first|constructor|intro hc;try simp only[AD] at hc
  refine ⟨_,_,rfl,rfl,?_⟩;simp [AR,AB,A7,A4,Ay,BC,A9,BE,BM,List.append_assoc,List.append_nil,List.cons_append,List.nil_append,Int.reduceEq,if_true,if_false]
 ·simp only [Int.reduceEq,if_true,if_false,Bool.and_eq_true,Bool.or_eq_true,decide_eq_true_eq] at hh;have hL:=IS hh.2
  have hf : fits (pr + 1) = true:=by
   rcases hh.1 with h | h
   ·subst h;rfl
   ·exact CR (by have:=Dj h;omega)
  have hpr : -1 ≤ pr ∧ pr ≤ 1099511627776:=by simp [fits] at hf;omega
  have n4:=Bb (pr + 1) hf;have l4:=BS ((pr + 1)).toNat (Aq hf).2;have hq:=Go.Proofs.YtkljbfejbakooaaGreatDoor.bO l;have et : GU l = (UInt8.ofNat l.length :: A9 l,0):=by unfold GU;rw [if_neg (by omega),if_pos hL.2]
  rw [et] at hq;simp only at hq;have lq:=Dx l hL.2;have lq2 : (UInt8.ofNat l.length :: A9 l).length = (A9 l).length + 1:=rfl;generalize hLL : UInt8.ofNat l.length :: A9 l = LL at hq lq2;refine wd BJ [] [(5,4),(6,4)] A0 (Aj @n4 @hq) ?_;with_reducible repeat' first|constructor|intro hc;try simp only[AD] at hc
  refine ⟨_,_,rfl,rfl,?_⟩;simp [AR,AB,A7,A4,Ay,BC,A9,BE,BM,List.append_assoc,List.append_nil,List.cons_append,List.nil_append,Int.reduceEq,if_true,if_false,hLL]
 ·refine wd BJ [] [(5,4),(6,4)] A0 A0 ?_;with_reducible repeat' first|constructor|intro hc;try simp only[AD] at hc
  refine ⟨_,_,rfl,rfl,?_⟩;simp [AR,AB,A7,A4,Ay,BC,A9,BE,BM,List.append_assoc,List.append_nil,List.cons_append,List.nil_append,Int.reduceEq,if_true,if_false]
 ·refine wd BJ [] [(5,4),(6,4)] A0 A0 ?_;with_reducible repeat' first|constructor|intro hc;try simp only[AD] at hc
  refine ⟨_,_,rfl,rfl,?_⟩;simp [AR,AB,A7,A4,Ay,BC,A9,BE,BM,List.append_assoc,List.append_nil,List.cons_append,List.nil_append,Int.reduceEq,if_true,if_false]
 ·simp only [Int.reduceEq,if_true,if_false,Bool.and_eq_true,Bool.or_eq_true,decide_eq_true_eq] at hh;have hb:=Qg dn;have n4:=Bb pl (BG hh);have l4:=BS (pl).toNat (Aq (BG hh)).2;have n5:=Bb (CH dn) (Ct dn);have l5:=BS ((CH dn)).toNat (Aq (Ct dn)).2;refine wd BJ [] [(5,4),(6,4)] A0 (Dl @hb @n4 @n5) ?_;with_reducible repeat' first|constructor|intro hc;try simp only[AD] at hc
  refine ⟨_,_,rfl,rfl,?_⟩;simp [AR,AB,A7,A4,Ay,BC,A9,BE,BM,List.append_assoc,List.append_nil,List.cons_append,List.nil_append,Int.reduceEq,if_true,if_false]
 ·simp only [Int.reduceEq,if_true,if_false,Bool.and_eq_true,Bool.or_eq_true,decide_eq_true_eq] at hh;have hf : fits co = true:=by rcases hh with h | h <;> rw [h] <;> rfl
  have n4:=Bb co hf;have l4:=BS (co).toNat (Aq hf).2;refine wd BJ [] [(5,4),(6,4)] A0 (AF @n4) ?_;with_reducible repeat' first|constructor|intro hc;try simp only[AD] at hc
  refine ⟨_,_,rfl,rfl,?_⟩;simp [AR,AB,A7,A4,Ay,BC,A9,BE,BM,List.append_assoc,List.append_nil,List.cons_append,List.nil_append,Int.reduceEq,if_true,if_false]
 ·simp only [Int.reduceEq,if_true,if_false,Bool.and_eq_true,Bool.or_eq_true,decide_eq_true_eq] at hh;rcases hh with ⟨h0,h1⟩ | ⟨h0,h1⟩
  ·subst h0;have n4:=Bb (0 : Int) rfl;have l4:=BS ((0 : Int)).toNat (Aq rfl).2;obtain ⟨a1,a2,a3⟩:=F4 h1;have hq:=Si ⟨ik,iv,ir,ig⟩ a1 a2 a3;have lq:=J7 h1;unfold Item.d Item.cells at hq;have l4 : (BH 0).length ≤ 7:=l4;refine wd BJ [] [(5,4),(6,4)] A0 (Aj @n4 @hq) ?_;with_reducible repeat' first|constructor|intro hc;try simp only[AD] at hc
   refine ⟨_,_,rfl,rfl,?_⟩;simp [AR,AB,A7,A4,Ay,BC,A9,BE,BM,List.append_assoc,List.append_nil,List.cons_append,List.nil_append,Int.reduceEq,if_true,if_false,show Int.toNat 0 = 0 from rfl]
  ·subst h0;have n4:=Bb (201 : Int) rfl;have l4:=BS ((201 : Int)).toNat (Aq rfl).2;have l4 : (BH 201).length ≤ 7:=l4;refine wd BJ [] [(5,4),(6,4)] A0 (AF @n4) ?_;with_reducible repeat' first|constructor|intro hc;try simp only[AD] at hc
   refine ⟨_,_,rfl,rfl,?_⟩;simp [AR,AB,A7,A4,Ay,BC,A9,BE,BM,List.append_assoc,List.append_nil,List.cons_append,List.nil_append,Int.reduceEq,if_true,if_false]
abbrev Hm : List Nat:=[0,1,4,5,6,7,8,9,10,11,14,24]
abbrev Hn : List Nat:=[0,2,3,4,5,6,7,9,27]
def B9 : Nat → List UInt8 → Option (List Int × List UInt8)
 | 0,b => some ([],b)
 | k + 1,b => match By b with
  | none => none
  | some (n,r) => match B9 k r with
   | none => none
   | some (l,r') => some ((n : Int) :: l,r')
def D3 : Option (List Int × List UInt8) → D
 | some (l,r) => .tup [.is l,.by r,.b true]
 | none => .tup [.is [],.by [],.b false]
def Km (acc : List Int) (k : Nat) (b : List UInt8) : Option (List Int × List UInt8):=match B9 k b with
 | none => none
 | some (l,r) => some (acc ++ l,r)
variable {acc : List Int} {k : Nat} {b : List UInt8}
theorem U8 {r : List UInt8} {n : Nat} (h : By b = some (n,r)) : Km acc (k + 1) b = Km (acc ++ [(n : Int)]) k r:=by
 unfold Km;rw [B9,h];simp only
 cases B9 k r with
 | none => rfl
 | some p => obtain ⟨l,q⟩:=p;simp
theorem U7 (h : By b = none) : Km acc (k + 1) b = none:=by
 unfold Km;rw [B9,h]
theorem X3 : Km [] k b = B9 k b:=by
 unfold Km
 cases B9 k b with
 | none => rfl
 | some p => rfl
theorem Bq (b : List UInt8) (many : Nat) (hb : b.length < 70368744177664) (hm : many ≤ 100) : Go.Gar.Fn Tryz.prog 143 [.by b,.i .i64 many] (D3 (B9 many b)):=by
 refine zF A6 Tryz.func143 ?_;refine wk Hm [] A0 A0 ?_;refine Ap (A3.Z9 7 (.is []) rfl rfl rfl trivial) (by simp) ?_
 refine Ac (α:=Nat × List UInt8 × List Int) (fun x => x.1 ≤ many ∧ x.2.1.length ≤ b.length ∧ x.2.2.length = x.1 ∧ Km x.2.2 (many - x.1) x.2.1 = B9 many b)
  (fun x => ⟨[(0,.d (.by x.2.1)),(1,.d (.i .i64 many)),(4,.e0),(5,.e0),(6,.d (.b false)),(7,.sl 0 x.2.2.length 1),(8,.d (.i .i64 x.1))],[.a (.is x.2.2)],32⟩) (fun x => many - x.1) (0,b,[]) ⟨Nat.zero_le _,Nat.le_refl _,rfl,X3⟩ ?_ (Nat.le_refl _) ?_
 ·exact A3.ck rfl
 rintro ⟨k,r,acc⟩ ⟨h1,h2,h3,h4⟩;simp only at h1 h2 h3 h4 ⊢
 by_cases hk : k < many
 ·have ht:=O1 r (by omega);obtain ⟨j,hj⟩ : ∃ j,many - k = j + 1:=⟨many - k - 1,by omega⟩;rw [hj] at h4
  cases hp : By r with
  | none =>
   have hne:=P5 hp;rw [U7 hp] at h4;rw [← h4];have f:=CJ hne;unfold CB at ht;refine wk Hm [] (AF f) (AF @ht) ?_;with_reducible repeat' first|constructor|intro hc;try simp only[AD] at hc
   refine ⟨_,_,rfl,rfl,?_⟩;simp [AR,AB,A7,A4,D3]
  | some p =>
   obtain ⟨n,r'⟩:=p;have hle:=Ab hp;rw [H5 hp] at ht;rw [U8 hp] at h4;unfold CB at ht;refine wk Hm [] A0 (AF @ht) ?_;with_reducible repeat' first|constructor|intro hc;try simp only[AD] at hc
   refine ⟨(k + 1,r',acc ++ [(n : Int)]),⟨hk,by simp only;omega,by simp only [List.length_append,List.length_cons,List.length_nil];omega,by rw [show many - (k + 1) = j by omega];exact h4⟩,(show many - (k + 1) < many - k by omega),Nat.le_refl _,?_⟩;exact A3.ck rfl
 ·have e : k = many:=by omega
  rw [e,Nat.sub_self] at h4;have e2 : B9 many b = some (acc,r):=by rw [← h4];simp [Km,B9]
  rw [e2];refine wk Hm [] A0 A0 ?_;with_reducible repeat' first|constructor|intro hc;try simp only[AD] at hc
  refine ⟨_,_,rfl,rfl,?_⟩;simp [AR,AB,A7,A4,D3]
theorem Cw : ∀ {k : Nat} {b r : List UInt8} {l : List Int},B9 k b = some (l,r) → l.length = k ∧ r.length ≤ b.length
 | 0,b,r,l,h => by simp only [B9,Option.some.injEq,Prod.mk.injEq] at h;obtain ⟨rfl,rfl⟩:=h;exact ⟨rfl,Nat.le_refl _⟩
 | k + 1,b,r,l,h => by
  rw [B9] at h;split at h
  ·cases h
  ·rename_i n r1 h1;split at h
   ·cases h
   ·rename_i l1 r2 h2;simp only [Option.some.injEq,Prod.mk.injEq] at h;obtain ⟨rfl,rfl⟩:=h;have:=Cw h2;have:=Ab h1;simp;omega
def DR (b : List UInt8) : Item × Bool:=match B9 3 (AN b).2.1 with
 | some ([v,n,g],_) => if (AN b).2.2 = 0 then (⟨(AN b).1,v,n,g == 1⟩,true) else (AE,false)
 | _ => (AE,false)
theorem bh (b : List UInt8) : (AN b).2.1.length ≤ b.length:=by
 rcases Hv b with ⟨s,r,h1,h2,h3⟩ | h1
 ·rw [h1,h2];simp;omega
 ·rw [h1];simp
theorem P9 (b : List UInt8) (hb : b.length < 70368744177664) : Go.Gar.Fn Tryz.prog 223 [.by b] (.tup [(DR b).1.d,.b (DR b).2]):=by
 have ht:=Kr b hb;have hn:=Bq (AN b).2.1 3 (by have:=bh b;omega) (by decide);have hlen:=@Cw 3 (AN b).2.1;unfold F7 at ht;unfold DR;generalize (AN b).1 = s at *;generalize (AN b).2.1 = r at *;generalize (AN b).2.2 = e at *;refine zF A6 Tryz.func223 ?_
 by_cases he : e = 0
 ·subst he
  cases hp : B9 3 r with
  | none =>
   rw [hp] at hn;unfold D3 at hn;refine wd Hn [] [] A0 (Aj @ht @hn) ?_;refine ⟨_,_,rfl,rfl,?_⟩;simp [AR,AB,A7,A4,AE,Item.d,Item.cells]
  | some p =>
   obtain ⟨l,r2⟩:=p;obtain ⟨hl,_⟩:=hlen hp
   obtain ⟨v,n,g,rfl⟩ : ∃ v n g,l = [v,n,g]:=by
    rcases l with _ | ⟨v,_ | ⟨n,_ | ⟨g,_ | ⟨x,t⟩⟩⟩⟩ <;> first | exact ⟨_,_,_,rfl⟩ | (simp at hl)
   rw [hp] at hn;unfold D3 at hn;refine wd Hn [] [] A0 (Aj @ht @hn) ?_;refine ⟨_,_,rfl,rfl,?_⟩;simp [AR,AB,A7,A4,Item.d,Item.cells]
 ·have f:=CJ he
  have e2 : (match B9 3 r with | some ([v,n,g],_) => if e = 0 then ((⟨s,v,n,g == 1⟩,true) : Item × Bool) else (AE,false) | _ => (AE,false)) = (AE,false):=by
   split
   ·rw [if_neg he]
   ·rfl
  rw [e2]
  cases hp : B9 3 r with
  | none =>
   rw [hp] at hn;unfold D3 at hn;refine wd Hn [] [] (AF f) (Aj @ht @hn) ?_;refine ⟨_,_,rfl,rfl,?_⟩;simp [AR,AB,A7,A4,AE,Item.d,Item.cells]
  | some p =>
   obtain ⟨l,r2⟩:=p;rw [hp] at hn;unfold D3 at hn;refine wd Hn [] [] (AF f) (Aj @ht @hn) ?_;refine ⟨_,_,rfl,rfl,?_⟩;simp [AR,AB,A7,A4,AE,Item.d,Item.cells]
end Wi
end Go.Proofs.YtkljbfejbakooaaGreatDoor
