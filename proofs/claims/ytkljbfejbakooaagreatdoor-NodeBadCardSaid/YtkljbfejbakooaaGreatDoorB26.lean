/- Part 26 of a proof, put together by a program. Conditions: none beyond those that a theorem states. -/
import Derived.Test.YtkljbfejbakooaaGreatDoorB20
set_option linter.unusedSimpArgs false
set_option linter.unusedVariables false
set_option linter.unnecessarySimpa false
set_option maxHeartbeats 40000000
namespace Go.Proofs.YtkljbfejbakooaaGreatDoor
open Go.Gar
set_option maxRecDepth 4000
abbrev FA : List Nat:=[0,2,3,4,5,6,7,10,16,21,24,46]
abbrev HU : List Nat:=[0,2,3,4,5,6,7,10,18,30]
abbrev HV : List Nat:=[0,2,3,4,5,6,7,8,9,10,13,21,31]
theorem MG (b : List UInt8) (hb : b.length < 70368744177664) : Go.Gar.Fn Tryz.prog 221 [.by b] (Bi (AX b)):=by
 refine zF A6 Tryz.func221 ?_;rcases b with _ | ⟨m,r⟩
 ·refine wk FA [] A0 A0 ?_;refine ⟨_,_,rfl,rfl,?_⟩;simp [Ab,A9,A4,A3,AX,Bi]
 have hm:=m.toNat_lt;simp only [List.length_cons] at hb
 by_cases h6 : m.toNat > 6
 ·refine wk FA [] A0 A0 ?_;with_reducible repeat' first|constructor|intro hc;try simp only[AB] at hc
  refine ⟨_,_,rfl,rfl,?_⟩;simp [Ab,A9,A4,A3,AX,Bi,h6]
 by_cases hr : r.length < m.toNat
 ·refine wk FA [] A0 A0 ?_;with_reducible repeat' first|constructor|intro hc;try simp only[AB] at hc
  refine ⟨_,_,rfl,rfl,?_⟩;simp [Ab,A9,A4,A3,AX,Bi,h6,hr]
 have hlt : ∀ k,k ≤ m.toNat → D3 (r.take k) < 281474976710656:=by
  intro k hk;have:=L1 (r.take k);have h6' : (r.take k).length ≤ 6:=by simp;omega
  have : 256 ^ (r.take k).length ≤ 256 ^ 6:=Nat.pow_le_pow_right (by decide) h6';omega
 refine wk FA [] A0 A0 ?_;with_reducible repeat' first|constructor|intro hc;try simp only[AB] at hc
 refine Ae (fun k => k ≤ m.toNat) (fun k : Nat => ⟨[(0,.d (.by (m :: r))),(2,.d (.i .i64 0)),(3,.e0),(4,.d (.i .i64 0)),(5,.d (.i .i64 m.toNat)),(6,.d (.i .i64 (D3 (r.take k) : Nat))),(7,.d (.i .i64 ((k + 1 : Nat) : Int)))],[],54⟩) (fun k => m.toNat - k) 0 (Nat.zero_le _) ?_ (Nat.le_refl _) ?_
 ·exact A1.ck rfl
 intro k hk;have hv:=hlt k hk
 by_cases hkm : k < m.toNat
 ·have e3 : (D3 (r.take k) : Int) * 256 + ((r.getD k 0).toNat : Int) = (D3 (r.take (k + 1)) : Nat):=by
   have:=NW r k (by omega);omega
  have hv':=hlt (k + 1) hkm;have hd:=(r.getD k 0).toNat_lt;refine wk FA [] (AG e3) A0 ?_;with_reducible repeat' first|constructor|intro hc;try simp only[AB] at hc
  rotate_left
  ·rw [e3];exact CV rfl (Jk _ (by omega))
  refine ⟨k + 1,hkm,by omega,Nat.le_refl _,?_⟩;exact A1.ck rfl
 ·have hkm' : k = m.toNat:=by omega
  subst hkm'
  by_cases hP : (m.toNat > 0 ∧ r.getD 0 0 = 0) ∨ D3 (r.take m.toNat) > 1099511627776
  ·have hT : AX (m :: r) = (0,[],12):=by simp only [AX,if_neg h6,if_neg hr,if_pos hP]
   rw [hT];refine wk FA [] A0 A0 ?_;with_reducible repeat' first|constructor|intro hc;try simp only[AB] at hc
   all_goals first
    | (refine ⟨_,_,rfl,rfl,?_⟩;simp [Ab,A9,A4,A3,Bi];done)
    | (exfalso;rcases hP with ⟨h,h'⟩ | h <;> first | omega | (have h':=congrArg UInt8.toNat h';simp only [UInt8.toNat_zero] at h';omega))
  ·have hT : AX (m :: r) = (D3 (r.take m.toNat),r.drop m.toNat,0):=by simp only [AX,if_neg h6,if_neg hr,if_neg hP]
   rw [hT];have e5 : (1 + (m.toNat : Int)).toNat = m.toNat + 1:=by omega
   refine wk FA [] (AG e5) A0 ?_;with_reducible repeat' first|constructor|intro hc;try simp only[AB] at hc
   all_goals first
    | (refine ⟨_,_,rfl,rfl,?_⟩;simp [Ab,A9,A4,A3,Bi];done)
    | (exfalso;exact hP (.inl ⟨by omega,u8z (by omega)⟩))
    | (exfalso;exact hP (.inr (by omega)))
theorem Xd (l : List Int) : Go.Gar.Fn Tryz.prog 229 [.is l] (.tup [.by (FR l).1,.i .i64 (FR l).2]):=by
 refine zF A6 Tryz.func229 ?_
 by_cases hl : l.length > 255
 ·refine wk HU [] A0 A0 ?_;with_reducible repeat' first|constructor|intro hc;try simp only[AB] at hc
  refine ⟨_,_,rfl,rfl,?_⟩;simp [Ab,A9,A4,A3,FR,hl]
 have h1 : (l.length : Int) % 256 = l.length:=by omega
 have ow : Lv [14]:=trivial;refine wk HU [] (AG h1) A0 ?_;clear ow;with_reducible repeat' first|constructor|intro hc;try simp only[AB] at hc
 refine Ae (fun k => k ≤ l.length ∧ (l.take k).all fits = true) (fun k : Nat => ⟨[(0,.d (.is l)),(2,.e0),(3,.d (.i .i64 0)),(4,.sl 0 (UInt8.ofNat l.length :: A5 (l.take k)).length 1),(5,.d (.i .i64 k))],[.a (.by (UInt8.ofNat l.length :: A5 (l.take k)))],36⟩) (fun k => l.length - k) 0 ⟨Nat.zero_le _,by simp⟩ ?_ (Nat.le_refl _) ?_
 ·exact A1.ck rfl
 rintro k ⟨hk,hpre⟩;have hlen:=DF _ hpre;have htl : (l.take k).length ≤ k:=List.length_take_le _ _
 by_cases hka : k < l.length
 ·by_cases hf : fits (l.getD k 0) = true
  ·obtain ⟨m,hm,hm'⟩:=Fo hf
   have hnext : (UInt8.ofNat l.length :: A5 (l.take k)) ++ B0 m = UInt8.ofNat l.length :: A5 (l.take (k + 1)):=by
    rw [D5 hka,hm];simp
   have hnext' : A5 (l.take k) ++ B0 m = A5 (l.take (k + 1)):=by
    rw [D5 hka,hm];simp
   have hnl:=BC m hm';have hput : JE (m : Int) = (B0 m,0):=by rw [hm] at hf;simp [JE,hf]
   rw [hm] at hf;refine wk HU [] (EP hm hput hnext') (AG (TX m)) ?_;with_reducible repeat' first|constructor|intro hc;try simp only[AB] at hc
   refine ⟨k + 1,⟨hka,by rw [E2 hka,hpre,hm,hf];rfl⟩,by omega,Nat.le_refl _,?_⟩;exact (have nC:=hnext';A1.co rfl)
  ·have hf' : fits (l.getD k 0) = false:=by simpa using hf
   have hall : l.all fits = false:=by
    rw [← List.take_append_drop (k + 1) l,List.all_append,E2 hka,hf'];simp
   have hput : JE (l.getD k 0) = ([],2):=by unfold JE;rw [if_neg hf]
   refine wk HU [] (AG hput) (AG (TX (l.getD k 0))) ?_;with_reducible repeat' first|constructor|intro hc;try simp only[AB] at hc
   refine ⟨_,_,rfl,rfl,?_⟩;simp [Ab,A9,A4,A3,FR,hl,hall]
 ·have e : k = l.length:=by omega
  subst e;rw [List.take_length] at hpre;refine wk HU [] A0 A0 ?_;with_reducible repeat' first|constructor|intro hc;try simp only[AB] at hc
  refine ⟨_,_,rfl,rfl,?_⟩;simp [Ab,A9,A4,A3,FR,hl,hpre]
theorem OZ (b : List UInt8) (hb : b.length < 70368744177664) : Go.Gar.Fn Tryz.prog 222 [.by b] (F7 (AP b)):=by
 refine zF A6 Tryz.func222 ?_;rcases b with _ | ⟨m,r⟩
 ·refine wk HV [] A0 A0 ?_;refine ⟨_,_,rfl,rfl,?_⟩;simp [Ab,A9,A4,A3,AP,F7]
 have hm:=m.toNat_lt;simp only [List.length_cons] at hb;refine wk HV [] A0 A0 ?_;refine Bp (A1.Sm 5 (.is []) rfl rfl rfl trivial) (by simp) ?_
 refine Ae (α:=Nat × List UInt8 × List Int) (fun x => x.1 ≤ m.toNat ∧ x.2.1.length ≤ r.length ∧ x.2.2.length = x.1 ∧ Bj (m.toNat - x.1) x.2.1 x.2.2 = Bj m.toNat r [])
  (fun x => ⟨[(0,.d (.by (m :: r))),(2,.e0),(3,.e0),(5,.sl 0 x.2.2.length 1),(6,.d (.by x.2.1)),(4,.d (.i .i64 0)),(7,.d (.i .i64 x.1))],[.a (.is x.2.2)],42⟩) (fun x => m.toNat - x.1) (0,r,[]) ⟨Nat.zero_le _,Nat.le_refl _,rfl,rfl⟩ ?_ (by simp) ?_
 ·exact A1.ck rfl
 rintro ⟨k,rest,acc⟩ ⟨hk,hrl,hal,hT⟩;simp only at hk hrl hal hT;have hl:=Et rest;have hv:=QY rest
 by_cases hkm : k < m.toNat
 ·rw [show m.toNat - k = (m.toNat - (k + 1)) + 1 by omega] at hT;simp only [Bj] at hT
  by_cases he : (AX rest).2.2 = 0
  ·rw [if_pos he] at hT;refine wk HV [] (BM he @Bi.eq_1) (AG (MG rest (by omega))) ?_;with_reducible repeat' first|constructor|intro hc;try simp only[AB] at hc
   refine ⟨(k + 1,(AX rest).2.1,acc ++ [((AX rest).1 : Int)]),⟨hkm,by simp only;omega,by simp;omega,hT⟩,by simp only;omega,by simp,?_⟩;exact A1.ck rfl
  ·rw [if_neg he] at hT;refine wk HV [] (AG @Bi.eq_1) (AG (MG rest (by omega))) ?_;with_reducible repeat' first|constructor|intro hc;try simp only[AB] at hc
   have e : AP (m :: r) = ([],[],(AX rest).2.2):=hT.symm;refine ⟨_,_,rfl,rfl,?_⟩;simp [Ab,A9,A4,A3,e,F7]
 ·have e : k = m.toNat:=by omega
  subst e;rw [Nat.sub_self] at hT;have e : AP (m :: r) = (acc,rest,0):=hT.symm;refine wk HV [] A0 A0 ?_;with_reducible repeat' first|constructor|intro hc;try simp only[AB] at hc
  refine ⟨_,_,rfl,rfl,?_⟩;simp [Ab,A9,A4,A3,e,F7]
end Go.Proofs.YtkljbfejbakooaaGreatDoor
namespace Go.Proofs.YtkljbfejbakooaaGreatDoor
namespace Wi
open Go.Gar
set_option maxRecDepth 4000
abbrev Gc : List Nat:=[0,1,4,5,6,7,8,9,10,11,14,24]
abbrev Gd : List Nat:=[0,2,3,4,5,6,7,9,27]
def Aq : Nat → List UInt8 → Option (List Int × List UInt8)
 | 0,b => some ([],b)
 | k + 1,b => match BV b with
  | none => none
  | some (n,r) => match Aq k r with
   | none => none
   | some (l,r') => some ((n : Int) :: l,r')
def Ca : Option (List Int × List UInt8) → D
 | some (l,r) => .tup [.is l,.by r,.b true]
 | none => .tup [.is [],.by [],.b false]
def JD (acc : List Int) (k : Nat) (b : List UInt8) : Option (List Int × List UInt8):=match Aq k b with
 | none => none
 | some (l,r) => some (acc ++ l,r)
variable {acc : List Int} {k : Nat} {b : List UInt8}
theorem RQ {r : List UInt8} {n : Nat} (h : BV b = some (n,r)) : JD acc (k + 1) b = JD (acc ++ [(n : Int)]) k r:=by
 unfold JD;rw [Aq,h];simp only
 cases Aq k r with
 | none => rfl
 | some p => obtain ⟨l,q⟩:=p;simp
theorem RP (h : BV b = none) : JD acc (k + 1) b = none:=by
 unfold JD;rw [Aq,h]
theorem UT : JD [] k b = Aq k b:=by
 unfold JD
 cases Aq k b with
 | none => rfl
 | some p => rfl
theorem BP (b : List UInt8) (many : Nat) (hb : b.length < 70368744177664) (hm : many ≤ 100) : Go.Gar.Fn Tryz.prog 143 [.by b,.i .i64 many] (Ca (Aq many b)):=by
 refine zF A6 Tryz.func143 ?_;refine wk Gc [] A0 A0 ?_;refine Bp (A1.Sm 7 (.is []) rfl rfl rfl trivial) (by simp) ?_
 refine Ae (α:=Nat × List UInt8 × List Int) (fun x => x.1 ≤ many ∧ x.2.1.length ≤ b.length ∧ x.2.2.length = x.1 ∧ JD x.2.2 (many - x.1) x.2.1 = Aq many b)
  (fun x => ⟨[(0,.d (.by x.2.1)),(1,.d (.i .i64 many)),(4,.e0),(5,.e0),(6,.d (.b false)),(7,.sl 0 x.2.2.length 1),(8,.d (.i .i64 x.1))],[.a (.is x.2.2)],32⟩) (fun x => many - x.1) (0,b,[]) ⟨Nat.zero_le _,Nat.le_refl _,rfl,UT⟩ ?_ (Nat.le_refl _) ?_
 ·exact A1.ck rfl
 rintro ⟨k,r,acc⟩ ⟨h1,h2,h3,h4⟩;simp only at h1 h2 h3 h4 ⊢
 by_cases hk : k < many
 ·have ht:=MG r (by omega);obtain ⟨j,hj⟩ : ∃ j,many - k = j + 1:=⟨many - k - 1,by omega⟩;rw [hj] at h4
  cases hp : BV r with
  | none =>
   have hne:=ND hp;rw [RP hp] at h4;rw [← h4];have f:=C2 hne;unfold Bi at ht;refine wk Gc [] (AG f) (AG @ht) ?_;with_reducible repeat' first|constructor|intro hc;try simp only[AB] at hc
   refine ⟨_,_,rfl,rfl,?_⟩;simp [Ab,A9,A4,A3,Ca]
  | some p =>
   obtain ⟨n,r'⟩:=p;have hle:=AR hp;rw [Fv hp] at ht;rw [RQ hp] at h4;unfold Bi at ht;refine wk Gc [] A0 (AG @ht) ?_;with_reducible repeat' first|constructor|intro hc;try simp only[AB] at hc
   refine ⟨(k + 1,r',acc ++ [(n : Int)]),⟨hk,by simp only;omega,by simp only [List.length_append,List.length_cons,List.length_nil];omega,by rw [show many - (k + 1) = j by omega];exact h4⟩,(show many - (k + 1) < many - k by omega),Nat.le_refl _,?_⟩;exact A1.ck rfl
 ·have e : k = many:=by omega
  rw [e,Nat.sub_self] at h4;have e2 : Aq many b = some (acc,r):=by rw [← h4];simp [JD,Aq]
  rw [e2];refine wk Gc [] A0 A0 ?_;with_reducible repeat' first|constructor|intro hc;try simp only[AB] at hc
  refine ⟨_,_,rfl,rfl,?_⟩;simp [Ab,A9,A4,A3,Ca]
theorem CR : ∀ {k : Nat} {b r : List UInt8} {l : List Int},Aq k b = some (l,r) → l.length = k ∧ r.length ≤ b.length
 | 0,b,r,l,h => by simp only [Aq,Option.some.injEq,Prod.mk.injEq] at h;obtain ⟨rfl,rfl⟩:=h;exact ⟨rfl,Nat.le_refl _⟩
 | k + 1,b,r,l,h => by
  rw [Aq] at h;split at h
  ·cases h
  ·rename_i n r1 h1;split at h
   ·cases h
   ·rename_i l1 r2 h2;simp only [Option.some.injEq,Prod.mk.injEq] at h;obtain ⟨rfl,rfl⟩:=h;have:=CR h2;have:=AR h1;simp;omega
def Cr (b : List UInt8) : Item × Bool:=match Aq 3 (AM b).2.1 with
 | some ([v,n,g],_) => if (AM b).2.2 = 0 then (⟨(AM b).1,v,n,g == 1⟩,true) else (AF,false)
 | _ => (AF,false)
theorem Xv (b : List UInt8) : (AM b).2.1.length ≤ b.length:=by
 rcases Gk b with ⟨s,r,h1,h2,h3⟩ | h1
 ·rw [h1,h2];simp;omega
 ·rw [h1];simp
theorem NH (b : List UInt8) (hb : b.length < 70368744177664) : Go.Gar.Fn Tryz.prog 223 [.by b] (.tup [(Cr b).1.d,.b (Cr b).2]):=by
 have ht:=JG b hb;have hn:=BP (AM b).2.1 3 (by have:=Xv b;omega) (by decide);have hlen:=@CR 3 (AM b).2.1;unfold EU at ht;unfold Cr;generalize (AM b).1 = s at *;generalize (AM b).2.1 = r at *;generalize (AM b).2.2 = e at *;refine zF A6 Tryz.func223 ?_
 by_cases he : e = 0
 ·subst he
  cases hp : Aq 3 r with
  | none =>
   rw [hp] at hn;unfold Ca at hn;refine wd Gd [] [] A0 (BM @ht @hn) ?_;refine ⟨_,_,rfl,rfl,?_⟩;simp [Ab,A9,A4,A3,AF,Item.d,Item.cells]
  | some p =>
   obtain ⟨l,r2⟩:=p;obtain ⟨hl,_⟩:=hlen hp
   obtain ⟨v,n,g,rfl⟩ : ∃ v n g,l = [v,n,g]:=by
    rcases l with _ | ⟨v,_ | ⟨n,_ | ⟨g,_ | ⟨x,t⟩⟩⟩⟩ <;> first | exact ⟨_,_,_,rfl⟩ | (simp at hl)
   rw [hp] at hn;unfold Ca at hn;refine wd Gd [] [] A0 (BM @ht @hn) ?_;refine ⟨_,_,rfl,rfl,?_⟩;simp [Ab,A9,A4,A3,Item.d,Item.cells]
 ·have f:=C2 he
  have e2 : (match Aq 3 r with | some ([v,n,g],_) => if e = 0 then ((⟨s,v,n,g == 1⟩,true) : Item × Bool) else (AF,false) | _ => (AF,false)) = (AF,false):=by
   split
   ·rw [if_neg he]
   ·rfl
  rw [e2]
  cases hp : Aq 3 r with
  | none =>
   rw [hp] at hn;unfold Ca at hn;refine wd Gd [] [] (AG f) (BM @ht @hn) ?_;refine ⟨_,_,rfl,rfl,?_⟩;simp [Ab,A9,A4,A3,AF,Item.d,Item.cells]
  | some p =>
   obtain ⟨l,r2⟩:=p;rw [hp] at hn;unfold Ca at hn;refine wd Gd [] [] (AG f) (BM @ht @hn) ?_;refine ⟨_,_,rfl,rfl,?_⟩;simp [Ab,A9,A4,A3,AF,Item.d,Item.cells]
end Wi
end Go.Proofs.YtkljbfejbakooaaGreatDoor
