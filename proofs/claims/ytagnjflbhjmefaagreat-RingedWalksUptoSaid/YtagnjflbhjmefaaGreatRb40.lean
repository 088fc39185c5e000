/- Part 40 of the texts of this proof, put together by a program and made short.
Conditions: none; what each theorem asks stands in its own hypotheses. -/
import Derived.Test.YtagnjflbhjmefaaGreatRb34
import Derived.Test.YtagnjflbhjmefaaGreatRb35
import Derived.Test.YtagnjflbhjmefaaGreatRb39
import Derived.KernelRfl
import Derived.RangeFuncIn
import Derived.Sort.Grow
import Derived.Laws.Cover3
import Derived.RecoverIn
import Derived.ProofKit
import Derived.OpenShut
import Derived.CallsIn
import Derived.RangeFuncLeaves
import Derived.OrdersIn
import Derived.TacticsIn
import Derived.ChangeKeysEq
import Derived.Laws.AppendOwn
import Derived.Laws.OwnMore
import Derived.Laws.MakeOwn
import Derived.Laws.Rows
import Derived.Laws.Cells
import Derived.Laws.Tables
import Derived.Laws.CopyRow
import Derived.Laws.Strings
import Derived.Laws.IdiomStrings
import Derived.Laws.BytesArg
import Derived.Test.YtagnjflbhjmefaaGreatProg
set_option linter.unusedSimpArgs false
set_option linter.unusedVariables false
set_option linter.unnecessarySimpa false
set_option maxHeartbeats 40000000
namespace Go.Proofs.YtagnjflbhjmefaaGreat
namespace Wi
open Go.Gar
set_option maxRecDepth 4000
theorem Ch : ∀ (l : List Int) (r : List UInt8),l.all fits = true → Aw l.length (AA l ++ r) = some (l,r)
 | [],r,_ => rfl
 | n :: l,r,h => by
  simp only [List.all_cons,Bool.and_eq_true] at h
  have e : AA (n :: l) ++ r = AA [n] ++ (AA l ++ r):=by simp [AA]
  rw [List.length_cons,Aw,e,By h.1]
  simp only
  rw [Ch l r h.2]
  simp only [(Ak h.1).1]
theorem Kf (g : Bool) : (CR g == 1) = g:=by cases g <;> rfl
theorem Ij (x : Item) (hk : x.key.length ≤ 255) (hv : fits x.value = true) (hn : fits x.version = true) : Cf (B4 x) = (x,true):=by
 obtain ⟨k,v,n,g⟩:=x
 have ht : AQ (B4 ⟨k,v,n,g⟩) = (k,AA [v,n,CR g],0):=by
  rw [show B4 ⟨k,v,n,g⟩ = UInt8.ofNat k.length :: k ++ AA [v,n,CR g] by simp [Jb,BF,AA]]
  exact IT k _ hk
 have hp : Aw 3 (AA [v,n,CR g]) = some ([v,n,CR g],[]):=by
  have:=Ch [v,n,CR g] [] (by simp only [List.all_cons,List.all_nil,hv,hn,D1,Bool.and_self])
  rw [List.append_nil] at this
  exact this
 unfold Cf
 rw [ht]
 simp only [hp,if_true,Kf]
theorem Qz (m : AE) (h : m.right = true) : Au m.empty (BV m) = (m,true):=by
 obtain ⟨_,_,_,_,hb,hh⟩:=Ek h
 clear h
 obtain ⟨k,c,s,d,ky,sl,dn,pl,pr,l,⟨ik,iv,ir,ig⟩,co⟩:=m
 unfold Au BV
 simp only [AE.empty] at hb ⊢
 unfold AE.bare AE.has at *
 simp only at hb hh
 by_cases h4 : k = 4
 ·subst h4
  simp only [if_true,AE.mk.injEq,AP,Item.mk.injEq] at hb hh ⊢
  have hp : Aw 2 (AA [ky,CR sl]) = some ([ky,CR sl],[]):=by
   have:=Ch [ky,CR sl] [] (by simp only [List.all_cons,List.all_nil,BS hh,D1,Bool.and_self])
   rw [List.append_nil] at this
   exact this
  simp only [C3,if_true,hp,List.getD_cons_zero,List.getD_cons_succ,Kf]
  simp_all
 by_cases h5 : k = 5
 ·subst h5
  simp only [Int.reduceEq,if_false,if_true,AE.mk.injEq,AP,Item.mk.injEq] at hb hh ⊢
  obtain ⟨a1,a2,a3⟩:=FA hh
  simp only [C3,Int.reduceEq,if_false,Aw,Ij _ a1 a2 a3]
  simp_all
 by_cases h6 : k = 6
 ·subst h6
  simp only [Int.reduceEq,if_false,if_true,AE.mk.injEq,AP,Item.mk.injEq,Bool.and_eq_true,decide_eq_true_eq] at hb hh ⊢
  obtain ⟨a1,a2,a3⟩:=FA hh.1
  have ht : AQ (BF ik) = (ik,[],0):=by
   have:=IT ik [] a1
   rw [List.append_nil] at this
   exact this
  simp only [C3,Int.reduceEq,if_false,Aw,ht]
  simp_all
 by_cases h7 : k = 7
 ·subst h7
  simp only [Int.reduceEq,if_false,if_true,AE.mk.injEq,AP,Item.mk.injEq,Bool.and_eq_true,Bool.or_eq_true,decide_eq_true_eq] at hb hh ⊢
  obtain ⟨b1,b2⟩:=Hu hh.2
  have hf : fits (pr + 1) = true:=by
   rcases hh.1 with h | h
   ·subst h;rfl
   ·exact DC (by have:=Cw h;omega)
  have hp : Aw 1 (AA [pr + 1] ++ UInt8.ofNat l.length :: AA l) = some ([pr + 1],UInt8.ofNat l.length :: AA l):=Ch [pr + 1] _ (by simp only [List.all_cons,List.all_nil,hf,Bool.and_self])
  have ht : AX (UInt8.ofNat l.length :: AA l) = (l,[],0):=by
   have:=M0 l [] (by omega) b2
   rw [List.append_nil] at this
   exact this
  have e1 : pr + 1 - 1 = pr:=by omega
  simp only [C3,Int.reduceEq,if_false,if_true,hp,ht,List.getD_cons_zero,e1]
  simp_all
 by_cases h10 : k = 10
 ·subst h10
  simp only [Int.reduceEq,if_false,if_true,AE.mk.injEq,AP,Item.mk.injEq] at hb hh ⊢
  have hp : Aw 2 (AA [pl,CR dn]) = some ([pl,CR dn],[]):=by
   have:=Ch [pl,CR dn] [] (by simp only [List.all_cons,List.all_nil,BS hh,D1,Bool.and_self])
   rw [List.append_nil] at this
   exact this
  simp only [C3,Int.reduceEq,if_false,if_true,hp,List.getD_cons_zero,List.getD_cons_succ,Kf]
  simp_all
 by_cases h11 : k = 11
 ·subst h11
  simp only [Int.reduceEq,if_false,if_true,AE.mk.injEq,AP,Item.mk.injEq,Bool.or_eq_true,decide_eq_true_eq] at hb hh ⊢
  have hf : fits co = true:=by rcases hh with h | h <;> rw [h] <;> rfl
  have hp : Aw 1 (AA [co]) = some ([co],[]):=by
   have:=Ch [co] [] (by simp only [List.all_cons,List.all_nil,hf,Bool.and_self])
   rw [List.append_nil] at this
   exact this
  simp only [C3,Int.reduceEq,if_false,if_true,hp,List.getD_cons_zero]
  simp_all
 by_cases h12 : k = 12
 ·subst h12
  simp only [Int.reduceEq,if_false,if_true,AE.mk.injEq,AP,Item.mk.injEq,Bool.or_eq_true,Bool.and_eq_true,decide_eq_true_eq] at hb hh ⊢
  rcases hh with ⟨h0,h1⟩ | ⟨h0,h1⟩
  ·subst h0
   obtain ⟨a1,a2,a3⟩:=FA h1
   have hp : Aw 1 (AA [0] ++ B4 ⟨ik,iv,ir,ig⟩) = some ([0],B4 ⟨ik,iv,ir,ig⟩):=Ch [0] _ rfl
   simp only [C3,Int.reduceEq,if_false,if_true,hp,List.getD_cons_zero,Ij _ a1 a2 a3]
   simp_all
  ·subst h0
   have hp : Aw 1 (AA [201]) = some ([201],[]):=Ch [201] [] rfl
   simp only [C3,Int.reduceEq,if_false,if_true,hp,List.getD_cons_zero,List.append_nil]
   simp_all
 simp only [h4,h5,h6,h7,h10,h11,h12,if_false,AE.mk.injEq,C3,Aw] at hb ⊢
 simp_all
theorem KH (m : AE) (b : List UInt8) (h : m.list.length ≤ 255) : (Au m b).1.list.length ≤ 255:=by
 unfold Au
 split
 ·exact h
 ·repeat' split
  all_goals first | exact h | exact LG _
def Df (b : List UInt8) : AE × Int:=match Aw 4 b with
 | some ([k,c,s,d],r) => if k ≥ 13 then (Ab,12) else
  if (Au ⟨k,c,s,d,0,false,false,0,0,[],AP,0⟩ r).2 = true ∧ (Au ⟨k,c,s,d,0,false,false,0,0,[],AP,0⟩ r).1.right = true ∧ D5 (Au ⟨k,c,s,d,0,false,false,0,0,[],AP,0⟩ r).1 = b
  then ((Au ⟨k,c,s,d,0,false,false,0,0,[],AP,0⟩ r).1,0) else (Ab,12)
 | _ => (Ab,12)
theorem Na (b : List UInt8) : (∃ m,Df b = (m,0) ∧ m.right = true ∧ D5 m = b) ∨ Df b = (Ab,12):=by
 unfold Df
 split
 ·split
  ·exact .inr rfl
  ·split
   ·rename_i h
    exact .inl ⟨_,rfl,h.2.1,h.2.2⟩
   ·exact .inr rfl
 ·exact .inr rfl
theorem RP {m : AE} (h : m.right = true) : Df (D5 m) = (m,0):=by
 obtain ⟨⟨k1,k2⟩,⟨p1,p2⟩,_,⟨c1,c2⟩,hb,hh⟩:=Ek h
 have ha:=JP h
 have fk : fits m.kind = true:=DC (by omega)
 have fc : fits m.call = true:=DC (by omega)
 have hp : Aw 4 (D5 m) = some ([m.kind,m.call,m.src,m.dst],BV m):=Ch [m.kind,m.call,m.src,m.dst] (BV m) (by simp only [List.all_cons,List.all_nil,fk,fc,BS p1,BS p2,Bool.and_self])
 have hm:=Qz m h
 unfold AE.empty at hm
 unfold Df
 rw [hp]
 simp only [hm]
 rw [if_neg (by omega),if_pos (And.intro trivial (And.intro h trivial))]
theorem OA (b : List UInt8) : Df b = CK b:=by
 rcases Na b with ⟨m,h1,h2,h3⟩ | h1
 ·rw [h1,← h3,Sj h2]
 ·obtain ⟨m,e,h⟩ : ∃ m e,CK b = (m,e):=⟨_,_,rfl⟩
  rcases Tz h with ⟨h2,h3,h4⟩ | ⟨h2,h3⟩
  ·have:=RP h3
   rw [h4,h1] at this
   simp at this
  ·rw [h1,h,h2,h3]
def Kl (b : List UInt8) : List UInt8 × Int:=if b.length < 8 then ([],11) else
 if (CV ((b.take (b.length - 4)).drop 4)).2 = 0 ∧ (CV ((b.take (b.length - 4)).drop 4)).1 = b then ((b.take (b.length - 4)).drop 4,0) else ([],12)
theorem SA {p : List UInt8} (h : (CV p).2 = 0) : p.length ≤ 112:=by
 unfold CV at h
 split at h
 ·simp at h
 ·omega
theorem TT (b : List UInt8) : Kl b = Bf b:=by
 obtain ⟨p,e,h⟩ : ∃ p e,Bf b = (p,e):=⟨_,_,rfl⟩
 unfold Kl
 rcases Nn h with ⟨h1,h2,h3⟩ | ⟨h1,h2,h3⟩ | ⟨h1,h2,h3⟩
 ·subst h1
  have hb:=h3
  rw [GO h2] at hb
  simp only at hb
  have hl : b.length = p.length + 8:=by rw [← hb];simp [Ec,NO];omega
  have e : (b.take (b.length - 4)).drop 4 = p:=by
   rw [hl,← hb,List.append_assoc,show p.length + 8 - 4 = (hdr p.length).length + p.length by rw [Ec];omega,List.take_append,List.drop_append]
   simp [Ec]
  rw [if_neg (by omega),e,if_pos ⟨by rw [GO h2],h3⟩,h]
 ·rw [if_pos h2,h,h1,h3]
 ·rw [if_neg (by omega),if_neg,h,h1,h3]
  rintro ⟨a,c⟩
  have:=Px (SA a)
  rw [c,h,h1] at this
  simp at this
end Wi
end Go.Proofs.YtagnjflbhjmefaaGreat
