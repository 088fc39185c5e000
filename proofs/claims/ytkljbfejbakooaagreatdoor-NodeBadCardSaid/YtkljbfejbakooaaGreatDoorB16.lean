/- Part 16 of a proof, put together by a program. Conditions: none beyond those that a theorem states. -/
import Derived.Test.YtkljbfejbakooaaGreatDoorB08
import Derived.Test.YtkljbfejbakooaaGreatDoorB15
set_option linter.unusedSimpArgs false
set_option linter.unusedVariables false
set_option linter.unnecessarySimpa false
set_option maxHeartbeats 40000000
namespace Go.Proofs.YtkljbfejbakooaaGreatDoor
namespace Wi
open Go.Gar
set_option maxRecDepth 4000
abbrev Cv : List Nat:=[0,1,2,3,16,18,19,22,35]
abbrev I3 : List Nat:=[0,1,4,16,18,19,25,31,42,44,45,46,47,53]
def XL (m : A8) (r : Lp) : List A2:=[.c (mC m),.c (mC m),.lp r]
variable {l : List Int}
theorem Vj {k : Nat} (hk : k < l.length) (h : (l.take k).all B2 = true) (h2 : B2 (l.getD k 0) = true) : (l.take (k + 1)).all B2 = true:=by
 rw [List.take_succ_eq_append_getElem hk,List.all_append,h];rw [List.getD_eq_getElem?_getD,List.getElem?_eq_getElem hk] at h2;simpa using h2
theorem ay {k : Nat} (hk : k < l.length) (h2 : B2 (l.getD k 0) = false) : l.all B2 = false:=by
 rw [List.getD_eq_getElem?_getD,List.getElem?_eq_getElem hk] at h2;rw [List.all_eq_false];exact ⟨_,List.getElem_mem hk,by simpa using h2⟩
theorem Tj (m : A8) (hl : m.list.length < 9223372036854775807) : Go.Gar.Fn Tryz.prog 124 [m.d] (.b (decide (1 ≤ m.kind) && decide (m.kind < 13) && m.holds && m.Db && (decide (m.src ≠ m.dst) && (decide (m.call > m.asker * 1048576) && decide (m.call ≤ (m.asker + 1) * 1048576)) && decide (m.beside = AA)))):=by
 have hh:=We m hl;have hb:=Tu m;have hA:=UP m
 have hS:=YM m.beside AA (by unfold A8.beside;repeat' split
                             all_goals first | exact hl | (show ([] : List Int).length < 9223372036854775807;decide))
 have hpl:=Ug m;have hok : m.Db = (B2 m.src && B2 m.dst && (if m.kind = 4 then B2 m.key else if m.kind = 10 then B2 m.place else if m.kind = 7 then (decide (m.pred = -1) || B2 m.pred) && m.list.all B2 else true)):=rfl
 have hAb : m.Db = true → 0 ≤ m.asker ∧ m.asker < 65536:=by
  intro h;unfold A8.Db at h;simp only [Bool.and_eq_true] at h;unfold A8.asker;split
  ·exact DG h.1.1
  ·exact DG h.1.2
 unfold A8.d A8.cells at hh hA hS hb hpl ⊢;simp only [AA,AF] at hS ⊢;generalize m.beside = B at *;generalize m.holds = hs at *;generalize m.asker = A at *;generalize m.Db = O at *;obtain ⟨k,c,s,d,ky,sl,dn,pl,pr,l,⟨ik,iv,ir,ig⟩,co⟩:=m;simp only [mC] at *;refine zF A6 Tryz.func124 ?_
 by_cases h1 : decide (1 ≤ k) && decide (k < 13) && hs
 ·simp only [Bool.and_eq_true,decide_eq_true_eq] at h1;obtain ⟨⟨h11,h12⟩,h13⟩:=h1;rw [h13] at hh;have d1:=Ds.mk [] (hpl);have sc : No 3:=trivial;refine wd Cv [] [] A0 (AG @hh) ?_;clear sc d1;with_reducible repeat' first|constructor|intro hc;try simp only[AB] at hc
  refine zG (K:=fun r _ H' => (O = true ∧ H' = XL (A8.mk k c s d ky sl dn pl pr l ⟨ik,iv,ir,ig⟩ co) r) ∨
   (O = false ∧ H' = XL (A8.mk k c s d ky sl dn pl pr l ⟨ik,iv,ir,ig⟩ co) (r.left (.goto 0)))) ?_ ?_
  ·intro r hr
   have hT : ∀ n,B2 n = true → YT Tryz.prog 2 [.d (.i .i64 n)] (XL (A8.mk k c s d ky sl dn pl pr l ⟨ik,iv,ir,ig⟩ co) r) fun x K => x = .d (.b true) ∧ K = XL (A8.mk k c s d ky sl dn pl pr l ⟨ik,iv,ir,ig⟩ co) r:=by
    intro n hn;have d1:=Jq n;rw [hn] at d1;unfold XL mC;refine BG hr rfl rfl rfl ?_;have sc : No 3:=trivial;refine wd Cv [] [] A0 A0 ?_;clear sc;refine zR ?_;have sc : No 3:=trivial;refine wd Cv [] [] A0 (AG @d1) ?_;clear sc;exact ⟨_,A1.refl _,Nat.le_refl _,rfl,rfl,rfl⟩
   have hF : ∀ n,B2 n = false → YT Tryz.prog 2 [.d (.i .i64 n)] (XL (A8.mk k c s d ky sl dn pl pr l ⟨ik,iv,ir,ig⟩ co) r) fun x K => x = .d (.b false) ∧ K = XL (A8.mk k c s d ky sl dn pl pr l ⟨ik,iv,ir,ig⟩ co) (r.left (.goto 0)):=by
    intro n hn;have d1:=Jq n;rw [hn] at d1;unfold XL mC;refine BG hr rfl rfl rfl ?_;have sc : No 3:=trivial;refine wd Cv [] [] A0 A0 ?_;clear sc;refine zR ?_;have sc : No 3:=trivial;refine wd Cv [] [] A0 (AG @d1) ?_;clear sc;exact ⟨_,A1.refl _,Nat.le_refl _,rfl,rfl,rfl⟩
   refine zT A6 Tryz.func280 ?_;have hk:=hr.ok (k:=2) rfl;unfold XL mC at *;simp only at *;have g1T:=@hT;have g1F:=@hF;refine wk I3 [] A0 A0 ?_;clear g1F g1T;with_reducible repeat' first|constructor|intro hc;try simp only[AB] at hc
   all_goals clear hh hA hS hb hpl
   all_goals try exact ⟨_,A1.refl _,Nat.le_refl _,_,_,rfl,rfl,.inl ⟨by rw [hok];simp [*],rfl⟩⟩
   all_goals try exact ⟨_,A1.refl _,Nat.le_refl _,_,_,rfl,rfl,.inr ⟨by rw [hok];simp [*],rfl⟩⟩
   all_goals (
    have hO : O = l.all B2:=by rw [hok];simp [*]
    clear hok;refine Ae (fun j => j ≤ l.length ∧ (l.take j).all B2 = true) (fun j : Nat => ⟨[(0,.yl 2),(44,.d (.is l)),(45,.d (.i .i64 l.length)),(46,.d (.i .i64 j))],[.c [.d (.i .u8 k),.d (.i .i64 c),.d (.i .i64 s),.d (.i .i64 d),.d (.i .i64 ky),.d (.b sl),.d (.b dn),.d (.i .i64 pl),.d (.i .i64 pr),.d (.is l),.d (.s ik),.d (.i .i64 iv),.d (.i .i64 ir),.d (.b ig),.d (.i .i64 co)],.c [.d (.i .u8 k),.d (.i .i64 c),.d (.i .i64 s),.d (.i .i64 d),.d (.i .i64 ky),.d (.b sl),.d (.b dn),.d (.i .i64 pl),.d (.i .i64 pr),.d (.is l),.d (.s ik),.d (.i .i64 iv),.d (.i .i64 ir),.d (.b ig),.d (.i .i64 co)],.lp r],55⟩) (fun j => l.length - j) 0 ⟨Nat.zero_le _,by simp⟩ ?_ (Nat.le_refl _) ?_
    ·exact A1.ck rfl
    rintro j ⟨hj,hall⟩
    by_cases hjl : j < l.length
    ·cases hp : B2 (l.getD j 0) with
     | true =>
      have h3:=Vj hjl hall hp;have h4:=hT _ hp;have q1:=@h4;refine wk I3 [] A0 A0 ?_;clear q1;with_reducible repeat' first|constructor|intro hc;try simp only[AB] at hc
      refine ⟨j + 1,⟨hjl,h3⟩,by omega,Nat.le_refl _,?_⟩;exact A1.ck rfl
     | false =>
      have h4:=hF _ hp;have q1:=@h4;refine wk I3 [] A0 A0 ?_;clear q1;with_reducible repeat' first|constructor|intro hc;try simp only[AB] at hc
      exact ⟨_,A1.refl _,Nat.le_refl _,_,_,rfl,rfl,.inr ⟨by rw [hO];exact ay hjl hp,rfl⟩⟩
    ·have e : j = l.length:=by omega
     subst e;rw [List.take_length] at hall;refine wk I3 [] A0 A0 ?_;with_reducible repeat' first|constructor|intro hc;try simp only[AB] at hc
     exact ⟨_,A1.refl _,Nat.le_refl _,_,_,rfl,rfl,.inl ⟨by rw [hO];exact hall,rfl⟩⟩)
  ·rintro r hr y H' (⟨h,rfl⟩ | ⟨h,rfl⟩)
   ·refine .inl ⟨rfl,?_⟩;have hC:=Jn A c (hAb h);unfold XL mC;have z1:=@hS;have sc : No 3:=trivial;refine wd Cv [] [] A0 (EP @hA @hC @hb) ?_;clear sc z1;with_reducible repeat' first|constructor|intro hc;try simp only[AB] at hc
    all_goals clear hh hA hS hb hpl hC
    all_goals (refine ⟨_,_,rfl,rfl,?_⟩;simp_all [B9] <;> omega)
   ·refine .inr ⟨.goto 0,rfl,?_⟩;unfold XL mC;have sc : No 3:=trivial;refine wd Cv [] [] A0 A0 ?_;clear sc;refine ⟨_,_,rfl,rfl,?_⟩;simp [Ab,A9,A4,A3,h]
 ·cases hs with
  | false =>
   have sc : No 3:=trivial;refine wd Cv [] [] A0 (AG @hh) ?_;clear sc;with_reducible repeat' first|constructor|intro hc;try simp only[AB] at hc
   all_goals clear hh hA hS hb hpl
   all_goals (refine ⟨_,_,rfl,rfl,?_⟩;simp_all [B9])
  | true =>
   have h2 : ¬ (1 ≤ k ∧ k < 13):=fun h => h1 (by simp [h]);have sc : No 3:=trivial;refine wd Cv [] [] A0 (AG @hh) ?_;clear sc;with_reducible repeat' first|constructor|intro hc;try simp only[AB] at hc
   all_goals clear hh hA hS hb hpl
   all_goals (refine ⟨_,_,rfl,rfl,?_⟩;simp_all [B9] <;> omega)
theorem UW (s : Int) (l : List Int) : Da l s = ((decide ((l.length : Int) ≤ 3) && apartB s l) && l.all B2):=by
 have h1 : Di s l = (l.all B2 && l.all (fun p => decide (p ≠ s))):=by
  unfold Di
  induction l with
  | nil => rfl
  | cons x r ih => simp only [List.all_cons,ih];cases B2 x <;> cases decide (x ≠ s) <;> simp
 have h2 : decide ((l.length : Int) ≤ 3) = decide (l.length ≤ 3):=by congr 1;simp;omega
 unfold Da apartB;rw [h1,h2];cases l.all B2 <;> cases l.all (fun p => decide (p ≠ s)) <;> cases decide l.Nodup <;> cases decide (l.length ≤ 3) <;> rfl
theorem bi (m : A8) : (decide (1 ≤ m.kind) && decide (m.kind < 13) && m.holds && m.Db && (decide (m.src ≠ m.dst) && (decide (m.call > m.asker * 1048576) && decide (m.call ≤ (m.asker + 1) * 1048576)) && decide (m.beside = AA))) = m.right:=by
 have hc : (decide (m.call > m.asker * 1048576) && decide (m.call ≤ (m.asker + 1) * 1048576)) = (decide (m.asker * 1048576 + 1 ≤ m.call) && decide (m.call < m.asker * 1048576 + 1 + 1048576)):=by
  have e1 : (m.call > m.asker * 1048576) = (m.asker * 1048576 + 1 ≤ m.call):=propext (by omega);have e2 : (m.call ≤ (m.asker + 1) * 1048576) = (m.call < m.asker * 1048576 + 1 + 1048576):=propext (by omega);simp only [e1,e2]
 have key : (m.holds && m.Db && decide (m.beside = AA)) = (B2 m.src && B2 m.dst && (decide (m.bare = m.empty) && m.has)):=by
  obtain ⟨k,c,s,d,ky,sl,dn,pl,pr,l,⟨ik,iv,ir,ig⟩,co⟩:=m;clear hc;simp only [A8.holds,A8.Db,A8.has,A8.bare,A8.beside,A8.empty,AA,AF]
  cases B2 s with
  | false => simp
  | true =>
  cases B2 d with
  | false => simp
  | true =>
  simp only [Bool.true_and]
  by_cases h4 : k = 4
  ·subst h4;simp;grind
  by_cases h5 : k = 5
  ·subst h5;simp;grind
  by_cases h6 : k = 6
  ·subst h6;simp;grind [Ai,isVal]
  by_cases h7 : k = 7
  ·subst h7;simp [UW];grind
  by_cases h10 : k = 10
  ·subst h10;simp;grind
  by_cases h11 : k = 11
  ·subst h11;simp;grind
  by_cases h12 : k = 12
  ·subst h12;simp;grind
  simp [*]
 rw [hc];unfold A8.right A8.IP
 revert key
 cases m.holds <;> cases m.Db <;> cases decide (m.beside = AA) <;> cases B2 m.src <;> cases B2 m.dst <;> cases (decide (m.bare = m.empty) && m.has) <;> simp [Bool.and_assoc]
theorem Ex (m : A8) (hl : m.list.length < 9223372036854775807) : Go.Gar.Fn Tryz.prog 124 [m.d] (.b m.right):=by
 rw [← bi];exact Tj m hl
end Wi
end Go.Proofs.YtkljbfejbakooaaGreatDoor
