/- Part 18 of a proof, put together by a program. Conditions: none beyond those that a theorem states. -/
import Derived.Test.YtkljbfejbakooaaGreatDoorN16
set_option linter.unusedSimpArgs false
set_option linter.unusedVariables false
set_option linter.unnecessarySimpa false
set_option maxHeartbeats 40000000
namespace Go.Proofs.YtkljbfejbakooaaGreatDoor
open Go.Gar
set_option maxRecDepth 4000
def jf (f : Nat → Int) (d : Int) (x : Nat × (Nat → Int)) : Prop:=x.1 ≤ 16 ∧ ∀ i,x.2 i = if i < x.1 then (if f i = d then -1 else f i) else f i
theorem jf.at {f : Nat → Int} {d : Int} {k : Nat} {h : Nat → Int} (hi : jf f d (k,h)) : h k = f k:=by
 have:=hi.2 k;simpa using this
theorem aL {k : Nat} (h : k < 16) : k = 0 ∨ k = 1 ∨ k = 2 ∨ k = 3 ∨ k = 4 ∨ k = 5 ∨ k = 6 ∨ k = 7 ∨ k = 8 ∨ k = 9 ∨ k = 10 ∨ k = 11 ∨ k = 12 ∨ k = 13 ∨ k = 14 ∨ k = 15:=by omega
end Go.Proofs.YtkljbfejbakooaaGreatDoor
namespace Go.Proofs.YtkljbfejbakooaaGreatDoor
namespace Wi
open Go.Gar
set_option maxRecDepth 4000
theorem cK (a b : A8) (ha : a.list.length < 9223372036854775807) : Go.Gar.Fn Tryz.prog 201 [a.d,b.d] (.b (decide (a = b))):=by
 have hE:=WW a.list b.list ha;obtain ⟨k,c,s,d,ky,sl,dn,pl,pr,l,⟨ik,iv,ir,ig⟩,co⟩:=a;obtain ⟨k',c',s',d',ky',sl',dn',pl',pr',l',⟨ik',iv',ir',ig'⟩,co'⟩:=b;have hI:=Gw ⟨ik,iv,ir,ig⟩ ⟨ik',iv',ir',ig'⟩;refine zF A6 Tryz.func201 ?_;refine wk [0,1,2,3,4] [] (AF hI) (AF @hE) ?_;with_reducible repeat' first|constructor|intro hc;try simp only[AD] at hc
 all_goals (clear ha hE;refine ⟨_,_,rfl,rfl,?_⟩;simp_all [BN,DK])
def A8.beside (m : A8) : A8 :=
 if m.kind = 4 then { m with kind:=0,call:=0,src:=0,dst:=0,key:=0,slow:=false } else
 if m.kind = 5 then { m with kind:=0,call:=0,src:=0,dst:=0,item:=AE } else
 if m.kind = 6 then { m with kind:=0,call:=0,src:=0,dst:=0,item:=⟨[],m.item.value,m.item.version,m.item.gone⟩ } else
 if m.kind = 7 then { m with kind:=0,call:=0,src:=0,dst:=0,pred:=0,list:=[] } else
 if m.kind = 10 then { m with kind:=0,call:=0,src:=0,dst:=0,place:=0,done:=false } else
 if m.kind = 11 then { m with kind:=0,call:=0,src:=0,dst:=0,code:=0 } else
 if m.kind = 12 then { m with kind:=0,call:=0,src:=0,dst:=0,code:=0,item:=AE } else
 { m with kind:=0,call:=0,src:=0,dst:=0 }
def A8.holds (m : A8) : Bool :=
 if m.kind = 5 then AU m.item else
 if m.kind = 6 then B2 m.item.key else
 if m.kind = 7 then decide ((m.list.length : Int) ≤ 3) && apartB m.src m.list else
 if m.kind = 11 then decide (m.code = 0) || decide (m.code = 200) else
 if m.kind = 12 then (decide (m.code = 0) && AU m.item) || (decide (m.code = 201) && decide (m.item = AE)) else true
theorem WK (m : A8) : Go.Gar.Fn Tryz.prog 202 [m.d] m.beside.d:=by
 obtain ⟨k,c,s,d,ky,sl,dn,pl,pr,l,⟨ik,iv,ir,ig⟩,co⟩:=m;refine zF A6 Tryz.func202 ?_;refine wk [0,1,2,4,5,9,13,17,21,25,28] [] A0 A0 ?_;with_reducible repeat' first|constructor|intro hc;try simp only[AD] at hc
 all_goals (refine ⟨_,_,rfl,rfl,?_⟩;simp [*,A8.beside,A8.d,A8.cells,AE,LC,Bu,CU,Bi,LD,A7,AB,A4])
theorem Zk (m : A8) (hl : m.list.length < 9223372036854775807) : Go.Gar.Fn Tryz.prog 197 [m.d] (.b m.holds):=by
 obtain ⟨k,c,s,d,ky,sl,dn,pl,pr,l,⟨ik,iv,ir,ig⟩,co⟩:=m;have hk:=Kb ik;have hP:=Iq ⟨ik,iv,ir,ig⟩;have hL:=Yj s l hl;have i2:=Gw ⟨ik,iv,ir,ig⟩ ⟨[],0,0,false⟩;refine zF A6 Tryz.func197 ?_;refine wk [0,1,2,4,5,10,16,29,39] [] (AF i2) (Dl @hk @hP @hL) ?_;with_reducible repeat' first|constructor|intro hc;try simp only[AD] at hc
 all_goals (clear hk hP hL i2;refine ⟨_,_,rfl,rfl,?_⟩;simp_all [BN,A8.holds,AE,DK] <;> (intro;exfalso;omega))
theorem LQ (a c : Int) (h : 0 ≤ a ∧ a < 65536) : Go.Gar.Fn Tryz.prog 199 [.i .i64 a,.i .i64 c] (.b (decide (c > a * 1048576) && decide (c ≤ (a + 1) * 1048576))):=by
 refine zF A6 Tryz.func199 ?_;refine wk [0,1,4] [] A0 A0 ?_;with_reducible repeat' first|constructor|intro hc;try simp only[AD] at hc
 all_goals (refine ⟨_,_,rfl,rfl,?_⟩;simp_all [BN] <;> omega)
def mC (m : A8) : List AV:=[.d (.i .u8 m.kind),.d (.i .i64 m.call),.d (.i .i64 m.src),.d (.i .i64 m.dst),.d (.i .i64 m.key),.d (.b m.slow),.d (.b m.done),.d (.i .i64 m.place),.d (.i .i64 m.pred),.d (.is m.list),.d (.s m.item.key),.d (.i .i64 m.item.value),.d (.i .i64 m.item.version),.d (.b m.item.gone),.d (.i .i64 m.code)]
theorem XK (m : A8) : Ao Tryz.prog 198 [.d m.d] [] (.fn (.func 280) [] [.ptr 0 0 15]) [.c (mC m)]:=by
 refine zD A6 Tryz.func198 ?_;refine wk [0,1,2] [] A0 A0 ?_;exact ⟨_,(A3.ck rfl),Nat.zero_le _,_,_,rfl,rfl,rfl,rfl⟩
def A8.EE (m : A8) : Bool :=
 B7 m.src && B7 m.dst && (if m.kind = 4 then B7 m.key else if m.kind = 10 then B7 m.place else if m.kind = 7 then (decide (m.pred = -1) || B7 m.pred) && m.list.all B7 else true)
abbrev DX : List Nat:=[0,1,2,3,16,18,19,22,35]
abbrev JY : List Nat:=[0,1,4,16,18,19,25,31,42,44,45,46,47,53]
def aw (m : A8) (r : Lp) : List A5:=[.c (mC m),.c (mC m),.lp r]
variable {l : List Int}
theorem Yf {k : Nat} (hk : k < l.length) (h : (l.take k).all B7 = true) (h2 : B7 (l.getD k 0) = true) : (l.take (k + 1)).all B7 = true:=by
 rw [List.take_succ_eq_append_getElem hk,List.all_append,h];rw [List.getD_eq_getElem?_getD,List.getElem?_eq_getElem hk] at h2;simpa using h2
theorem gK {k : Nat} (hk : k < l.length) (h2 : B7 (l.getD k 0) = false) : l.all B7 = false:=by
 rw [List.getD_eq_getElem?_getD,List.getElem?_eq_getElem hk] at h2;rw [List.all_eq_false];exact ⟨_,List.getElem_mem hk,by simpa using h2⟩
theorem W6 (m : A8) (hl : m.list.length < 9223372036854775807) : Go.Gar.Fn Tryz.prog 124 [m.d] (.b (decide (1 ≤ m.kind) && decide (m.kind < 13) && m.holds && m.EE && (decide (m.src ≠ m.dst) && (decide (m.call > m.asker * 1048576) && decide (m.call ≤ (m.asker + 1) * 1048576)) && decide (m.beside = AC)))):=by
 have hh:=Zk m hl;have hb:=WK m;have hA:=Wz m
 have hS:=cK m.beside AC (by unfold A8.beside;repeat' split
                             all_goals first | exact hl | (show ([] : List Int).length < 9223372036854775807;decide))
 have hpl:=XK m;have hok : m.EE = (B7 m.src && B7 m.dst && (if m.kind = 4 then B7 m.key else if m.kind = 10 then B7 m.place else if m.kind = 7 then (decide (m.pred = -1) || B7 m.pred) && m.list.all B7 else true)):=rfl
 have hAb : m.EE = true → 0 ≤ m.asker ∧ m.asker < 65536:=by
  intro h;unfold A8.EE at h;simp only [Bool.and_eq_true] at h;unfold A8.asker;split
  ·exact Dj h.1.1
  ·exact Dj h.1.2
 unfold A8.d A8.cells at hh hA hS hb hpl ⊢;simp only [AC,AE] at hS ⊢;generalize m.beside = B at *;generalize m.holds = hs at *;generalize m.asker = A at *;generalize m.EE = O at *;obtain ⟨k,c,s,d,ky,sl,dn,pl,pr,l,⟨ik,iv,ir,ig⟩,co⟩:=m;simp only [mC] at *;refine zF A6 Tryz.func124 ?_
 by_cases h1 : decide (1 ≤ k) && decide (k < 13) && hs
 ·simp only [Bool.and_eq_true,decide_eq_true_eq] at h1;obtain ⟨⟨h11,h12⟩,h13⟩:=h1;rw [h13] at hh;have d1:=Ds.mk [] (hpl);have sc : No 3:=trivial;refine wd DX [] [] A0 (AF @hh) ?_;clear sc d1;with_reducible repeat' first|constructor|intro hc;try simp only[AD] at hc
  refine zG (K:=fun r _ H' => (O = true ∧ H' = aw (A8.mk k c s d ky sl dn pl pr l ⟨ik,iv,ir,ig⟩ co) r) ∨
   (O = false ∧ H' = aw (A8.mk k c s d ky sl dn pl pr l ⟨ik,iv,ir,ig⟩ co) (r.left (.goto 0)))) ?_ ?_
  ·intro r hr
   have hT : ∀ n,B7 n = true → YT Tryz.prog 2 [.d (.i .i64 n)] (aw (A8.mk k c s d ky sl dn pl pr l ⟨ik,iv,ir,ig⟩ co) r) fun x K => x = .d (.b true) ∧ K = aw (A8.mk k c s d ky sl dn pl pr l ⟨ik,iv,ir,ig⟩ co) r:=by
    intro n hn;have d1:=LV n;rw [hn] at d1;unfold aw mC;refine Az hr rfl rfl rfl ?_;have sc : No 3:=trivial;refine wd DX [] [] A0 A0 ?_;clear sc;refine zR ?_;have sc : No 3:=trivial;refine wd DX [] [] A0 (AF @d1) ?_;clear sc;exact ⟨_,A3.refl _,Nat.le_refl _,rfl,rfl,rfl⟩
   have hF : ∀ n,B7 n = false → YT Tryz.prog 2 [.d (.i .i64 n)] (aw (A8.mk k c s d ky sl dn pl pr l ⟨ik,iv,ir,ig⟩ co) r) fun x K => x = .d (.b false) ∧ K = aw (A8.mk k c s d ky sl dn pl pr l ⟨ik,iv,ir,ig⟩ co) (r.left (.goto 0)):=by
    intro n hn;have d1:=LV n;rw [hn] at d1;unfold aw mC;refine Az hr rfl rfl rfl ?_;have sc : No 3:=trivial;refine wd DX [] [] A0 A0 ?_;clear sc;refine zR ?_;have sc : No 3:=trivial;refine wd DX [] [] A0 (AF @d1) ?_;clear sc;exact ⟨_,A3.refl _,Nat.le_refl _,rfl,rfl,rfl⟩
   refine zT A6 Tryz.func280 ?_;have hk:=hr.ok (k:=2) rfl;unfold aw mC at *;simp only at *;have g1T:=@hT;have g1F:=@hF;refine wk JY [] A0 A0 ?_;clear g1F g1T;with_reducible repeat' first|constructor|intro hc;try simp only[AD] at hc
   all_goals clear hh hA hS hb hpl
   all_goals try exact ⟨_,A3.refl _,Nat.le_refl _,_,_,rfl,rfl,.inl ⟨by rw [hok];simp [*],rfl⟩⟩
   all_goals try exact ⟨_,A3.refl _,Nat.le_refl _,_,_,rfl,rfl,.inr ⟨by rw [hok];simp [*],rfl⟩⟩
   all_goals (
    have hO : O = l.all B7:=by rw [hok];simp [*]
    clear hok;refine Ac (fun j => j ≤ l.length ∧ (l.take j).all B7 = true) (fun j : Nat => ⟨[(0,.yl 2),(44,.d (.is l)),(45,.d (.i .i64 l.length)),(46,.d (.i .i64 j))],[.c [.d (.i .u8 k),.d (.i .i64 c),.d (.i .i64 s),.d (.i .i64 d),.d (.i .i64 ky),.d (.b sl),.d (.b dn),.d (.i .i64 pl),.d (.i .i64 pr),.d (.is l),.d (.s ik),.d (.i .i64 iv),.d (.i .i64 ir),.d (.b ig),.d (.i .i64 co)],.c [.d (.i .u8 k),.d (.i .i64 c),.d (.i .i64 s),.d (.i .i64 d),.d (.i .i64 ky),.d (.b sl),.d (.b dn),.d (.i .i64 pl),.d (.i .i64 pr),.d (.is l),.d (.s ik),.d (.i .i64 iv),.d (.i .i64 ir),.d (.b ig),.d (.i .i64 co)],.lp r],55⟩) (fun j => l.length - j) 0 ⟨Nat.zero_le _,by simp⟩ ?_ (Nat.le_refl _) ?_
    ·exact A3.ck rfl
    rintro j ⟨hj,hall⟩
    by_cases hjl : j < l.length
    ·cases hp : B7 (l.getD j 0) with
     | true =>
      have h3:=Yf hjl hall hp;have h4:=hT _ hp;have q1:=@h4;refine wk JY [] A0 A0 ?_;clear q1;with_reducible repeat' first|constructor|intro hc;try simp only[AD] at hc
      refine ⟨j + 1,⟨hjl,h3⟩,by omega,Nat.le_refl _,?_⟩;exact A3.ck rfl
     | false =>
      have h4:=hF _ hp;have q1:=@h4;refine wk JY [] A0 A0 ?_;clear q1;with_reducible repeat' first|constructor|intro hc;try simp only[AD] at hc
      exact ⟨_,A3.refl _,Nat.le_refl _,_,_,rfl,rfl,.inr ⟨by rw [hO];exact gK hjl hp,rfl⟩⟩
    ·have e : j = l.length:=by omega
     subst e;rw [List.take_length] at hall;refine wk JY [] A0 A0 ?_;with_reducible repeat' first|constructor|intro hc;try simp only[AD] at hc
     exact ⟨_,A3.refl _,Nat.le_refl _,_,_,rfl,rfl,.inl ⟨by rw [hO];exact hall,rfl⟩⟩)
  ·rintro r hr y H' (⟨h,rfl⟩ | ⟨h,rfl⟩)
   ·refine .inl ⟨rfl,?_⟩;have hC:=LQ A c (hAb h);unfold aw mC;have z1:=@hS;have sc : No 3:=trivial;refine wd DX [] [] A0 (Dl @hA @hC @hb) ?_;clear sc z1;with_reducible repeat' first|constructor|intro hc;try simp only[AD] at hc
    all_goals clear hh hA hS hb hpl hC
    all_goals (refine ⟨_,_,rfl,rfl,?_⟩;simp_all [BN] <;> omega)
   ·refine .inr ⟨.goto 0,rfl,?_⟩;unfold aw mC;have sc : No 3:=trivial;refine wd DX [] [] A0 A0 ?_;clear sc;refine ⟨_,_,rfl,rfl,?_⟩;simp [AR,AB,A7,A4,h]
 ·cases hs with
  | false =>
   have sc : No 3:=trivial;refine wd DX [] [] A0 (AF @hh) ?_;clear sc;with_reducible repeat' first|constructor|intro hc;try simp only[AD] at hc
   all_goals clear hh hA hS hb hpl
   all_goals (refine ⟨_,_,rfl,rfl,?_⟩;simp_all [BN])
  | true =>
   have h2 : ¬ (1 ≤ k ∧ k < 13):=fun h => h1 (by simp [h]);have sc : No 3:=trivial;refine wd DX [] [] A0 (AF @hh) ?_;clear sc;with_reducible repeat' first|constructor|intro hc;try simp only[AD] at hc
   all_goals clear hh hA hS hb hpl
   all_goals (refine ⟨_,_,rfl,rfl,?_⟩;simp_all [BN] <;> omega)
theorem X6 (s : Int) (l : List Int) : ED l s = ((decide ((l.length : Int) ≤ 3) && apartB s l) && l.all B7):=by
 have h1 : EJ s l = (l.all B7 && l.all (fun p => decide (p ≠ s))):=by
  unfold EJ
  induction l with
  | nil => rfl
  | cons x r ih => simp only [List.all_cons,ih];cases B7 x <;> cases decide (x ≠ s) <;> simp
 have h2 : decide ((l.length : Int) ≤ 3) = decide (l.length ≤ 3):=by congr 1;simp;omega
 unfold ED apartB;rw [h1,h2];cases l.all B7 <;> cases l.all (fun p => decide (p ≠ s)) <;> cases decide l.Nodup <;> cases decide (l.length ≤ 3) <;> rfl
theorem iN (m : A8) : (decide (1 ≤ m.kind) && decide (m.kind < 13) && m.holds && m.EE && (decide (m.src ≠ m.dst) && (decide (m.call > m.asker * 1048576) && decide (m.call ≤ (m.asker + 1) * 1048576)) && decide (m.beside = AC))) = m.right:=by
 have hc : (decide (m.call > m.asker * 1048576) && decide (m.call ≤ (m.asker + 1) * 1048576)) = (decide (m.asker * 1048576 + 1 ≤ m.call) && decide (m.call < m.asker * 1048576 + 1 + 1048576)):=by
  have e1 : (m.call > m.asker * 1048576) = (m.asker * 1048576 + 1 ≤ m.call):=propext (by omega);have e2 : (m.call ≤ (m.asker + 1) * 1048576) = (m.call < m.asker * 1048576 + 1 + 1048576):=propext (by omega);simp only [e1,e2]
 have key : (m.holds && m.EE && decide (m.beside = AC)) = (B7 m.src && B7 m.dst && (decide (m.bare = m.empty) && m.has)):=by
  obtain ⟨k,c,s,d,ky,sl,dn,pl,pr,l,⟨ik,iv,ir,ig⟩,co⟩:=m;clear hc;simp only [A8.holds,A8.EE,A8.has,A8.bare,A8.beside,A8.empty,AC,AE]
  cases B7 s with
  | false => simp
  | true =>
  cases B7 d with
  | false => simp
  | true =>
  simp only [Bool.true_and]
  by_cases h4 : k = 4
  ·subst h4;simp;grind
  by_cases h5 : k = 5
  ·subst h5;simp;grind
  by_cases h6 : k = 6
  ·subst h6;simp;grind [AU,isVal]
  by_cases h7 : k = 7
  ·subst h7;simp [X6];grind
  by_cases h10 : k = 10
  ·subst h10;simp;grind
  by_cases h11 : k = 11
  ·subst h11;simp;grind
  by_cases h12 : k = 12
  ·subst h12;simp;grind
  simp [*]
 rw [hc];unfold A8.right A8.IL
 revert key
 cases m.holds <;> cases m.EE <;> cases decide (m.beside = AC) <;> cases B7 m.src <;> cases B7 m.dst <;> cases (decide (m.bare = m.empty) && m.has) <;> simp [Bool.and_assoc]
theorem Ff (m : A8) (hl : m.list.length < 9223372036854775807) : Go.Gar.Fn Tryz.prog 124 [m.d] (.b m.right):=by
 rw [← iN];exact W6 m hl
end Wi
end Go.Proofs.YtkljbfejbakooaaGreatDoor
namespace Go.Proofs.YtkljbfejbakooaaGreatDoor
namespace Nd
open Go.Gar
open Wi (A8 B7)
set_option maxRecDepth 4000
structure Call where
 id : Int
 msg : A8
 why : Int
 ref : Int
 sent : Int
 tries : Int
def Call.cells (x : Call) : List D:=[.i .i64 x.id,.i .u8 x.msg.kind,.i .i64 x.msg.call,.i .i64 x.msg.src,.i .i64 x.msg.dst,.i .i64 x.msg.key,.b x.msg.slow,.b x.msg.done,.i .i64 x.msg.place,.i .i64 x.msg.pred,.is x.msg.list,.s x.msg.item.key,.i .i64 x.msg.item.value,.i .i64 x.msg.item.version,.b x.msg.item.gone,.i .i64 x.msg.code,.i .u8 x.why,.i .i64 x.ref,.i .i64 x.sent,.i .i64 x.tries]
def Call.d (x : Call) : D:=.agg x.cells
structure Calls where
 id : Int
 many : Int
 op : List Call
abbrev BW (l : List Call) : D:=.sl 20 (l.map Call.cells)
def Calls.cells (c : Calls) : List D:=[.i .i64 c.id,.i .i64 c.many,BW c.op]
def Calls.d (c : Calls) : D:=.agg c.cells
structure Past where
 src : Int
 call : Int
 told : A8
def Past.cells (p : Past) : List D:=[.i .i64 p.src,.i .i64 p.call,.i .u8 p.told.kind,.i .i64 p.told.call,.i .i64 p.told.src,.i .i64 p.told.dst,.i .i64 p.told.key,.b p.told.slow,.b p.told.done,.i .i64 p.told.place,.i .i64 p.told.pred,.is p.told.list,.s p.told.item.key,.i .i64 p.told.item.value,.i .i64 p.told.item.version,.b p.told.item.gone,.i .i64 p.told.code]
def Past.d (p : Past) : D:=.agg p.cells
abbrev AO (l : List Past) : D:=.sl 17 (l.map Past.cells)
structure Look where
 key : Int
 at_ : Int
 hops : Int
 slow : Bool
 found : Bool
 code : Int
structure Job where
 what : Int
 phase : Int
 look : Look
 item : Item
 owner : Int
 left : List Int
 code : Int
def Job.cells (j : Job) : List D:=[.i .u8 j.what,.i .u8 j.phase,.i .i64 j.look.key,.i .i64 j.look.at_,.i .i64 j.look.hops,.b j.look.slow,.b j.look.found,.i .i64 j.look.code,.s j.item.key,.i .i64 j.item.value,.i .i64 j.item.version,.b j.item.gone,.i .i64 j.owner,.is j.left,.i .i64 j.code]
def Job.d (j : Job) : D:=.agg j.cells
structure Node where
 view : View
 clock : Int
 calls : Calls
 seen : List Past
 phase : Int
 of_ : Int
 finger : Job
 mirror : Job
 client : Job
 next : Int
 last : List UInt8
 keep : List Item
 bad : Int
def Node.cells (n : Node) : List D:=n.view.cells ++ (.i .i64 n.clock :: (n.calls.cells ++ (AO n.seen :: .i .u8 n.phase :: .i .i64 n.of_ :: (n.finger.cells ++ (n.mirror.cells ++ (n.client.cells ++ [.i .i64 n.next,.s n.last,AW n.keep,.i .i64 n.bad]))))))
def Node.d (n : Node) : D:=.agg n.cells
structure bw where
 nodes : List Node
 gone : List Int
 base : List Int
 grams : List (List D)
 lost : Int
abbrev iM (l : List Node) : D:=.sl 76 (l.map Node.cells)
def bw.cells (c : bw) : List D:=[iM c.nodes,.is c.gone,.is c.base,.sl 3 c.grams,.i .i64 c.lost]
def bw.d (c : bw) : D:=.agg c.cells
def GX (n : Int) : Bool:=decide (0 ≤ n) && decide (n ≤ 1099511627776)
theorem bV (n : Int) : Go.Gar.Fn Tryz.prog 77 [.i .i64 n] (.b (GX n)):=by
 refine zF A6 Tryz.func77 ?_;refine wk [0,2] [] A0 A0 ?_;with_reducible repeat' first|constructor|intro hc;try simp only[AD] at hc
 all_goals (refine ⟨_,_,rfl,rfl,?_⟩;simp [BN,GX, *];try omega)
theorem Ot (n : Int) : Go.Gar.Fn Tryz.prog 231 [.i .i64 n] (.b (GX n)):=by
 refine zF A6 Tryz.func231 ?_;refine wk [0,2] [] A0 A0 ?_;with_reducible repeat' first|constructor|intro hc;try simp only[AD] at hc
 all_goals (refine ⟨_,_,rfl,rfl,?_⟩;simp [BN,GX, *];try omega)
def Hu (phase of_ : Int) : Bool:=if phase = 0 then decide (of_ = 0) else decide (phase ≤ 3) && B7 of_
theorem bS (phase of_ : Int) : Go.Gar.Fn Tryz.prog 34 [.agg [.i .u8 phase,.i .i64 of_]] (.b (Hu phase of_)):=by
 refine zF A6 Tryz.func34 ?_;refine wk [0,1,2,5] [] A0 A0 ?_;with_reducible repeat' first|constructor|intro hc;try simp only[AD] at hc
 all_goals (refine ⟨_,_,rfl,rfl,?_⟩;simp [BN,Hu,B7,DK, *];try omega)
theorem eN (phase of_ : Int) : Go.Gar.Fn Tryz.prog 97 [.agg [.i .u8 phase,.i .i64 of_]] (.b (Hu phase of_)):=by
 refine zF A6 Tryz.func97 ?_;refine wk [0,1,2,5] [] A0 A0 ?_;with_reducible repeat' first|constructor|intro hc;try simp only[AD] at hc
 all_goals (refine ⟨_,_,rfl,rfl,?_⟩;simp [BN,Hu,B7,DK, *];try omega)
def En (id n : Int) : Int × Int:=if B7 id = true ∧ 1 ≤ n ∧ n ≤ 1048576 then (id * 1048576 + n,0) else (0,2)
theorem PU (id n : Int) : Go.Gar.Fn Tryz.prog 54 [.i .i64 id,.i .i64 n] (.tup [.i .i64 (En id n).1,.i .i64 (En id n).2]):=by
 have h1:=Wi.LV id;have hb : B7 id = true → 0 ≤ id ∧ id < 65536:=Wi.Dj;refine zF A6 Tryz.func54 ?_
 cases h : B7 id with
 | false =>
  rw [h] at h1;have sc : No 3:=trivial;refine wk [0,1,4,5,16] [] A0 (AF @h1) ?_;clear sc
  all_goals (refine ⟨_,_,rfl,rfl,?_⟩;simp [FG,Bu,CU,Bi,En,h])
 | true =>
  rw [h] at h1;have hb':=hb h;have sc : No 3:=trivial;refine wk [0,1,4,5,16] [] A0 (AF @h1) ?_;clear sc;with_reducible repeat' first|constructor|intro hc;try simp only[AD] at hc
  all_goals (refine ⟨_,_,rfl,rfl,?_⟩;simp only [FG,Bu,CU,Bi,En,h,true_and,and_true];split <;> simp <;> omega)
end Nd
end Go.Proofs.YtkljbfejbakooaaGreatDoor
namespace Go.Proofs.YtkljbfejbakooaaGreatDoor
namespace Nd
open Go.Gar
open Wi (A8 B7 AU)
set_option maxRecDepth 4000
abbrev EW : List Nat:=[0,2,3,5,6,8]
def AK (n : Node) : List AV:=.d (.i .i64 n.view.id) :: .d (.is n.view.base) :: .d (.is n.view.list) :: .d (.i .i64 n.view.pred) :: .d (.i .i64 (n.view.f 0)) :: .d (.i .i64 (n.view.f 1)) :: .d (.i .i64 (n.view.f 2)) :: .d (.i .i64 (n.view.f 3)) :: .d (.i .i64 (n.view.f 4)) :: .d (.i .i64 (n.view.f 5)) :: .d (.i .i64 (n.view.f 6)) :: .d (.i .i64 (n.view.f 7)) :: .d (.i .i64 (n.view.f 8)) :: .d (.i .i64 (n.view.f 9)) :: .d (.i .i64 (n.view.f 10)) :: .d (.i .i64 (n.view.f 11)) :: .d (.i .i64 (n.view.f 12)) :: .d (.i .i64 (n.view.f 13)) :: .d (.i .i64 (n.view.f 14)) :: .d (.i .i64 (n.view.f 15)) :: .d (.i .i64 n.clock) :: .d (.i .i64 n.calls.id) :: .d (.i .i64 n.calls.many) :: .d (BW n.calls.op) :: .d (AO n.seen) :: .d (.i .u8 n.phase) :: .d (.i .i64 n.of_) :: .d (.i .u8 n.finger.what) :: .d (.i .u8 n.finger.phase) :: .d (.i .i64 n.finger.look.key) :: .d (.i .i64 n.finger.look.at_) :: .d (.i .i64 n.finger.look.hops) :: .d (.b n.finger.look.slow) :: .d (.b n.finger.look.found) :: .d (.i .i64 n.finger.look.code) :: .d (.s n.finger.item.key) :: .d (.i .i64 n.finger.item.value) :: .d (.i .i64 n.finger.item.version) :: .d (.b n.finger.item.gone) :: .d (.i .i64 n.finger.owner) :: .d (.is n.finger.left) :: .d (.i .i64 n.finger.code) :: .d (.i .u8 n.mirror.what) :: .d (.i .u8 n.mirror.phase) :: .d (.i .i64 n.mirror.look.key) :: .d (.i .i64 n.mirror.look.at_) :: .d (.i .i64 n.mirror.look.hops) :: .d (.b n.mirror.look.slow) :: .d (.b n.mirror.look.found) :: .d (.i .i64 n.mirror.look.code) :: .d (.s n.mirror.item.key) :: .d (.i .i64 n.mirror.item.value) :: .d (.i .i64 n.mirror.item.version) :: .d (.b n.mirror.item.gone) :: .d (.i .i64 n.mirror.owner) :: .d (.is n.mirror.left) :: .d (.i .i64 n.mirror.code) :: .d (.i .u8 n.client.what) :: .d (.i .u8 n.client.phase) :: .d (.i .i64 n.client.look.key) :: .d (.i .i64 n.client.look.at_) :: .d (.i .i64 n.client.look.hops) :: .d (.b n.client.look.slow) :: .d (.b n.client.look.found) :: .d (.i .i64 n.client.look.code) :: .d (.s n.client.item.key) :: .d (.i .i64 n.client.item.value) :: .d (.i .i64 n.client.item.version) :: .d (.b n.client.item.gone) :: .d (.i .i64 n.client.owner) :: .d (.is n.client.left) :: .d (.i .i64 n.client.code) :: .d (.i .i64 n.next) :: .d (.s n.last) :: .d (AW n.keep) :: .d (.i .i64 n.bad) :: []
theorem aZ (n : Node) (k : Nat) : AV.oks k (AK n) = true:=rfl
abbrev bu (f : Nat) : AV:=.fn (.func f) [] [.ptr 0 0 76]
abbrev DD : List AV:=[bu 89,bu 90,bu 91,bu 92,bu 94,bu 96,bu 98,bu 100,bu 102]
theorem bj (n : Node) : Ao Tryz.prog 158 [.bs 1 0 9 1 9] [.c (AK n),.c DD] (.fn (.func 236) [] [.ptr 2 0 1]) [.c (AK n),.c DD,.c [.bs 1 0 9 1 9]]:=by
 refine zD A6 Tryz.func158 ?_;unfold DD bu;refine wk [0,1,2] [] A0 A0 ?_;exact ⟨⟨[(2,.fn (.func 236) [] [.ptr 2 0 1])],[.c (AK n),.c DD,.c [.bs 1 0 9 1 9]],_⟩,(A3.ck rfl),Nat.le_of_ble_eq_true rfl,_,_,rfl,rfl,rfl,rfl⟩
theorem gJ (n : Node) (b1 b2 b3 b4 b5 b6 b7 b8 b9 : Bool) (h1 : Ao Tryz.prog 89 [.ptr 0 0 76] [.c (AK n)] (.d (.b b1)) [.c (AK n)]) (h2 : Ao Tryz.prog 90 [.ptr 0 0 76] [.c (AK n)] (.d (.b b2)) [.c (AK n)]) (h3 : Ao Tryz.prog 91 [.ptr 0 0 76] [.c (AK n)] (.d (.b b3)) [.c (AK n)]) (h4 : Ao Tryz.prog 92 [.ptr 0 0 76] [.c (AK n)] (.d (.b b4)) [.c (AK n)]) (h5 : Ao Tryz.prog 94 [.ptr 0 0 76] [.c (AK n)] (.d (.b b5)) [.c (AK n)]) (h6 : Ao Tryz.prog 96 [.ptr 0 0 76] [.c (AK n)] (.d (.b b6)) [.c (AK n)]) (h7 : Ao Tryz.prog 98 [.ptr 0 0 76] [.c (AK n)] (.d (.b b7)) [.c (AK n)]) (h8 : Ao Tryz.prog 100 [.ptr 0 0 76] [.c (AK n)] (.d (.b b8)) [.c (AK n)]) (h9 : Ao Tryz.prog 102 [.ptr 0 0 76] [.c (AK n)] (.d (.b b9)) [.c (AK n)]) :
  Ao Tryz.prog 88 [.bs 1 0 9 1 9] [.c (AK n),.c DD] (.d (.b (b1 && (b2 && (b3 && (b4 && (b5 && (b6 && (b7 && (b8 && (b9))))))))))) [.c (AK n),.c DD]:=by
 obtain ⟨B,hB⟩ : ∃ B,(b1 && (b2 && (b3 && (b4 && (b5 && (b6 && (b7 && (b8 && (b9))))))))) = B:=⟨_,rfl⟩;rw [hB];refine Ao.drop (K:=[.c (AK n),.c DD,.c [.d (.b B)]]) _ ?_ ⟨.inr rfl,.inr rfl,trivial⟩ rfl rfl rfl;refine zD A6 Tryz.func88 ?_;have d1:=Ds.mk [0,1] (bj n);refine wk EW [] A0 A0 ?_;clear d1;refine zG (K:=fun r _ H' => (B = true ∧ H' = [.c (AK n),.c DD,.c [.d (.b false)],.c [.bs 1 0 9 1 9],.lp r]) ∨ (B = false ∧ H' = [.c (AK n),.c DD,.c [.d (.b false)],.c [.bs 1 0 9 1 9],.lp (r.left .ret)])) ?_ ?_
 ·intro r hr
  have hT : ∀ v : Bool,v = true → YT Tryz.prog 4 [.d (.b v)] [.c (AK n),.c DD,.c [.d (.b false)],.c [.bs 1 0 9 1 9],.lp r] fun x K => x = .d (.b true) ∧ K = [.c (AK n),.c DD,.c [.d (.b false)],.c [.bs 1 0 9 1 9],.lp r]:=by
   rintro _ rfl;refine Az hr rfl rfl rfl ?_;refine wk EW [] A0 A0 ?_;refine zR ?_;refine wk EW [] A0 A0 ?_;exact ⟨_,A3.refl _,Nat.le_refl _,rfl,rfl,rfl⟩
  have hF : ∀ v : Bool,v = false → YT Tryz.prog 4 [.d (.b v)] [.c (AK n),.c DD,.c [.d (.b false)],.c [.bs 1 0 9 1 9],.lp r] fun x K => x = .d (.b false) ∧ K = [.c (AK n),.c DD,.c [.d (.b false)],.c [.bs 1 0 9 1 9],.lp (r.left .ret)]:=by
   rintro _ rfl;refine Az hr rfl rfl rfl ?_;refine wk EW [] A0 A0 ?_;refine zR ?_;refine wk EW [] A0 A0 ?_;exact ⟨_,A3.refl _,Nat.le_refl _,rfl,rfl,rfl⟩
  refine zT A6 Tryz.func236 ?_;have hk:=And.intro (aZ n) (hr.ok (k:=4) rfl);have un : No 10:=trivial;have g1T:=@hT;have g1F:=@hF;have d1:=Ds.mk [0] (h1);have d2:=Ds.mk [0] (h2);have d3:=Ds.mk [0] (h3);have d4:=Ds.mk [0] (h4);have d5:=Ds.mk [0] (h5);have d6:=Ds.mk [0] (h6);have d7:=Ds.mk [0] (h7);have d8:=Ds.mk [0] (h8);have d9:=Ds.mk [0] (h9);refine wk [0,1,4,5,6,7,8,15] [] A0 A0 ?_;clear d9 d8 d7 d6 d5 d4 d3 d2 d1 g1F g1T un;with_reducible repeat' first|constructor|intro hc;try simp only[AD] at hc
  all_goals clear h1 h2 h3 h4 h5 h6 h7 h8 h9 hT hF
  all_goals first
   | (guard_hyp hc : b9 = true;exact ⟨⟨[],[.c (AK n),.c DD,.c [.d (.b false)],.c [.bs 1 0 9 1 9],.lp r],_⟩,(A3.ck rfl),Nat.le_refl _,_,_,rfl,rfl,.inl ⟨by rw [← hB];simp only [*,Bool.and_self],rfl⟩⟩)
   | exact ⟨⟨[],[.c (AK n),.c DD,.c [.d (.b false)],.c [.bs 1 0 9 1 9],.lp (r.left .ret)],_⟩,(A3.ck rfl),Nat.le_refl _,_,_,rfl,rfl,.inr ⟨by rw [← hB];simp only [*,Bool.and_false,Bool.false_and,Bool.and_self],rfl⟩⟩
 ·rintro r hr y H' (⟨h,rfl⟩ | ⟨h,rfl⟩)
  ·refine .inl ⟨rfl,?_⟩;refine wk EW [] A0 A0 ?_;exact ⟨⟨[(2,.ptr 2 0 1)],[.c (AK n),.c DD,.c [.d (.b true)]],_⟩,(A3.ck rfl),Nat.le_of_ble_eq_true rfl,_,_,rfl,rfl,by rw [h],by rw [h]⟩
  ·refine .inr ⟨.ret,rfl,?_⟩;refine wk EW [] A0 A0 ?_;exact ⟨⟨[(2,.ptr 2 0 1)],[.c (AK n),.c DD,.c [.d (.b false)]],_⟩,(A3.ck rfl),Nat.le_of_ble_eq_true rfl,_,_,rfl,rfl,by rw [h],by rw [h]⟩
theorem Zn (a x b : Int) : Go.Gar.Fn Tryz.prog 206 [.i .i64 a,.i .i64 x,.i .i64 b] (.b (Po a x b)):=by
 have c1:=I4 a x;have c2:=I4 a b;refine zF A6 Tryz.func206 ?_;have h1 : Af a b = 0 ↔ Bj a = Bj b:=by unfold Af Bj;omega
 have h2 : Af a x > 0 ↔ Bj x ≠ Bj a:=by unfold Af Bj;omega
 have hT : Po a x b = if Af a b = 0 then decide (Af a x > 0) else decide (Af a x > 0 ∧ Af a x < Af a b):=by
  unfold Po
  by_cases h : Af a b = 0
  ·rw [if_pos h,if_pos (h1.1 h)]
   by_cases h3 : Af a x > 0
   ·rw [decide_eq_true h3,decide_eq_true (h2.1 h3)]
   ·rw [decide_eq_false h3,decide_eq_false (fun h4 => h3 (h2.2 h4))]
  ·rw [if_neg h,if_neg (fun h4 => h (h1.2 h4))]
 generalize Po a x b = R at *;clear h1 h2;generalize Af a x = u at *;generalize Af a b = w at *;refine wk [0,1,2,6,7,8,16] [] A0 (Aj @c1 @c2) ?_;with_reducible repeat' first|constructor|intro hc;try simp only[AD] at hc
 all_goals (clear c1 c2;refine ⟨_,_,rfl,rfl,?_⟩;simp only [Bi];refine congrArg D.b ?_;rw [hT];clear hT;grind)
end Nd
end Go.Proofs.YtkljbfejbakooaaGreatDoor
namespace Go.Proofs.YtkljbfejbakooaaGreatDoor
namespace Nd
open Go.Gar
open Wi (A8 B7 AU AC B2 mC)
set_option maxRecDepth 4000
def CG (a : A8 × Int) : List D:=[.i .u8 a.1.kind,.i .i64 a.1.call,.i .i64 a.1.src,.i .i64 a.1.dst,.i .i64 a.1.key,.b a.1.slow,.b a.1.done,.i .i64 a.1.place,.i .i64 a.1.pred,.is a.1.list,.s a.1.item.key,.i .i64 a.1.item.value,.i .i64 a.1.item.version,.b a.1.item.gone,.i .i64 a.1.code,.i .u8 a.2]
abbrev AI (l : List (A8 × Int)) : D:=.sl 16 (l.map CG)
end Nd
end Go.Proofs.YtkljbfejbakooaaGreatDoor
