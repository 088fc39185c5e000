/- Part 15 of a proof, put together by a program. Conditions: none beyond those that a theorem states. -/
import Derived.Test.YtkljbfejbakooaaGreatDoorB14
set_option linter.unusedSimpArgs false
set_option linter.unusedVariables false
set_option linter.unnecessarySimpa false
set_option maxHeartbeats 40000000
namespace Go.Proofs.YtkljbfejbakooaaGreatDoor
namespace Wi
open Go.Gar
set_option maxRecDepth 4000
abbrev Dz : List Nat:=[0,1,4,5,6,10,26,29,40]
abbrev GC : List Nat:=[0,1,4,5,6,7,8,9,10,23]
theorem M8 (x : Item) : Go.Gar.Fn Tryz.prog 26 [x.d] (.b (Ai x)):=by
 obtain ⟨k,v,n,g⟩:=x;refine zF A6 Tryz.func26 ?_;refine wk [0,1,2] [] A0 A0 ?_;with_reducible repeat' first|constructor|intro hc;try simp only[AB] at hc
 all_goals (refine ⟨_,_,rfl,rfl,?_⟩;simp_all [B9,Ai,BN,isVal] <;> omega)
theorem NZ (x : Item) : Go.Gar.Fn Tryz.prog 50 [x.d] (.b (Ai x)):=by
 obtain ⟨k,v,n,g⟩:=x;have h1:=J5 k;have h2:=F2 v;have h3:=F2 n;refine zF A6 Tryz.func50 ?_;refine wk [0,1,2] [] A0 (EP @h1 @h2 @h3) ?_;with_reducible repeat' first|constructor|intro hc;try simp only[AB] at hc
 all_goals (refine ⟨_,_,rfl,rfl,?_⟩;simp_all [B9,Ai])
def Di (s : Int) (l : List Int) : Bool:=l.all fun p => B2 p && decide (p ≠ s)
def Da (l : List Int) (s : Int) : Bool:=Di s l && decide l.Nodup && decide (l.length ≤ 3)
variable {l : List Int} {k : Nat}
theorem RS {s : Int} (hk : k < l.length) : Di s (l.take (k + 1)) = (Di s (l.take k) && (B2 (l.getD k 0) && decide (l.getD k 0 ≠ s))):=by
 unfold Di;rw [List.take_succ_eq_append_getElem hk,List.getD_eq_getElem?_getD,List.getElem?_eq_getElem hk,List.all_append];simp only [List.all_cons,List.all_nil,Bool.and_true,Option.getD_some]
theorem XA {s : Int} (h : Di s (l.take k) = false) : Di s l = false:=by
 have e : Di s l = (Di s (l.take k) && Di s (l.drop k)):=by
  unfold Di;rw [← List.all_append,List.take_append_drop]
 rw [e,h];rfl
theorem Q5 {j : Nat} (hj : j < k) (hk : k < l.length) (h : l.getD j 0 = l.getD k 0) : ¬ l.Nodup:=by
 intro hn;rw [List.getD_eq_getElem?_getD,List.getD_eq_getElem?_getD,List.getElem?_eq_getElem hk,List.getElem?_eq_getElem (by omega : j < l.length)] at h;simp only [Option.getD_some] at h;exact (List.pairwise_iff_getElem.1 hn) j k (by omega) hk hj h
theorem Lx (hk : k < l.length) (h : (l.take k).Nodup) (hall : ∀ j,j < k → l.getD j 0 ≠ l.getD k 0) : (l.take (k + 1)).Nodup:=by
 rw [List.take_succ_eq_append_getElem hk,List.nodup_append];refine ⟨h,by simp,?_⟩;intro a ha b hb;simp at hb;subst hb;obtain ⟨j,hj,e⟩:=List.mem_iff_getElem.1 ha;rw [List.length_take] at hj;have:=hall j (by omega);rw [List.getD_eq_getElem?_getD,List.getD_eq_getElem?_getD,List.getElem?_eq_getElem hk,List.getElem?_eq_getElem (by omega : j < l.length)] at this;simp at this;rw [← e,List.getElem_take];exact this
theorem Xe (l : List Int) (s : Int) (hl : l.length ≤ 9223372036854775807) : Go.Gar.Fn Tryz.prog 147 [.is l,.i .i64 s] (.b (Da l s)):=by
 refine zF A6 Tryz.func147 ?_;refine wd Dz [] [] A0 A0 ?_;refine Ae (fun k => k ≤ l.length ∧ Di s (l.take k) = true ∧ (l.take k).Nodup) (fun k : Nat => ⟨[(0,.d (.is l)),(1,.d (.i .i64 s)),(5,.d (.i .i64 k))],[],44⟩) (fun k => l.length - k) 0 ⟨Nat.zero_le _,by simp [Di],by simp⟩ ?_ (Nat.le_refl _) ?_
 ·exact A1.ck rfl
 rintro k ⟨hk,hok,hnd⟩
 by_cases hkl : k < l.length
 ·have hst:=RS (s:=s) hkl;rw [hok,Bool.true_and] at hst;have hp:=Cs (l.getD k 0)
  by_cases hb : B2 (l.getD k 0) = true ∧ l.getD k 0 ≠ s
  ·rw [hb.1] at hp;have f1:=eq_false' hb.2;refine wd Dz [] [] (AG f1) (AG @hp) ?_;with_reducible repeat' first|constructor|intro hc;try simp only[AB] at hc
   refine Ae (fun j => j ≤ k ∧ ∀ i,i < j → l.getD i 0 ≠ l.getD k 0) (fun j : Nat => ⟨[(0,.d (.is l)),(1,.d (.i .i64 s)),(5,.d (.i .i64 k)),(6,.d (.i .i64 j))],[],44⟩) (fun j => k - j) 0 ⟨Nat.zero_le _,fun i h => by omega⟩ ?_ (Nat.le_refl _) ?_
   ·exact A1.ck rfl
   rintro j ⟨hj,hall⟩
   by_cases hjk : j < k
   ·refine wd Dz [] [] A0 A0 ?_;with_reducible repeat' first|constructor|intro hc;try simp only[AB] at hc
    ·have e : Da l s = false:=by simp [Da,Q5 hjk hkl hc]
     refine ⟨_,_,rfl,rfl,?_⟩;simp [Ab,A9,A4,A3,e]
    ·refine ⟨j + 1,⟨hjk,fun i hi => ?_⟩,by omega,Nat.le_refl _,?_⟩
     ·rcases Nat.lt_or_eq_of_le (Nat.le_of_lt_succ hi) with h | h
      ·exact hall i h
      ·rw [h];exact hc
     exact A1.ck rfl
   ·have e : j = k:=by omega
    refine wd Dz [] [] A0 A0 ?_;with_reducible repeat' first|constructor|intro hc;try simp only[AB] at hc
    refine ⟨k + 1,⟨hkl,by rw [hst,hb.1,decide_eq_true hb.2];rfl,Lx hkl hnd fun i hi => hall i (by omega)⟩,by omega,Nat.le_refl _,?_⟩;exact A1.ck rfl
  ·have e : Da l s = false:=by
    have h2 : Di s (l.take (k + 1)) = false:=by
     rw [hst]
     cases h : B2 (l.getD k 0) with
     | false => rfl
     | true => simp only [Bool.true_and,decide_eq_false_iff_not];exact fun h3 => hb ⟨h,h3⟩
    simp [Da,XA h2]
   cases h : B2 (l.getD k 0) with
   | false =>
    rw [h] at hp;refine wd Dz [] [] A0 (AG @hp) ?_;with_reducible repeat' first|constructor|intro hc;try simp only[AB] at hc
    refine ⟨_,_,rfl,rfl,?_⟩;simp [Ab,A9,A4,A3,e]
   | true =>
    rw [h] at hp;have f1 : (l.getD k 0 == s) = true:=by rw [beq_iff_eq];exact Classical.not_not.1 fun h3 => hb ⟨h,h3⟩
    refine wd Dz [] [] (AG f1) (AG @hp) ?_;with_reducible repeat' first|constructor|intro hc;try simp only[AB] at hc
    refine ⟨_,_,rfl,rfl,?_⟩;simp [Ab,A9,A4,A3,e]
 ·have e : k = l.length:=by omega
  subst e;rw [List.take_length] at hok hnd
  have e2 : Da l s = decide ((l.length : Int) ≤ 3):=by
   simp only [Da,hok,decide_eq_true hnd,Bool.and_self,Bool.true_and]
   congr 1;simp;omega
  refine wd Dz [] [] A0 A0 ?_;with_reducible repeat' first|constructor|intro hc;try simp only[AB] at hc
  refine ⟨_,_,rfl,rfl,?_⟩;simp [Ab,A9,A4,A3,e2]
def apartB (s : Int) (l : List Int) : Bool:=l.all (fun p => decide (p ≠ s)) && decide l.Nodup
theorem Vm (s : Int) (l : List Int) (hl : l.length < 9223372036854775807) : Go.Gar.Fn Tryz.prog 279 [.i .i64 s,.is l] (.b (apartB s l)):=by
 have cut : ∀ k,k < l.length → (l.take (k + 1)).all (fun p => decide (p ≠ s)) = ((l.take k).all (fun p => decide (p ≠ s)) && decide (l.getD k 0 ≠ s)):=by
  intro k hk;rw [List.take_succ_eq_append_getElem hk,List.getD_eq_getElem?_getD,List.getElem?_eq_getElem hk,List.all_append];simp only [List.all_cons,List.all_nil,Bool.and_true,Option.getD_some]
 refine zF A6 Tryz.func279 ?_;refine wk GC [] A0 A0 ?_;refine Ae (fun k => k ≤ l.length ∧ (l.take k).all (fun p => decide (p ≠ s)) = true ∧ (l.take k).Nodup) (fun k : Nat => ⟨[(0,.d (.i .i64 s)),(1,.d (.is l)),(7,.d (.is l)),(8,.d (.i .i64 l.length)),(9,.d (.i .i64 k))],[],25⟩) (fun k => l.length - k) 0 ⟨Nat.zero_le _,by simp,by simp⟩ ?_ (Nat.le_refl _) ?_
 ·exact A1.ck rfl
 rintro k ⟨hk,hok,hnd⟩
 by_cases hkl : k < l.length
 ·have hst:=cut k hkl;have hco:=PG (l.take k) (l.getD k 0) (by rw [List.length_take];omega);rw [hok,Bool.true_and] at hst
  by_cases hb : l.getD k 0 = s
  ·have f1:=B3 hb
   have e : apartB s l = false:=by
    unfold apartB
    have : l.getD k 0 ∈ l:=by
     rw [List.getD_eq_getElem?_getD,List.getElem?_eq_getElem hkl];exact List.getElem_mem hkl
    have h2 : l.all (fun p => decide (p ≠ s)) = false:=by
     rw [List.all_eq_false];exact ⟨_,this,by rw [hb];simp⟩
    rw [h2];rfl
   refine wk GC [] (AG f1) A0 ?_;with_reducible repeat' first|constructor|intro hc;try simp only[AB] at hc
   refine ⟨_,_,rfl,rfl,?_⟩;simp [Ab,A9,A4,A3,e]
  ·have f1:=eq_false' hb
   by_cases hm : l.getD k 0 ∈ l.take k
   ·rw [decide_eq_true hm] at hco
    have e : apartB s l = false:=by
     unfold apartB;obtain ⟨j,hj,e⟩:=List.mem_iff_getElem.1 hm;rw [List.length_take] at hj;have : ¬ l.Nodup:=Q5 (j:=j) (k:=k) (by omega) hkl (by rw [← e,List.getElem_take,List.getD_eq_getElem?_getD,List.getElem?_eq_getElem (by omega : j < l.length)];rfl);simp [this]
    refine wk GC [] (AG f1) (AG @hco) ?_;with_reducible repeat' first|constructor|intro hc;try simp only[AB] at hc
    refine ⟨_,_,rfl,rfl,?_⟩;simp [Ab,A9,A4,A3,e]
   ·rw [decide_eq_false hm] at hco;refine wk GC [] (AG f1) (AG @hco) ?_;with_reducible repeat' first|constructor|intro hc;try simp only[AB] at hc
    refine ⟨k + 1,⟨hkl,by rw [hst,decide_eq_true hb],Lx hkl hnd fun i hi h => hm ?_⟩,by omega,Nat.le_refl _,?_⟩
    ·rw [← h,List.getD_eq_getElem?_getD,List.getElem?_eq_getElem (by omega : i < l.length)];exact List.mem_iff_getElem.2 ⟨i,by rw [List.length_take];omega,by rw [List.getElem_take];rfl⟩
    exact A1.ck rfl
 ·have e : k = l.length:=by omega
  subst e;rw [List.take_length] at hok hnd;have e2 : apartB s l = true:=by unfold apartB;rw [hok,decide_eq_true hnd];rfl
  refine wk GC [] A0 A0 ?_;with_reducible repeat' first|constructor|intro hc;try simp only[AB] at hc
  refine ⟨_,_,rfl,rfl,?_⟩;simp [Ab,A9,A4,A3,e2]
def A8.bare (m : A8) : A8 :=
 if m.kind = 4 then { m with key:=0,slow:=false } else
 if m.kind = 5 then { m with item:=AF } else
 if m.kind = 6 then { m with item:=AF } else
 if m.kind = 7 then { m with pred:=0,list:=[] } else
 if m.kind = 10 then { m with place:=0,done:=false } else
 if m.kind = 11 then { m with code:=0 } else
 if m.kind = 12 then { m with code:=0,item:=AF } else m
def A8.has (m : A8) : Bool :=
 if m.kind = 4 then B2 m.key else
 if m.kind = 5 then Ai m.item else
 if m.kind = 6 then Ai m.item && decide (m.item = ⟨m.item.key,0,0,false⟩) else
 if m.kind = 7 then (decide (m.pred = -1) || B2 m.pred) && Da m.list m.src else
 if m.kind = 10 then B2 m.place else
 if m.kind = 11 then decide (m.code = 0) || decide (m.code = 200) else
 if m.kind = 12 then (decide (m.code = 0) && Ai m.item) || (decide (m.code = 201) && decide (m.item = AF)) else true
theorem Yf (m : A8) : Go.Gar.Fn Tryz.prog 66 [m.d] m.bare.d:=by
 obtain ⟨k,c,s,d,ky,sl,dn,pl,pr,l,⟨ik,iv,ir,ig⟩,co⟩:=m;refine zF A6 Tryz.func66 ?_;refine wk [0,1,2,4,5,9,14,18,22,25] [] A0 A0 ?_;with_reducible repeat' first|constructor|intro hc;try simp only[AB] at hc
 all_goals (refine ⟨_,_,rfl,rfl,?_⟩;simp [*,A8.bare,A8.d,A8.cells,AF,Ja,BS,C4,By,Jb,A4,A9,A3])
theorem bR (m : A8) (hl : m.list.length ≤ 9223372036854775807) : Go.Gar.Fn Tryz.prog 67 [m.d] (.b m.has):=by
 obtain ⟨k,c,s,d,ky,sl,dn,pl,pr,l,⟨ik,iv,ir,ig⟩,co⟩:=m;have hp:=Cs;have hP:=M8 ⟨ik,iv,ir,ig⟩;have hL:=Xe l s hl;have i1:=HB ⟨ik,iv,ir,ig⟩ ⟨ik,0,0,false⟩;have i2:=HB ⟨ik,iv,ir,ig⟩ ⟨[],0,0,false⟩;refine zF A6 Tryz.func67 ?_;refine wk [0,1,2,4,5,10,15,29,46,51,61] [] (BM i1 i2) (EP @hp @hP @hL) ?_;with_reducible repeat' first|constructor|intro hc;try simp only[AB] at hc
 all_goals (clear hp hP hL i1 i2;refine ⟨_,_,rfl,rfl,?_⟩;simp_all [B9,A8.has,AF,DW])
theorem DG {n : Int} (h : B2 n = true) : 0 ≤ n ∧ n < 65536:=by simpa [B2] using h
theorem ZX {n : Int} : B2 n = true ↔ 0 ≤ n ∧ n < 65536:=by simp [B2]
def A8.empty (m : A8) : A8:=⟨m.kind,m.call,m.src,m.dst,0,false,false,0,0,[],AF,0⟩
def A8.IP (m : A8) : Bool:=decide (1 ≤ m.kind) && decide (m.kind < 13) && B2 m.src && B2 m.dst && decide (m.src ≠ m.dst) && decide (m.asker * 1048576 + 1 ≤ m.call) && decide (m.call < m.asker * 1048576 + 1 + 1048576)
def A8.right (m : A8) : Bool:=m.IP && (decide (m.bare = m.empty) && m.has)
theorem Vs (m : A8) (hl : m.list.length ≤ 9223372036854775807) : m.bare.list.length ≤ 9223372036854775807:=by
 unfold A8.bare
 repeat' split
 all_goals first | exact hl | (show ([] : List Int).length ≤ 9223372036854775807;decide)
theorem Um (m : A8) (hl : m.list.length ≤ 9223372036854775807) : Go.Gar.Fn Tryz.prog 19 [m.d] (.b m.right):=by
 have hb:=Yf m;have hh:=bR m hl;have hA:=Ui m;have hS:=QL m.bare m.empty (Vs m hl);have hp1:=Cs m.src;have hp2:=Cs m.dst;have hR : m.right = (m.IP && (decide (m.bare = m.empty) && m.has)):=rfl;have hH : m.IP = (decide (1 ≤ m.kind) && decide (m.kind < 13) && B2 m.src && B2 m.dst && decide (m.src ≠ m.dst) && decide (m.asker * 1048576 + 1 ≤ m.call) && decide (m.call < m.asker * 1048576 + 1 + 1048576)):=rfl
 have hAb : B2 m.src = true → B2 m.dst = true → 0 ≤ m.asker ∧ m.asker < 65536:=by
  intro h1 h2;unfold A8.asker;split
  ·exact DG h1
  ·exact DG h2
 unfold A8.d A8.cells at hb hh hA hS ⊢;simp only [A8.empty,AF] at hS;generalize m.bare = B at *;generalize m.has = hs at *;generalize m.asker = A at *;generalize m.right = R at *;generalize m.IP = H at *;obtain ⟨k,c,s,d,ky,sl,dn,pl,pr,l,⟨ik,iv,ir,ig⟩,co⟩:=m;refine zF A6 Tryz.func19 ?_;simp only at *
 cases h1 : B2 s with
 | false =>
  rw [h1] at hp1 hH;refine wd [0,1,2,3,4,31,46] [] [] A0 (AG @hp1) ?_;with_reducible repeat' first|constructor|intro hc;try simp only[AB] at hc
  all_goals (refine ⟨_,_,rfl,rfl,?_⟩;simp_all [B9])
 | true =>
 rw [h1] at hp1 hH
 cases h2 : B2 d with
 | false =>
  rw [h2] at hp2 hH;refine wd [0,1,2,3,4,31,46] [] [] A0 (BM @hp1 @hp2) ?_;with_reducible repeat' first|constructor|intro hc;try simp only[AB] at hc
  all_goals (refine ⟨_,_,rfl,rfl,?_⟩;simp_all [B9])
 | true =>
 rw [h2] at hp2 hH;have hA2:=hAb h1 h2;have z1:=@hS;refine wd [0,1,2,3,4,31,46] [] [] A0 (L4 @hp1 @hp2 @hA @hb @hh) ?_;clear z1;with_reducible repeat' first|constructor|intro hc;try simp only[AB] at hc
 all_goals (clear hb hh hA hS hp1 hp2 hAb;refine ⟨_,_,rfl,rfl,?_⟩;simp_all [B9,A8.empty,AF] <;> omega)
theorem Es (m : A8) (hl : m.list.length < 9223372036854775807) : Go.Gar.Fn Tryz.prog 19 [m.d] (.b m.right):=Um m (Nat.le_of_lt hl)
theorem YM (a b : A8) (ha : a.list.length < 9223372036854775807) : Go.Gar.Fn Tryz.prog 201 [a.d,b.d] (.b (decide (a = b))):=by
 have hE:=U6 a.list b.list ha;obtain ⟨k,c,s,d,ky,sl,dn,pl,pr,l,⟨ik,iv,ir,ig⟩,co⟩:=a;obtain ⟨k',c',s',d',ky',sl',dn',pl',pr',l',⟨ik',iv',ir',ig'⟩,co'⟩:=b;have hI:=HB ⟨ik,iv,ir,ig⟩ ⟨ik',iv',ir',ig'⟩;refine zF A6 Tryz.func201 ?_;refine wk [0,1,2,3,4] [] (AG hI) (AG @hE) ?_;with_reducible repeat' first|constructor|intro hc;try simp only[AB] at hc
 all_goals (clear ha hE;refine ⟨_,_,rfl,rfl,?_⟩;simp_all [B9,DW])
def A8.beside (m : A8) : A8 :=
 if m.kind = 4 then { m with kind:=0,call:=0,src:=0,dst:=0,key:=0,slow:=false } else
 if m.kind = 5 then { m with kind:=0,call:=0,src:=0,dst:=0,item:=AF } else
 if m.kind = 6 then { m with kind:=0,call:=0,src:=0,dst:=0,item:=⟨[],m.item.value,m.item.version,m.item.gone⟩ } else
 if m.kind = 7 then { m with kind:=0,call:=0,src:=0,dst:=0,pred:=0,list:=[] } else
 if m.kind = 10 then { m with kind:=0,call:=0,src:=0,dst:=0,place:=0,done:=false } else
 if m.kind = 11 then { m with kind:=0,call:=0,src:=0,dst:=0,code:=0 } else
 if m.kind = 12 then { m with kind:=0,call:=0,src:=0,dst:=0,code:=0,item:=AF } else
 { m with kind:=0,call:=0,src:=0,dst:=0 }
def A8.holds (m : A8) : Bool :=
 if m.kind = 5 then Ai m.item else
 if m.kind = 6 then BN m.item.key else
 if m.kind = 7 then decide ((m.list.length : Int) ≤ 3) && apartB m.src m.list else
 if m.kind = 11 then decide (m.code = 0) || decide (m.code = 200) else
 if m.kind = 12 then (decide (m.code = 0) && Ai m.item) || (decide (m.code = 201) && decide (m.item = AF)) else true
theorem Tu (m : A8) : Go.Gar.Fn Tryz.prog 202 [m.d] m.beside.d:=by
 obtain ⟨k,c,s,d,ky,sl,dn,pl,pr,l,⟨ik,iv,ir,ig⟩,co⟩:=m;refine zF A6 Tryz.func202 ?_;refine wk [0,1,2,4,5,9,13,17,21,25,28] [] A0 A0 ?_;with_reducible repeat' first|constructor|intro hc;try simp only[AB] at hc
 all_goals (refine ⟨_,_,rfl,rfl,?_⟩;simp [*,A8.beside,A8.d,A8.cells,AF,Ja,BS,C4,By,Jb,A4,A9,A3])
theorem We (m : A8) (hl : m.list.length < 9223372036854775807) : Go.Gar.Fn Tryz.prog 197 [m.d] (.b m.holds):=by
 obtain ⟨k,c,s,d,ky,sl,dn,pl,pr,l,⟨ik,iv,ir,ig⟩,co⟩:=m;have hk:=J5 ik;have hP:=NZ ⟨ik,iv,ir,ig⟩;have hL:=Vm s l hl;have i2:=HB ⟨ik,iv,ir,ig⟩ ⟨[],0,0,false⟩;refine zF A6 Tryz.func197 ?_;refine wk [0,1,2,4,5,10,16,29,39] [] (AG i2) (EP @hk @hP @hL) ?_;with_reducible repeat' first|constructor|intro hc;try simp only[AB] at hc
 all_goals (clear hk hP hL i2;refine ⟨_,_,rfl,rfl,?_⟩;simp_all [B9,A8.holds,AF,DW] <;> (intro;exfalso;omega))
theorem Jn (a c : Int) (h : 0 ≤ a ∧ a < 65536) : Go.Gar.Fn Tryz.prog 199 [.i .i64 a,.i .i64 c] (.b (decide (c > a * 1048576) && decide (c ≤ (a + 1) * 1048576))):=by
 refine zF A6 Tryz.func199 ?_;refine wk [0,1,4] [] A0 A0 ?_;with_reducible repeat' first|constructor|intro hc;try simp only[AB] at hc
 all_goals (refine ⟨_,_,rfl,rfl,?_⟩;simp_all [B9] <;> omega)
def mC (m : A8) : List AV:=[.d (.i .u8 m.kind),.d (.i .i64 m.call),.d (.i .i64 m.src),.d (.i .i64 m.dst),.d (.i .i64 m.key),.d (.b m.slow),.d (.b m.done),.d (.i .i64 m.place),.d (.i .i64 m.pred),.d (.is m.list),.d (.s m.item.key),.d (.i .i64 m.item.value),.d (.i .i64 m.item.version),.d (.b m.item.gone),.d (.i .i64 m.code)]
theorem Ug (m : A8) : B4 Tryz.prog 198 [.d m.d] [] (.fn (.func 280) [] [.ptr 0 0 15]) [.c (mC m)]:=by
 refine zD A6 Tryz.func198 ?_;refine wk [0,1,2] [] A0 A0 ?_;exact ⟨_,(A1.ck rfl),Nat.zero_le _,_,_,rfl,rfl,rfl,rfl⟩
def A8.Db (m : A8) : Bool :=
 B2 m.src && B2 m.dst && (if m.kind = 4 then B2 m.key else if m.kind = 10 then B2 m.place else if m.kind = 7 then (decide (m.pred = -1) || B2 m.pred) && m.list.all B2 else true)
end Wi
end Go.Proofs.YtkljbfejbakooaaGreatDoor
