/- Part 17 of a proof, put together by a program. Conditions: none beyond those that a theorem states. -/
import Derived.Test.YtkljbfejbakooaaGreatDoorB08
import Derived.Test.YtkljbfejbakooaaGreatDoorB13
import Derived.Test.YtkljbfejbakooaaGreatDoorB14
set_option linter.unusedSimpArgs false
set_option linter.unusedVariables false
set_option linter.unnecessarySimpa false
set_option maxHeartbeats 40000000
namespace Go.Proofs.YtkljbfejbakooaaGreatDoor
namespace Wi
open Go.Gar
set_option maxRecDepth 4000
abbrev GD : List Nat:=[0,1,4,5,6,8,9,10,11,12,22,23,24,25,31]
def Bq (b : Bool) : Int:=if b then 1 else 0
theorem Qn (b : Bool) : Go.Gar.Fn Tryz.prog 321 [.b b] (.i .i64 (Bq b)):=by
 refine zF A6 Tryz.func321 ?_;cases b
 ·refine wk [0,2,3] [] A0 A0 ?_;refine ⟨_,_,rfl,rfl,?_⟩;simp [Ab,A9,A4,A3,Bq]
 ·refine wk [0,2,3] [] A0 A0 ?_;refine ⟨_,_,rfl,rfl,?_⟩;simp [Ab,A9,A4,A3,Bq]
theorem Ep (c : Int) : Go.Gar.Fn Tryz.prog 310 [.i .i64 0,.i .i64 c] (.tup []):=by
 refine zF A6 Tryz.func310 ?_;refine wk [0,1,5] [] A0 A0 ?_;exact zE
def pF (n : Int) : List PanicEntry:=[{ v:=.iface 224 (.agg #[.int .i64 n]),recovered:=false }]
theorem LS (e c : Int) (h : e ≠ 0) : IE Tryz.prog 310 [.d (.i .i64 e),.d (.i .i64 c)] [] (pF c) []:=by
 have f:=C2 h;refine zX A6 Tryz.func310 ?_;refine wx [0,1,5] [] [] (AG f) A0 ?_;exact ⟨rfl,⟨[],[],_⟩,(A1.ck rfl),Nat.le_refl _,rfl⟩
theorem RO (l : List Int) : B4 Tryz.prog 319 [.d (.is l)] [] (.fn (.func 354) [] [.ptr 0 0 1]) [.c [.d (.is l)]]:=by
 refine zD A6 Tryz.func319 ?_;refine wk [0,1,2] [] A0 A0 ?_;exact ⟨_,(A1.ck rfl),Nat.zero_le _,_,_,rfl,rfl,rfl,rfl⟩
theorem ofNat_toNat (d : UInt8) : UInt8.ofNat ((d.toNat : Int)).toNat = d:=by simp
def wH (o : List UInt8) : List A2:=[.c [.sl 1 o.length 1],.a (.by o)]
def wL (l : List Int) (o : List UInt8) (r : Lp) : List A2:=[.c [.sl 1 o.length 1],.a (.by o),.c [.ptr 0 0 1],.c [.d (.is l)],.lp r]
theorem GU (l : List Int) (o : List UInt8) (hf : l.all fits = true) (hl : l.length ≤ 1000) (ho : o.length ≤ 1000000) :
  B4 Tryz.prog 277 [.ptr 0 0 1,.d (.is l)] (wH o) (.tup []) (wH (o ++ A5 l)):=by
 refine zD A6 Tryz.func277 ?_;unfold wH;have d1:=Ds.mk [] (RO l);refine wd [0,1,2,4,6,7] [] [] A0 A0 ?_;clear d1;refine zG (K:=fun r _ H' => H' = wL l (o ++ A5 l) r) ?_ ?_
 ·intro r hr;have hk:=hr.ok (k:=4) rfl
  have hY : ∀ (p : List UInt8) (d : UInt8),p.length ≤ 2000000 → YT Tryz.prog 4 [.d (.i .u8 d.toNat)] (wL l p r) fun x K => x = .d (.b true) ∧ K = wL l (p ++ [d]) r:=by
   intro p d hp;have hd:=d.toNat_lt;unfold wL;refine BG hr rfl rfl rfl ?_;refine wd [0,1,2,4,6,7] [] [] A0 A0 ?_;refine zR ?_;refine wd [0,1,2,4,6,7] [] [(0,7),(8,7),(9,7)] A0 A0 ?_;refine ⟨_,A1.refl _,Nat.le_refl _,rfl,rfl,?_⟩;simp [ofNat_toNat]
  refine zT A6 Tryz.func354 ?_;have hz:=hY;unfold wL at hz ⊢;refine wk GD [] A0 A0 ?_;refine Ae (fun k => k ≤ l.length) (fun k : Nat => ⟨[(0,.yl 4),(1,.ptr 3 0 1),(9,.d (.is l)),(10,.d (.i .i64 l.length)),(11,.d (.i .i64 k))],wL l (o ++ A5 (l.take k)) r,34⟩) (fun k => l.length - k) 0 (Nat.zero_le _) ?_ (Nat.le_refl _) ?_
  ·unfold wL;exact (have nC:=@A5.eq_1;A1.co rfl)
  intro k hkk;unfold wL
  by_cases hkl : k < l.length
  ·have hfk : fits (l.getD k 0) = true:=by
    rw [List.all_eq_true] at hf;apply hf;rw [List.getD_eq_getElem?_getD,List.getElem?_eq_getElem hkl];exact List.getElem_mem hkl
   have hpf : (l.take k).all fits = true:=by
    rw [List.all_eq_true] at hf ⊢;exact fun x hx => hf x (List.mem_of_mem_take hx)
   have hl1:=DF _ hpf;have hl2 : (l.take k).length ≤ 1000:=by rw [List.length_take];omega
   obtain ⟨m,hm,hm'⟩:=Fo hfk;have hn:=BC m hm';have hput:=bp (l.getD k 0);have hde:=Ep 2;have e : JE (l.getD k 0) = (B0 m,0):=by unfold JE;rw [hfk,hm];rfl
   rw [e] at hput;refine wk GD [] A0 (BM @hput @hde) ?_;with_reducible repeat' first|constructor|intro hc;try simp only[AB] at hc
   refine Ae (fun j => j ≤ (B0 m).length) (fun j : Nat => ⟨[(0,.yl 4),(1,.ptr 3 0 1),(9,.d (.is l)),(10,.d (.i .i64 l.length)),(11,.d (.i .i64 k)),(22,.d (.by (B0 m))),(23,.d (.i .i64 (B0 m).length)),(24,.d (.i .i64 j))],wL l (o ++ A5 (l.take k) ++ (B0 m).take j) r,34⟩) (fun j => (B0 m).length - j) 0 (Nat.zero_le _) ?_ (Nat.le_refl _) ?_
   ·unfold wL;exact (have nC:=trivial;A1.co rfl)
   intro j hj
   by_cases hjl : j < (B0 m).length
   ·have hy:=hz (o ++ A5 (l.take k) ++ (B0 m).take j) ((B0 m).getD j 0) (by simp only [List.length_append,List.length_take];omega)
    have ej : (B0 m).take (j + 1) = (B0 m).take j ++ [(B0 m).getD j 0]:=by
     rw [List.take_succ_eq_append_getElem hjl,List.getD_eq_getElem?_getD,List.getElem?_eq_getElem hjl];rfl
    unfold wL;have q1:=@hy;refine wk GD [] A0 A0 ?_;clear q1;with_reducible repeat' first|constructor|intro hc;try simp only[AB] at hc
    refine ⟨j + 1,hjl,by omega,Nat.le_refl _,?_⟩;exact (have nC:=ej;A1.co rfl)
   ·have ej : (B0 m).take j = B0 m:=List.take_of_length_le (by omega);have ek : A5 (l.take (k + 1)) = A5 (l.take k) ++ B0 m:=by rw [D5 hkl,hm,Int.toNat_natCast]
    unfold wL;refine wk GD [] A0 A0 ?_;with_reducible repeat' first|constructor|intro hc;try simp only[AB] at hc
    refine ⟨k + 1,hkl,by omega,Nat.le_refl _,?_⟩;exact (have nC:=And.intro ek ej;A1.co rfl)
  ·have e : k = l.length:=by omega
   subst e;rw [List.take_length];refine wk GD [] A0 A0 ?_;with_reducible repeat' first|constructor|intro hc;try simp only[AB] at hc
   exact ⟨_,A1.refl _,Nat.le_refl _,_,_,rfl,rfl,rfl⟩
 ·rintro r hr x H' rfl;refine .inl ⟨rfl,?_⟩;unfold wL;refine wd [0,1,2,4,6,7] [] [] A0 A0 ?_;exact ⟨⟨[],wH (o ++ A5 l),Tryz.f277.ntmps⟩,(A1.ck rfl),Nat.le_refl _,_,_,rfl,rfl,rfl,rfl⟩
end Wi
end Go.Proofs.YtkljbfejbakooaaGreatDoor
