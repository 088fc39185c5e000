/- Part 30 of a proof, put together by a program. Conditions: none beyond those that a theorem states. -/
import Derived.Test.YtkljbfejbakooaaGreatDoorN29
set_option linter.unusedSimpArgs false
set_option linter.unusedVariables false
set_option linter.unnecessarySimpa false
set_option maxHeartbeats 40000000
namespace Go.Proofs.YtkljbfejbakooaaGreatDoor
namespace Wi
open Go.Gar
set_option maxRecDepth 4000
abbrev Bg : List Nat:=[0,1,2,3,4,5,6,10,32]
theorem RU (n c : Int) : Go.Gar.Fn Tryz.prog 180 [.ifc 224 (.agg #[.int .i64 n]),.i .i64 c] (.i .i64 n):=by
 refine zF A6 Tryz.func180 ?_;refine wk [0,1,4,5,6,12] [] A0 A0 ?_;exact zE
theorem Cq (H : List A5) : LA Tryz.prog 276 [.ptr 0 0 1,.ptr 1 0 1] H .returning H:=by
 refine Io Tryz.func276 rfl rfl (Nat.le_of_ble_eq_true rfl) fun c0 cs hu => ?_;refine I6 (Is ?_)
 refine cL rfl rfl rfl rfl (.inl ⟨by simp [recoverD,hu],rfl,rfl⟩) ?_;refine Sq A6 rfl rfl rfl rfl ?_ rfl;refine MN ?_;refine I6 (EN ?_);refine Kq A6 rfl rfl rfl rfl ?_ rfl;refine Kn A6 rfl rfl rfl rfl ?_;refine Ck ?_;refine ML rfl (Ut ?_);exact ⟨.returning,by rw [← hu],rfl,_,A3.refl _,Nat.le_refl _,rfl⟩
theorem YH (x y : AV) (n : Int) : LA Tryz.prog 276 [.ptr 0 0 1,.ptr 1 0 1] [.c [x],.c [y]] (.panicking (pF n)) [.c [.e0],.c [.d (.i .i64 n)]]:=by
 have hc:=RU n 2;refine Io Tryz.func276 rfl rfl (Nat.le_of_ble_eq_true rfl) fun c0 cs hu => ?_
 refine I6 (Is ?_);refine cL (cs':={ c0 with mode:=.panicking [{ v:=.iface 224 (.agg #[.int .i64 n]),recovered:=true }] } :: cs) rfl rfl rfl rfl (.inr ⟨224,.agg #[.int .i64 n],by simp [recoverD,hu,pF],rfl⟩) ?_;refine Sq A6 rfl rfl rfl rfl ?_ rfl;refine MN ?_;refine I6 (EN ?_);refine Kq A6 rfl rfl rfl rfl ?_ rfl;refine Kn A6 rfl rfl rfl rfl ?_;refine Ck ?_;refine ML rfl (EN ?_);refine Kq A6 rfl rfl rfl rfl ?_ rfl;refine KF hc rfl rfl rfl rfl (by simp [Ho,Bt,BN]) rfl rfl ?_;refine Kw A6 rfl rfl rfl rfl ?_ rfl;refine Kw A6 rfl rfl rfl rfl ?_ rfl;refine Ck ?_;exact ⟨_,rfl,rfl,_,A3.refl _,Nat.le_refl _,rfl⟩
def iJ : List (D × AV):=[(.i .u8 4,.fn (.func 320) [] [.ptr 3 0 1,.ptr 2 0 15]),(.i .u8 5,.fn (.func 322) [] [.ptr 3 0 1,.ptr 2 0 15]),(.i .u8 6,.fn (.func 324) [] [.ptr 3 0 1,.ptr 2 0 15]),(.i .u8 7,.fn (.func 326) [] [.ptr 3 0 1,.ptr 2 0 15]),
 (.i .u8 10,.fn (.func 328) [] [.ptr 3 0 1,.ptr 2 0 15]),(.i .u8 11,.fn (.func 329) [] [.ptr 3 0 1,.ptr 2 0 15]),(.i .u8 12,.fn (.func 330) [] [.ptr 3 0 1,.ptr 2 0 15])]
theorem Ul (m : A8) (o : List UInt8) : Ao Tryz.prog 278 [.d m.d,.ptr 0 0 1] (wH o) (.mp 4) [.c [.sl 1 o.length 1],.a (.by o),.c (mC m),.c [.ptr 0 0 1],.m iJ]:=by
 refine zD A6 Tryz.func278 ?_;unfold wH iJ mC A8.d A8.cells;refine wk [0,1,2,3,4] [] A0 A0 ?_;exact ⟨_,A3.refl _,Nat.le_of_ble_eq_true rfl,_,_,rfl,rfl,rfl,rfl⟩
theorem LA.at {P : Program} {f : FuncId} {args : List AV} {H : List A5} {u : FrameMode} {H' : List A5} (ids : List Nat) (h : LA P f args H u H') {xs : List AV} {H2 H3 : List A5} (hx : AV.Cf (rn ids H2.length) args = xs) (hn : nodupB ids = true) (hm : CZ (rn ids H2.length) H2 ids H) (ho : Ag H.length H = true) (ha : AV.oks H.length args = true) (hH : MD ids H2 (ES (rn ids H2.length) H') = H3) : LA P f xs H2 u H3:=by
 subst hx;subst hH;exact h.ren ids hn hm ho ha
theorem TB (m : A8) (hl : m.list.length < 9223372036854775807) (h : m.right = false) : Ao Tryz.prog 195 [.d m.d] [] (.tup [.e0,.d (.i .i64 2)]) [.gone,.c [.e0],.c [.d (.i .i64 2)]]:=by
 have hR:=Ff m hl;rw [h] at hR;unfold A8.d A8.cells at *;refine E2 (g:=276) (xs:=[.ptr 1 0 1,.ptr 2 0 1]) A6 Tryz.func195 rfl rfl (Nat.le_of_ble_eq_true rfl) ?_;refine Ka A6 rfl rfl rfl rfl rfl ?_ rfl;refine Ka A6 rfl rfl rfl rfl rfl ?_ rfl;refine Ka A6 rfl rfl rfl rfl rfl ?_ rfl;refine Ck ?_;refine Fq A6 rfl rfl rfl rfl ?_ rfl;refine DJ rfl rfl rfl rfl rfl rfl ⟨_,Tryz.func276,rfl,rfl⟩ rfl ?_;refine wx Bg [] [] A0 (AF @hR) ?_;refine ⟨_,LA.at [1,2] (YH .e0 (.d (.i .i64 0)) 2) rfl rfl ⟨rfl,rfl,trivial⟩ rfl rfl rfl,?_⟩;exact ⟨⟨[(2,.ptr 1 0 1),(3,.ptr 2 0 1)],[.gone,.c [.e0],.c [.d (.i .i64 2)]],Tryz.f195.ntmps⟩,(A3.ck rfl),Nat.zero_le _,_,_,rfl,rfl,rfl,rfl⟩
def Ay (m : A8) : List UInt8:=A9 [m.kind,m.call,m.src,m.dst] ++ BC m
variable {n : Int}
theorem CR (h : 0 ≤ n ∧ n ≤ 1099511627776) : fits n = true:=by simp [fits];omega
theorem BG (h : B7 n = true) : fits n = true:=CR (by have:=Dj h;omega)
theorem Rp (h : isVal n = true) : fits n = true:=CR (by simp [isVal] at h;omega)
theorem F4 {x : Item} (h : AU x = true) : x.key.length ≤ 255 ∧ fits x.value = true ∧ fits x.version = true:=by
 simp only [AU,Bool.and_eq_true] at h;refine ⟨?_,Rp h.1.2,Rp h.2⟩;have:=h.1.1;simp [B2] at this;omega
theorem FO {m : A8} (h : m.right = true) : (1 ≤ m.kind ∧ m.kind < 13) ∧ (B7 m.src = true ∧ B7 m.dst = true) ∧ m.src ≠ m.dst ∧ (m.asker * 1048576 + 1 ≤ m.call ∧ m.call < m.asker * 1048576 + 1 + 1048576) ∧ m.bare = m.empty ∧ m.has = true:=by
 simp only [A8.right,A8.IL,Bool.and_eq_true,decide_eq_true_eq] at h;obtain ⟨⟨⟨⟨⟨⟨⟨h1,h2⟩,h3⟩,h4⟩,h5⟩,h6⟩,h7⟩,h8,h9⟩:=h;exact ⟨⟨h1,h2⟩,⟨h3,h4⟩,h5,⟨h6,h7⟩,h8,h9⟩
theorem IS {l : List Int} {s : Int} (h : ED l s = true) : l.length ≤ 3 ∧ l.all fits = true:=by
 simp only [ED,EJ,Bool.and_eq_true,decide_eq_true_eq] at h;refine ⟨h.2,?_⟩;rw [List.all_eq_true] at *;intro x hx;have:=h.1.1 x hx;simp only [Bool.and_eq_true] at this;exact BG this.1
theorem KG {m : A8} (h : m.right = true) : 0 ≤ m.asker ∧ m.asker < 65536:=by
 obtain ⟨_,⟨h1,h2⟩,_⟩:=FO h;unfold A8.asker;split
 ·exact Dj h1
 ·exact Dj h2
theorem R8 (m : A8) (hl : m.list.length < 9223372036854775807) (h : m.right = true) : Ao Tryz.prog 195 [.d m.d] [] (.tup [.sl 4 (Ay m).length 1,.d (.i .i64 0)]) [.gone,.c [.sl 4 (Ay m).length 1],.c [.d (.i .i64 0)],.gone,.a (.by (Ay m))]:=by
 have hR:=Ff m hl;rw [h] at hR;obtain ⟨⟨k1,k2⟩,⟨p1,p2⟩,_,⟨c1,c2⟩,hb,hh⟩:=FO h;have ha:=KG h;have hput:=Hd [m.kind,m.call,m.src,m.dst] [] (by simp only [List.all_cons,List.all_nil,Bool.and_true,BG p1,BG p2,CR (n:=m.kind) (by omega),CR (n:=m.call) (by omega)]) (by simp) (by simp);have hw:=Ul m ([] ++ A9 [m.kind,m.call,m.src,m.dst]);have hlen:=Dx [m.kind,m.call,m.src,m.dst] (by simp only [List.all_cons,List.all_nil,Bool.and_true,BG p1,BG p2,CR (n:=m.kind) (by omega),CR (n:=m.call) (by omega)]);simp only [List.length_cons,List.length_nil] at hlen;refine E2 (g:=276) (xs:=[.ptr 1 0 1,.ptr 2 0 1]) A6 Tryz.func195 rfl rfl (Nat.le_of_ble_eq_true rfl) ?_;refine Ka A6 rfl rfl rfl rfl rfl ?_ rfl;refine Ka A6 rfl rfl rfl rfl rfl ?_ rfl;refine Ka A6 rfl rfl rfl rfl rfl ?_ rfl;refine Ck ?_;refine Fq A6 rfl rfl rfl rfl ?_ rfl;refine DJ rfl rfl rfl rfl rfl rfl ⟨_,Tryz.func276,rfl,rfl⟩ rfl ?_;unfold wH at *;refine wx Bg [5] [] A0 (AF @hR) ?_;refine Ap (A3.EO 3 0 (.by []) rfl rfl rfl rfl trivial) (by simp) ?_;obtain ⟨k,c,s,d,ky,sl,dn,pl,pr,l,⟨ik,iv,ir,ig⟩,co⟩:=m;simp only [mC,iJ] at *;have hkind : k = 1 ∨ k = 2 ∨ k = 3 ∨ k = 4 ∨ k = 5 ∨ k = 6 ∨ k = 7 ∨ k = 8 ∨ k = 9 ∨ k = 10 ∨ k = 11 ∨ k = 12:=by omega
 clear hR h hb k1 k2;rcases hkind with rfl | rfl | rfl | rfl | rfl | rfl | rfl | rfl | rfl | rfl | rfl | rfl
 ·have hfin : True:=trivial;have d1:=Ds.mk [3,4] (hput);have d2:=Ds.mk [3,4] (hw);refine wd Bg [] [(2,1),(3,1)] A0 A0 ?_;clear d2 d1;refine ⟨_,LA.at [1,2,4] (Cq [.c [.sl 2 _ 1],.c [.d (.i .i64 0)],.a (.by _)]) rfl rfl ⟨rfl,rfl,rfl,trivial⟩ rfl rfl (by simp only [FH,Nat.reduceAdd];rfl),?_⟩;refine ⟨⟨[(2,.ptr 1 0 1),(3,.ptr 2 0 1)],[.gone,.c [.sl 4 (Ay ⟨1,c,s,d,ky,sl,dn,pl,pr,l,⟨ik,iv,ir,ig⟩,co⟩).length 1],.c [.d (.i .i64 0)],.gone,.a (.by (Ay ⟨1,c,s,d,ky,sl,dn,pl,pr,l,⟨ik,iv,ir,ig⟩,co⟩))],Tryz.f195.ntmps⟩,?_,Nat.zero_le _,_,_,rfl,rfl,rfl,rfl⟩;exact (have nC:=And.intro @Ay.eq_1 (And.intro @BC.eq_1 hfin);A3.co rfl)
 ·have hfin : True:=trivial;have d1:=Ds.mk [3,4] (hput);have d2:=Ds.mk [3,4] (hw);refine wd Bg [] [(2,1),(3,1)] A0 A0 ?_;clear d2 d1;refine ⟨_,LA.at [1,2,4] (Cq [.c [.sl 2 _ 1],.c [.d (.i .i64 0)],.a (.by _)]) rfl rfl ⟨rfl,rfl,rfl,trivial⟩ rfl rfl (by simp only [FH,Nat.reduceAdd];rfl),?_⟩;refine ⟨⟨[(2,.ptr 1 0 1),(3,.ptr 2 0 1)],[.gone,.c [.sl 4 (Ay ⟨2,c,s,d,ky,sl,dn,pl,pr,l,⟨ik,iv,ir,ig⟩,co⟩).length 1],.c [.d (.i .i64 0)],.gone,.a (.by (Ay ⟨2,c,s,d,ky,sl,dn,pl,pr,l,⟨ik,iv,ir,ig⟩,co⟩))],Tryz.f195.ntmps⟩,?_,Nat.zero_le _,_,_,rfl,rfl,rfl,rfl⟩;exact (have nC:=And.intro @Ay.eq_1 (And.intro @BC.eq_1 hfin);A3.co rfl)
 ·have hfin : True:=trivial;have d1:=Ds.mk [3,4] (hput);have d2:=Ds.mk [3,4] (hw);refine wd Bg [] [(2,1),(3,1)] A0 A0 ?_;clear d2 d1;refine ⟨_,LA.at [1,2,4] (Cq [.c [.sl 2 _ 1],.c [.d (.i .i64 0)],.a (.by _)]) rfl rfl ⟨rfl,rfl,rfl,trivial⟩ rfl rfl (by simp only [FH,Nat.reduceAdd];rfl),?_⟩;refine ⟨⟨[(2,.ptr 1 0 1),(3,.ptr 2 0 1)],[.gone,.c [.sl 4 (Ay ⟨3,c,s,d,ky,sl,dn,pl,pr,l,⟨ik,iv,ir,ig⟩,co⟩).length 1],.c [.d (.i .i64 0)],.gone,.a (.by (Ay ⟨3,c,s,d,ky,sl,dn,pl,pr,l,⟨ik,iv,ir,ig⟩,co⟩))],Tryz.f195.ntmps⟩,?_,Nat.zero_le _,_,_,rfl,rfl,rfl,rfl⟩;exact (have nC:=And.intro @Ay.eq_1 (And.intro @BC.eq_1 hfin);A3.co rfl)
 ·have hfin : True:=trivial;simp [A8.has] at hh;have hk:=j9 ⟨4,c,s,d,ky,sl,dn,pl,pr,l,⟨ik,iv,ir,ig⟩,co⟩ ([] ++ A9 [4,c,s,d]) (BG hh) (by simp only [List.nil_append];omega);unfold kH at hk;simp only [mC] at hk;have d1:=Ds.mk [3,4] (hput);have d2:=Ds.mk [3,4] (hw);have d3:=Ds.mk [6,5,3,4] (hk);refine wd Bg [] [(2,1),(3,1)] A0 A0 ?_;clear d3 d2 d1;refine ⟨_,LA.at [1,2,4] (Cq [.c [.sl 2 _ 1],.c [.d (.i .i64 0)],.a (.by _)]) rfl rfl ⟨rfl,rfl,rfl,trivial⟩ rfl rfl (by simp only [FH,Nat.reduceAdd];rfl),?_⟩;refine ⟨⟨[(2,.ptr 1 0 1),(3,.ptr 2 0 1)],[.gone,.c [.sl 4 (Ay ⟨4,c,s,d,ky,sl,dn,pl,pr,l,⟨ik,iv,ir,ig⟩,co⟩).length 1],.c [.d (.i .i64 0)],.gone,.a (.by (Ay ⟨4,c,s,d,ky,sl,dn,pl,pr,l,⟨ik,iv,ir,ig⟩,co⟩))],Tryz.f195.ntmps⟩,?_,Nat.zero_le _,_,_,rfl,rfl,rfl,rfl⟩;exact (have nC:=And.intro @Ay.eq_1 (And.intro @BC.eq_1 hfin);A3.co rfl)
 ·have hfin : True:=trivial;simp [A8.has] at hh;obtain ⟨a1,a2,a3⟩:=F4 hh;have hk:=jA ⟨5,c,s,d,ky,sl,dn,pl,pr,l,⟨ik,iv,ir,ig⟩,co⟩ ([] ++ A9 [5,c,s,d]) a1 a2 a3 (by simp only [List.nil_append];omega);unfold kH at hk;simp only [mC] at hk;have d1:=Ds.mk [3,4] (hput);have d2:=Ds.mk [3,4] (hw);have d3:=Ds.mk [6,5,3,4] (hk);refine wd Bg [] [(2,1),(3,1)] A0 A0 ?_;clear d3 d2 d1;refine ⟨_,LA.at [1,2,4] (Cq [.c [.sl 2 _ 1],.c [.d (.i .i64 0)],.a (.by _)]) rfl rfl ⟨rfl,rfl,rfl,trivial⟩ rfl rfl (by simp only [FH,Nat.reduceAdd];rfl),?_⟩;refine ⟨⟨[(2,.ptr 1 0 1),(3,.ptr 2 0 1)],[.gone,.c [.sl 4 (Ay ⟨5,c,s,d,ky,sl,dn,pl,pr,l,⟨ik,iv,ir,ig⟩,co⟩).length 1],.c [.d (.i .i64 0)],.gone,.a (.by (Ay ⟨5,c,s,d,ky,sl,dn,pl,pr,l,⟨ik,iv,ir,ig⟩,co⟩))],Tryz.f195.ntmps⟩,?_,Nat.zero_le _,_,_,rfl,rfl,rfl,rfl⟩;exact (have nC:=And.intro @Ay.eq_1 (And.intro @BC.eq_1 hfin);A3.co rfl)
 ·have hfin : True:=trivial;simp [A8.has] at hh;obtain ⟨a1,a2,a3⟩:=F4 hh.1;have hk:=jB ⟨6,c,s,d,ky,sl,dn,pl,pr,l,⟨ik,iv,ir,ig⟩,co⟩ ([] ++ A9 [6,c,s,d]) a1 (by simp only [List.nil_append];omega);unfold kH at hk;simp only [mC] at hk;have d1:=Ds.mk [3,4] (hput);have d2:=Ds.mk [3,4] (hw);have d3:=Ds.mk [6,5,3,4] (hk);refine wd Bg [] [(2,1),(3,1)] A0 A0 ?_;clear d3 d2 d1;refine ⟨_,LA.at [1,2,4] (Cq [.c [.sl 2 _ 1],.c [.d (.i .i64 0)],.a (.by _)]) rfl rfl ⟨rfl,rfl,rfl,trivial⟩ rfl rfl (by simp only [FH,Nat.reduceAdd];rfl),?_⟩;refine ⟨⟨[(2,.ptr 1 0 1),(3,.ptr 2 0 1)],[.gone,.c [.sl 4 (Ay ⟨6,c,s,d,ky,sl,dn,pl,pr,l,⟨ik,iv,ir,ig⟩,co⟩).length 1],.c [.d (.i .i64 0)],.gone,.a (.by (Ay ⟨6,c,s,d,ky,sl,dn,pl,pr,l,⟨ik,iv,ir,ig⟩,co⟩))],Tryz.f195.ntmps⟩,?_,Nat.zero_le _,_,_,rfl,rfl,rfl,rfl⟩;exact (have nC:=And.intro @Ay.eq_1 (And.intro @BC.eq_1 hfin);A3.co rfl)
 ·have hfin : True:=trivial;simp [A8.has] at hh
  have hf : fits (pr + 1) = true:=by
   rcases hh.1 with h | h
   ·subst h;rfl
   ·exact CR (by have:=Dj h;omega)
  have hL:=IS hh.2;have hk:=jF ⟨7,c,s,d,ky,sl,dn,pl,pr,l,⟨ik,iv,ir,ig⟩,co⟩ ([] ++ A9 [7,c,s,d]) hf (Nat.le_trans hL.1 (by decide)) hL.2 (by simp only [List.nil_append];omega);unfold kH at hk;simp only [mC] at hk;have d1:=Ds.mk [3,4] (hput);have d2:=Ds.mk [3,4] (hw);have d3:=Ds.mk [6,5,3,4] (hk);refine wd Bg [] [(2,1),(3,1)] A0 A0 ?_;clear d3 d2 d1;refine ⟨_,LA.at [1,2,4] (Cq [.c [.sl 2 _ 1],.c [.d (.i .i64 0)],.a (.by _)]) rfl rfl ⟨rfl,rfl,rfl,trivial⟩ rfl rfl (by simp only [FH,Nat.reduceAdd];rfl),?_⟩;refine ⟨⟨[(2,.ptr 1 0 1),(3,.ptr 2 0 1)],[.gone,.c [.sl 4 (Ay ⟨7,c,s,d,ky,sl,dn,pl,pr,l,⟨ik,iv,ir,ig⟩,co⟩).length 1],.c [.d (.i .i64 0)],.gone,.a (.by (Ay ⟨7,c,s,d,ky,sl,dn,pl,pr,l,⟨ik,iv,ir,ig⟩,co⟩))],Tryz.f195.ntmps⟩,?_,Nat.zero_le _,_,_,rfl,rfl,rfl,rfl⟩;exact (have nC:=And.intro @Ay.eq_1 (And.intro @BC.eq_1 hfin);A3.co rfl)
 ·have hfin : True:=trivial;have d1:=Ds.mk [3,4] (hput);have d2:=Ds.mk [3,4] (hw);refine wd Bg [] [(2,1),(3,1)] A0 A0 ?_;clear d2 d1;refine ⟨_,LA.at [1,2,4] (Cq [.c [.sl 2 _ 1],.c [.d (.i .i64 0)],.a (.by _)]) rfl rfl ⟨rfl,rfl,rfl,trivial⟩ rfl rfl (by simp only [FH,Nat.reduceAdd];rfl),?_⟩;refine ⟨⟨[(2,.ptr 1 0 1),(3,.ptr 2 0 1)],[.gone,.c [.sl 4 (Ay ⟨8,c,s,d,ky,sl,dn,pl,pr,l,⟨ik,iv,ir,ig⟩,co⟩).length 1],.c [.d (.i .i64 0)],.gone,.a (.by (Ay ⟨8,c,s,d,ky,sl,dn,pl,pr,l,⟨ik,iv,ir,ig⟩,co⟩))],Tryz.f195.ntmps⟩,?_,Nat.zero_le _,_,_,rfl,rfl,rfl,rfl⟩;exact (have nC:=And.intro @Ay.eq_1 (And.intro @BC.eq_1 hfin);A3.co rfl)
 ·have hfin : True:=trivial;have d1:=Ds.mk [3,4] (hput);have d2:=Ds.mk [3,4] (hw);refine wd Bg [] [(2,1),(3,1)] A0 A0 ?_;clear d2 d1;refine ⟨_,LA.at [1,2,4] (Cq [.c [.sl 2 _ 1],.c [.d (.i .i64 0)],.a (.by _)]) rfl rfl ⟨rfl,rfl,rfl,trivial⟩ rfl rfl (by simp only [FH,Nat.reduceAdd];rfl),?_⟩;refine ⟨⟨[(2,.ptr 1 0 1),(3,.ptr 2 0 1)],[.gone,.c [.sl 4 (Ay ⟨9,c,s,d,ky,sl,dn,pl,pr,l,⟨ik,iv,ir,ig⟩,co⟩).length 1],.c [.d (.i .i64 0)],.gone,.a (.by (Ay ⟨9,c,s,d,ky,sl,dn,pl,pr,l,⟨ik,iv,ir,ig⟩,co⟩))],Tryz.f195.ntmps⟩,?_,Nat.zero_le _,_,_,rfl,rfl,rfl,rfl⟩;exact (have nC:=And.intro @Ay.eq_1 (And.intro @BC.eq_1 hfin);A3.co rfl)
 ·have hfin : True:=trivial;simp [A8.has] at hh;have hk:=jG ⟨10,c,s,d,ky,sl,dn,pl,pr,l,⟨ik,iv,ir,ig⟩,co⟩ ([] ++ A9 [10,c,s,d]) (BG hh) (by simp only [List.nil_append];omega);unfold kH at hk;simp only [mC] at hk;have d1:=Ds.mk [3,4] (hput);have d2:=Ds.mk [3,4] (hw);have d3:=Ds.mk [6,5,3,4] (hk);refine wd Bg [] [(2,1),(3,1)] A0 A0 ?_;clear d3 d2 d1;refine ⟨_,LA.at [1,2,4] (Cq [.c [.sl 2 _ 1],.c [.d (.i .i64 0)],.a (.by _)]) rfl rfl ⟨rfl,rfl,rfl,trivial⟩ rfl rfl (by simp only [FH,Nat.reduceAdd];rfl),?_⟩;refine ⟨⟨[(2,.ptr 1 0 1),(3,.ptr 2 0 1)],[.gone,.c [.sl 4 (Ay ⟨10,c,s,d,ky,sl,dn,pl,pr,l,⟨ik,iv,ir,ig⟩,co⟩).length 1],.c [.d (.i .i64 0)],.gone,.a (.by (Ay ⟨10,c,s,d,ky,sl,dn,pl,pr,l,⟨ik,iv,ir,ig⟩,co⟩))],Tryz.f195.ntmps⟩,?_,Nat.zero_le _,_,_,rfl,rfl,rfl,rfl⟩;exact (have nC:=And.intro @Ay.eq_1 (And.intro @BC.eq_1 hfin);A3.co rfl)
 ·have hfin : True:=trivial;simp [A8.has] at hh;have hk:=jH ⟨11,c,s,d,ky,sl,dn,pl,pr,l,⟨ik,iv,ir,ig⟩,co⟩ ([] ++ A9 [11,c,s,d]) (by rcases hh with h | h <;> subst h <;> rfl) (by simp only [List.nil_append];omega);unfold kH at hk;simp only [mC] at hk;have d1:=Ds.mk [3,4] (hput);have d2:=Ds.mk [3,4] (hw);have d3:=Ds.mk [6,5,3,4] (hk);refine wd Bg [] [(2,1),(3,1)] A0 A0 ?_;clear d3 d2 d1;refine ⟨_,LA.at [1,2,4] (Cq [.c [.sl 2 _ 1],.c [.d (.i .i64 0)],.a (.by _)]) rfl rfl ⟨rfl,rfl,rfl,trivial⟩ rfl rfl (by simp only [FH,Nat.reduceAdd];rfl),?_⟩;refine ⟨⟨[(2,.ptr 1 0 1),(3,.ptr 2 0 1)],[.gone,.c [.sl 4 (Ay ⟨11,c,s,d,ky,sl,dn,pl,pr,l,⟨ik,iv,ir,ig⟩,co⟩).length 1],.c [.d (.i .i64 0)],.gone,.a (.by (Ay ⟨11,c,s,d,ky,sl,dn,pl,pr,l,⟨ik,iv,ir,ig⟩,co⟩))],Tryz.f195.ntmps⟩,?_,Nat.zero_le _,_,_,rfl,rfl,rfl,rfl⟩;exact (have nC:=And.intro @Ay.eq_1 (And.intro @BC.eq_1 hfin);A3.co rfl)
 ·have hfin : True:=trivial;simp [A8.has] at hh
  have hf : fits co = true:=by
   rcases hh with h | h
   ·rw [h.1];rfl
   ·rw [h.1];rfl
  have hI : co = 0 → AU ⟨ik,iv,ir,ig⟩ = true:=fun h => by
   rcases hh with h2 | h2
   ·exact h2.2
   ·exact absurd (h2.1.symm.trans h) (by decide)
  have hk:=jI ⟨12,c,s,d,ky,sl,dn,pl,pr,l,⟨ik,iv,ir,ig⟩,co⟩ ([] ++ A9 [12,c,s,d]) hf (fun h => F4 (hI h)) (by simp only [List.nil_append];omega);unfold kH at hk;simp only [mC] at hk;have d1:=Ds.mk [3,4] (hput);have d2:=Ds.mk [3,4] (hw);have d3:=Ds.mk [6,5,3,4] (hk);refine wd Bg [] [(2,1),(3,1)] A0 A0 ?_;clear d3 d2 d1;refine ⟨_,LA.at [1,2,4] (Cq [.c [.sl 2 _ 1],.c [.d (.i .i64 0)],.a (.by _)]) rfl rfl ⟨rfl,rfl,rfl,trivial⟩ rfl rfl (by simp only [FH,Nat.reduceAdd];rfl),?_⟩;refine ⟨⟨[(2,.ptr 1 0 1),(3,.ptr 2 0 1)],[.gone,.c [.sl 4 (Ay ⟨12,c,s,d,ky,sl,dn,pl,pr,l,⟨ik,iv,ir,ig⟩,co⟩).length 1],.c [.d (.i .i64 0)],.gone,.a (.by (Ay ⟨12,c,s,d,ky,sl,dn,pl,pr,l,⟨ik,iv,ir,ig⟩,co⟩))],Tryz.f195.ntmps⟩,?_,Nat.zero_le _,_,_,rfl,rfl,rfl,rfl⟩;exact (have nC:=And.intro @Ay.eq_1 (And.intro @BC.eq_1 hfin);A3.co rfl)
end Wi
end Go.Proofs.YtkljbfejbakooaaGreatDoor
namespace Go.Proofs.YtkljbfejbakooaaGreatDoor
namespace Nd
open Go.Gar
open Wi (A8 B7 AU AC B2)
set_option maxRecDepth 4000
abbrev Qv : List Nat:=[0,1,2,3,6,7,8,10,25]
def jS (a i : Int) : Int:=if 0 ≤ i ∧ i < 16 then Bj (Bj a + 2 ^ i.toNat) else Bj a
theorem Wg (a i : Int) : Go.Gar.Fn Tryz.prog 173 [.i .i64 a,.i .i64 i] (.i .i64 (jS a i)):=by
 have c1:=E4 a;have hp:=IX a;refine zF A6 Tryz.func173 ?_
 by_cases hi : 0 ≤ i ∧ i < 16
 ·have hT : jS a i = Bj (Bj a + 2 ^ i.toNat):=if_pos hi;rw [hT];generalize Bj a = p at *;have : i = 0 ∨ i = 1 ∨ i = 2 ∨ i = 3 ∨ i = 4 ∨ i = 5 ∨ i = 6 ∨ i = 7 ∨ i = 8 ∨ i = 9 ∨ i = 10 ∨ i = 11 ∨ i = 12 ∨ i = 13 ∨ i = 14 ∨ i = 15:=by omega
  clear hT hi;rcases this with rfl | rfl | rfl | rfl | rfl | rfl | rfl | rfl | rfl | rfl | rfl | rfl | rfl | rfl | rfl | rfl
  all_goals
   refine wd [0,1,4,10] [] [(3,1),(4,1)] A0 (Aj @c1 @E4) ?_;exact zE
 ·have hT : jS a i = Bj a:=if_neg hi;rw [hT];generalize Bj a = p at *
  by_cases h0 : i < 0
  ·have f1 : decide (i < 0) = true:=decide_eq_true h0;refine wd [0,1,4,10] [] [] (AF f1) (AF @c1) ?_;exact zE
  ·have f1 : decide (i < 0) = false:=decide_eq_false h0;have f2 : decide (i ≥ 16) = true:=decide_eq_true (by omega);refine wd [0,1,4,10] [] [] (Aj f1 f2) (AF @c1) ?_;exact zE
theorem gb (n : Int) : Go.Gar.Fn Tryz.prog 291 [.i .i64 n] (.b (Am n)):=by
 refine zF A6 Tryz.func291 ?_;refine wk [0,2] [] A0 A0 ?_;with_reducible repeat' first|constructor|intro hc;try simp only[AD] at hc
 all_goals (refine ⟨_,_,rfl,rfl,?_⟩;simp only [Bi];refine congrArg D.b ?_;unfold Am;grind)
theorem dE (v : View) (n : Int) : Go.Gar.Fn Tryz.prog 174 [v.d,.i .i64 n] (.i .i64 (if n = v.id then -1 else n)):=by
 obtain ⟨id,base,list,pred,f⟩:=v;refine zF A6 Tryz.func174 ?_
 by_cases h : n = id
 ·have f1:=AS h;rw [if_pos h];refine wk [0,1,2,4,8] [] (AF f1) A0 ?_;exact zE
 ·have f1:=eq_false' h;rw [if_neg h];refine wk [0,1,2,4,8] [] (AF f1) A0 ?_;exact zE
abbrev finD (f : Nat → Int) : D:=.agg [.i .i64 (f 0),.i .i64 (f 1),.i .i64 (f 2),.i .i64 (f 3),.i .i64 (f 4),.i .i64 (f 5),.i .i64 (f 6),.i .i64 (f 7),.i .i64 (f 8),.i .i64 (f 9),.i .i64 (f 10),.i .i64 (f 11),.i .i64 (f 12),.i .i64 (f 13),.i .i64 (f 14),.i .i64 (f 15)]
theorem dH {f g : Nat → Int} (h : EA f = EA g) (k : Nat) (hk : k < 16) : f k = g k:=by
 simp only [EA,List.cons.injEq] at h;obtain ⟨h0,h1,h2,h3,h4,h5,h6,h7,h8,h9,h10,h11,h12,h13,h14,h15,-⟩:=h;rcases aL hk with rfl | rfl | rfl | rfl | rfl | rfl | rfl | rfl | rfl | rfl | rfl | rfl | rfl | rfl | rfl | rfl <;> assumption
theorem ZN (v : View) (g : Nat → Int) (hb : v.base.length ≤ 1000) (hl : v.list.length ≤ 1000) : Go.Gar.Fn Tryz.prog 175 [v.d,finD g] (View.d ⟨v.id,v.base,v.list,v.pred,g⟩):=by
 have c1:=Qs v (by omega) (by omega);have hE:=fE v.f g;obtain ⟨id,base,list,pred,f⟩:=v;dsimp only at *;refine zF A6 Tryz.func175 ?_
 by_cases h : EA f = EA g
 ·rw [decide_eq_true h] at hE;have q:=dH h;refine wk [0,1,2,3,4,5,11] [] (AF hE) (AF @c1) ?_;refine ⟨_,_,rfl,rfl,?_⟩;simp [AR,AB,A7,A4,View.d,View.cells,q 0 (by decide),q 1 (by decide),q 2 (by decide),q 3 (by decide),q 4 (by decide),q 5 (by decide),q 6 (by decide),q 7 (by decide),q 8 (by decide),q 9 (by decide),q 10 (by decide),q 11 (by decide),q 12 (by decide),q 13 (by decide),q 14 (by decide),q 15 (by decide)]
 ·rw [decide_eq_false h] at hE;refine wk [0,1,2,3,4,5,11] [] (AF hE) (AF @c1) ?_;refine ⟨_,_,rfl,rfl,?_⟩;simp [AR,AB,A7,A4,View.d,View.cells]
theorem dD (v : View) (i : Int) (hb : v.base.length ≤ 1000) (hl : v.list.length ≤ 1000) : Go.Gar.Fn Tryz.prog 254 [v.d,.i .i64 i] (.tup [.i .i64 (if decide (0 ≤ i) && (decide (i < 16) && Aw v) then jS v.id i else 0),.i .i64 (if decide (0 ≤ i) && (decide (i < 16) && Aw v) then 0 else 2)]):=by
 have c1:=HA v hb hl;have c2:=Wg v.id i;generalize Aw v = b at *;generalize jS v.id i = z at *;obtain ⟨id,base,list,pred,f⟩:=v;refine zF A6 Tryz.func254 ?_
 by_cases h0 : i < 0
 ·have f1 : decide (i < 0) = true:=decide_eq_true h0;rw [decide_eq_false (show ¬ 0 ≤ i by omega)];have sc : No 3:=trivial;refine wk [0,1,2,4,5,16] [] (AF f1) A0 ?_;clear sc;exact zE
 ·have f1 : decide (i < 0) = false:=decide_eq_false h0;rw [decide_eq_true (show 0 ≤ i by omega)]
  by_cases h1 : i < 16
  ·have f2 : decide (i ≥ 16) = false:=decide_eq_false (by omega);rw [decide_eq_true h1]
   cases b with
   | true =>
    have sc : No 3:=trivial;refine wk [0,1,2,4,5,16] [] (Aj f1 f2) (Aj @c1 @c2) ?_;clear sc;exact zE
   | false =>
    have sc : No 3:=trivial;refine wk [0,1,2,4,5,16] [] (Aj f1 f2) (AF @c1) ?_;clear sc;exact zE
  ·have f2 : decide (i ≥ 16) = true:=decide_eq_true (by omega);rw [decide_eq_false h1];have sc : No 3:=trivial;refine wk [0,1,2,4,5,16] [] (Aj f1 f2) A0 ?_;clear sc;exact zE
theorem VK (v : View) (i n : Int) (hb : v.base.length ≤ 1000) (hl : v.list.length ≤ 1000) : Go.Gar.Fn Tryz.prog 210 [v.d,.i .i64 i,.i .i64 n] (.tup [(Gs v i n).1.d,.i .i64 (Gs v i n).2]):=by
 have c1:=dD v i hb hl;have c2:=gb n;have c3:=dE v n;have c4:=ZN v (bX v.f i.toNat (if n = v.id then -1 else n)) hb hl;have c5:=Qs v (by omega) (by omega);have hT : Gs v i n = if (decide (0 ≤ i) && (decide (i < 16) && Aw v)) && Am n then (⟨v.id,v.base,v.list,v.pred,bX v.f i.toNat (if n = v.id then -1 else n)⟩,0) else (v,2):=rfl
 refine zF A6 Tryz.func210 ?_
 have hi : (decide (0 ≤ i) && (decide (i < 16) && Aw v)) = true → 0 ≤ i ∧ i < 16:=by
  intro h;simp only [Bool.and_eq_true,decide_eq_true_eq] at h;exact ⟨h.1,h.2.1⟩
 generalize (decide (0 ≤ i) && (decide (i < 16) && Aw v)) = b at *;generalize Am n = b2 at *;generalize (if n = v.id then -1 else n) = p at *;generalize jS v.id i = z at *;obtain ⟨id,base,list,pred,f⟩:=v;dsimp only at *
 cases b with
 | false =>
  rw [hT];simp only [Bool.false_eq_true,if_false] at c1;clear hT c4;have sc : No 3:=trivial;refine wk Qv [] A0 (Aj @c1 @c5) ?_;clear sc;refine ⟨_,_,rfl,rfl,?_⟩;simp [AR,AB,A7,A4,View.d,View.cells]
 | true =>
 simp only [if_true] at c1
 cases b2 with
 | false =>
  rw [hT];clear hT c4;have sc : No 3:=trivial;refine wk Qv [] A0 (Dl @c1 @c2 @c5) ?_;clear sc;refine ⟨_,_,rfl,rfl,?_⟩;simp [AR,AB,A7,A4,View.d,View.cells]
 | true =>
  rw [hT];have h:=hi rfl;have : i = 0 ∨ i = 1 ∨ i = 2 ∨ i = 3 ∨ i = 4 ∨ i = 5 ∨ i = 6 ∨ i = 7 ∨ i = 8 ∨ i = 9 ∨ i = 10 ∨ i = 11 ∨ i = 12 ∨ i = 13 ∨ i = 14 ∨ i = 15:=by omega
  clear hT hi h c5;rcases this with rfl | rfl | rfl | rfl | rfl | rfl | rfl | rfl | rfl | rfl | rfl | rfl | rfl | rfl | rfl | rfl
  all_goals
   have sc : No 3:=trivial;refine wk Qv [] A0 (M9 @c1 @c2 @c3 @c4) ?_;clear sc;refine ⟨_,_,rfl,rfl,?_⟩;simp [AR,AB,A7,A4,View.d,View.cells]
end Nd
end Go.Proofs.YtkljbfejbakooaaGreatDoor
