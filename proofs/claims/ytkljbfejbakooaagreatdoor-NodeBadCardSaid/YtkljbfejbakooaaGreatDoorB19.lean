/- Part 19 of a proof, put together by a program. Conditions: none beyond those that a theorem states. -/
import Derived.Test.YtkljbfejbakooaaGreatDoorB16
import Derived.Test.YtkljbfejbakooaaGreatDoorB18
set_option linter.unusedSimpArgs false
set_option linter.unusedVariables false
set_option linter.unnecessarySimpa false
set_option maxHeartbeats 40000000
namespace Go.Proofs.YtkljbfejbakooaaGreatDoor
namespace Wi
open Go.Gar
set_option maxRecDepth 4000
abbrev BL : List Nat:=[0,1,2,3,4,5,6,10,32]
theorem PF (n c : Int) : Go.Gar.Fn Tryz.prog 180 [.ifc 224 (.agg #[.int .i64 n]),.i .i64 c] (.i .i64 n):=by
 refine zF A6 Tryz.func180 ?_;refine wk [0,1,4,5,6,12] [] A0 A0 ?_;exact zE
theorem CO (H : List A2) : JY Tryz.prog 276 [.ptr 0 0 1,.ptr 1 0 1] H .returning H:=by
 refine HW Tryz.func276 rfl rfl (Nat.le_of_ble_eq_true rfl) fun c0 cs hu => ?_;refine Gu (HZ ?_)
 refine YN rfl rfl rfl rfl (.inl ⟨by simp [recoverD,hu],rfl,rfl⟩) ?_;refine Sq A6 rfl rfl rfl rfl ?_ rfl;refine Kg ?_;refine Gu (Dm ?_);refine Kq A6 rfl rfl rfl rfl ?_ rfl;refine Kn A6 rfl rfl rfl rfl ?_;refine CJ ?_;refine Ke rfl (SR ?_);exact ⟨.returning,by rw [← hu],rfl,_,A1.refl _,Nat.le_refl _,rfl⟩
theorem VO (x y : AV) (n : Int) : JY Tryz.prog 276 [.ptr 0 0 1,.ptr 1 0 1] [.c [x],.c [y]] (.panicking (pF n)) [.c [.e0],.c [.d (.i .i64 n)]]:=by
 have hc:=PF n 2;refine HW Tryz.func276 rfl rfl (Nat.le_of_ble_eq_true rfl) fun c0 cs hu => ?_
 refine Gu (HZ ?_);refine YN (cs':={ c0 with mode:=.panicking [{ v:=.iface 224 (.agg #[.int .i64 n]),recovered:=true }] } :: cs) rfl rfl rfl rfl (.inr ⟨224,.agg #[.int .i64 n],by simp [recoverD,hu,pF],rfl⟩) ?_;refine Sq A6 rfl rfl rfl rfl ?_ rfl;refine Kg ?_;refine Gu (Dm ?_);refine Kq A6 rfl rfl rfl rfl ?_ rfl;refine Kn A6 rfl rfl rfl rfl ?_;refine CJ ?_;refine Ke rfl (Dm ?_);refine Kq A6 rfl rfl rfl rfl ?_ rfl;refine KF hc rfl rfl rfl rfl (by simp [I7,BX,B9]) rfl rfl ?_;refine Kw A6 rfl rfl rfl rfl ?_ rfl;refine Kw A6 rfl rfl rfl rfl ?_ rfl;refine CJ ?_;exact ⟨_,rfl,rfl,_,A1.refl _,Nat.le_refl _,rfl⟩
def bc : List (D × AV):=[(.i .u8 4,.fn (.func 320) [] [.ptr 3 0 1,.ptr 2 0 15]),(.i .u8 5,.fn (.func 322) [] [.ptr 3 0 1,.ptr 2 0 15]),(.i .u8 6,.fn (.func 324) [] [.ptr 3 0 1,.ptr 2 0 15]),(.i .u8 7,.fn (.func 326) [] [.ptr 3 0 1,.ptr 2 0 15]),
 (.i .u8 10,.fn (.func 328) [] [.ptr 3 0 1,.ptr 2 0 15]),(.i .u8 11,.fn (.func 329) [] [.ptr 3 0 1,.ptr 2 0 15]),(.i .u8 12,.fn (.func 330) [] [.ptr 3 0 1,.ptr 2 0 15])]
theorem SJ (m : A8) (o : List UInt8) : B4 Tryz.prog 278 [.d m.d,.ptr 0 0 1] (wH o) (.mp 4) [.c [.sl 1 o.length 1],.a (.by o),.c (mC m),.c [.ptr 0 0 1],.m bc]:=by
 refine zD A6 Tryz.func278 ?_;unfold wH bc mC A8.d A8.cells;refine wk [0,1,2,3,4] [] A0 A0 ?_;exact ⟨_,A1.refl _,Nat.le_of_ble_eq_true rfl,_,_,rfl,rfl,rfl,rfl⟩
theorem JY.at {P : Program} {f : FuncId} {args : List AV} {H : List A2} {u : FrameMode} {H' : List A2} (ids : List Nat) (h : JY P f args H u H') {xs : List AV} {H2 H3 : List A2} (hx : AV.CF (rn ids H2.length) args = xs) (hn : nodupB ids = true) (hm : C6 (rn ids H2.length) H2 ids H) (ho : AY H.length H = true) (ha : AV.oks H.length args = true) (hH : KY ids H2 (Dp (rn ids H2.length) H') = H3) : JY P f xs H2 u H3:=by
 subst hx;subst hH;exact h.ren ids hn hm ho ha
theorem Qg (m : A8) (hl : m.list.length < 9223372036854775807) (h : m.right = false) : B4 Tryz.prog 195 [.d m.d] [] (.tup [.e0,.d (.i .i64 2)]) [.gone,.c [.e0],.c [.d (.i .i64 2)]]:=by
 have hR:=Ex m hl;rw [h] at hR;unfold A8.d A8.cells at *;refine DN (g:=276) (xs:=[.ptr 1 0 1,.ptr 2 0 1]) A6 Tryz.func195 rfl rfl (Nat.le_of_ble_eq_true rfl) ?_;refine Ka A6 rfl rfl rfl rfl rfl ?_ rfl;refine Ka A6 rfl rfl rfl rfl rfl ?_ rfl;refine Ka A6 rfl rfl rfl rfl rfl ?_ rfl;refine CJ ?_;refine Fq A6 rfl rfl rfl rfl ?_ rfl;refine Co rfl rfl rfl rfl rfl rfl ⟨_,Tryz.func276,rfl,rfl⟩ rfl ?_;refine wx BL [] [] A0 (AG @hR) ?_;refine ⟨_,JY.at [1,2] (VO .e0 (.d (.i .i64 0)) 2) rfl rfl ⟨rfl,rfl,trivial⟩ rfl rfl rfl,?_⟩;exact ⟨⟨[(2,.ptr 1 0 1),(3,.ptr 2 0 1)],[.gone,.c [.e0],.c [.d (.i .i64 2)]],Tryz.f195.ntmps⟩,(A1.ck rfl),Nat.zero_le _,_,_,rfl,rfl,rfl,rfl⟩
def Ag (m : A8) : List UInt8:=A5 [m.kind,m.call,m.src,m.dst] ++ Av m
variable {n : Int}
theorem C1 (h : 0 ≤ n ∧ n ≤ 1099511627776) : fits n = true:=by simp [fits];omega
theorem Az (h : B2 n = true) : fits n = true:=C1 (by have:=DG h;omega)
theorem PX (h : isVal n = true) : fits n = true:=C1 (by simp [isVal] at h;omega)
theorem ES {x : Item} (h : Ai x = true) : x.key.length ≤ 255 ∧ fits x.value = true ∧ fits x.version = true:=by
 simp only [Ai,Bool.and_eq_true] at h;refine ⟨?_,PX h.1.2,PX h.2⟩;have:=h.1.1;simp [BN] at this;omega
theorem Ej {m : A8} (h : m.right = true) : (1 ≤ m.kind ∧ m.kind < 13) ∧ (B2 m.src = true ∧ B2 m.dst = true) ∧ m.src ≠ m.dst ∧ (m.asker * 1048576 + 1 ≤ m.call ∧ m.call < m.asker * 1048576 + 1 + 1048576) ∧ m.bare = m.empty ∧ m.has = true:=by
 simp only [A8.right,A8.IP,Bool.and_eq_true,decide_eq_true_eq] at h;obtain ⟨⟨⟨⟨⟨⟨⟨h1,h2⟩,h3⟩,h4⟩,h5⟩,h6⟩,h7⟩,h8,h9⟩:=h;exact ⟨⟨h1,h2⟩,⟨h3,h4⟩,h5,⟨h6,h7⟩,h8,h9⟩
theorem HF {l : List Int} {s : Int} (h : Da l s = true) : l.length ≤ 3 ∧ l.all fits = true:=by
 simp only [Da,Di,Bool.and_eq_true,decide_eq_true_eq] at h;refine ⟨h.2,?_⟩;rw [List.all_eq_true] at *;intro x hx;have:=h.1.1 x hx;simp only [Bool.and_eq_true] at this;exact Az this.1
theorem Im {m : A8} (h : m.right = true) : 0 ≤ m.asker ∧ m.asker < 65536:=by
 obtain ⟨_,⟨h1,h2⟩,_⟩:=Ej h;unfold A8.asker;split
 ·exact DG h1
 ·exact DG h2
theorem Oy (m : A8) (hl : m.list.length < 9223372036854775807) (h : m.right = true) : B4 Tryz.prog 195 [.d m.d] [] (.tup [.sl 4 (Ag m).length 1,.d (.i .i64 0)]) [.gone,.c [.sl 4 (Ag m).length 1],.c [.d (.i .i64 0)],.gone,.a (.by (Ag m))]:=by
 have hR:=Ex m hl;rw [h] at hR;obtain ⟨⟨k1,k2⟩,⟨p1,p2⟩,_,⟨c1,c2⟩,hb,hh⟩:=Ej h;have ha:=Im h;have hput:=GU [m.kind,m.call,m.src,m.dst] [] (by simp only [List.all_cons,List.all_nil,Bool.and_true,Az p1,Az p2,C1 (n:=m.kind) (by omega),C1 (n:=m.call) (by omega)]) (by simp) (by simp);have hw:=SJ m ([] ++ A5 [m.kind,m.call,m.src,m.dst]);have hlen:=DF [m.kind,m.call,m.src,m.dst] (by simp only [List.all_cons,List.all_nil,Bool.and_true,Az p1,Az p2,C1 (n:=m.kind) (by omega),C1 (n:=m.call) (by omega)]);simp only [List.length_cons,List.length_nil] at hlen;refine DN (g:=276) (xs:=[.ptr 1 0 1,.ptr 2 0 1]) A6 Tryz.func195 rfl rfl (Nat.le_of_ble_eq_true rfl) ?_;refine Ka A6 rfl rfl rfl rfl rfl ?_ rfl;refine Ka A6 rfl rfl rfl rfl rfl ?_ rfl;refine Ka A6 rfl rfl rfl rfl rfl ?_ rfl;refine CJ ?_;refine Fq A6 rfl rfl rfl rfl ?_ rfl;refine Co rfl rfl rfl rfl rfl rfl ⟨_,Tryz.func276,rfl,rfl⟩ rfl ?_;unfold wH at *;refine wx BL [5] [] A0 (AG @hR) ?_;refine Bp (A1.W6 3 0 (.by []) rfl rfl rfl rfl trivial) (by simp) ?_;obtain ⟨k,c,s,d,ky,sl,dn,pl,pr,l,⟨ik,iv,ir,ig⟩,co⟩:=m;simp only [mC,bc] at *;have hkind : k = 1 ∨ k = 2 ∨ k = 3 ∨ k = 4 ∨ k = 5 ∨ k = 6 ∨ k = 7 ∨ k = 8 ∨ k = 9 ∨ k = 10 ∨ k = 11 ∨ k = 12:=by omega
 clear hR h hb k1 k2;rcases hkind with rfl | rfl | rfl | rfl | rfl | rfl | rfl | rfl | rfl | rfl | rfl | rfl
 ·have hfin : True:=trivial;have d1:=Ds.mk [3,4] (hput);have d2:=Ds.mk [3,4] (hw);refine wd BL [] [(2,1),(3,1)] A0 A0 ?_;clear d2 d1;refine ⟨_,JY.at [1,2,4] (CO [.c [.sl 2 _ 1],.c [.d (.i .i64 0)],.a (.by _)]) rfl rfl ⟨rfl,rfl,rfl,trivial⟩ rfl rfl (by simp only [Ec,Nat.reduceAdd];rfl),?_⟩;refine ⟨⟨[(2,.ptr 1 0 1),(3,.ptr 2 0 1)],[.gone,.c [.sl 4 (Ag ⟨1,c,s,d,ky,sl,dn,pl,pr,l,⟨ik,iv,ir,ig⟩,co⟩).length 1],.c [.d (.i .i64 0)],.gone,.a (.by (Ag ⟨1,c,s,d,ky,sl,dn,pl,pr,l,⟨ik,iv,ir,ig⟩,co⟩))],Tryz.f195.ntmps⟩,?_,Nat.zero_le _,_,_,rfl,rfl,rfl,rfl⟩;exact (have nC:=And.intro @Ag.eq_1 (And.intro @Av.eq_1 hfin);A1.co rfl)
 ·have hfin : True:=trivial;have d1:=Ds.mk [3,4] (hput);have d2:=Ds.mk [3,4] (hw);refine wd BL [] [(2,1),(3,1)] A0 A0 ?_;clear d2 d1;refine ⟨_,JY.at [1,2,4] (CO [.c [.sl 2 _ 1],.c [.d (.i .i64 0)],.a (.by _)]) rfl rfl ⟨rfl,rfl,rfl,trivial⟩ rfl rfl (by simp only [Ec,Nat.reduceAdd];rfl),?_⟩;refine ⟨⟨[(2,.ptr 1 0 1),(3,.ptr 2 0 1)],[.gone,.c [.sl 4 (Ag ⟨2,c,s,d,ky,sl,dn,pl,pr,l,⟨ik,iv,ir,ig⟩,co⟩).length 1],.c [.d (.i .i64 0)],.gone,.a (.by (Ag ⟨2,c,s,d,ky,sl,dn,pl,pr,l,⟨ik,iv,ir,ig⟩,co⟩))],Tryz.f195.ntmps⟩,?_,Nat.zero_le _,_,_,rfl,rfl,rfl,rfl⟩;exact (have nC:=And.intro @Ag.eq_1 (And.intro @Av.eq_1 hfin);A1.co rfl)
 ·have hfin : True:=trivial;have d1:=Ds.mk [3,4] (hput);have d2:=Ds.mk [3,4] (hw);refine wd BL [] [(2,1),(3,1)] A0 A0 ?_;clear d2 d1;refine ⟨_,JY.at [1,2,4] (CO [.c [.sl 2 _ 1],.c [.d (.i .i64 0)],.a (.by _)]) rfl rfl ⟨rfl,rfl,rfl,trivial⟩ rfl rfl (by simp only [Ec,Nat.reduceAdd];rfl),?_⟩;refine ⟨⟨[(2,.ptr 1 0 1),(3,.ptr 2 0 1)],[.gone,.c [.sl 4 (Ag ⟨3,c,s,d,ky,sl,dn,pl,pr,l,⟨ik,iv,ir,ig⟩,co⟩).length 1],.c [.d (.i .i64 0)],.gone,.a (.by (Ag ⟨3,c,s,d,ky,sl,dn,pl,pr,l,⟨ik,iv,ir,ig⟩,co⟩))],Tryz.f195.ntmps⟩,?_,Nat.zero_le _,_,_,rfl,rfl,rfl,rfl⟩;exact (have nC:=And.intro @Ag.eq_1 (And.intro @Av.eq_1 hfin);A1.co rfl)
 ·have hfin : True:=trivial;simp [A8.has] at hh;have hk:=ca ⟨4,c,s,d,ky,sl,dn,pl,pr,l,⟨ik,iv,ir,ig⟩,co⟩ ([] ++ A5 [4,c,s,d]) (Az hh) (by simp only [List.nil_append];omega);unfold kH at hk;simp only [mC] at hk;have d1:=Ds.mk [3,4] (hput);have d2:=Ds.mk [3,4] (hw);have d3:=Ds.mk [6,5,3,4] (hk);refine wd BL [] [(2,1),(3,1)] A0 A0 ?_;clear d3 d2 d1;refine ⟨_,JY.at [1,2,4] (CO [.c [.sl 2 _ 1],.c [.d (.i .i64 0)],.a (.by _)]) rfl rfl ⟨rfl,rfl,rfl,trivial⟩ rfl rfl (by simp only [Ec,Nat.reduceAdd];rfl),?_⟩;refine ⟨⟨[(2,.ptr 1 0 1),(3,.ptr 2 0 1)],[.gone,.c [.sl 4 (Ag ⟨4,c,s,d,ky,sl,dn,pl,pr,l,⟨ik,iv,ir,ig⟩,co⟩).length 1],.c [.d (.i .i64 0)],.gone,.a (.by (Ag ⟨4,c,s,d,ky,sl,dn,pl,pr,l,⟨ik,iv,ir,ig⟩,co⟩))],Tryz.f195.ntmps⟩,?_,Nat.zero_le _,_,_,rfl,rfl,rfl,rfl⟩;exact (have nC:=And.intro @Ag.eq_1 (And.intro @Av.eq_1 hfin);A1.co rfl)
 ·have hfin : True:=trivial;simp [A8.has] at hh;obtain ⟨a1,a2,a3⟩:=ES hh;have hk:=cb ⟨5,c,s,d,ky,sl,dn,pl,pr,l,⟨ik,iv,ir,ig⟩,co⟩ ([] ++ A5 [5,c,s,d]) a1 a2 a3 (by simp only [List.nil_append];omega);unfold kH at hk;simp only [mC] at hk;have d1:=Ds.mk [3,4] (hput);have d2:=Ds.mk [3,4] (hw);have d3:=Ds.mk [6,5,3,4] (hk);refine wd BL [] [(2,1),(3,1)] A0 A0 ?_;clear d3 d2 d1;refine ⟨_,JY.at [1,2,4] (CO [.c [.sl 2 _ 1],.c [.d (.i .i64 0)],.a (.by _)]) rfl rfl ⟨rfl,rfl,rfl,trivial⟩ rfl rfl (by simp only [Ec,Nat.reduceAdd];rfl),?_⟩;refine ⟨⟨[(2,.ptr 1 0 1),(3,.ptr 2 0 1)],[.gone,.c [.sl 4 (Ag ⟨5,c,s,d,ky,sl,dn,pl,pr,l,⟨ik,iv,ir,ig⟩,co⟩).length 1],.c [.d (.i .i64 0)],.gone,.a (.by (Ag ⟨5,c,s,d,ky,sl,dn,pl,pr,l,⟨ik,iv,ir,ig⟩,co⟩))],Tryz.f195.ntmps⟩,?_,Nat.zero_le _,_,_,rfl,rfl,rfl,rfl⟩;exact (have nC:=And.intro @Ag.eq_1 (And.intro @Av.eq_1 hfin);A1.co rfl)
 ·have hfin : True:=trivial;simp [A8.has] at hh;obtain ⟨a1,a2,a3⟩:=ES hh.1;have hk:=cd ⟨6,c,s,d,ky,sl,dn,pl,pr,l,⟨ik,iv,ir,ig⟩,co⟩ ([] ++ A5 [6,c,s,d]) a1 (by simp only [List.nil_append];omega);unfold kH at hk;simp only [mC] at hk;have d1:=Ds.mk [3,4] (hput);have d2:=Ds.mk [3,4] (hw);have d3:=Ds.mk [6,5,3,4] (hk);refine wd BL [] [(2,1),(3,1)] A0 A0 ?_;clear d3 d2 d1;refine ⟨_,JY.at [1,2,4] (CO [.c [.sl 2 _ 1],.c [.d (.i .i64 0)],.a (.by _)]) rfl rfl ⟨rfl,rfl,rfl,trivial⟩ rfl rfl (by simp only [Ec,Nat.reduceAdd];rfl),?_⟩;refine ⟨⟨[(2,.ptr 1 0 1),(3,.ptr 2 0 1)],[.gone,.c [.sl 4 (Ag ⟨6,c,s,d,ky,sl,dn,pl,pr,l,⟨ik,iv,ir,ig⟩,co⟩).length 1],.c [.d (.i .i64 0)],.gone,.a (.by (Ag ⟨6,c,s,d,ky,sl,dn,pl,pr,l,⟨ik,iv,ir,ig⟩,co⟩))],Tryz.f195.ntmps⟩,?_,Nat.zero_le _,_,_,rfl,rfl,rfl,rfl⟩;exact (have nC:=And.intro @Ag.eq_1 (And.intro @Av.eq_1 hfin);A1.co rfl)
 ·have hfin : True:=trivial;simp [A8.has] at hh
  have hf : fits (pr + 1) = true:=by
   rcases hh.1 with h | h
   ·subst h;rfl
   ·exact C1 (by have:=DG h;omega)
  have hL:=HF hh.2;have hk:=ce ⟨7,c,s,d,ky,sl,dn,pl,pr,l,⟨ik,iv,ir,ig⟩,co⟩ ([] ++ A5 [7,c,s,d]) hf (Nat.le_trans hL.1 (by decide)) hL.2 (by simp only [List.nil_append];omega);unfold kH at hk;simp only [mC] at hk;have d1:=Ds.mk [3,4] (hput);have d2:=Ds.mk [3,4] (hw);have d3:=Ds.mk [6,5,3,4] (hk);refine wd BL [] [(2,1),(3,1)] A0 A0 ?_;clear d3 d2 d1;refine ⟨_,JY.at [1,2,4] (CO [.c [.sl 2 _ 1],.c [.d (.i .i64 0)],.a (.by _)]) rfl rfl ⟨rfl,rfl,rfl,trivial⟩ rfl rfl (by simp only [Ec,Nat.reduceAdd];rfl),?_⟩;refine ⟨⟨[(2,.ptr 1 0 1),(3,.ptr 2 0 1)],[.gone,.c [.sl 4 (Ag ⟨7,c,s,d,ky,sl,dn,pl,pr,l,⟨ik,iv,ir,ig⟩,co⟩).length 1],.c [.d (.i .i64 0)],.gone,.a (.by (Ag ⟨7,c,s,d,ky,sl,dn,pl,pr,l,⟨ik,iv,ir,ig⟩,co⟩))],Tryz.f195.ntmps⟩,?_,Nat.zero_le _,_,_,rfl,rfl,rfl,rfl⟩;exact (have nC:=And.intro @Ag.eq_1 (And.intro @Av.eq_1 hfin);A1.co rfl)
 ·have hfin : True:=trivial;have d1:=Ds.mk [3,4] (hput);have d2:=Ds.mk [3,4] (hw);refine wd BL [] [(2,1),(3,1)] A0 A0 ?_;clear d2 d1;refine ⟨_,JY.at [1,2,4] (CO [.c [.sl 2 _ 1],.c [.d (.i .i64 0)],.a (.by _)]) rfl rfl ⟨rfl,rfl,rfl,trivial⟩ rfl rfl (by simp only [Ec,Nat.reduceAdd];rfl),?_⟩;refine ⟨⟨[(2,.ptr 1 0 1),(3,.ptr 2 0 1)],[.gone,.c [.sl 4 (Ag ⟨8,c,s,d,ky,sl,dn,pl,pr,l,⟨ik,iv,ir,ig⟩,co⟩).length 1],.c [.d (.i .i64 0)],.gone,.a (.by (Ag ⟨8,c,s,d,ky,sl,dn,pl,pr,l,⟨ik,iv,ir,ig⟩,co⟩))],Tryz.f195.ntmps⟩,?_,Nat.zero_le _,_,_,rfl,rfl,rfl,rfl⟩;exact (have nC:=And.intro @Ag.eq_1 (And.intro @Av.eq_1 hfin);A1.co rfl)
 ·have hfin : True:=trivial;have d1:=Ds.mk [3,4] (hput);have d2:=Ds.mk [3,4] (hw);refine wd BL [] [(2,1),(3,1)] A0 A0 ?_;clear d2 d1;refine ⟨_,JY.at [1,2,4] (CO [.c [.sl 2 _ 1],.c [.d (.i .i64 0)],.a (.by _)]) rfl rfl ⟨rfl,rfl,rfl,trivial⟩ rfl rfl (by simp only [Ec,Nat.reduceAdd];rfl),?_⟩;refine ⟨⟨[(2,.ptr 1 0 1),(3,.ptr 2 0 1)],[.gone,.c [.sl 4 (Ag ⟨9,c,s,d,ky,sl,dn,pl,pr,l,⟨ik,iv,ir,ig⟩,co⟩).length 1],.c [.d (.i .i64 0)],.gone,.a (.by (Ag ⟨9,c,s,d,ky,sl,dn,pl,pr,l,⟨ik,iv,ir,ig⟩,co⟩))],Tryz.f195.ntmps⟩,?_,Nat.zero_le _,_,_,rfl,rfl,rfl,rfl⟩;exact (have nC:=And.intro @Ag.eq_1 (And.intro @Av.eq_1 hfin);A1.co rfl)
 ·have hfin : True:=trivial;simp [A8.has] at hh;have hk:=cf ⟨10,c,s,d,ky,sl,dn,pl,pr,l,⟨ik,iv,ir,ig⟩,co⟩ ([] ++ A5 [10,c,s,d]) (Az hh) (by simp only [List.nil_append];omega);unfold kH at hk;simp only [mC] at hk;have d1:=Ds.mk [3,4] (hput);have d2:=Ds.mk [3,4] (hw);have d3:=Ds.mk [6,5,3,4] (hk);refine wd BL [] [(2,1),(3,1)] A0 A0 ?_;clear d3 d2 d1;refine ⟨_,JY.at [1,2,4] (CO [.c [.sl 2 _ 1],.c [.d (.i .i64 0)],.a (.by _)]) rfl rfl ⟨rfl,rfl,rfl,trivial⟩ rfl rfl (by simp only [Ec,Nat.reduceAdd];rfl),?_⟩;refine ⟨⟨[(2,.ptr 1 0 1),(3,.ptr 2 0 1)],[.gone,.c [.sl 4 (Ag ⟨10,c,s,d,ky,sl,dn,pl,pr,l,⟨ik,iv,ir,ig⟩,co⟩).length 1],.c [.d (.i .i64 0)],.gone,.a (.by (Ag ⟨10,c,s,d,ky,sl,dn,pl,pr,l,⟨ik,iv,ir,ig⟩,co⟩))],Tryz.f195.ntmps⟩,?_,Nat.zero_le _,_,_,rfl,rfl,rfl,rfl⟩;exact (have nC:=And.intro @Ag.eq_1 (And.intro @Av.eq_1 hfin);A1.co rfl)
 ·have hfin : True:=trivial;simp [A8.has] at hh;have hk:=cg ⟨11,c,s,d,ky,sl,dn,pl,pr,l,⟨ik,iv,ir,ig⟩,co⟩ ([] ++ A5 [11,c,s,d]) (by rcases hh with h | h <;> subst h <;> rfl) (by simp only [List.nil_append];omega);unfold kH at hk;simp only [mC] at hk;have d1:=Ds.mk [3,4] (hput);have d2:=Ds.mk [3,4] (hw);have d3:=Ds.mk [6,5,3,4] (hk);refine wd BL [] [(2,1),(3,1)] A0 A0 ?_;clear d3 d2 d1;refine ⟨_,JY.at [1,2,4] (CO [.c [.sl 2 _ 1],.c [.d (.i .i64 0)],.a (.by _)]) rfl rfl ⟨rfl,rfl,rfl,trivial⟩ rfl rfl (by simp only [Ec,Nat.reduceAdd];rfl),?_⟩;refine ⟨⟨[(2,.ptr 1 0 1),(3,.ptr 2 0 1)],[.gone,.c [.sl 4 (Ag ⟨11,c,s,d,ky,sl,dn,pl,pr,l,⟨ik,iv,ir,ig⟩,co⟩).length 1],.c [.d (.i .i64 0)],.gone,.a (.by (Ag ⟨11,c,s,d,ky,sl,dn,pl,pr,l,⟨ik,iv,ir,ig⟩,co⟩))],Tryz.f195.ntmps⟩,?_,Nat.zero_le _,_,_,rfl,rfl,rfl,rfl⟩;exact (have nC:=And.intro @Ag.eq_1 (And.intro @Av.eq_1 hfin);A1.co rfl)
 ·have hfin : True:=trivial;simp [A8.has] at hh
  have hf : fits co = true:=by
   rcases hh with h | h
   ·rw [h.1];rfl
   ·rw [h.1];rfl
  have hI : co = 0 → Ai ⟨ik,iv,ir,ig⟩ = true:=fun h => by
   rcases hh with h2 | h2
   ·exact h2.2
   ·exact absurd (h2.1.symm.trans h) (by decide)
  have hk:=ci ⟨12,c,s,d,ky,sl,dn,pl,pr,l,⟨ik,iv,ir,ig⟩,co⟩ ([] ++ A5 [12,c,s,d]) hf (fun h => ES (hI h)) (by simp only [List.nil_append];omega);unfold kH at hk;simp only [mC] at hk;have d1:=Ds.mk [3,4] (hput);have d2:=Ds.mk [3,4] (hw);have d3:=Ds.mk [6,5,3,4] (hk);refine wd BL [] [(2,1),(3,1)] A0 A0 ?_;clear d3 d2 d1;refine ⟨_,JY.at [1,2,4] (CO [.c [.sl 2 _ 1],.c [.d (.i .i64 0)],.a (.by _)]) rfl rfl ⟨rfl,rfl,rfl,trivial⟩ rfl rfl (by simp only [Ec,Nat.reduceAdd];rfl),?_⟩;refine ⟨⟨[(2,.ptr 1 0 1),(3,.ptr 2 0 1)],[.gone,.c [.sl 4 (Ag ⟨12,c,s,d,ky,sl,dn,pl,pr,l,⟨ik,iv,ir,ig⟩,co⟩).length 1],.c [.d (.i .i64 0)],.gone,.a (.by (Ag ⟨12,c,s,d,ky,sl,dn,pl,pr,l,⟨ik,iv,ir,ig⟩,co⟩))],Tryz.f195.ntmps⟩,?_,Nat.zero_le _,_,_,rfl,rfl,rfl,rfl⟩;exact (have nC:=And.intro @Ag.eq_1 (And.intro @Av.eq_1 hfin);A1.co rfl)
end Wi
end Go.Proofs.YtkljbfejbakooaaGreatDoor
namespace Go.Proofs.YtkljbfejbakooaaGreatDoor
open Go.Gar
set_option maxRecDepth 4000
abbrev GA : List Nat:=[0,1,4,5,10,14,25]
def FV (n : Int) : Int:=n % 65536
def CL (a b : Int) : Int:=(b - a) % 65536
theorem OV (n : Int) : 0 ≤ FV n ∧ FV n < 65536:=by unfold FV;omega
theorem Sy (a b : Int) : 0 ≤ CL a b ∧ CL a b < 65536:=by unfold CL;omega
theorem WK (a b : Int) : FV (FV b - FV a) = CL a b:=by unfold FV CL;omega
theorem bA (n : Int) : BY .and .i64 n 65535 = FV n:=by
 have h1 : ((BitVec.ofInt 64 n) &&& (BitVec.ofInt 64 65535)).toNat = (n % 65536).toNat:=by
  rw [BitVec.toNat_and];have e1 : (BitVec.ofInt 64 65535).toNat = 2 ^ 16 - 1:=by decide
  rw [e1,Nat.and_two_pow_sub_one_eq_mod,BitVec.toNat_ofInt];omega
 have e : BY .and .i64 n 65535 = IntKind.wrap .i64 (((BitVec.ofInt 64 n) &&& (BitVec.ofInt 64 65535)).toNat : Int):=rfl;rw [e,h1,IntKind.wrap_i64];unfold FV;omega
theorem Zl (n : Int) : (n.tmod 65536 + 65536).tmod 65536 = FV n:=by
 have h1:=Int.tmod_lt_of_pos n (show (0 : Int) < 65536 by decide);have h2:=Int.lt_tmod_of_pos n (show (0 : Int) < 65536 by decide);rw [Int.tmod_eq_emod_of_nonneg (by omega)];unfold FV;have h3:=Int.tmod_add_mul_tdiv n 65536;omega
theorem If (n : Int) : Go.Gar.Fn Tryz.prog 237 [.i .i64 n] (.i .i64 (FV n)):=by
 have e:=bA n;refine zF A6 Tryz.func237 ?_;refine wk [0,2] [] (AG e) A0 ?_;exact zE
theorem VJ (a b : Int) : Go.Gar.Fn Tryz.prog 217 [.i .i64 a,.i .i64 b] (.i .i64 (CL a b)):=by
 have c1:=If a;have c2:=If b;have c3:=If (FV b - FV a);rw [WK] at c3;have h1:=OV a;have h2:=OV b;refine zF A6 Tryz.func217 ?_;refine wk [0,1,4] [] A0 (EP @c1 @c2 @c3) ?_;exact zE
theorem Cs (n : Int) (hn : -9223372036854775808 ≤ n ∧ n ≤ 9223372036854775807) : Go.Gar.Fn Tryz.prog 71 [.i .i64 n] (.i .i64 (FV n)):=by
 have e:=Zl n;have h1:=Int.tmod_lt_of_pos n (show (0 : Int) < 65536 by decide);have h2:=Int.lt_tmod_of_pos n (show (0 : Int) < 65536 by decide);refine zF A6 Tryz.func71 ?_;refine wk [0,2] [] (AG e) A0 ?_;exact zE
def i64 (n : Int) : Prop:=-9223372036854775808 ≤ n ∧ n ≤ 9223372036854775807
theorem TT (a b : Int) (ha : i64 a) (hb : i64 b) : Go.Gar.Fn Tryz.prog 148 [.i .i64 a,.i .i64 b] (.i .i64 (CL a b)):=by
 have h1:=OV a;have h2:=OV b;have c1:=Cs a ha;have c2:=Cs b hb;have c3:=Cs (FV b - FV a) (by omega);rw [WK] at c3;refine zF A6 Tryz.func148 ?_;refine wk [0,1,4] [] A0 (EP @c1 @c2 @c3) ?_;exact zE
def Bc (n : Int) : Bool:=decide (0 ≤ n ∧ n < 65536)
theorem OE {n : Int} (h : Bc n = true) : 0 ≤ n ∧ n < 65536:=by simpa [Bc] using h
theorem F1 (n : Int) : Go.Gar.Fn Tryz.prog 159 [.i .i64 n] (.b (Bc n)):=by
 refine zF A6 Tryz.func159 ?_
 by_cases h1 : 0 ≤ n
 ·have f1 : decide (n ≥ 0) = true:=decide_eq_true h1
  by_cases h2 : n < 65536
  ·have f2 : decide (n < 65536) = true:=decide_eq_true h2;have e : Bc n = true:=decide_eq_true ⟨h1,h2⟩;rw [e];refine wk [0,2] [] (BM f1 f2) A0 ?_;exact zE
  ·have f2 : decide (n < 65536) = false:=decide_eq_false h2;have e : Bc n = false:=decide_eq_false fun h => h2 h.2
   rw [e];refine wk [0,2] [] (BM f1 f2) A0 ?_;exact zE
 ·have f1 : decide (n ≥ 0) = false:=decide_eq_false h1;have e : Bc n = false:=decide_eq_false fun h => h1 h.1
  rw [e];refine wk [0,2] [] (AG f1) A0 ?_;exact zE
theorem UM (n : Int) : Go.Gar.Fn Tryz.prog 239 [.i .i64 n] (.b (Bc n)):=by
 refine zF A6 Tryz.func239 ?_
 by_cases h1 : 0 ≤ n
 ·have f1 : decide (n ≥ 0) = true:=decide_eq_true h1
  by_cases h2 : n < 65536
  ·have f2 : decide (n < 65536) = true:=decide_eq_true h2;have e : Bc n = true:=decide_eq_true ⟨h1,h2⟩;rw [e];refine wk [0,2] [] (BM f1 f2) A0 ?_;exact zE
  ·have f2 : decide (n < 65536) = false:=decide_eq_false h2;have e : Bc n = false:=decide_eq_false fun h => h2 h.2
   rw [e];refine wk [0,2] [] (BM f1 f2) A0 ?_;exact zE
 ·have f1 : decide (n ≥ 0) = false:=decide_eq_false h1;have e : Bc n = false:=decide_eq_false fun h => h1 h.1
  rw [e];refine wk [0,2] [] (AG f1) A0 ?_;exact zE
theorem IV (n : Int) : Go.Gar.Fn Tryz.prog 75 [.i .i64 n] (.b (Bc n)):=by
 refine zF A6 Tryz.func75 ?_
 by_cases h1 : 0 ≤ n
 ·have f1 : decide (n ≥ 0) = true:=decide_eq_true h1
  by_cases h2 : n < 65536
  ·have f2 : decide (n < 65536) = true:=decide_eq_true h2;have e : Bc n = true:=decide_eq_true ⟨h1,h2⟩;rw [e];refine wk [0,2] [] (BM f1 f2) A0 ?_;exact zE
  ·have f2 : decide (n < 65536) = false:=decide_eq_false h2;have e : Bc n = false:=decide_eq_false fun h => h2 h.2
   rw [e];refine wk [0,2] [] (BM f1 f2) A0 ?_;exact zE
 ·have f1 : decide (n ≥ 0) = false:=decide_eq_false h1;have e : Bc n = false:=decide_eq_false fun h => h1 h.1
  rw [e];refine wk [0,2] [] (AG f1) A0 ?_;exact zE
theorem Rf (n : Int) : Go.Gar.Fn Tryz.prog 70 [.i .i64 n] (.b (Bc n)):=by
 refine zF A6 Tryz.func70 ?_
 by_cases h1 : 0 ≤ n
 ·have f1 : decide (n ≥ 0) = true:=decide_eq_true h1
  by_cases h2 : n < 65536
  ·have f2 : decide (n < 65536) = true:=decide_eq_true h2;have e : Bc n = true:=decide_eq_true ⟨h1,h2⟩;rw [e];refine wk [0,2] [] (BM f1 f2) A0 ?_;exact zE
  ·have f2 : decide (n < 65536) = false:=decide_eq_false h2;have e : Bc n = false:=decide_eq_false fun h => h2 h.2
   rw [e];refine wk [0,2] [] (BM f1 f2) A0 ?_;exact zE
 ·have f1 : decide (n ≥ 0) = false:=decide_eq_false h1;have e : Bc n = false:=decide_eq_false fun h => h1 h.1
  rw [e];refine wk [0,2] [] (AG f1) A0 ?_;exact zE
theorem Ov (l : List Int) (hl : l.length ≤ 100000) : Go.Gar.Fn Tryz.prog 151 [.is l] (.is l):=by
 refine zF A6 Tryz.func151 ?_;have nS:=True.intro
 repeat' (first | ((with_reducible refine sg ?_);first | with_reducible rfl | ((with_reducible refine Cz ?_);first | kernel_rfl | rfl | (simp [Bb,CE,nS];done)) | with_reducible refine CV ?_ ?_ | with_reducible exact Nat.beq_refl _ | with_reducible exact AO _ | ((with_reducible refine decide_eq_true ?_);first | omega | (simp only [BU,nS];omega)) | decide | (simp [BU,slc,AQ,D.one,Al,AV.one,nS];done) | (simp [BU,nS];omega)) | ((with_reducible refine Y7 ?_);first | (refine E0 rfl ?_;refine Y5 A6 rfl rfl rfl rfl ?_) | refine dk A6 rfl rfl rfl rfl rfl rfl (fun hnil => ?_) ?_ | refine dl A6 rfl rfl rfl rfl rfl rfl (fun hnil => ?_) ?_ | refine Xq A6 rfl rfl rfl rfl ?_ ?_ | refine Xn [0,2,4] rfl ?_ | refine Xw A6 rfl rfl rfl rfl ?_ ?_) | refine FF ?_ | refine EB ?_ | refine DT ?_ | refine FE ?_ | refine CW ?_ | refine DR ?_ | refine Bo rfl ?_ | refine Bn rfl ?_ | (refine FX rfl (fun hc => ?_) (fun hc => ?_) <;> (try simp only [AB] at hc) <;> (try (exfalso;omega))))
 ·have e:=is_nil hnil;subst e;exact zE
 ·exact zE
theorem FO {l : List Int} {k : Nat} {x : Int} (hx : l[k]? = some x) : l.getD k 0 = x:=by rw [List.getD_eq_getElem?_getD,hx];rfl
theorem T9 (a b : List Int) (hl : a.length ≤ 100000) : Go.Gar.Fn Tryz.prog 39 [.is a,.is b] (.b (decide (a = b))):=by
 refine zF A6 Tryz.func39 ?_
 by_cases heq : a.length = b.length
 ·have e1 : ((a.length : Int) != (b.length : Int)) = false:=C7 (by omega);refine wd GA [] [] (AG e1) A0 ?_;refine Ae (fun k => k ≤ a.length ∧ a.take k = b.take k) (fun k : Nat => ⟨[(0,.d (.is a)),(1,.d (.is b)),(4,.d (.b false)),(5,.d (.i .i64 k))],[],26⟩) (fun k => a.length - k) 0 ⟨Nat.zero_le _,by simp⟩ ?_ (Nat.le_refl _) ?_
  ·exact A1.ck rfl
  rintro k ⟨hk,hpre⟩
  by_cases hkl : k < a.length
  ·obtain ⟨x,hx⟩:=Ah hkl;obtain ⟨y,hy⟩:=Ah (xs:=b) (k:=k) (by omega);have gx : a.getD k 0 = x:=by rw [List.getD_eq_getElem?_getD,hx];rfl
   have gy : b.getD k 0 = y:=by rw [List.getD_eq_getElem?_getD,hy];rfl
   by_cases hxy : x = y
   ·have f1:=C7 hxy;refine wd GA [] [] (EP gx gy f1) A0 ?_;with_reducible repeat' first|constructor|intro hc;try simp only[AB] at hc
    refine ⟨k + 1,⟨hkl,by rw [List.take_add_one,List.take_add_one,hpre,hx,hy,hxy]⟩,by omega,Nat.le_refl _,?_⟩;exact A1.ck rfl
   ·have hne : ¬ a = b:=fun e => by subst e;rw [hx] at hy;cases hy;exact hxy rfl
    have f1:=C2 hxy;refine wd GA [] [] (EP gx gy f1) A0 ?_;with_reducible repeat' first|constructor|intro hc;try simp only[AB] at hc
    refine ⟨_,_,rfl,rfl,?_⟩;simp [Ab,A9,A4,A3,hne]
  ·have e : k = a.length:=by omega
   subst e;have hE : a = b:=by rw [List.take_length,heq,List.take_length] at hpre;exact hpre
   refine wd GA [] [] A0 A0 ?_;with_reducible repeat' first|constructor|intro hc;try simp only[AB] at hc
   refine ⟨_,_,rfl,rfl,?_⟩;simp [Ab,A9,A4,A3,hE]
 ·have e1 : ((a.length : Int) != (b.length : Int)) = true:=C2 (by omega);have hne : ¬ a = b:=fun e => heq (by rw [e])
  refine wd GA [] [] (AG e1) A0 ?_;refine ⟨_,_,rfl,rfl,?_⟩;simp [Ab,A9,A4,A3,hne]
end Go.Proofs.YtkljbfejbakooaaGreatDoor
namespace Go.Proofs.YtkljbfejbakooaaGreatDoor
namespace Nd
open Go.Gar
open Wi (A8 B2 Ai AA BN mC)
set_option maxRecDepth 4000
def dv (a : A8 × Int) : List D:=[.i .u8 a.1.kind,.i .i64 a.1.call,.i .i64 a.1.src,.i .i64 a.1.dst,.i .i64 a.1.key,.b a.1.slow,.b a.1.done,.i .i64 a.1.place,.i .i64 a.1.pred,.is a.1.list,.s a.1.item.key,.i .i64 a.1.item.value,.i .i64 a.1.item.version,.b a.1.item.gone,.i .i64 a.1.code,.i .u8 a.2]
abbrev dw (l : List (A8 × Int)) : D:=.sl 16 (l.map dv)
end Nd
end Go.Proofs.YtkljbfejbakooaaGreatDoor
