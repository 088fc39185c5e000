/- Part 15 of a proof. Conditions: those that its theorems state. -/
import Derived.Test.YtkljbfejbakooaaGreatDoorS13
import Derived.Test.YtkljbfejbakooaaGreatDoorS14
set_option linter.unusedSimpArgs false
set_option linter.unusedVariables false
set_option linter.unnecessarySimpa false
set_option maxHeartbeats 40000000
set_option maxRecDepth 4000
namespace Go.Proofs.YtkljbfejbakooaaGreatDoor
namespace Wi
open Go.Gar
abbrev Bu:List Nat:=[0,1,2,3,4,5,6,10,32]
theorem TG(n c:Int):qB 180 [.ifc 224 (.agg #[.int .i64 n]),.i .i64 c] (.i .i64 n):=by
 refine zF A4 Tryz.func180 ?_;refine wd [0,1,4,5,6,12] [] A0 A0 ?_;exact zE
theorem D3(H:List A3):MA Tryz.prog 276 [.ptr 0 0 1,.ptr 1 0 1] H .returning H:=by
 refine JL Tryz.func276 rfl rfl qA fun c0 cs hu=> ?_;refine Ik (JM ?_)
 refine fz rfl rfl rfl rfl (.inl ⟨by simp[recoverD,hu],rfl,rfl⟩) ?_;refine Sq A4 rfl rfl rfl rfl ?_ rfl;refine NZ ?_;refine Ik (Em ?_);refine Kq A4 rfl rfl rfl rfl ?_ rfl;refine Kn A4 rfl rfl rfl rfl ?_;refine Cv ?_;refine NX rfl (WY ?_);exact⟨.returning,by rw[<-hu],rfl,_,A1.refl _,qG _,rfl⟩
theorem am(x y:AV)(n:Int):MA Tryz.prog 276 [.ptr 0 0 1,.ptr 1 0 1] [.c [x],.c [y]] (.panicking (pF n)) [.c [.e0],.c [.pY n]]:=by
 have hc:=TG n 2;refine JL Tryz.func276 rfl rfl qA fun c0 cs hu=> ?_
 refine Ik (JM ?_);refine fz (cs':={c0 with mode:=.panicking [{v:=.iface 224 (.agg #[.int .i64 n]),recovered:=true}]}::cs) rfl rfl rfl rfl (.inr ⟨224,.agg #[.int .i64 n],by simp[recoverD,hu,pF],rfl⟩) ?_;refine Sq A4 rfl rfl rfl rfl ?_ rfl;refine NZ ?_;refine Ik (Em ?_);refine Kq A4 rfl rfl rfl rfl ?_ rfl;refine Kn A4 rfl rfl rfl rfl ?_;refine Cv ?_;refine NX rfl (Em ?_);refine Kq A4 rfl rfl rfl rfl ?_ rfl;refine KF hc rfl rfl rfl rfl (by simp[Ig,CN,Bb]) rfl rfl ?_;refine Kw A4 rfl rfl rfl rfl ?_ rfl;refine Kw A4 rfl rfl rfl rfl ?_ rfl;refine Cv ?_;exact⟨_,rfl,rfl,_,A1.refl _,qG _,rfl⟩
def mH:List (D×AV):=[(.i .u8 4,.fn (.func 320) [] [.ptr 3 0 1,.ptr 2 0 15]),(.i .u8 5,.fn (.func 322) [] [.ptr 3 0 1,.ptr 2 0 15]),(.i .u8 6,.fn (.func 324) [] [.ptr 3 0 1,.ptr 2 0 15]),(.i .u8 7,.fn (.func 326) [] [.ptr 3 0 1,.ptr 2 0 15]),
 (.i .u8 10,.fn (.func 328) [] [.ptr 3 0 1,.ptr 2 0 15]),(.i .u8 11,.fn (.func 329) [] [.ptr 3 0 1,.ptr 2 0 15]),(.i .u8 12,.fn (.func 330) [] [.ptr 3 0 1,.ptr 2 0 15])]
theorem WM(m:A2)(o:List UInt8):qC 278 [.d m.d,.ptr 0 0 1] (wH o) (.mp 4) [.c [.sl 1 o.length 1],.a (.by o),.c (mC m),.c [.ptr 0 0 1],.m mH]:=by
 refine zD A4 Tryz.func278 ?_;unfold wH mH mC A2.d A2.cells;refine wd [0,1,2,3,4] [] A0 A0 ?_;exact⟨_,A1.refl _,qA,_,_,rfl,rfl,rfl,rfl⟩
theorem MA.at{P:Program}{f:FuncId}{args:List AV}{H:List A3}{u:FrameMode}{H':List A3}(ids:List Nat)(h:MA P f args H u H'){xs:List AV}{H2 H3:List A3}(hx:AV.Cm (rn ids H2.length) args=xs)(hn:nodupB ids=true)(hm:Ch (rn ids H2.length) H2 ids H)(ho:Ae H.length H=true)(ha:AV.oks H.length args=true)(hH:NH ids H2 (Eu (rn ids H2.length) H')=H3):MA P f xs H2 u H3:=by
 subst hx;subst hH;exact h.ren ids hn hm ho ha
theorem Ur(m:A2)(hl:m.list.length<9223372036854775807)(h:m.right=false):qC 195 [.d m.d] [] (.tup [.e0,.pY 2]) [.gone,.c [.e0],.c [.pY 2]]:=by
 have hR:=BV m hl;rw[h]at hR;unfold A2.d A2.cells at *;refine EO (g:=276) (xs:=[.ptr 1 0 1,.ptr 2 0 1]) A4 Tryz.func195 rfl rfl qA ?_;refine Ka A4 rfl rfl rfl rfl rfl ?_ rfl;refine Ka A4 rfl rfl rfl rfl rfl ?_ rfl;refine Ka A4 rfl rfl rfl rfl rfl ?_ rfl;refine Cv ?_;refine Fq A4 rfl rfl rfl rfl ?_ rfl;refine Df rfl rfl rfl rfl rfl rfl ⟨_,Tryz.func276,rfl,rfl⟩ rfl ?_;refine wx Bu [] A0 (A6 @hR) ?_;refine⟨_,MA.at [1,2] (am .e0 (.pY 0) 2) rfl rfl ⟨rfl,rfl,trivial⟩ rfl rfl rfl,?_⟩;exact⟨⟨[(2,.ptr 1 0 1),(3,.ptr 2 0 1)],[.gone,.c [.e0],.c [.pY 2]],Tryz.f195.ntmps⟩,(A1.ck rfl),qP _,_,_,rfl,rfl,rfl,rfl⟩
def B4(m:A2):List UInt8:=A7 [m.kind,m.call,m.src,m.dst]++BI m
theorem CX{n:Int}(h:0<=n/\n<=1099511627776):fits n=true:=by simp[fits];omega
theorem BO{n:Int}(h:B5 n=true):fits n=true:=CX (by have:=E3 h;omega)
theorem TX{n:Int}(h:isVal n=true):fits n=true:=CX (by simp[isVal]at h;omega)
variable {x:Item}
theorem FZ(h:AU x=true):x.key.length<=255/\fits x.value=true/\fits x.version=true:=by
 simp only[AU,qH]at h;refine⟨?_,TX h.1.2,TX h.2⟩;have:=h.1.1;simp[B6]at this;omega
variable {m:A2}
theorem Fy(h:m.right=true):(1<=m.kind/\m.kind<13)/\(B5 m.src=true/\B5 m.dst=true)/\m.src≠m.dst/\(m.asker*1048576+1<=m.call/\m.call<m.asker*1048576+1+1048576)/\m.bare=m.empty/\m.has=true:=by
 simp only[A2.right,A2.I1,qH,qJ]at h;obtain⟨⟨⟨⟨⟨⟨⟨h1,h2⟩,h3⟩,h4⟩,h5⟩,h6⟩,h7⟩,h8,h9⟩:=h;exact⟨⟨h1,h2⟩,⟨h3,h4⟩,h5,⟨h6,h7⟩,h8,h9⟩
variable {l:List Int}
theorem J6{s:Int}(h:Dv l s=true):l.length<=3/\l.all fits=true:=by
 simp only[Dv,EZ,qH,qJ]at h;refine⟨h.2,?_⟩;rw[sK]at *;intro x hx;have:=h.1.1 x hx;simp only[qH]at this;exact BO this.1
theorem L3(h:m.right=true):0<=m.asker/\m.asker<65536:=by
 obtain⟨_,⟨h1,h2⟩,_⟩:=Fy h;unfold A2.asker;split
 .exact E3 h1
 .exact E3 h2
theorem Ss(m:A2)(hl:m.list.length<9223372036854775807)(h:m.right=true):qC 195 [.d m.d] [] (.tup [.sl 4 (B4 m).length 1,.pY 0]) [.gone,.c [.sl 4 (B4 m).length 1],.c [.pY 0],.gone,.a (.by (B4 m))]:=by
 have hR:=BV m hl;rw[h]at hR;obtain⟨⟨k1,k2⟩,⟨p1,p2⟩,_,⟨c1,c2⟩,hb,hh⟩:=Fy h;have ha:=L3 h;have hput:=IE [m.kind,m.call,m.src,m.dst] [] (by simp only[sH,tY,uM,BO p1,BO p2,CX (n:=m.kind) om,CX (n:=m.call) om]) sm sm;have hw:=WM m ([]++A7 [m.kind,m.call,m.src,m.dst]);have hlen:=EH [m.kind,m.call,m.src,m.dst] (by simp only[sH,tY,uM,BO p1,BO p2,CX (n:=m.kind) om,CX (n:=m.call) om]);simp only[qY,qy]at hlen;refine EO (g:=276) (xs:=[.ptr 1 0 1,.ptr 2 0 1]) A4 Tryz.func195 rfl rfl qA ?_;refine Ka A4 rfl rfl rfl rfl rfl ?_ rfl;refine Ka A4 rfl rfl rfl rfl rfl ?_ rfl;refine Ka A4 rfl rfl rfl rfl rfl ?_ rfl;refine Cv ?_;refine Fq A4 rfl rfl rfl rfl ?_ rfl;refine Df rfl rfl rfl rfl rfl rfl ⟨_,Tryz.func276,rfl,rfl⟩ rfl ?_;unfold wH at *;refine wx Bu [5] A0 (A6 @hR) ?_;refine Ah (A1.FV 3 0 (.by []) rfl rfl rfl rfl trivial) sm ?_;obtain⟨k,c,s,d,ky,sl,dn,pl,pr,l,⟨ik,iv,ir,ig⟩,co⟩:=m;simp only[mC,mH]at *;have hkind:k=1\/k=2\/k=3\/k=4\/k=5\/k=6\/k=7\/k=8\/k=9\/k=10\/k=11\/k=12:=om
 clear hR h hb k1 k2;rcases hkind with rfl|rfl|rfl|rfl|rfl|rfl|rfl|rfl|rfl|rfl|rfl|rfl
 .have hfin:True:=trivial;have d1:=Ds.mk [3,4] (hput);have d2:=Ds.mk [3,4] (hw);refine wd Bu [] A0 A0 ?_ [(2,1),(3,1)];clear d2 d1;refine⟨_,MA.at [1,2,4] (D3 [.c [.sl 2 _ 1],.c [.pY 0],.a (.by _)]) rfl rfl ⟨rfl,rfl,rfl,trivial⟩ rfl rfl (by simp only[Fo,Nat.reduceAdd];rfl),?_⟩;refine⟨⟨[(2,.ptr 1 0 1),(3,.ptr 2 0 1)],[.gone,.c [.sl 4 (B4 ⟨1,c,s,d,ky,sl,dn,pl,pr,l,⟨ik,iv,ir,ig⟩,co⟩).length 1],.c [.pY 0],.gone,.a (.by (B4 ⟨1,c,s,d,ky,sl,dn,pl,pr,l,⟨ik,iv,ir,ig⟩,co⟩))],Tryz.f195.ntmps⟩,?_,qP _,_,_,rfl,rfl,rfl,rfl⟩;exact(have nC:=qQ @B4.eq_1 (qQ @BI.eq_1 hfin);A1.co rfl)
 .have hfin:True:=trivial;have d1:=Ds.mk [3,4] (hput);have d2:=Ds.mk [3,4] (hw);refine wd Bu [] A0 A0 ?_ [(2,1),(3,1)];clear d2 d1;refine⟨_,MA.at [1,2,4] (D3 [.c [.sl 2 _ 1],.c [.pY 0],.a (.by _)]) rfl rfl ⟨rfl,rfl,rfl,trivial⟩ rfl rfl (by simp only[Fo,Nat.reduceAdd];rfl),?_⟩;refine⟨⟨[(2,.ptr 1 0 1),(3,.ptr 2 0 1)],[.gone,.c [.sl 4 (B4 ⟨2,c,s,d,ky,sl,dn,pl,pr,l,⟨ik,iv,ir,ig⟩,co⟩).length 1],.c [.pY 0],.gone,.a (.by (B4 ⟨2,c,s,d,ky,sl,dn,pl,pr,l,⟨ik,iv,ir,ig⟩,co⟩))],Tryz.f195.ntmps⟩,?_,qP _,_,_,rfl,rfl,rfl,rfl⟩;exact(have nC:=qQ @B4.eq_1 (qQ @BI.eq_1 hfin);A1.co rfl)
 .have hfin:True:=trivial;have d1:=Ds.mk [3,4] (hput);have d2:=Ds.mk [3,4] (hw);refine wd Bu [] A0 A0 ?_ [(2,1),(3,1)];clear d2 d1;refine⟨_,MA.at [1,2,4] (D3 [.c [.sl 2 _ 1],.c [.pY 0],.a (.by _)]) rfl rfl ⟨rfl,rfl,rfl,trivial⟩ rfl rfl (by simp only[Fo,Nat.reduceAdd];rfl),?_⟩;refine⟨⟨[(2,.ptr 1 0 1),(3,.ptr 2 0 1)],[.gone,.c [.sl 4 (B4 ⟨3,c,s,d,ky,sl,dn,pl,pr,l,⟨ik,iv,ir,ig⟩,co⟩).length 1],.c [.pY 0],.gone,.a (.by (B4 ⟨3,c,s,d,ky,sl,dn,pl,pr,l,⟨ik,iv,ir,ig⟩,co⟩))],Tryz.f195.ntmps⟩,?_,qP _,_,_,rfl,rfl,rfl,rfl⟩;exact(have nC:=qQ @B4.eq_1 (qQ @BI.eq_1 hfin);A1.co rfl)
 .have hfin:True:=trivial;simp[A2.has]at hh;have hk:=nJ ⟨4,c,s,d,ky,sl,dn,pl,pr,l,⟨ik,iv,ir,ig⟩,co⟩ ([]++A7 [4,c,s,d]) (BO hh) (by simp only[qX];omega);unfold kH at hk;simp only[mC]at hk;have d1:=Ds.mk [3,4] (hput);have d2:=Ds.mk [3,4] (hw);have d3:=Ds.mk [6,5,3,4] (hk);refine wd Bu [] A0 A0 ?_ [(2,1),(3,1)];clear d3 d2 d1;refine⟨_,MA.at [1,2,4] (D3 [.c [.sl 2 _ 1],.c [.pY 0],.a (.by _)]) rfl rfl ⟨rfl,rfl,rfl,trivial⟩ rfl rfl (by simp only[Fo,Nat.reduceAdd];rfl),?_⟩;refine⟨⟨[(2,.ptr 1 0 1),(3,.ptr 2 0 1)],[.gone,.c [.sl 4 (B4 ⟨4,c,s,d,ky,sl,dn,pl,pr,l,⟨ik,iv,ir,ig⟩,co⟩).length 1],.c [.pY 0],.gone,.a (.by (B4 ⟨4,c,s,d,ky,sl,dn,pl,pr,l,⟨ik,iv,ir,ig⟩,co⟩))],Tryz.f195.ntmps⟩,?_,qP _,_,_,rfl,rfl,rfl,rfl⟩;exact(have nC:=qQ @B4.eq_1 (qQ @BI.eq_1 hfin);A1.co rfl)
 .have hfin:True:=trivial;simp[A2.has]at hh;obtain⟨a1,a2,a3⟩:=FZ hh;have hk:=nK ⟨5,c,s,d,ky,sl,dn,pl,pr,l,⟨ik,iv,ir,ig⟩,co⟩ ([]++A7 [5,c,s,d]) a1 a2 a3 (by simp only[qX];omega);unfold kH at hk;simp only[mC]at hk;have d1:=Ds.mk [3,4] (hput);have d2:=Ds.mk [3,4] (hw);have d3:=Ds.mk [6,5,3,4] (hk);refine wd Bu [] A0 A0 ?_ [(2,1),(3,1)];clear d3 d2 d1;refine⟨_,MA.at [1,2,4] (D3 [.c [.sl 2 _ 1],.c [.pY 0],.a (.by _)]) rfl rfl ⟨rfl,rfl,rfl,trivial⟩ rfl rfl (by simp only[Fo,Nat.reduceAdd];rfl),?_⟩;refine⟨⟨[(2,.ptr 1 0 1),(3,.ptr 2 0 1)],[.gone,.c [.sl 4 (B4 ⟨5,c,s,d,ky,sl,dn,pl,pr,l,⟨ik,iv,ir,ig⟩,co⟩).length 1],.c [.pY 0],.gone,.a (.by (B4 ⟨5,c,s,d,ky,sl,dn,pl,pr,l,⟨ik,iv,ir,ig⟩,co⟩))],Tryz.f195.ntmps⟩,?_,qP _,_,_,rfl,rfl,rfl,rfl⟩;exact(have nC:=qQ @B4.eq_1 (qQ @BI.eq_1 hfin);A1.co rfl)
 .have hfin:True:=trivial;simp[A2.has]at hh;obtain⟨a1,a2,a3⟩:=FZ hh.1;have hk:=nL ⟨6,c,s,d,ky,sl,dn,pl,pr,l,⟨ik,iv,ir,ig⟩,co⟩ ([]++A7 [6,c,s,d]) a1 (by simp only[qX];omega);unfold kH at hk;simp only[mC]at hk;have d1:=Ds.mk [3,4] (hput);have d2:=Ds.mk [3,4] (hw);have d3:=Ds.mk [6,5,3,4] (hk);refine wd Bu [] A0 A0 ?_ [(2,1),(3,1)];clear d3 d2 d1;refine⟨_,MA.at [1,2,4] (D3 [.c [.sl 2 _ 1],.c [.pY 0],.a (.by _)]) rfl rfl ⟨rfl,rfl,rfl,trivial⟩ rfl rfl (by simp only[Fo,Nat.reduceAdd];rfl),?_⟩;refine⟨⟨[(2,.ptr 1 0 1),(3,.ptr 2 0 1)],[.gone,.c [.sl 4 (B4 ⟨6,c,s,d,ky,sl,dn,pl,pr,l,⟨ik,iv,ir,ig⟩,co⟩).length 1],.c [.pY 0],.gone,.a (.by (B4 ⟨6,c,s,d,ky,sl,dn,pl,pr,l,⟨ik,iv,ir,ig⟩,co⟩))],Tryz.f195.ntmps⟩,?_,qP _,_,_,rfl,rfl,rfl,rfl⟩;exact(have nC:=qQ @B4.eq_1 (qQ @BI.eq_1 hfin);A1.co rfl)
 .have hfin:True:=trivial;simp[A2.has]at hh
  have hf:fits (pr+1)=true:=by
   rcases hh.1 with h|h
   .subst h;rfl
   .exact CX (by have:=E3 h;omega)
  have hL:=J6 hh.2;have hk:=nM ⟨7,c,s,d,ky,sl,dn,pl,pr,l,⟨ik,iv,ir,ig⟩,co⟩ ([]++A7 [7,c,s,d]) hf (tJ hL.1 (by decide)) hL.2 (by simp only[qX];omega);unfold kH at hk;simp only[mC]at hk;have d1:=Ds.mk [3,4] (hput);have d2:=Ds.mk [3,4] (hw);have d3:=Ds.mk [6,5,3,4] (hk);refine wd Bu [] A0 A0 ?_ [(2,1),(3,1)];clear d3 d2 d1;refine⟨_,MA.at [1,2,4] (D3 [.c [.sl 2 _ 1],.c [.pY 0],.a (.by _)]) rfl rfl ⟨rfl,rfl,rfl,trivial⟩ rfl rfl (by simp only[Fo,Nat.reduceAdd];rfl),?_⟩;refine⟨⟨[(2,.ptr 1 0 1),(3,.ptr 2 0 1)],[.gone,.c [.sl 4 (B4 ⟨7,c,s,d,ky,sl,dn,pl,pr,l,⟨ik,iv,ir,ig⟩,co⟩).length 1],.c [.pY 0],.gone,.a (.by (B4 ⟨7,c,s,d,ky,sl,dn,pl,pr,l,⟨ik,iv,ir,ig⟩,co⟩))],Tryz.f195.ntmps⟩,?_,qP _,_,_,rfl,rfl,rfl,rfl⟩;exact(have nC:=qQ @B4.eq_1 (qQ @BI.eq_1 hfin);A1.co rfl)
 .have hfin:True:=trivial;have d1:=Ds.mk [3,4] (hput);have d2:=Ds.mk [3,4] (hw);refine wd Bu [] A0 A0 ?_ [(2,1),(3,1)];clear d2 d1;refine⟨_,MA.at [1,2,4] (D3 [.c [.sl 2 _ 1],.c [.pY 0],.a (.by _)]) rfl rfl ⟨rfl,rfl,rfl,trivial⟩ rfl rfl (by simp only[Fo,Nat.reduceAdd];rfl),?_⟩;refine⟨⟨[(2,.ptr 1 0 1),(3,.ptr 2 0 1)],[.gone,.c [.sl 4 (B4 ⟨8,c,s,d,ky,sl,dn,pl,pr,l,⟨ik,iv,ir,ig⟩,co⟩).length 1],.c [.pY 0],.gone,.a (.by (B4 ⟨8,c,s,d,ky,sl,dn,pl,pr,l,⟨ik,iv,ir,ig⟩,co⟩))],Tryz.f195.ntmps⟩,?_,qP _,_,_,rfl,rfl,rfl,rfl⟩;exact(have nC:=qQ @B4.eq_1 (qQ @BI.eq_1 hfin);A1.co rfl)
 .have hfin:True:=trivial;have d1:=Ds.mk [3,4] (hput);have d2:=Ds.mk [3,4] (hw);refine wd Bu [] A0 A0 ?_ [(2,1),(3,1)];clear d2 d1;refine⟨_,MA.at [1,2,4] (D3 [.c [.sl 2 _ 1],.c [.pY 0],.a (.by _)]) rfl rfl ⟨rfl,rfl,rfl,trivial⟩ rfl rfl (by simp only[Fo,Nat.reduceAdd];rfl),?_⟩;refine⟨⟨[(2,.ptr 1 0 1),(3,.ptr 2 0 1)],[.gone,.c [.sl 4 (B4 ⟨9,c,s,d,ky,sl,dn,pl,pr,l,⟨ik,iv,ir,ig⟩,co⟩).length 1],.c [.pY 0],.gone,.a (.by (B4 ⟨9,c,s,d,ky,sl,dn,pl,pr,l,⟨ik,iv,ir,ig⟩,co⟩))],Tryz.f195.ntmps⟩,?_,qP _,_,_,rfl,rfl,rfl,rfl⟩;exact(have nC:=qQ @B4.eq_1 (qQ @BI.eq_1 hfin);A1.co rfl)
 .have hfin:True:=trivial;simp[A2.has]at hh;have hk:=nN ⟨10,c,s,d,ky,sl,dn,pl,pr,l,⟨ik,iv,ir,ig⟩,co⟩ ([]++A7 [10,c,s,d]) (BO hh) (by simp only[qX];omega);unfold kH at hk;simp only[mC]at hk;have d1:=Ds.mk [3,4] (hput);have d2:=Ds.mk [3,4] (hw);have d3:=Ds.mk [6,5,3,4] (hk);refine wd Bu [] A0 A0 ?_ [(2,1),(3,1)];clear d3 d2 d1;refine⟨_,MA.at [1,2,4] (D3 [.c [.sl 2 _ 1],.c [.pY 0],.a (.by _)]) rfl rfl ⟨rfl,rfl,rfl,trivial⟩ rfl rfl (by simp only[Fo,Nat.reduceAdd];rfl),?_⟩;refine⟨⟨[(2,.ptr 1 0 1),(3,.ptr 2 0 1)],[.gone,.c [.sl 4 (B4 ⟨10,c,s,d,ky,sl,dn,pl,pr,l,⟨ik,iv,ir,ig⟩,co⟩).length 1],.c [.pY 0],.gone,.a (.by (B4 ⟨10,c,s,d,ky,sl,dn,pl,pr,l,⟨ik,iv,ir,ig⟩,co⟩))],Tryz.f195.ntmps⟩,?_,qP _,_,_,rfl,rfl,rfl,rfl⟩;exact(have nC:=qQ @B4.eq_1 (qQ @BI.eq_1 hfin);A1.co rfl)
 .have hfin:True:=trivial;simp[A2.has]at hh;have hk:=nO ⟨11,c,s,d,ky,sl,dn,pl,pr,l,⟨ik,iv,ir,ig⟩,co⟩ ([]++A7 [11,c,s,d]) (by rcases hh with h|h<;>subst h<;>rfl) (by simp only[qX];omega);unfold kH at hk;simp only[mC]at hk;have d1:=Ds.mk [3,4] (hput);have d2:=Ds.mk [3,4] (hw);have d3:=Ds.mk [6,5,3,4] (hk);refine wd Bu [] A0 A0 ?_ [(2,1),(3,1)];clear d3 d2 d1;refine⟨_,MA.at [1,2,4] (D3 [.c [.sl 2 _ 1],.c [.pY 0],.a (.by _)]) rfl rfl ⟨rfl,rfl,rfl,trivial⟩ rfl rfl (by simp only[Fo,Nat.reduceAdd];rfl),?_⟩;refine⟨⟨[(2,.ptr 1 0 1),(3,.ptr 2 0 1)],[.gone,.c [.sl 4 (B4 ⟨11,c,s,d,ky,sl,dn,pl,pr,l,⟨ik,iv,ir,ig⟩,co⟩).length 1],.c [.pY 0],.gone,.a (.by (B4 ⟨11,c,s,d,ky,sl,dn,pl,pr,l,⟨ik,iv,ir,ig⟩,co⟩))],Tryz.f195.ntmps⟩,?_,qP _,_,_,rfl,rfl,rfl,rfl⟩;exact(have nC:=qQ @B4.eq_1 (qQ @BI.eq_1 hfin);A1.co rfl)
 .have hfin:True:=trivial;simp[A2.has]at hh
  have hf:fits co=true:=by
   rcases hh with h|h
   .rw[h.1];rfl
   .rw[h.1];rfl
  have hI:co=0->AU ⟨ik,iv,ir,ig⟩=true:=fun h=>by
   rcases hh with h2|h2
   .exact h2.2
   .exact absurd (h2.1.symm.trans h) (by decide)
  have hk:=nP ⟨12,c,s,d,ky,sl,dn,pl,pr,l,⟨ik,iv,ir,ig⟩,co⟩ ([]++A7 [12,c,s,d]) hf (fun h=>FZ (hI h)) (by simp only[qX];omega);unfold kH at hk;simp only[mC]at hk;have d1:=Ds.mk [3,4] (hput);have d2:=Ds.mk [3,4] (hw);have d3:=Ds.mk [6,5,3,4] (hk);refine wd Bu [] A0 A0 ?_ [(2,1),(3,1)];clear d3 d2 d1;refine⟨_,MA.at [1,2,4] (D3 [.c [.sl 2 _ 1],.c [.pY 0],.a (.by _)]) rfl rfl ⟨rfl,rfl,rfl,trivial⟩ rfl rfl (by simp only[Fo,Nat.reduceAdd];rfl),?_⟩;refine⟨⟨[(2,.ptr 1 0 1),(3,.ptr 2 0 1)],[.gone,.c [.sl 4 (B4 ⟨12,c,s,d,ky,sl,dn,pl,pr,l,⟨ik,iv,ir,ig⟩,co⟩).length 1],.c [.pY 0],.gone,.a (.by (B4 ⟨12,c,s,d,ky,sl,dn,pl,pr,l,⟨ik,iv,ir,ig⟩,co⟩))],Tryz.f195.ntmps⟩,?_,qP _,_,_,rfl,rfl,rfl,rfl⟩;exact(have nC:=qQ @B4.eq_1 (qQ @BI.eq_1 hfin);A1.co rfl)
abbrev GJ:List Nat:=[0,2,3,4,5]
def ID(m:A2):List UInt8×Int:=if m.right then(B4 m,0)else([],2)
theorem Uq(m:A2)(hl:m.list.length<9223372036854775807):qB 195 [m.d] (.tup [.by (ID m).1,.i .i64 (ID m).2]):=by
 cases h:m.right with
 |true=>
  refine EP (ds:=[m.d]) (Ss m hl h) ?_;simp[ID,h,Fj,C5,Ca,Bn,KL,AP]
 |false=>
  refine EP (ds:=[m.d]) (Ur m hl h) ?_;simp[ID,h,Fj,C5,Ca,Bn,MD,AP,Aj,AF]
def rH(b:List UInt8):List A3:=[.c [.d (.by b)]]
def C8(b:List UInt8):Option (Nat×List UInt8):=if(Av b).2.2=0 then some ((Av b).1,(Av b).2.1)else none
def Ej(b:List UInt8):Option (Bool×List UInt8):=match C8 b with
 |some (n,r)=>if n>1 then none else some (n==1,r)
 |none=>none
def Gy(b:List UInt8):Option (List UInt8×List UInt8):=if(AO b).2.2=0 then some ((AO b).1,(AO b).2.1)else none
def IT(b:List UInt8):Option (List Int×List UInt8):=if(Af b).2.2=0 then some ((Af b).1,(Af b).2.1)else none
def Ff(b:List UInt8):Option (Item×List UInt8):=match Gy b with
 |none=>none
 |some (k,b1)=>match C8 b1 with
  |none=>none
  |some (v,b2)=>match C8 b2 with
   |none=>none
   |some (n,b3)=>match Ej b3 with
    |none=>none
    |some (g,b4)=>some (⟨k,v,n,g⟩,b4)
variable {b r:List UInt8}{n:Nat}
theorem Hd(h:C8 b=some (n,r)):Av b=(n,r,0):=by
 unfold C8 at h;split at h
 .rename_i e;cases h;rw[<-e]
 .cases h
theorem QN(h:C8 b=none):(Av b).2.2≠0:=by
 unfold C8 at h;split at h
 .cases h
 .assumption
variable {s:List UInt8}
theorem Kc(h:Gy b=some (s,r)):AO b=(s,r,0):=by
 unfold Gy at h;split at h
 .rename_i e;cases h;rw[<-e]
 .cases h
theorem Vn(h:Gy b=none):(AO b).2.2≠0:=by
 unfold Gy at h;split at h
 .cases h
 .assumption
theorem Kb(h:IT b=some (l,r)):Af b=(l,r,0):=by
 unfold IT at h;split at h
 .rename_i e;cases h;rw[<-e]
 .cases h
theorem Vm(h:IT b=none):(Af b).2.2≠0:=by
 unfold IT at h;split at h
 .cases h
 .assumption
theorem GE(b:List UInt8):(Av b).2.1.length<=b.length:=by
 unfold Av;split
 .simp
 .repeat' split
  all_goals simp
  omega
theorem Am(h:C8 b=some (n,r)):r.length<=b.length:=by
 have:=GE b;rw[Hd h]at this;exact this
theorem Je(h:Gy b=some (s,r)):r.length<=b.length:=by
 have e:=Kc h;unfold AO at e;split at e
 .simp at e
 .split at e
  .simp at e
  .simp only[qR]at e;rw[<-e.2.1];simp;omega
theorem Me{g:Bool}(h:Ej b=some (g,r)):r.length<=b.length:=by
 unfold Ej at h;split at h
 .rename_i n r' e;split at h
  .cases h
  .cases h;exact Am e
 .cases h
theorem B2(b:List UInt8)(hb:b.length<70368744177664)(n:Nat)(r:List UInt8)(h:C8 b=some (n,r)):qC 260 [.ptr 0 0 1] (rH b) (.pY n) (rH r):=by
 have ht:=Kv b hb;rw[Hd h]at ht;unfold CJ at ht;refine zD A4 Tryz.func260 ?_;unfold rH;refine wd GJ [] A0 (AX @ht (GC 12)) ?_;exact⟨⟨[(2,.pY n)],rH r,Tryz.f260.ntmps⟩,(A1.ck rfl),qG _,_,_,rfl,rfl,rfl,rfl⟩
theorem CL(b:List UInt8)(hb:b.length<70368744177664)(h:C8 b=none):KJ Tryz.prog 260 [.ptr 0 0 1] (rH b) (pF 12) [.gone]:=by
 have ht:=Kv b hb;unfold CJ at ht;have hd:=OP (Av b).2.2 12 (QN h);refine zX A4 Tryz.func260 ?_;unfold rH;have x1:=Ds.mk [] (hd);refine wx GJ [] A0 (A6 @ht) ?_;clear x1;exact⟨rfl,⟨[],[.gone],Tryz.f260.ntmps⟩,(A1.ck rfl),qG _,rfl⟩
theorem SR(b:List UInt8)(hb:b.length<70368744177664)(s r:List UInt8)(h:Gy b=some (s,r)):qC 266 [.ptr 0 0 1] (rH b) (.qE s) (rH r):=by
 have ht:=Mw b hb;rw[Kc h]at ht;unfold Fc at ht;refine zD A4 Tryz.func266 ?_;unfold rH;refine wd GJ [] A0 (AX @ht (GC 12)) ?_;exact⟨⟨[(2,.qE s)],rH r,Tryz.f266.ntmps⟩,(A1.ck rfl),qG _,_,_,rfl,rfl,rfl,rfl⟩
theorem Y5(b:List UInt8)(hb:b.length<70368744177664)(h:Gy b=none):KJ Tryz.prog 266 [.ptr 0 0 1] (rH b) (pF 12) [.gone]:=by
 have ht:=Mw b hb;unfold Fc at ht;have hd:=OP (AO b).2.2 12 (Vn h);refine zX A4 Tryz.func266 ?_;unfold rH;have x1:=Ds.mk [] (hd);refine wx GJ [] A0 (A6 @ht) ?_;clear x1;exact⟨rfl,⟨[],[.gone],Tryz.f266.ntmps⟩,(A1.ck rfl),qG _,rfl⟩
theorem Rm(b:List UInt8)(hb:b.length<70368744177664)(l:List Int)(r:List UInt8)(h:IT b=some (l,r)):qC 268 [.ptr 0 0 1] (rH b) (.qF l) (rH r):=by
 have ht:=Mv b hb;rw[Kb h]at ht;unfold Gc at ht;refine zD A4 Tryz.func268 ?_;unfold rH;refine wd GJ [] A0 (AX @ht (GC 12)) ?_;exact⟨⟨[(2,.qF l)],rH r,Tryz.f268.ntmps⟩,(A1.ck rfl),qG _,_,_,rfl,rfl,rfl,rfl⟩
theorem iQ(b:List UInt8)(hb:b.length<70368744177664)(h:IT b=none):KJ Tryz.prog 268 [.ptr 0 0 1] (rH b) (pF 12) [.gone]:=by
 have ht:=Mv b hb;unfold Gc at ht;have hd:=OP (Af b).2.2 12 (Vm h);refine zX A4 Tryz.func268 ?_;unfold rH;have x1:=Ds.mk [] (hd);refine wx GJ [] A0 (A6 @ht) ?_;clear x1;exact⟨rfl,⟨[],[.gone],Tryz.f268.ntmps⟩,(A1.ck rfl),qG _,rfl⟩
theorem RP(b:List UInt8)(hb:b.length<70368744177664)(g:Bool)(r:List UInt8)(h:Ej b=some (g,r)):qC 262 [.ptr 0 0 1] (rH b) (.pq g) (rH r):=by
 unfold Ej at h;split at h
 .rename_i n r' hn;split at h
  .cases h
  .rename_i h1;simp only[qI,qR]at h;obtain⟨rfl,rfl⟩:=h;have ht:=B2 b hb n r' hn;have e:((n:Int)==1)=(n==1):=by rw[Dg,Dg];congr 1;simp;omega
   refine zD A4 Tryz.func262 ?_;unfold rH at *;have d1:=Ds.mk [0] (ht);refine wd [0,2,3,7] [] (A6 e) A0 ?_;clear d1;with_reducible repeat' first|constructor|intro hc;try simp only[AB]at hc
   exact⟨⟨[(2,.pq (n==1))],rH r',Tryz.f262.ntmps⟩,(A1.ck rfl),qG _,_,_,rfl,rfl,rfl,rfl⟩
 .cases h
theorem RO(b:List UInt8)(hb:b.length<70368744177664)(h:Ej b=none):KJ Tryz.prog 262 [.ptr 0 0 1] (rH b) (pF 12) [.gone]:=by
 unfold Ej at h;refine zX A4 Tryz.func262 ?_;split at h
 .rename_i n r' hn;split at h
  .rename_i h1;have ht:=B2 b hb n r' hn;unfold rH at *;have d1:=Ds.mk [0] (ht);refine wx [0,2,3,7] [] A0 A0 ?_;clear d1;with_reducible repeat' first|constructor|intro hc;try simp only[AB]at hc
   exact⟨rfl,⟨[],[.gone],Tryz.f262.ntmps⟩,(A1.ck rfl),qG _,rfl⟩
  .cases h
 .rename_i hn;have ht:=CL b hb hn;unfold rH at *;have x1:=Ds.mk [0] (ht);refine wx [0,2,3,7] [] A0 A0 ?_;clear x1;exact⟨rfl,⟨[],[.gone],Tryz.f262.ntmps⟩,(A1.ck rfl),qG _,rfl⟩
theorem Xd(b:List UInt8)(hb:b.length<70368744177664)(x:Item)(r:List UInt8)(h:Ff b=some (x,r)):qC 264 [.ptr 0 0 1] (rH b) (.d x.d) (rH r):=by
 unfold Ff at h;split at h
 .cases h
 rename_i k b1 h1;split at h
 .cases h
 rename_i v b2 h2;split at h
 .cases h
 rename_i n b3 h3;split at h
 .cases h
 rename_i g b4 h4;simp only[qI,qR]at h;obtain⟨rfl,rfl⟩:=h;have l1:=Je h1;have l2:=Am h2;have l3:=Am h3;have c1:=SR b hb k b1 h1;have c2:=B2 b1 om v b2 h2;have c3:=B2 b2 om n b3 h3;have c4:=RP b3 om g b4 h4;refine AY.drop (K:=[.c [.d (.by b4)],.c [.qE k,.pY v,.pY n,.pq g]]) _ ?_ ⟨.inr rfl,trivial⟩ rfl rfl rfl;refine zD A4 Tryz.func264 ?_;unfold rH at *;have d1:=Ds.mk [0] (c1);have d2:=Ds.mk [0] (c2);have d3:=Ds.mk [0] (c3);have d4:=Ds.mk [0] (c4);refine wd [0,2] [] A0 A0 ?_;clear d4 d3 d2 d1;exact⟨_,A1.refl _,Nat.le_add_right _ _,_,_,rfl,rfl,rfl,rfl⟩
theorem Xc(b:List UInt8)(hb:b.length<70368744177664)(h:Ff b=none):KJ Tryz.prog 264 [.ptr 0 0 1] (rH b) (pF 12) [.gone]:=by
 refine zX A4 Tryz.func264 ?_
 cases h1:Gy b with
 |none=>
  have c1:=Y5 b hb h1;unfold rH at *;have x1:=Ds.mk [0] (c1);refine wx [0,2] [] A0 A0 ?_;clear x1;exact⟨rfl,⟨[],[.gone],Tryz.f264.ntmps⟩,(A1.ck rfl),qG _,rfl⟩
 |some p=>
 obtain⟨k,b1⟩:=p;have l1:=Je h1;have c1:=SR b hb k b1 h1
 cases h2:C8 b1 with
 |none=>
  have c2:=CL b1 om h2;unfold rH at *;have d1:=Ds.mk [0] (c1);have x1:=Ds.mk [0] (c2);refine wx [0,2] [] A0 A0 ?_;clear x1 d1;exact⟨rfl,⟨[],[.gone],Tryz.f264.ntmps⟩,(A1.ck rfl),qG _,rfl⟩
 |some p=>
 obtain⟨v,b2⟩:=p;have l2:=Am h2;have c2:=B2 b1 om v b2 h2
 cases h3:C8 b2 with
 |none=>
  have c3:=CL b2 om h3;unfold rH at *;have d1:=Ds.mk [0] (c1);have d2:=Ds.mk [0] (c2);have x1:=Ds.mk [0] (c3);refine wx [0,2] [] A0 A0 ?_;clear x1 d2 d1;exact⟨rfl,⟨[],[.gone],Tryz.f264.ntmps⟩,(A1.ck rfl),qG _,rfl⟩
 |some p=>
 obtain⟨n,b3⟩:=p;have l3:=Am h3;have c3:=B2 b2 om n b3 h3
 cases h4:Ej b3 with
 |none=>
  have c4:=RO b3 om h4;unfold rH at *;have d1:=Ds.mk [0] (c1);have d2:=Ds.mk [0] (c2);have d3:=Ds.mk [0] (c3);have x1:=Ds.mk [0] (c4);refine wx [0,2] [] A0 A0 ?_;clear x1 d3 d2 d1;exact⟨rfl,⟨[],[.gone],Tryz.f264.ntmps⟩,(A1.ck rfl),qG _,rfl⟩
 |some p=>
  unfold Ff at h;simp only[h1,h2,h3,h4]at h;cases h
theorem QP(h:Ff b=some (x,r)):r.length<=b.length:=by
 unfold Ff at h;split at h
 .cases h
 rename_i k b1 h1;split at h
 .cases h
 rename_i v b2 h2;split at h
 .cases h
 rename_i n b3 h3;split at h
 .cases h
 rename_i g b4 h4;simp only[qI,qR]at h;obtain⟨rfl,rfl⟩:=h;have l1:=Je h1;have l2:=Am h2;have l3:=Am h3;have l4:=Me h4;omega
def Ek(m:A2)(b:List UInt8):Option (A2×List UInt8):=match C8 b with
 |none=>none
 |some (k,b1)=>if k>=13 then none else match C8 b1 with
  |none=>none
  |some (c,b2)=>match C8 b2 with
   |none=>none
   |some (s,b3)=>match C8 b3 with
    |none=>none
    |some (d,b4)=>some ({m with kind:=k,call:=c,src:=s,dst:=d},b4)
def hH(m:A2)(b:List UInt8):List A3:=[.c [.d (.by b)],.c (mC m)]
def uC:List AV:=List.replicate 15 .u
theorem RZ(m:A2)(b:List UInt8)(hb:b.length<70368744177664)(m':A2)(r:List UInt8)(h:Ek m b=some (m',r)):qC 181 [.ptr 0 0 1,.ptr 1 0 15] (hH m b) (.tup []) (hH m' r):=by
 unfold Ek at h;split at h
 .cases h
 rename_i k b1 h1;split at h
 .cases h
 rename_i hk;split at h
 .cases h
 rename_i c b2 h2;split at h
 .cases h
 rename_i s b3 h3;split at h
 .cases h
 rename_i d b4 h4;simp only[qI,qR]at h;obtain⟨rfl,rfl⟩:=h;have l1:=Am h1;have l2:=Am h2;have l3:=Am h3;have c1:=B2 b hb k b1 h1;have c2:=B2 b1 om c b2 h2;have c3:=B2 b2 om s b3 h3;have c4:=B2 b3 om d b4 h4;have e:(k:Int)%256=k:=om
 refine zD A4 Tryz.func181 ?_;unfold rH hH mC at *;have d1:=Ds.mk [0] (c1);have d2:=Ds.mk [0] (c2);have d3:=Ds.mk [0] (c3);have d4:=Ds.mk [0] (c4);refine wd [0,1,4,8] [] (A6 e) A0 ?_;clear d4 d3 d2 d1;with_reducible repeat' first|constructor|intro hc;try simp only[AB]at hc
 exact⟨_,A1.refl _,qG _,_,_,rfl,rfl,rfl,rfl⟩
variable {env:List (Nat×AV)}
theorem nI{E:Nat->Option Ao}{cs:List AV}(hcs:cs.length=15):A1 ⟨env,[.c [.d (.by b)],.c cs],n⟩ ⟨[],[.gone,.c uC],n⟩:=
 (A1.us (S:=⟨env,[.c [.d (.by b)],.c cs],n⟩) 1 15 rfl hcs.symm).trans' (A1.cut (S':=⟨[],[.gone,.c uC],n⟩) rfl trivial ⟨.inl ⟨rfl,rfl⟩,.inr rfl,trivial⟩ rfl rfl) (qG _)
theorem i9(m:A2)(b:List UInt8)(hb:b.length<70368744177664)(h:Ek m b=none):KJ Tryz.prog 181 [.ptr 0 0 1,.ptr 1 0 15] (hH m b) (pF 12) [.gone,.c uC]:=by
 refine zX A4 Tryz.func181 ?_;unfold Ek at h
 cases h1:C8 b with
 |none=>
  have c1:=CL b hb h1;unfold hH rH mC at *;have x1:=Ds.mk [0] (c1);refine wx [0,1,4,8] [] A0 A0 ?_;clear x1;exact⟨rfl,_,(A1.us (S:=⟨_,[.gone,.c _],_⟩) 1 15 rfl rfl),qG _,rfl⟩
 |some p=>
 obtain⟨k,b1⟩:=p;rw[h1]at h;simp only at h;have l1:=Am h1;have c1:=B2 b hb k b1 h1;split at h
 .rename_i hk;unfold hH rH mC at *;have d1:=Ds.mk [0] (c1);refine wx [0,1,4,8] [] A0 A0 ?_;clear d1;with_reducible repeat' first|constructor|intro hc;try simp only[AB]at hc
  exact⟨rfl,_,nI (E:=T.get) rfl,qG _,rfl⟩
 rename_i hk;have e:(k:Int)%256=k:=om
 cases h2:C8 b1 with
 |none=>
  have c2:=CL b1 om h2;unfold hH rH mC at *;have d1:=Ds.mk [0] (c1);have x1:=Ds.mk [0] (c2);refine wx [0,1,4,8] [] (A6 e) A0 ?_;clear x1 d1;with_reducible repeat' first|constructor|intro hc;try simp only[AB]at hc
  exact⟨rfl,_,(A1.us (S:=⟨_,[.gone,.c _],_⟩) 1 15 rfl rfl),qG _,rfl⟩
 |some p=>
 obtain⟨c,b2⟩:=p;rw[h2]at h;simp only at h;have l2:=Am h2;have c2:=B2 b1 om c b2 h2
 cases h3:C8 b2 with
 |none=>
  have c3:=CL b2 om h3;unfold hH rH mC at *;have d1:=Ds.mk [0] (c1);have d2:=Ds.mk [0] (c2);have x1:=Ds.mk [0] (c3);refine wx [0,1,4,8] [] (A6 e) A0 ?_;clear x1 d2 d1;with_reducible repeat' first|constructor|intro hc;try simp only[AB]at hc
  exact⟨rfl,_,(A1.us (S:=⟨_,[.gone,.c _],_⟩) 1 15 rfl rfl),qG _,rfl⟩
 |some p=>
 obtain⟨s,b3⟩:=p;rw[h3]at h;simp only at h;have l3:=Am h3;have c3:=B2 b2 om s b3 h3
 cases h4:C8 b3 with
 |none=>
  have c4:=CL b3 om h4;unfold hH rH mC at *;have d1:=Ds.mk [0] (c1);have d2:=Ds.mk [0] (c2);have d3:=Ds.mk [0] (c3);have x1:=Ds.mk [0] (c4);refine wx [0,1,4,8] [] (A6 e) A0 ?_;clear x1 d3 d2 d1;with_reducible repeat' first|constructor|intro hc;try simp only[AB]at hc
  exact⟨rfl,_,(A1.us (S:=⟨_,[.gone,.c _],_⟩) 1 15 rfl rfl),qG _,rfl⟩
 |some p=>
  rw[h4]at h;cases h
variable {m':A2}
theorem Mg(h:Ek m b=some (m',r)):r.length<=b.length:=by
 unfold Ek at h;split at h
 .cases h
 rename_i k b1 h1;split at h
 .cases h
 split at h
 .cases h
 rename_i c b2 h2;split at h
 .cases h
 rename_i s b3 h3;split at h
 .cases h
 rename_i d b4 h4;simp only[qI,qR]at h;obtain⟨rfl,rfl⟩:=h;have l1:=Am h1;have l2:=Am h2;have l3:=Am h3;have l4:=Am h4;omega
def gH(m:A2)(b:List UInt8):List A3:=[.c [.ptr 3 0 1],.c [.ptr 2 0 15],.c (mC m),.c [.d (.by b)]]
def gX:List A3:=[.gone,.gone,.c uC,.gone]
theorem Iw{a b c:List AV}(hc:c.length=15):A1 ⟨env,[.c a,.c b,.c c,.gone],n⟩ ⟨[],gX,n⟩:=
 (A1.us (S:=⟨env,[.c a,.c b,.c c,.gone],n⟩) 2 15 rfl hc.symm).trans' (A1.cut (S':=⟨[],gX,n⟩) rfl trivial ⟨.inl ⟨rfl,rfl⟩,.inl ⟨rfl,rfl⟩,.inr rfl,.inr rfl,trivial⟩ rfl rfl) (qG _)
def FP(m:A2)(b:List UInt8):Option (A2×List UInt8):=
 if m.kind=4 then match C8 b with
  |none=>none
  |some (n,b1)=>match Ej b1 with
   |none=>none
   |some (g,b2)=>some ({m with key:=n,slow:=g},b2)
 else if m.kind=5 then match Ff b with
  |none=>none
  |some (x,b1)=>some ({m with item:=x},b1)
 else if m.kind=6 then match Gy b with
  |none=>none
  |some (s,b1)=>some ({m with item:=⟨s,m.item.value,m.item.version,m.item.gone⟩},b1)
 else if m.kind=7 then match C8 b with
  |none=>none
  |some (n,b1)=>match IT b1 with
   |none=>none
   |some (l,b2)=>some ({m with pred:=(n:Int)-1,list:=l},b2)
 else if m.kind=10 then match C8 b with
  |none=>none
  |some (n,b1)=>match Ej b1 with
   |none=>none
   |some (g,b2)=>some ({m with place:=n,done:=g},b2)
 else if m.kind=11 then match C8 b with
  |none=>none
  |some (n,b1)=>some ({m with code:=n},b1)
 else if m.kind=12 then match C8 b with
  |none=>none
  |some (n,b1)=>if n=0 then(match Ff b1 with
   |none=>none
   |some (x,b2)=>some ({m with code:=0,item:=x},b2))else some ({m with code:=n},b1)
 else some (m,b)
theorem S6(h:C8 b=some (n,r)):n<=1099511627776:=by
 have e:=Hd h;unfold Av at e;split at e
 .simp at e
 .split at e
  .simp at e
  .split at e
   .simp at e
   .split at e
    .simp at e
    .rename_i hh;simp only[qR]at e;simp only[not_or]at hh;rw[<-e.1];omega
theorem oz(m:A2)(b:List UInt8)(hb:b.length<70368744177664)(n:Nat)(b1:List UInt8)(h1:C8 b=some (n,b1))(g:Bool)(b2:List UInt8)(h2:Ej b1=some (g,b2)):qC 261 [.ptr 0 0 1,.ptr 1 0 1] (gH m b) (.tup []) (gH {m with key:=(n:Int),slow:=g} b2):=by
 have c1:=B2 b hb n b1 h1;have c2:=RP b1 (by have:=Am h1;omega) g b2 h2;refine zD A4 Tryz.func261 ?_;unfold gH rH mC at *;have d1:=Ds.mk [3] (c1);have d2:=Ds.mk [3] (c2);refine wd [0,1] [] A0 A0 ?_ [(0,3),(0,5),(1,3),(1,5),(1,8),(4,3)];clear d2 d1;exact⟨_,A1.refl _,qG _,_,_,rfl,rfl,rfl,rfl⟩
theorem mS(m:A2)(b:List UInt8)(hb:b.length<70368744177664)(h1:C8 b=none):KJ Tryz.prog 261 [.ptr 0 0 1,.ptr 1 0 1] (gH m b) (pF 12) gX:=by
 have c1:=CL b hb h1;refine zX A4 Tryz.func261 ?_;unfold gH rH mC at *;have x1:=Ds.mk [3] (c1);refine wx [0,1] [] A0 A0 ?_ [(0,3),(1,3),(4,3)];clear x1;exact⟨rfl,_,Iw rfl,qG _,rfl⟩
theorem mT(m:A2)(b:List UInt8)(hb:b.length<70368744177664)(n:Nat)(b1:List UInt8)(h1:C8 b=some (n,b1))(h2:Ej b1=none):KJ Tryz.prog 261 [.ptr 0 0 1,.ptr 1 0 1] (gH m b) (pF 12) gX:=by
 have c1:=B2 b hb n b1 h1;have c2:=RO b1 (by have:=Am h1;omega) h2;refine zX A4 Tryz.func261 ?_;unfold gH rH mC at *;have d1:=Ds.mk [3] (c1);have x1:=Ds.mk [3] (c2);refine wx [0,1] [] A0 A0 ?_ [(0,3),(0,5),(1,3),(1,5),(4,3)];clear x1 d1;exact⟨rfl,_,Iw rfl,qG _,rfl⟩
theorem pB(m:A2)(b:List UInt8)(hb:b.length<70368744177664)(n:Nat)(b1:List UInt8)(h1:C8 b=some (n,b1))(g:Bool)(b2:List UInt8)(h2:Ej b1=some (g,b2)):qC 269 [.ptr 0 0 1,.ptr 1 0 1] (gH m b) (.tup []) (gH {m with place:=(n:Int),done:=g} b2):=by
 have c1:=B2 b hb n b1 h1;have c2:=RP b1 (by have:=Am h1;omega) g b2 h2;refine zD A4 Tryz.func269 ?_;unfold gH rH mC at *;have d1:=Ds.mk [3] (c1);have d2:=Ds.mk [3] (c2);refine wd [0,1] [] A0 A0 ?_ [(0,3),(0,5),(1,3),(1,5),(1,8),(4,3)];clear d2 d1;exact⟨_,A1.refl _,qG _,_,_,rfl,rfl,rfl,rfl⟩
theorem mZ(m:A2)(b:List UInt8)(hb:b.length<70368744177664)(h1:C8 b=none):KJ Tryz.prog 269 [.ptr 0 0 1,.ptr 1 0 1] (gH m b) (pF 12) gX:=by
 have c1:=CL b hb h1;refine zX A4 Tryz.func269 ?_;unfold gH rH mC at *;have x1:=Ds.mk [3] (c1);refine wx [0,1] [] A0 A0 ?_ [(0,3),(1,3),(4,3)];clear x1;exact⟨rfl,_,Iw rfl,qG _,rfl⟩
theorem ma(m:A2)(b:List UInt8)(hb:b.length<70368744177664)(n:Nat)(b1:List UInt8)(h1:C8 b=some (n,b1))(h2:Ej b1=none):KJ Tryz.prog 269 [.ptr 0 0 1,.ptr 1 0 1] (gH m b) (pF 12) gX:=by
 have c1:=B2 b hb n b1 h1;have c2:=RO b1 (by have:=Am h1;omega) h2;refine zX A4 Tryz.func269 ?_;unfold gH rH mC at *;have d1:=Ds.mk [3] (c1);have x1:=Ds.mk [3] (c2);refine wx [0,1] [] A0 A0 ?_ [(0,3),(0,5),(1,3),(1,5),(4,3)];clear x1 d1;exact⟨rfl,_,Iw rfl,qG _,rfl⟩
theorem p7(m:A2)(b:List UInt8)(hb:b.length<70368744177664)(x:Item)(b1:List UInt8)(h1:Ff b=some (x,b1)):qC 263 [.ptr 0 0 1,.ptr 1 0 1] (gH m b) (.tup []) (gH {m with item:=x} b1):=by
 have c1:=Xd b hb x b1 h1;obtain⟨xk,xv,xn,xg⟩:=x;unfold Item.d Item.cells at c1;refine zD A4 Tryz.func263 ?_;unfold gH rH mC at *;have d1:=Ds.mk [3] (c1);refine wd [0,1] [] A0 A0 ?_ [(0,2)];clear d1;exact⟨_,A1.refl _,qG _,_,_,rfl,rfl,rfl,rfl⟩
theorem mU(m:A2)(b:List UInt8)(hb:b.length<70368744177664)(h1:Ff b=none):KJ Tryz.prog 263 [.ptr 0 0 1,.ptr 1 0 1] (gH m b) (pF 12) gX:=by
 have c1:=Xc b hb h1;refine zX A4 Tryz.func263 ?_;unfold gH rH mC at *;have x1:=Ds.mk [3] (c1);refine wx [0,1] [] A0 A0 ?_ [(0,2)];clear x1;exact⟨rfl,_,Iw rfl,qG _,rfl⟩
theorem p8(m:A2)(b:List UInt8)(hb:b.length<70368744177664)(s b1:List UInt8)(h1:Gy b=some (s,b1)):qC 265 [.ptr 0 0 1,.ptr 1 0 1] (gH m b) (.tup []) (gH {m with item:=⟨s,m.item.value,m.item.version,m.item.gone⟩} b1):=by
 have c1:=SR b hb s b1 h1;refine zD A4 Tryz.func265 ?_;unfold gH rH mC at *;have d1:=Ds.mk [3] (c1);refine wd [0,1] [] A0 A0 ?_ [(0,2)];clear d1;exact⟨_,A1.refl _,qG _,_,_,rfl,rfl,rfl,rfl⟩
theorem mV(m:A2)(b:List UInt8)(hb:b.length<70368744177664)(h1:Gy b=none):KJ Tryz.prog 265 [.ptr 0 0 1,.ptr 1 0 1] (gH m b) (pF 12) gX:=by
 have c1:=Y5 b hb h1;refine zX A4 Tryz.func265 ?_;unfold gH rH mC at *;have x1:=Ds.mk [3] (c1);refine wx [0,1] [] A0 A0 ?_ [(0,2)];clear x1;exact⟨rfl,_,Iw rfl,qG _,rfl⟩
theorem pA(m:A2)(b:List UInt8)(hb:b.length<70368744177664)(n:Nat)(b1:List UInt8)(h1:C8 b=some (n,b1))(l:List Int)(b2:List UInt8)(h2:IT b1=some (l,b2)):qC 267 [.ptr 0 0 1,.ptr 1 0 1] (gH m b) (.tup []) (gH {m with pred:=(n:Int)-1,list:=l} b2):=by
 have c1:=B2 b hb n b1 h1;have c2:=Rm b1 (by have:=Am h1;omega) l b2 h2;have hn:=S6 h1;refine zD A4 Tryz.func267 ?_;unfold gH rH mC at *;have d1:=Ds.mk [3] (c1);refine wd [0,1] [1] A0 A0 ?_ [(0,2)];clear d1;have d1:=Ds.mk [3] (c2);refine wd [0,1] [] A0 A0 ?_ [(0,2)];clear d1;exact⟨_,A1.refl _,qG _,_,_,rfl,rfl,rfl,rfl⟩
theorem mW(m:A2)(b:List UInt8)(hb:b.length<70368744177664)(h1:C8 b=none):KJ Tryz.prog 267 [.ptr 0 0 1,.ptr 1 0 1] (gH m b) (pF 12) gX:=by
 have c1:=CL b hb h1;refine zX A4 Tryz.func267 ?_;unfold gH rH mC at *;have x1:=Ds.mk [3] (c1);refine wx [0,1] [1] A0 A0 ?_ [(0,2)];clear x1;exact⟨rfl,_,Iw rfl,qG _,rfl⟩
theorem mY(m:A2)(b:List UInt8)(hb:b.length<70368744177664)(n:Nat)(b1:List UInt8)(h1:C8 b=some (n,b1))(h2:IT b1=none):KJ Tryz.prog 267 [.ptr 0 0 1,.ptr 1 0 1] (gH m b) (pF 12) gX:=by
 have c1:=B2 b hb n b1 h1;have c2:=iQ b1 (by have:=Am h1;omega) h2;have hn:=S6 h1;refine zX A4 Tryz.func267 ?_;unfold gH rH mC at *;have d1:=Ds.mk [3] (c1);refine wd [0,1] [1] A0 A0 ?_ [(0,2)];clear d1;have x1:=Ds.mk [3] (c2);refine wx [0,1] [] A0 A0 ?_ [(0,2)];clear x1;exact⟨rfl,_,Iw rfl,qG _,rfl⟩
theorem pC(m:A2)(b:List UInt8)(hb:b.length<70368744177664)(n:Nat)(b1:List UInt8)(h1:C8 b=some (n,b1))  :qC 270 [.ptr 0 0 1,.ptr 1 0 1] (gH m b) (.tup []) (gH {m with code:=(n:Int)} b1):=by
 have c1:=B2 b hb n b1 h1;refine zD A4 Tryz.func270 ?_;unfold gH rH mC at *;have d1:=Ds.mk [3] (c1);refine wd [0,1] [] A0 A0 ?_ [(0,2)];clear d1;exact⟨_,A1.refl _,qG _,_,_,rfl,rfl,rfl,rfl⟩
theorem mb(m:A2)(b:List UInt8)(hb:b.length<70368744177664)(h1:C8 b=none):KJ Tryz.prog 270 [.ptr 0 0 1,.ptr 1 0 1] (gH m b) (pF 12) gX:=by
 have c1:=CL b hb h1;refine zX A4 Tryz.func270 ?_;unfold gH rH mC at *;have x1:=Ds.mk [3] (c1);refine wx [0,1] [] A0 A0 ?_ [(0,2)];clear x1;exact⟨rfl,_,Iw rfl,qG _,rfl⟩
theorem pD(m:A2)(b:List UInt8)(hb:b.length<70368744177664)(n:Nat)(b1:List UInt8)(h1:C8 b=some (n,b1))(hn:n≠0):qC 271 [.ptr 0 0 1,.ptr 1 0 1] (gH m b) (.tup []) (gH {m with code:=(n:Int)} b1):=by
 have c1:=B2 b hb n b1 h1;have f:=eq_false' (show(n:Int)≠0 by omega);refine zD A4 Tryz.func271 ?_;unfold gH rH mC at *;have d1:=Ds.mk [3] (c1);refine wd [0,1,11] [] (A6 f) A0 ?_ [(0,2)];clear d1;exact⟨_,A1.refl _,qG _,_,_,rfl,rfl,rfl,rfl⟩
theorem mc(m:A2)(b:List UInt8)(hb:b.length<70368744177664)(h1:C8 b=none):KJ Tryz.prog 271 [.ptr 0 0 1,.ptr 1 0 1] (gH m b) (pF 12) gX:=by
 have c1:=CL b hb h1;refine zX A4 Tryz.func271 ?_;unfold gH rH mC at *;have x1:=Ds.mk [3] (c1);refine wx [0,1,11] [] A0 A0 ?_ [(0,2)];clear x1;exact⟨rfl,_,Iw rfl,qG _,rfl⟩
theorem mf(m:A2)(b:List UInt8)(hb:b.length<70368744177664)(b1:List UInt8)(h1:C8 b=some (0,b1))(x:Item)(b2:List UInt8)(h2:Ff b1=some (x,b2)):qC 271 [.ptr 0 0 1,.ptr 1 0 1] (gH m b) (.tup []) (gH {m with code:=0,item:=x} b2):=by
 have c1:=B2 b hb 0 b1 h1;have c2:=Xd b1 (by have:=Am h1;omega) x b2 h2;obtain⟨xk,xv,xn,xg⟩:=x;unfold Item.d Item.cells at c2;refine zD A4 Tryz.func271 ?_;unfold gH rH mC at *;have d1:=Ds.mk [3] (c1);have d2:=Ds.mk [3] (c2);refine wd [0,1,11] [] A0 A0 ?_ [(0,2)];clear d2 d1;exact⟨_,A1.refl _,qG _,_,_,rfl,rfl,rfl,rfl⟩
theorem me(m:A2)(b:List UInt8)(hb:b.length<70368744177664)(b1:List UInt8)(h1:C8 b=some (0,b1))(h2:Ff b1=none):KJ Tryz.prog 271 [.ptr 0 0 1,.ptr 1 0 1] (gH m b) (pF 12) gX:=by
 have c1:=B2 b hb 0 b1 h1;have c2:=Xc b1 (by have:=Am h1;omega) h2;refine zX A4 Tryz.func271 ?_;unfold gH rH mC at *;have d1:=Ds.mk [3] (c1);have x1:=Ds.mk [3] (c2);refine wx [0,1,11] [] A0 A0 ?_ [(0,2)];clear x1 d1;exact⟨rfl,_,Iw rfl,qG _,rfl⟩
def Oo(k:Int):Nat:=if k=4 then 261 else if k=5 then 263 else if k=6 then 265 else if k=7 then 267 else if k=10 then 269 else if k=11 then 270 else 271
theorem iX(m:A2)(b:List UInt8)(hb:b.length<70368744177664)(h:FP m b=none):KJ Tryz.prog (Oo m.kind) [.ptr 0 0 1,.ptr 1 0 1] (gH m b) (pF 12) gX:=by
 unfold FP at h;unfold Oo
 by_cases h4:m.kind=4
 .rw[if_pos h4]at h|-;split at h
  .rename_i h1;exact mS m b hb h1
  .rename_i n b1 h1;split at h
   .rename_i h2;exact mT m b hb n b1 h1 h2
   .cases h
 rw[if_neg h4]at h|-
 by_cases h5:m.kind=5
 .rw[if_pos h5]at h|-;split at h
  .rename_i h1;exact mU m b hb h1
  .cases h
 rw[if_neg h5]at h|-
 by_cases h6:m.kind=6
 .rw[if_pos h6]at h|-;split at h
  .rename_i h1;exact mV m b hb h1
  .cases h
 rw[if_neg h6]at h|-
 by_cases h7:m.kind=7
 .rw[if_pos h7]at h|-;split at h
  .rename_i h1;exact mW m b hb h1
  .rename_i n b1 h1;split at h
   .rename_i h2;exact mY m b hb n b1 h1 h2
   .cases h
 rw[if_neg h7]at h|-
 by_cases h10:m.kind=10
 .rw[if_pos h10]at h|-;split at h
  .rename_i h1;exact mZ m b hb h1
  .rename_i n b1 h1;split at h
   .rename_i h2;exact ma m b hb n b1 h1 h2
   .cases h
 rw[if_neg h10]at h|-
 by_cases h11:m.kind=11
 .rw[if_pos h11]at h|-;split at h
  .rename_i h1;exact mb m b hb h1
  .cases h
 rw[if_neg h11]at h|-;split at h
 .split at h
  .rename_i h1;exact mc m b hb h1
  .rename_i n b1 h1;split at h
   .rename_i hn;subst hn;split at h
    .rename_i h2;exact me m b hb b1 h1 h2
    .cases h
   .cases h
 .cases h
def special(k:Int):Prop:=k=4\/k=5\/k=6\/k=7\/k=10\/k=11\/k=12
theorem XS(m:A2)(b:List UInt8)(hb:b.length<70368744177664)(m':A2)(r:List UInt8)(h:FP m b=some (m',r))(hs:special m.kind):qC (Oo m.kind) [.ptr 0 0 1,.ptr 1 0 1] (gH m b) (.tup []) (gH m' r):=by
 unfold FP at h;unfold Oo
 by_cases h4:m.kind=4
 .rw[if_pos h4]at h|-;split at h
  .cases h
  .rename_i n b1 h1;split at h
   .cases h
   .rename_i g b2 h2;cases h;exact oz m b hb n b1 h1 g _ h2
 rw[if_neg h4]at h|-
 by_cases h5:m.kind=5
 .rw[if_pos h5]at h|-;split at h
  .cases h
  .rename_i x b1 h1;cases h;exact p7 m b hb x _ h1
 rw[if_neg h5]at h|-
 by_cases h6:m.kind=6
 .rw[if_pos h6]at h|-;split at h
  .cases h
  .rename_i s b1 h1;cases h;exact p8 m b hb s _ h1
 rw[if_neg h6]at h|-
 by_cases h7:m.kind=7
 .rw[if_pos h7]at h|-;split at h
  .cases h
  .rename_i n b1 h1;split at h
   .cases h
   .rename_i l b2 h2;cases h;exact pA m b hb n b1 h1 l _ h2
 rw[if_neg h7]at h|-
 by_cases h10:m.kind=10
 .rw[if_pos h10]at h|-;split at h
  .cases h
  .rename_i n b1 h1;split at h
   .cases h
   .rename_i g b2 h2;cases h;exact pB m b hb n b1 h1 g _ h2
 rw[if_neg h10]at h|-
 by_cases h11:m.kind=11
 .rw[if_pos h11]at h|-;split at h
  .cases h
  .rename_i n b1 h1;cases h;exact pC m b hb n _ h1
 rw[if_neg h11]at h|-;have h12:m.kind=12:=by unfold special at hs;omega
 rw[if_pos h12]at h;split at h
 .cases h
 .rename_i n b1 h1;split at h
  .rename_i hn;subst hn;split at h
   .cases h
   .rename_i x b2 h2;cases h;exact mf m b hb b1 h1 x _ h2
  .rename_i hn;cases h;exact pD m b hb n _ h1 hn
theorem J7(m:A2)(b:List UInt8)(hs:¬special m.kind):FP m b=some (m,b):=by
 unfold special at hs;unfold FP;rw[if_neg om,if_neg om,if_neg om,if_neg om,if_neg om,if_neg om,if_neg om]
def VZ:List (D×AV):=[(.i .u8 4,.fn (.func 261) [] [.ptr 3 0 1,.ptr 2 0 1]),(.i .u8 5,.fn (.func 263) [] [.ptr 3 0 1,.ptr 2 0 1]),(.i .u8 6,.fn (.func 265) [] [.ptr 3 0 1,.ptr 2 0 1]),(.i .u8 7,.fn (.func 267) [] [.ptr 3 0 1,.ptr 2 0 1]),
 (.i .u8 10,.fn (.func 269) [] [.ptr 3 0 1,.ptr 2 0 1]),(.i .u8 11,.fn (.func 270) [] [.ptr 3 0 1,.ptr 2 0 1]),(.i .u8 12,.fn (.func 271) [] [.ptr 3 0 1,.ptr 2 0 1])]
theorem Mi(m:A2)(b:List UInt8):qC 182 [.ptr 0 0 15,.ptr 1 0 1] [.c (mC m),.c [.d (.by b)]] (.mp 4) [.c (mC m),.c [.d (.by b)],.c [.ptr 0 0 15],.c [.ptr 1 0 1],.m VZ]:=by
 refine zD A4 Tryz.func182 ?_;unfold VZ mC;refine wd [0,1,2,3,4] [] A0 A0 ?_;exact⟨_,A1.refl _,qA,_,_,rfl,rfl,rfl,rfl⟩
theorem Pl(H:List A3):MA Tryz.prog 179 [.ptr 0 0 15,.ptr 1 0 1] H .returning H:=by
 refine JL Tryz.func179 rfl rfl qA fun c0 cs hu=> ?_;refine Ik (JM ?_)
 refine fz rfl rfl rfl rfl (.inl ⟨by simp[recoverD,hu],rfl,rfl⟩) ?_;refine Sq A4 rfl rfl rfl rfl ?_ rfl;refine NZ ?_;refine Ik (Em ?_);refine Kq A4 rfl rfl rfl rfl ?_ rfl;refine Kn A4 rfl rfl rfl rfl ?_;refine Cv ?_;refine NX rfl (WY ?_);exact⟨.returning,by rw[<-hu],rfl,_,A1.refl _,qG _,rfl⟩
def zC:List AV:=[.pz 0,.pY 0,.pY 0,.pY 0,.pY 0,.pq false,.pq false,.pY 0,.pY 0,.e0,.qE ([]),.pY 0,.pY 0,.pq false,.pY 0]
theorem El(c0 c1 c2 c3 c4 c5 c6 c7 c8 c9 c10 c11 c12 c13 c14 y:AV)(R:List A3)(n:Int):MA Tryz.prog 179 [.ptr 0 0 15,.ptr 1 0 1] (.c [c0,c1,c2,c3,c4,c5,c6,c7,c8,c9,c10,c11,c12,c13,c14]:: .c [y]::R) (.panicking (pF n)) (.c zC:: .c [.pY n]::R):=by
 have hc:=TG n 12;refine JL Tryz.func179 rfl rfl qA fun c0 cs hu=> ?_
 refine Ik (JM ?_);refine fz (cs':={c0 with mode:=.panicking [{v:=.iface 224 (.agg #[.int .i64 n]),recovered:=true}]}::cs) rfl rfl rfl rfl (.inr ⟨224,.agg #[.int .i64 n],by simp[recoverD,hu,pF],rfl⟩) ?_;refine Sq A4 rfl rfl rfl rfl ?_ rfl;refine NZ ?_;refine Ik (Em ?_);refine Kq A4 rfl rfl rfl rfl ?_ rfl;refine Kn A4 rfl rfl rfl rfl ?_;refine Cv ?_;refine NX rfl (Em ?_);refine Kq A4 rfl rfl rfl rfl ?_ rfl;refine Kq A4 rfl rfl rfl rfl ?_ rfl;refine KF hc rfl rfl rfl rfl (by simp[Ig,CN,Bb]) rfl rfl ?_;refine Kw A4 rfl rfl rfl rfl ?_ rfl;refine Kw A4 rfl rfl rfl rfl ?_ rfl;refine Cv ?_;exact⟨_,rfl,rfl,_,A1.refl _,qG _,rfl⟩
abbrev Cl:List Nat:=[0,2,3,4,5,6,10,23,34]
def DY(b:List UInt8):A2×Int:=
 if 46<b.length then(A5,12)else match Ek A5 b with
 |none=>(A5,12)
 |some (m,r)=>match FP m r with
  |none=>(A5,12)
  |some (m',r')=>if r'=[]/\m'.right=true then(m',0)else(A5,12)
theorem Gd:∀(k:Nat)(b:List UInt8)(acc:List Int),(CK k b acc).1.length<=k+acc.length/\(CK k b acc).2.1.length<=b.length
 |0,b,acc=>by simp[CK]
 |k+1,b,acc=>by
  simp only[CK];split
  .have ih:=Gd k (Av b).2.1 (acc++[((Av b).1:Int)]);have hl:=GE b;simp only[qj,qY,qy]at ih;omega
  .simp
theorem eC(h:IT b=some (l,r)):l.length<=255/\r.length<=b.length:=by
 have e:=Kb h;unfold Af at e;split at e
 .simp at e
 .rename_i m q;have hl:=Gd m.toNat q [];rw[e]at hl;have:=m.toNat_lt;simp only[qy,qY]at hl|-;omega
theorem UI(h:FP m b=some (m',r))(hl:m.list.length<=255):m'.list.length<=255/\r.length<=b.length:=by
 unfold FP at h;split at h
 .split at h
  .cases h
  .rename_i n b1 h1;split at h
   .cases h
   .rename_i g b2 h2;have:=Am h1;have:=Me h2;cases h;exact⟨hl,om⟩
 split at h
 .split at h
  .cases h
  .rename_i x b1 h1;have:=QP h1;cases h;exact⟨hl,om⟩
 split at h
 .split at h
  .cases h
  .rename_i x b1 h1;have:=Je h1;cases h;exact⟨hl,om⟩
 split at h
 .split at h
  .cases h
  .rename_i n b1 h1;split at h
   .cases h
   .rename_i g b2 h2;have:=Am h1;have:=eC h2;cases h;exact⟨this.1,om⟩
 split at h
 .split at h
  .cases h
  .rename_i n b1 h1;split at h
   .cases h
   .rename_i g b2 h2;have:=Am h1;have:=Me h2;cases h;exact⟨hl,om⟩
 split at h
 .split at h
  .cases h
  .rename_i n b1 h1;have:=Am h1;cases h;exact⟨hl,om⟩
 split at h
 .split at h
  .cases h
  .rename_i n b1 h1;have:=Am h1;split at h
   .split at h
    .cases h
    .rename_i x b2 h2;have:=QP h2;cases h;exact⟨hl,om⟩
   .cases h;exact⟨hl,om⟩
 .cases h;exact⟨hl,om⟩
theorem KZ(h:Ek A5 b=some (m,r)):0<=m.kind/\m.kind<13/\m.list=[]:=by
 unfold Ek at h;split at h
 .cases h
 rename_i k b1 h1;split at h
 .cases h
 split at h
 .cases h
 rename_i c b2 h2;split at h
 .cases h
 rename_i s b3 h3;split at h
 .cases h
 rename_i d b4 h4;simp only[qI,qR]at h;obtain⟨rfl,rfl⟩:=h;exact⟨by show(0:Int)<=(k:Int);omega,by show(k:Int)<13;omega,rfl⟩
abbrev Zf:AV:=.tup [.ag zC,.pY 12]
abbrev eJ:List A3:=[.c zC,.c [.pY 12]]
theorem kW(b:List UInt8)(h:46<b.length):qC 117 [.d (.by b)] [] Zf eJ:=by
 refine EO (g:=179) (xs:=[.ptr 0 0 15,.ptr 1 0 1]) A4 Tryz.func117 rfl rfl qA ?_;refine Ka A4 rfl rfl rfl rfl rfl ?_ rfl;refine Ka A4 rfl rfl rfl rfl rfl ?_ rfl;refine Cv ?_;refine Fq A4 rfl rfl rfl rfl ?_ rfl;refine Df rfl rfl rfl rfl rfl rfl ⟨_,Tryz.func179,rfl,rfl⟩ rfl ?_;refine wx Cl [] A0 A0 ?_;with_reducible repeat' first|constructor|intro hc;try simp only[AB]at hc
 refine⟨_,El _ _ _ _ _ _ _ _ _ _ _ _ _ _ _ _ _ 12,?_⟩;exact⟨⟨[(2,.ptr 0 0 15),(3,.ptr 1 0 1)],eJ,Tryz.f117.ntmps⟩,(A1.ck rfl),qP _,_,_,rfl,rfl,rfl,rfl⟩
theorem kX(b:List UInt8)(hb:b.length<=46)(h:Ek A5 b=none):qC 117 [.d (.by b)] [] Zf eJ:=by
 have c1:=i9 A5 b om h;unfold hH at c1;simp only[mC,A5,AA]at c1;refine EO (g:=179) (xs:=[.ptr 0 0 15,.ptr 1 0 1]) A4 Tryz.func117 rfl rfl qA ?_;refine Ka A4 rfl rfl rfl rfl rfl ?_ rfl;refine Ka A4 rfl rfl rfl rfl rfl ?_ rfl;refine Cv ?_;refine Fq A4 rfl rfl rfl rfl ?_ rfl;refine Df rfl rfl rfl rfl rfl rfl ⟨_,Tryz.func179,rfl,rfl⟩ rfl ?_;refine wx Cl [5] A0 A0 ?_;with_reducible repeat' first|constructor|intro hc;try simp only[AB]at hc
 refine Ah (A1.KA 0 9 (.is []) rfl rfl rfl rfl trivial) sm ?_;have x1:=Ds.mk [2,0] (c1);refine wx Cl [] A0 A0 ?_;clear x1;refine⟨_,El _ _ _ _ _ _ _ _ _ _ _ _ _ _ _ _ _ 12,?_⟩;exact⟨⟨[(2,.ptr 0 0 15),(3,.ptr 1 0 1)],eJ,Tryz.f117.ntmps⟩,(A1.ck rfl),qP _,_,_,rfl,rfl,rfl,rfl⟩
theorem kY(b:List UInt8)(hb:b.length<=46)(m:A2)(r:List UInt8)(h:Ek A5 b=some (m,r))(h2:FP m r=none):qC 117 [.d (.by b)] [] Zf eJ:=by
 have c1:=RZ A5 b om m r h;have l1:=Mg h;obtain⟨hk1,hk2,hk3⟩:=KZ h;have c2:=Mi m r;have c3:=iX m r om h2;have hs:special m.kind:=Classical.byContradiction fun hs=>by rw[J7 m r hs]at h2;cases h2
 unfold special at hs;obtain⟨k,c,s,d,ky,sl,dn,pl,pr,l,⟨ik,iv,ir,ig⟩,co⟩:=m;unfold hH at c1;simp only[mC,VZ,A5,AA]at *;unfold gH gX at c3;simp only[mC,Oo]at c3;refine EO (g:=179) (xs:=[.ptr 0 0 15,.ptr 1 0 1]) A4 Tryz.func117 rfl rfl qA ?_;refine Ka A4 rfl rfl rfl rfl rfl ?_ rfl;refine Ka A4 rfl rfl rfl rfl rfl ?_ rfl;refine Cv ?_;refine Fq A4 rfl rfl rfl rfl ?_ rfl;refine Df rfl rfl rfl rfl rfl rfl ⟨_,Tryz.func179,rfl,rfl⟩ rfl ?_;refine wx Cl [5] A0 A0 ?_;with_reducible repeat' first|constructor|intro hc;try simp only[AB]at hc
 refine Ah (A1.KA 0 9 (.is []) rfl rfl rfl rfl trivial) sm ?_;clear h h2;rcases hs with rfl|rfl|rfl|rfl|rfl|rfl|rfl
 all_goals(
  simp only[Int.reduceEq,qw,ql]at c3;have d1:=Ds.mk [2,0] (c1);have d2:=Ds.mk [0,2] (c2);have x1:=Ds.mk [4,3,0,2] (c3);refine wx Cl [] A0 A0 ?_ [(1,0),(2,0)];clear x1 d2 d1;refine⟨_,El _ _ _ _ _ _ _ _ _ _ _ _ _ _ _ _ _ 12,?_⟩
  exact⟨⟨[(2,.ptr 0 0 15),(3,.ptr 1 0 1)],eJ,Tryz.f117.ntmps⟩,(A1.ck rfl),qP _,_,_,rfl,rfl,rfl,rfl⟩)
theorem kZ(b:List UInt8)(hb:b.length<=46)(m m':A2)(r r':List UInt8)(h:Ek A5 b=some (m,r))(h2:FP m r=some (m',r'))(h3:¬(r'=[]/\m'.right=true)):qC 117 [.d (.by b)] [] Zf eJ:=by
 have c1:=RZ A5 b om m r h;have l1:=Mg h;obtain⟨hk1,hk2,hk3⟩:=KZ h;have c2:=Mi m r;have hl:=UI h2 (by rw[hk3];simp);have cR:=BV m' om
 by_cases hs:special m.kind
 .have c3:=XS m r om m' r' h2 hs;unfold special at hs;obtain⟨k,c,s,d,ky,sl,dn,pl,pr,l,⟨ik,iv,ir,ig⟩,co⟩:=m;obtain⟨k',c',s',d',ky',sl',dn',pl',pr',l',⟨ik',iv',ir',ig'⟩,co'⟩:=m';unfold hH at c1;unfold gH at c3;unfold A2.d A2.cells at cR;simp only[mC,VZ,A5,AA,Oo]at *;refine EO (g:=179) (xs:=[.ptr 0 0 15,.ptr 1 0 1]) A4 Tryz.func117 rfl rfl qA ?_;refine Ka A4 rfl rfl rfl rfl rfl ?_ rfl;refine Ka A4 rfl rfl rfl rfl rfl ?_ rfl;refine Cv ?_;refine Fq A4 rfl rfl rfl rfl ?_ rfl;refine Df rfl rfl rfl rfl rfl rfl ⟨_,Tryz.func179,rfl,rfl⟩ rfl ?_;refine wx Cl [5] A0 A0 ?_;with_reducible repeat' first|constructor|intro hc;try simp only[AB]at hc
  refine Ah (A1.KA 0 9 (.is []) rfl rfl rfl rfl trivial) sm ?_;clear h h2
  by_cases hr:r'=[]
  .subst hr
   have hR:(A2.mk k' c' s' d' ky' sl' dn' pl' pr' l' ⟨ik',iv',ir',ig'⟩ co').right=false:=by
    cases hq:(A2.mk k' c' s' d' ky' sl' dn' pl' pr' l' ⟨ik',iv',ir',ig'⟩ co').right with
    |false=>rfl
    |true=>exact absurd ⟨rfl,hq⟩ h3
   rw[hR]at cR;rcases hs with rfl|rfl|rfl|rfl|rfl|rfl|rfl
   all_goals(
    simp only[Int.reduceEq,qw,ql]at c3;have d1:=Ds.mk [2,0] (c1);have d2:=Ds.mk [0,2] (c2);have d3:=Ds.mk [4,3,0,2] (c3);refine wx Cl [] A0 (A6 @cR) ?_ [(1,0),(2,0)];clear d3 d2 d1;refine⟨_,El _ _ _ _ _ _ _ _ _ _ _ _ _ _ _ _ _ 12,?_⟩
    exact⟨⟨[(2,.ptr 0 0 15),(3,.ptr 1 0 1)],eJ,Tryz.f117.ntmps⟩,(A1.ck rfl),qP _,_,_,rfl,rfl,rfl,rfl⟩)
  .have hpos:0<r'.length:=List.length_pos_iff.2 hr;rcases hs with rfl|rfl|rfl|rfl|rfl|rfl|rfl
   all_goals(
    simp only[Int.reduceEq,qw,ql]at c3;have d1:=Ds.mk [2,0] (c1);have d2:=Ds.mk [0,2] (c2);have d3:=Ds.mk [4,3,0,2] (c3);refine wx Cl [] A0 (A6 @cR) ?_ [(1,0),(2,0)];clear d3 d2 d1;with_reducible repeat' first|constructor|intro hc;try simp only[AB]at hc
    refine⟨_,El _ _ _ _ _ _ _ _ _ _ _ _ _ _ _ _ _ 12,?_⟩
    exact⟨⟨[(2,.ptr 0 0 15),(3,.ptr 1 0 1)],eJ,Tryz.f117.ntmps⟩,(A1.ck rfl),qP _,_,_,rfl,rfl,rfl,rfl⟩)
 .rw[J7 m r hs]at h2;simp only[qI,qR]at h2;obtain⟨rfl,rfl⟩:=h2;unfold special at hs;obtain⟨k,c,s,d,ky,sl,dn,pl,pr,l,⟨ik,iv,ir,ig⟩,co⟩:=m;unfold hH at c1;unfold A2.d A2.cells at cR;simp only[mC,VZ,A5,AA]at *;have hs:k=0\/k=1\/k=2\/k=3\/k=8\/k=9:=om
  refine EO (g:=179) (xs:=[.ptr 0 0 15,.ptr 1 0 1]) A4 Tryz.func117 rfl rfl qA ?_;refine Ka A4 rfl rfl rfl rfl rfl ?_ rfl;refine Ka A4 rfl rfl rfl rfl rfl ?_ rfl;refine Cv ?_;refine Fq A4 rfl rfl rfl rfl ?_ rfl;refine Df rfl rfl rfl rfl rfl rfl ⟨_,Tryz.func179,rfl,rfl⟩ rfl ?_;refine wx Cl [5] A0 A0 ?_;with_reducible repeat' first|constructor|intro hc;try simp only[AB]at hc
  refine Ah (A1.KA 0 9 (.is []) rfl rfl rfl rfl trivial) sm ?_;clear h
  by_cases hr:r=[]
  .subst hr
   have hR:(A2.mk k c s d ky sl dn pl pr l ⟨ik,iv,ir,ig⟩ co).right=false:=by
    cases hq:(A2.mk k c s d ky sl dn pl pr l ⟨ik,iv,ir,ig⟩ co).right with
    |false=>rfl
    |true=>exact absurd ⟨rfl,hq⟩ h3
   rw[hR]at cR;rcases hs with rfl|rfl|rfl|rfl|rfl|rfl
   all_goals(
    have d1:=Ds.mk [2,0] (c1);have d2:=Ds.mk [0,2] (c2);refine wx Cl [] A0 (A6 @cR) ?_ [(1,0),(2,0)];clear d2 d1;refine⟨_,El _ _ _ _ _ _ _ _ _ _ _ _ _ _ _ _ _ 12,?_⟩
    exact⟨⟨[(2,.ptr 0 0 15),(3,.ptr 1 0 1)],eJ,Tryz.f117.ntmps⟩,(A1.ck rfl),qP _,_,_,rfl,rfl,rfl,rfl⟩)
  .have hpos:0<r.length:=List.length_pos_iff.2 hr;rcases hs with rfl|rfl|rfl|rfl|rfl|rfl
   all_goals(
    have d1:=Ds.mk [2,0] (c1);have d2:=Ds.mk [0,2] (c2);refine wx Cl [] A0 (A6 @cR) ?_ [(1,0),(2,0)];clear d2 d1;with_reducible repeat' first|constructor|intro hc;try simp only[AB]at hc
    refine⟨_,El _ _ _ _ _ _ _ _ _ _ _ _ _ _ _ _ _ 12,?_⟩
    exact⟨⟨[(2,.ptr 0 0 15),(3,.ptr 1 0 1)],eJ,Tryz.f117.ntmps⟩,(A1.ck rfl),qP _,_,_,rfl,rfl,rfl,rfl⟩)
abbrev K9:List Nat:=[0,2,3,4,5,6,10,23,34]
theorem ao(b:List UInt8)(hb:b.length<=46)(m m':A2)(r:List UInt8)(h:Ek A5 b=some (m,r))(h2:FP m r=some (m',[]))(h3:m'.right=true):qC 117 [.d (.by b)] [] (.tup [.d m'.d,.pY 0]) [.c (mC m'),.c [.pY 0]]:=by
 have c1:=RZ A5 b om m r h;have l1:=Mg h;obtain⟨hk1,hk2,hk3⟩:=KZ h;have c2:=Mi m r;have hl:=UI h2 (by rw[hk3];simp);have cR:=BV m' om;rw[h3]at cR
 by_cases hs:special m.kind
 .have c3:=XS m r om m' [] h2 hs;unfold special at hs;obtain⟨k,c,s,d,ky,sl,dn,pl,pr,l,⟨ik,iv,ir,ig⟩,co⟩:=m;obtain⟨k',c',s',d',ky',sl',dn',pl',pr',l',⟨ik',iv',ir',ig'⟩,co'⟩:=m';unfold hH at c1;unfold gH at c3;unfold A2.d A2.cells at cR|-;simp only[mC,VZ,A5,AA,Oo]at *;refine EO (g:=179) (xs:=[.ptr 0 0 15,.ptr 1 0 1]) A4 Tryz.func117 rfl rfl qA ?_;refine Ka A4 rfl rfl rfl rfl rfl ?_ rfl;refine Ka A4 rfl rfl rfl rfl rfl ?_ rfl;refine Cv ?_;refine Fq A4 rfl rfl rfl rfl ?_ rfl;refine Df rfl rfl rfl rfl rfl rfl ⟨_,Tryz.func179,rfl,rfl⟩ rfl ?_;refine wx K9 [5] A0 A0 ?_;with_reducible repeat' first|constructor|intro hc;try simp only[AB]at hc
  refine Ah (A1.KA 0 9 (.is []) rfl rfl rfl rfl trivial) sm ?_;clear h h2;rcases hs with rfl|rfl|rfl|rfl|rfl|rfl|rfl
  all_goals(
   simp only[Int.reduceEq,qw,ql]at c3;have d1:=Ds.mk [2,0] (c1);have d2:=Ds.mk [0,2] (c2);have d3:=Ds.mk [4,3,0,2] (c3);refine wx K9 [] A0 (A6 @cR) ?_ [(1,0),(2,0)];clear d3 d2 d1;refine⟨_,Pl _,?_⟩
   exact⟨⟨[(2,.ptr 0 0 15),(3,.ptr 1 0 1)],[.c (mC ⟨k',c',s',d',ky',sl',dn',pl',pr',l',⟨ik',iv',ir',ig'⟩,co'⟩),.c [.pY 0]],Tryz.f117.ntmps⟩,(A1.ck rfl),qP _,_,_,rfl,rfl,rfl,rfl⟩)
 .rw[J7 m r hs]at h2;simp only[qI,qR]at h2;obtain⟨rfl,rfl⟩:=h2;unfold special at hs;obtain⟨k,c,s,d,ky,sl,dn,pl,pr,l,⟨ik,iv,ir,ig⟩,co⟩:=m;unfold hH at c1;unfold A2.d A2.cells at cR|-;simp only[mC,VZ,A5,AA]at *;have hs:k=0\/k=1\/k=2\/k=3\/k=8\/k=9:=om
  refine EO (g:=179) (xs:=[.ptr 0 0 15,.ptr 1 0 1]) A4 Tryz.func117 rfl rfl qA ?_;refine Ka A4 rfl rfl rfl rfl rfl ?_ rfl;refine Ka A4 rfl rfl rfl rfl rfl ?_ rfl;refine Cv ?_;refine Fq A4 rfl rfl rfl rfl ?_ rfl;refine Df rfl rfl rfl rfl rfl rfl ⟨_,Tryz.func179,rfl,rfl⟩ rfl ?_;refine wx K9 [5] A0 A0 ?_;with_reducible repeat' first|constructor|intro hc;try simp only[AB]at hc
  refine Ah (A1.KA 0 9 (.is []) rfl rfl rfl rfl trivial) sm ?_;clear h;rcases hs with rfl|rfl|rfl|rfl|rfl|rfl
  all_goals(
   have d1:=Ds.mk [2,0] (c1);have d2:=Ds.mk [0,2] (c2);refine wx K9 [] A0 (A6 @cR) ?_ [(1,0),(2,0)];clear d2 d1;refine⟨_,Pl _,?_⟩
   exact⟨⟨[(2,.ptr 0 0 15),(3,.ptr 1 0 1)],[.c (mC ⟨_,c,s,d,ky,sl,dn,pl,pr,l,⟨ik,iv,ir,ig⟩,co⟩),.c [.pY 0]],Tryz.f117.ntmps⟩,(A1.ck rfl),qP _,_,_,rfl,rfl,rfl,rfl⟩)
theorem LJ{H:List A3}:Bb H Zf (.tup [A5.d,.i .i64 12]):=by
 simp[Zf,zC,A5,AA,A2.d,A2.cells,Fj,MC,C5,Ca,Bn,MD,Aj,AP,AF]
theorem fu(b:List UInt8):qB 117 [.by b] (.tup [(DY b).1.d,.i .i64 (DY b).2]):=by
 by_cases h0:46<b.length
 .have e:DY b=(A5,12):=if_pos h0;rw[e];exact EP (ds:=[.by b]) (kW b h0) LJ
 cases h1:Ek A5 b with
 |none=>
  have e:DY b=(A5,12):=by unfold DY;rw[if_neg h0,h1]
  rw[e];exact EP (ds:=[.by b]) (kX b om h1) LJ
 |some p=>
 obtain⟨m,r⟩:=p
 cases h2:FP m r with
 |none=>
  have e:DY b=(A5,12):=by unfold DY;rw[if_neg h0,h1];simp only[h2]
  rw[e];exact EP (ds:=[.by b]) (kY b om m r h1 h2) LJ
 |some p=>
 obtain⟨m',r'⟩:=p
 by_cases h3:r'=[]/\m'.right=true
 .have e:DY b=(m',0):=by unfold DY;rw[if_neg h0,h1];simp only[h2];rw[if_pos h3]
  rw[e];obtain⟨rfl,h4⟩:=h3;refine EP (ds:=[.by b]) (ao b om m m' r h1 h2 h4) ?_;simp[Fj,C5,Ca,Bn]
 .have e:DY b=(A5,12):=by unfold DY;rw[if_neg h0,h1];simp only[h2];rw[if_neg h3]
  rw[e];exact EP (ds:=[.by b]) (kZ b om m m' r r' h1 h2 h3) LJ
theorem CE:C8 b=some (n,r)↔b=BP n++r/\n<=1099511627776:=by
 constructor
 .intro h;exact QL (Hd h)
 .rintro⟨rfl,hn⟩;unfold C8;rw[Qc n r hn];simp
theorem Jd:Gy b=some (s,r)↔b=BZ s++r/\s.length<=255:=by
 constructor
 .intro h;have e:=Kc h;rcases IU b with⟨s',r',h1,h2,h3⟩|h1
  .rw[h1]at e;simp only[qR,and_true]at e;obtain⟨rfl,rfl⟩:=e;exact⟨h2,h3⟩
  .rw[h1]at e;simp at e
 .rintro⟨rfl,hs⟩;unfold Gy BZ;rw[Mo s r hs];simp
theorem QM:IT b=some (l,r)↔b=(UInt8.ofNat l.length::A7 l)++r/\l.length<=255/\l.all fits=true:=by
 constructor
 .intro h;have e:=Kb h;rcases NT b with⟨l',r',h1,h2,h3,h4⟩|⟨e',h1,h2⟩
  .rw[h1]at e;simp only[qR,and_true]at e;obtain⟨rfl,rfl⟩:=e;exact⟨h2,h3,h4⟩
  .rw[h1]at e;simp at e;exact absurd e.2.2 h2
 .rintro⟨rfl,hl,hf⟩;unfold IT;rw[QF l r hl hf];simp
def lH(b:Bool):Nat:=if b then 1 else 0
theorem Nf(b:Bool):CP b=(lH b:Nat):=by cases b<;>rfl
theorem Jc{g:Bool}:Ej b=some (g,r)↔b=BP (lH g)++r:=by
 constructor
 .intro h;unfold Ej at h;split at h
  .rename_i n r' hn;split at h
   .cases h
   .rename_i h1;simp only[qI,qR]at h;obtain⟨rfl,rfl⟩:=h;obtain⟨e,_⟩:=CE.1 hn;rw[e]
    have:n=lH (n==1):=by
     have:n=0\/n=1:=om
     rcases this with rfl|rfl<;>rfl
    rw[<-this]
  .cases h
 .rintro rfl;unfold Ej;rw[CE.2 ⟨rfl,by cases g<;>decide⟩];cases g<;>rfl
theorem B0{n:Int}(h:fits n=true):((n.toNat:Nat):Int)=n/\n.toNat<=1099511627776:=by
 simp[fits]at h;omega
theorem Ci{n:Int}(h:fits n=true)(r:List UInt8):C8 (A7 [n]++r)=some (n.toNat,r):=by
 rw[CE];exact⟨by simp[A7],(B0 h).2⟩
theorem Mf(g:Bool)(r:List UInt8):Ej (A7 [CP g]++r)=some (g,r):=by
 rw[Jc,Nf];simp[A7]
theorem P5(x:Item):BM x=BZ x.key++(A7 [x.value]++(A7 [x.version]++A7 [CP x.gone])):=by simp[BM,A7]
theorem QQ(x:Item)(hk:x.key.length<=255)(hv:fits x.value=true)(hn:fits x.version=true)(r:List UInt8):Ff (BM x++r)=some (x,r):=by
 unfold Ff;rw[P5,qm,Jd.2 ⟨rfl,hk⟩];simp only;rw[qm,Ci hv];simp only;rw[qm,Ci hn];simp only;rw[Mf];simp only[(B0 hv).1,(B0 hn).1]
theorem QO(h:Ff b=some (x,r)):b=BM x++r:=by
 unfold Ff at h;split at h
 .cases h
 rename_i k b1 h1;split at h
 .cases h
 rename_i v b2 h2;split at h
 .cases h
 rename_i n b3 h3;split at h
 .cases h
 rename_i g b4 h4;simp only[qI,qR]at h;obtain⟨rfl,rfl⟩:=h;rw[(Jd.1 h1).1,(CE.1 h2).1,(CE.1 h3).1,Jc.1 h4,P5];simp[A7,Nf]
theorem ZW(m:A2)(hk:0<=m.kind/\m.kind<13)(h1:fits m.call=true)(h2:fits m.src=true)(h3:fits m.dst=true)(r:List UInt8):Ek A5 (A7 [m.kind,m.call,m.src,m.dst]++r)=some (m.empty,r):=by
 have hkf:fits m.kind=true:=CX om;have e:A7 [m.kind,m.call,m.src,m.dst]++r=A7 [m.kind]++(A7 [m.call]++(A7 [m.src]++(A7 [m.dst]++r))):=by simp[A7]
 unfold Ek;rw[e,Ci hkf];simp only;rw[if_neg om,Ci h1];simp only;rw[Ci h2];simp only;rw[Ci h3];simp only[(B0 hkf).1,(B0 h1).1,(B0 h2).1,(B0 h3).1];rfl
theorem ZV(h:Ek A5 b=some (m,r)):b=A7 [m.kind,m.call,m.src,m.dst]++r/\m=m.empty:=by
 unfold Ek at h;split at h
 .cases h
 rename_i k b1 h1;split at h
 .cases h
 split at h
 .cases h
 rename_i c b2 h2;split at h
 .cases h
 rename_i s b3 h3;split at h
 .cases h
 rename_i d b4 h4;simp only[qI,qR]at h;obtain⟨rfl,rfl⟩:=h;refine⟨?_,rfl⟩;rw[(CE.1 h1).1,(CE.1 h2).1,(CE.1 h3).1,(CE.1 h4).1];simp[A7]
theorem ZY(m:A2)(h:m.right=true):FP m.empty (BI m)=some (m,[]):=by
 obtain⟨_,_,_,_,hb,hh⟩:=Fy h;clear h;obtain⟨k,c,s,d,ky,sl,dn,pl,pr,l,⟨ik,iv,ir,ig⟩,co⟩:=m;unfold FP BI;simp only[A2.empty]at hb|-;unfold A2.bare A2.has at *;simp only at hb hh
 by_cases h4:k=4
 .subst h4;simp only[qw,A2.mk.injEq,AA,Item.mk.injEq]at hb hh|-;rw[show A7 [ky,CP sl]=A7 [ky]++(A7 [CP sl]++[])by simp[A7],Ci (BO hh)];simp only;rw[Mf];simp only[(B0 (BO hh)).1]
  simp_all
 by_cases h5:k=5
 .subst h5;simp only[Int.reduceEq,ql,qw,A2.mk.injEq,AA,Item.mk.injEq]at hb hh|-;obtain⟨a1,a2,a3⟩:=FZ hh;rw[show BM ⟨ik,iv,ir,ig⟩=BM ⟨ik,iv,ir,ig⟩++[]by simp,QQ _ a1 a2 a3]
  simp_all
 by_cases h6:k=6
 .subst h6;simp only[Int.reduceEq,ql,qw,A2.mk.injEq,AA,Item.mk.injEq,qH,qJ]at hb hh|-;obtain⟨a1,a2,a3⟩:=FZ hh.1;rw[show BZ ik=BZ ik++[]by simp,Jd.2 ⟨rfl,a1⟩]
  simp_all
 by_cases h7:k=7
 .subst h7;simp only[Int.reduceEq,ql,qw,A2.mk.injEq,AA,Item.mk.injEq,qH,rO,qJ]at hb hh|-;obtain⟨b1,b2⟩:=J6 hh.2
  have hf:fits (pr+1)=true:=by
   rcases hh.1 with h|h
   .subst h;rfl
   .exact CX (by have:=E3 h;omega)
  rw[Ci hf];simp only;rw[show UInt8.ofNat l.length::A7 l=(UInt8.ofNat l.length::A7 l)++[]by simp,QM.2 ⟨rfl,om,b2⟩];simp only[(B0 hf).1];have:pr+1-1=pr:=om
  simp_all
 by_cases h10:k=10
 .subst h10;simp only[Int.reduceEq,ql,qw,A2.mk.injEq,AA,Item.mk.injEq]at hb hh|-;rw[show A7 [pl,CP dn]=A7 [pl]++(A7 [CP dn]++[])by simp[A7],Ci (BO hh)];simp only;rw[Mf];simp only[(B0 (BO hh)).1]
  simp_all
 by_cases h11:k=11
 .subst h11;simp only[Int.reduceEq,ql,qw,A2.mk.injEq,AA,Item.mk.injEq,rO,qJ]at hb hh|-;have hf:fits co=true:=by rcases hh with h|h<;>rw[h]<;>rfl
  rw[show A7 [co]=A7 [co]++[]by simp,Ci hf];simp only[(B0 hf).1]
  simp_all
 by_cases h12:k=12
 .subst h12;simp only[Int.reduceEq,ql,qw,A2.mk.injEq,AA,Item.mk.injEq,rO,qH,qJ]at hb hh|-;rcases hh with⟨h0,h1⟩|⟨h0,h1⟩
  .subst h0;obtain⟨a1,a2,a3⟩:=FZ h1;rw[Ci rfl];simp only[qw];rw[show BM ⟨ik,iv,ir,ig⟩=BM ⟨ik,iv,ir,ig⟩++[]by simp];simp only[show Int.toNat 0=0 from rfl,qw];rw[QQ _ a1 a2 a3]
   simp_all
  .subst h0;rw[Ci rfl]
   simp_all
 simp only[h4,h5,h6,h7,h10,h11,h12,ql,A2.mk.injEq]at hb|-
 simp_all
theorem ZX(h:FP m b=some (m',r)):b=BI m'++r/\m'.kind=m.kind/\m'.call=m.call/\m'.src=m.src/\m'.dst=m.dst:=by
 unfold FP at h
 by_cases h4:m.kind=4
 .rw[if_pos h4]at h;split at h
  .cases h
  rename_i n b1 h1;split at h
  .cases h
  rename_i g b2 h2;simp only[qI,qR]at h;obtain⟨rfl,rfl⟩:=h;refine⟨?_,rfl,rfl,rfl,rfl⟩;rw[(CE.1 h1).1,Jc.1 h2];simp[BI,h4,A7,Nf]
 rw[if_neg h4]at h
 by_cases h5:m.kind=5
 .rw[if_pos h5]at h;split at h
  .cases h
  rename_i x b1 h1;simp only[qI,qR]at h;obtain⟨rfl,rfl⟩:=h;refine⟨?_,rfl,rfl,rfl,rfl⟩;rw[QO h1];simp[BI,h5]
 rw[if_neg h5]at h
 by_cases h6:m.kind=6
 .rw[if_pos h6]at h;split at h
  .cases h
  rename_i x b1 h1;simp only[qI,qR]at h;obtain⟨rfl,rfl⟩:=h;refine⟨?_,rfl,rfl,rfl,rfl⟩;rw[(Jd.1 h1).1];simp[BI,h6]
 rw[if_neg h6]at h
 by_cases h7:m.kind=7
 .rw[if_pos h7]at h;split at h
  .cases h
  rename_i n b1 h1;split at h
  .cases h
  rename_i l b2 h2;simp only[qI,qR]at h;obtain⟨rfl,rfl⟩:=h;refine⟨?_,rfl,rfl,rfl,rfl⟩;have e:((n:Int)-1+1).toNat=n:=om
  rw[(CE.1 h1).1,(QM.1 h2).1];simp[BI,h7,A7,e]
 rw[if_neg h7]at h
 by_cases h10:m.kind=10
 .rw[if_pos h10]at h;split at h
  .cases h
  rename_i n b1 h1;split at h
  .cases h
  rename_i g b2 h2;simp only[qI,qR]at h;obtain⟨rfl,rfl⟩:=h;refine⟨?_,rfl,rfl,rfl,rfl⟩;rw[(CE.1 h1).1,Jc.1 h2];simp[BI,h10,A7,Nf]
 rw[if_neg h10]at h
 by_cases h11:m.kind=11
 .rw[if_pos h11]at h;split at h
  .cases h
  rename_i n b1 h1;simp only[qI,qR]at h;obtain⟨rfl,rfl⟩:=h;refine⟨?_,rfl,rfl,rfl,rfl⟩;rw[(CE.1 h1).1];simp[BI,h11,A7]
 rw[if_neg h11]at h
 by_cases h12:m.kind=12
 .rw[if_pos h12]at h;split at h
  .cases h
  rename_i n b1 h1;split at h
  .rename_i hn;subst hn;split at h
   .cases h
   rename_i x b2 h2;simp only[qI,qR]at h;obtain⟨rfl,rfl⟩:=h;refine⟨?_,rfl,rfl,rfl,rfl⟩;rw[(CE.1 h1).1,QO h2];simp[BI,h12,A7]
  .rename_i hn;simp only[qI,qR]at h;obtain⟨rfl,rfl⟩:=h;refine⟨?_,rfl,rfl,rfl,rfl⟩;rw[(CE.1 h1).1];simp[BI,h12,A7,hn]
 rw[if_neg h12]at h;simp only[qI,qR]at h;obtain⟨rfl,rfl⟩:=h;refine⟨?_,rfl,rfl,rfl,rfl⟩;simp[BI,h4,h5,h6,h7,h10,h11,h12]
theorem W7{k:Nat}(h:n<256^k):size n<=k:=by
 rcases rG k (size n)with h2|h2
 .have:=size_pos.2 h2;rw[Nat.div_eq_of_lt h]at this;omega
 .exact h2
theorem BX{n:Int}(k:Nat)(h:n<((256^k:Nat):Int)):(BP n.toNat).length<=k+1:=by
 have:size n.toNat<=k:=by
  rcases uK n.toNat with h0|h0
  .rw[h0];exact tJ (by decide) (qP k)
  .exact W7 om
 simp[BP,Gj];omega
theorem Jf(h:AU x=true):(BM x).length<=31:=by
 simp only[AU,qH,isVal,B6,qJ]at h;obtain⟨⟨⟨h1,h2⟩,⟨h3,h4⟩⟩,⟨h5,h6⟩⟩:=h;have a1:=BX (n:=x.value) 3 om;have a2:=BX (n:=x.version) 3 om;have a3:=BX (n:=CP x.gone) 1 (by cases x.gone<;>decide);simp only[BM,BZ,A7,qj,qY,qy];omega
theorem ZI(h:m.right=true):(BI m).length<=32:=by
 obtain⟨_,_,_,_,_,hh⟩:=Fy h;unfold BI;unfold A2.has at hh
 by_cases h4:m.kind=4
 .rw[if_pos h4]at hh|-;have:=E3 hh;have a1:=BX (n:=m.key) 2 om;have a3:=BX (n:=CP m.slow) 1 (by cases m.slow<;>decide);simp only[A7,qj,qy];omega
 rw[if_neg h4]at hh|-
 by_cases h5:m.kind=5
 .rw[if_pos h5]at hh|-;have:=Jf hh;omega
 rw[if_neg h5]at hh|-
 by_cases h6:m.kind=6
 .rw[if_pos h6]at hh|-;simp only[qH]at hh;have:=hh.1;simp only[AU,B6,qH,qJ]at this;simp only[BZ,qY];omega
 rw[if_neg h6]at hh|-
 by_cases h7:m.kind=7
 .rw[if_pos h7]at hh|-;simp only[qH,rO,qJ]at hh
  have hp:m.pred+1<16777216:=by
   rcases hh.1 with h|h
   .omega
   .have:=E3 h;omega
  have a1:=BX (n:=m.pred+1) 3 om;have hL:=J6 hh.2
  have hall:∀l:List Int,EZ m.src l=true->(A7 l).length<=3*l.length:=by
   intro l
   induction l with
   |nil=>simp[A7]
   |cons x r ih=>
    intro hr;simp only[EZ,sH,qH]at hr;have:=E3 hr.1.1;have a2:=BX (n:=x) 2 om;have:=ih hr.2;simp only[A7,qj,qY];omega
  have h2:=hh.2;simp only[Dv,qH]at h2;have:=hall m.list h2.1.1;simp only[A7,qj,qy,qY];omega
 rw[if_neg h7]at hh|-
 by_cases h10:m.kind=10
 .rw[if_pos h10]at hh|-;have:=E3 hh;have a1:=BX (n:=m.place) 2 om;have a3:=BX (n:=CP m.done) 1 (by cases m.done<;>decide);simp only[A7,qj,qy];omega
 rw[if_neg h10]at hh|-
 by_cases h11:m.kind=11
 .rw[if_pos h11]at hh|-;simp only[rO,qJ]at hh;have a1:=BX (n:=m.code) 1 (by rcases hh with h|h<;>rw[h]<;>decide);simp only[A7,qj,qy];omega
 rw[if_neg h11]at hh|-
 by_cases h12:m.kind=12
 .rw[if_pos h12]at hh|-;simp only[rO,qH,qJ]at hh;rcases hh with⟨h0,h1⟩|⟨h0,h1⟩
  .have:=Jf h1;rw[if_pos h0,h0];have e:(A7 [0]).length=1:=by decide
   simp only[qj];omega
  .rw[if_neg om,h0]
   decide
 rw[if_neg h12];simp
theorem J9(h:m.right=true):(B4 m).length<=46:=by
 have hm:=ZI h;obtain⟨⟨h1,h2⟩,⟨h3,h4⟩,_,⟨h5,h6⟩,_,_⟩:=Fy h;have ha:=L3 h;have:=E3 h3;have:=E3 h4;have a1:=BX (n:=m.kind) 1 om;have a2:=BX (n:=m.call) 5 om;have a3:=BX (n:=m.src) 2 om;have a4:=BX (n:=m.dst) 2 om;simp only[B4,A7,qj,qy];omega
theorem UY(h:m.right=true):DY (B4 m)=(m,0):=by
 have hl:=J9 h;obtain⟨⟨h1,h2⟩,⟨h3,h4⟩,_,⟨h5,h6⟩,_,_⟩:=Fy h;have ha:=L3 h;unfold DY;rw[if_neg om];unfold B4;rw[ZW m ⟨om,h2⟩ (CX om) (BO h3) (BO h4)];simp only[ZY m h,h,and_self,qw]
theorem eS{e:Int}(h:DY b=(m,e)):(e=0/\m.right=true/\B4 m=b)\/(e=12/\m=A5):=by
 unfold DY at h;split at h
 .cases h;exact .inr ⟨rfl,rfl⟩
 split at h
 .cases h;exact .inr ⟨rfl,rfl⟩
 rename_i m1 r h1;split at h
 .cases h;exact .inr ⟨rfl,rfl⟩
 rename_i m2 r2 h2;split at h
 .rename_i h3;cases h;refine .inl ⟨rfl,h3.2,?_⟩;obtain⟨e1,e2⟩:=ZV h1;obtain⟨g1,g2,g3,g4,g5⟩:=ZX h2;unfold B4;rw[g2,g3,g4,g5,e1,g1,h3.1,rJ]
 .cases h;exact .inr ⟨rfl,rfl⟩
end Wi
end Go.Proofs.YtkljbfejbakooaaGreatDoor
namespace Go.Proofs.YtkljbfejbakooaaGreatDoor
open Go.Gar
abbrev Gg:List Nat:=[0,2,3,4,5,6,7,10,16,21,24,46]
abbrev JJ:List Nat:=[0,2,3,4,5,6,7,10,18,30]
abbrev JK:List Nat:=[0,2,3,4,5,6,7,8,9,10,13,21,31]
theorem PG(b:List UInt8)(hb:b.length<70368744177664):qB 221 [.by b] (CJ (Av b)):=by
 refine zF A4 Tryz.func221 ?_;rcases b with _|⟨m,r⟩
 .refine wd Gg [] A0 A0 ?_;exact Ag (qQ @Av.eq_1 @CJ.eq_1)
 have hm:=m.toNat_lt;simp only[qY]at hb
 by_cases h6:m.toNat>6
 .refine wd Gg [] A0 A0 ?_;with_reducible repeat' first|constructor|intro hc;try simp only[AB]at hc
  refine⟨_,_,rfl,rfl,?_⟩;simp[H8,AP,Aj,AF,Av,CJ,h6]
 by_cases hr:r.length<m.toNat
 .refine wd Gg [] A0 A0 ?_;with_reducible repeat' first|constructor|intro hc;try simp only[AB]at hc
  refine⟨_,_,rfl,rfl,?_⟩;simp[H8,AP,Aj,AF,Av,CJ,h6,hr]
 have hlt:∀k,k<=m.toNat->E4 (r.take k)<281474976710656:=by
  intro k hk;have:=Nv (r.take k);have h6':(r.take k).length<=6:=by simp;omega
  have:256^(r.take k).length<=256^6:=Nat.pow_le_pow_right (by decide) h6';omega
 refine wd Gg [] A0 A0 ?_;with_reducible repeat' first|constructor|intro hc;try simp only[AB]at hc
 refine An (fun k=>k<=m.toNat) (fun k:Nat=>⟨[(0,.d (.by (m::r))),(2,.pY 0),(3,.e0),(4,.pY 0),(5,.pY m.toNat),(6,.pY (E4 (r.take k):Nat)),(7,.pY ((k+1:Nat):Int))],[],54⟩) (fun k=>m.toNat-k) 0 (qP _) ?_ (qG _) ?_
 .exact A1.ck rfl
 intro k hk;have hv:=hlt k hk
 by_cases hkm:k<m.toNat
 .have e3:(E4 (r.take k):Int)*256+((r.getD k 0).toNat:Int)=(E4 (r.take (k+1)):Nat):=by
   have:=Qh r k om;omega
  have hv':=hlt (k+1) hkm;have hd:=(r.getD k 0).toNat_lt;refine wd Gg [] (A6 e3) A0 ?_;with_reducible repeat' first|constructor|intro hc;try simp only[AB]at hc
  rotate_left
  .rw[e3];exact Ip rfl (MN _ om)
  refine⟨k+1,hkm,om,qG _,?_⟩;exact A1.ck rfl
 .have hkm':k=m.toNat:=om
  subst hkm'
  by_cases hP:(m.toNat>0/\r.getD 0 0=0)\/E4 (r.take m.toNat)>1099511627776
  .have hT:Av (m::r)=(0,[],12):=by simp only[Av,if_neg h6,if_neg hr,if_pos hP]
   rw[hT];refine wd Gg [] A0 A0 ?_;with_reducible repeat' first|constructor|intro hc;try simp only[AB]at hc
   all_goals first
    |(refine⟨_,_,rfl,rfl,?_⟩;simp[H8,AP,Aj,AF,CJ];done)
    |(exfalso;rcases hP with⟨h,h'⟩|h<;>first|omega|(have h':=congrArg UInt8.toNat h';simp only[UInt8.toNat_zero]at h';omega))
  .have hT:Av (m::r)=(E4 (r.take m.toNat),r.drop m.toNat,0):=by simp only[Av,if_neg h6,if_neg hr,if_neg hP]
   rw[hT];have e5:(1+(m.toNat:Int)).toNat=m.toNat+1:=om
   refine wd Gg [] (A6 e5) A0 ?_;with_reducible repeat' first|constructor|intro hc;try simp only[AB]at hc
   all_goals first
    |(refine⟨_,_,rfl,rfl,?_⟩;simp[H8,AP,Aj,AF,CJ];done)
    |(exfalso;exact hP (.inl ⟨om,u8z om⟩))
    |(exfalso;exact hP (.inr om))
theorem eX(l:List Int):qB 229 [.is l] (.tup [.by (Gw l).1,.i .i64 (Gw l).2]):=by
 refine zF A4 Tryz.func229 ?_
 by_cases hl:l.length>255
 .refine wd JJ [] A0 A0 ?_;with_reducible repeat' first|constructor|intro hc;try simp only[AB]at hc
  exact Ag (qQ @Gw.eq_1 hl)
 have h1:(l.length:Int)%256=l.length:=om
 have ow:Lv [14]:=trivial;refine wd JJ [] (A6 h1) A0 ?_;clear ow;with_reducible repeat' first|constructor|intro hc;try simp only[AB]at hc
 refine An (fun k=>k<=l.length/\(l.take k).all fits=true) (fun k:Nat=>⟨[(0,.qF l),(2,.e0),(3,.pY 0),(4,.sl 0 (UInt8.ofNat l.length::A7 (l.take k)).length 1),(5,.pY k)],[.a (.by (UInt8.ofNat l.length::A7 (l.take k)))],36⟩) (fun k=>l.length-k) 0 ⟨qP _,sm⟩ ?_ (qG _) ?_
 .exact A1.ck rfl
 rintro k ⟨hk,hpre⟩;have hlen:=EH _ hpre;have htl:(l.take k).length<=k:=List.length_take_le _ _
 by_cases hka:k<l.length
 .by_cases hf:fits (l.getD k 0)=true
  .obtain⟨m,hm,hm'⟩:=HW hf
   have hnext:(UInt8.ofNat l.length::A7 (l.take k))++BP m=UInt8.ofNat l.length::A7 (l.take (k+1)):=by
    rw[E6 hka,hm];simp
   have hnext':A7 (l.take k)++BP m=A7 (l.take (k+1)):=by
    rw[E6 hka,hm];simp
   have hnl:=Bd m hm';have hput:Lc (m:Int)=(BP m,0):=by rw[hm]at hf;simp[Lc,hf]
   rw[hm]at hf;refine wd JJ [] (C3 hm hput hnext') (A6 (Xt m)) ?_;with_reducible repeat' first|constructor|intro hc;try simp only[AB]at hc
   refine⟨k+1,⟨hka,by rw[F5 hka,hpre,hm,hf];rfl⟩,om,qG _,?_⟩;exact(have nC:=hnext';A1.co rfl)
  .have hf':fits (l.getD k 0)=false:=by simpa using hf
   have hall:l.all fits=false:=by
    rw[<-rX (k+1) l,List.all_append,F5 hka,hf'];simp
   have hput:Lc (l.getD k 0)=([],2):=by unfold Lc;rw[if_neg hf]
   refine wd JJ [] (A6 hput) (A6 (Xt (l.getD k 0))) ?_;with_reducible repeat' first|constructor|intro hc;try simp only[AB]at hc
   exact Ag (qQ @Gw.eq_1 (qQ hl hall))
 .have e:k=l.length:=om
  subst e;rw[qx]at hpre;refine wd JJ [] A0 A0 ?_;with_reducible repeat' first|constructor|intro hc;try simp only[AB]at hc
  exact Ag (qQ @Gw.eq_1 (qQ hl hpre))
theorem SE(b:List UInt8)(hb:b.length<70368744177664):qB 222 [.by b] (Gc (Af b)):=by
 refine zF A4 Tryz.func222 ?_;rcases b with _|⟨m,r⟩
 .refine wd JK [] A0 A0 ?_;exact Ag (qQ @Af.eq_1 @Gc.eq_1)
 have hm:=m.toNat_lt;simp only[qY]at hb;refine wd JK [] A0 A0 ?_;refine Ah (A1.Wu 5 (.is []) rfl rfl rfl trivial) sm ?_
 refine An (α:=Nat×List UInt8×List Int) (fun x=>x.1<=m.toNat/\x.2.1.length<=r.length/\x.2.2.length=x.1/\CK (m.toNat-x.1) x.2.1 x.2.2=CK m.toNat r [])
  (fun x=>⟨[(0,.d (.by (m::r))),(2,.e0),(3,.e0),(5,.sl 0 x.2.2.length 1),(6,.d (.by x.2.1)),(4,.pY 0),(7,.pY x.1)],[.a (.is x.2.2)],42⟩) (fun x=>m.toNat-x.1) (0,r,[]) ⟨qP _,qG _,rfl,rfl⟩ ?_ sm ?_
 .exact A1.ck rfl
 rintro⟨k,rest,acc⟩ ⟨hk,hrl,hal,hT⟩;simp only at hk hrl hal hT;have hl:=GE rest;have hv:=Ui rest
 by_cases hkm:k<m.toNat
 .rw[show m.toNat-k=(m.toNat-(k+1))+1 by omega]at hT;simp only[CK]at hT
  by_cases he:(Av rest).2.2=0
  .rw[if_pos he]at hT;refine wd JK [] (AX he @CJ.eq_1) (A6 (PG rest om)) ?_;with_reducible repeat' first|constructor|intro hc;try simp only[AB]at hc
   refine⟨(k+1,(Av rest).2.1,acc++[((Av rest).1:Int)]),⟨hkm,by simp only;omega,by simp;omega,hT⟩,by simp only;omega,sm,?_⟩;exact A1.ck rfl
  .rw[if_neg he]at hT;refine wd JK [] (A6 @CJ.eq_1) (A6 (PG rest om)) ?_;with_reducible repeat' first|constructor|intro hc;try simp only[AB]at hc
   have e:Af (m::r)=([],[],(Av rest).2.2):=hT.symm;exact Ag (qQ e @Gc.eq_1)
 .have e:k=m.toNat:=om
  subst e;rw[Nat.sub_self]at hT;have e:Af (m::r)=(acc,rest,0):=hT.symm;refine wd JK [] A0 A0 ?_;with_reducible repeat' first|constructor|intro hc;try simp only[AB]at hc
  exact Ag (qQ e @Gc.eq_1)
end Go.Proofs.YtkljbfejbakooaaGreatDoor
namespace Go.Proofs.YtkljbfejbakooaaGreatDoor
namespace Wi
open Go.Gar
abbrev IL:List Nat:=[0,1,4,5,6,7,8,9,10,11,14,24]
abbrev IM:List Nat:=[0,2,3,4,5,6,7,9,27]
def BC:Nat->List UInt8->Option (List Int×List UInt8)
 |0,b=>some ([],b)
 |k+1,b=>match C8 b with
  |none=>none
  |some (n,r)=>match BC k r with
   |none=>none
   |some (l,r')=>some ((n:Int)::l,r')
def DJ:Option (List Int×List UInt8)->D
 |some (l,r)=> .tup [.is l,.by r,.b true]
 |none=> .tup [.is [],.by [],.b false]
def LZ(acc:List Int)(k:Nat)(b:List UInt8):Option (List Int×List UInt8):=match BC k b with
 |none=>none
 |some (l,r)=>some (acc++l,r)
variable {acc:List Int}{k:Nat}{b:List UInt8}
theorem Vd{r:List UInt8}{n:Nat}(h:C8 b=some (n,r)):LZ acc (k+1) b=LZ (acc++[(n:Int)]) k r:=by
 unfold LZ;rw[BC,h];simp only
 cases BC k r with
 |none=>rfl
 |some p=>obtain⟨l,q⟩:=p;simp
theorem Vb(h:C8 b=none):LZ acc (k+1) b=none:=by
 unfold LZ;rw[BC,h]
theorem ZL:LZ [] k b=BC k b:=by
 unfold LZ
 cases BC k b with
 |none=>rfl
 |some p=>rfl
theorem C2(b:List UInt8)(many:Nat)(hb:b.length<70368744177664)(hm:many<=100):qB 143 [.by b,.i .i64 many] (DJ (BC many b)):=by
 refine zF A4 Tryz.func143 ?_;refine wd IL [] A0 A0 ?_;refine Ah (A1.Wu 7 (.is []) rfl rfl rfl trivial) sm ?_
 refine An (α:=Nat×List UInt8×List Int) (fun x=>x.1<=many/\x.2.1.length<=b.length/\x.2.2.length=x.1/\LZ x.2.2 (many-x.1) x.2.1=BC many b)
  (fun x=>⟨[(0,.d (.by x.2.1)),(1,.pY many),(4,.e0),(5,.e0),(6,.pq false),(7,.sl 0 x.2.2.length 1),(8,.pY x.1)],[.a (.is x.2.2)],32⟩) (fun x=>many-x.1) (0,b,[]) ⟨qP _,qG _,rfl,ZL⟩ ?_ (qG _) ?_
 .exact A1.ck rfl
 rintro⟨k,r,acc⟩ ⟨h1,h2,h3,h4⟩;simp only at h1 h2 h3 h4|-
 by_cases hk:k<many
 .have ht:=PG r om;obtain⟨j,hj⟩:∃j,many-k=j+1:=⟨many-k-1,om⟩;rw[hj]at h4
  cases hp:C8 r with
  |none=>
   have hne:=QN hp;rw[Vb hp]at h4;rw[<-h4];have f:=BJ hne;unfold CJ at ht;refine wd IL [] (A6 f) (A6 @ht) ?_;with_reducible repeat' first|constructor|intro hc;try simp only[AB]at hc
   refine⟨_,_,rfl,rfl,?_⟩;simp[H8,AP,Aj,AF,DJ]
  |some p=>
   obtain⟨n,r'⟩:=p;have hle:=Am hp;rw[Hd hp]at ht;rw[Vd hp]at h4;unfold CJ at ht;refine wd IL [] A0 (A6 @ht) ?_;with_reducible repeat' first|constructor|intro hc;try simp only[AB]at hc
   refine⟨(k+1,r',acc++[(n:Int)]),⟨hk,by simp only;omega,by simp only[qj,qY,qy];omega,by rw[show many-(k+1)=j by omega];exact h4⟩,(show many-(k+1)<many-k by omega),qG _,?_⟩;exact A1.ck rfl
 .have e:k=many:=om
  rw[e,Nat.sub_self]at h4;have e2:BC many b=some (acc,r):=by rw[<-h4];simp[LZ,BC]
  rw[e2];refine wd IL [] A0 A0 ?_;with_reducible repeat' first|constructor|intro hc;try simp only[AB]at hc
  exact Ag @DJ.eq_1
theorem D7:∀{k:Nat}{b r:List UInt8}{l:List Int},BC k b=some (l,r)->l.length=k/\r.length<=b.length
 |0,b,r,l,h=>by simp only[BC,qI,qR]at h;obtain⟨rfl,rfl⟩:=h;exact⟨rfl,qG _⟩
 |k+1,b,r,l,h=>by
  rw[BC]at h;split at h
  .cases h
  .rename_i n r1 h1;split at h
   .cases h
   .rename_i l1 r2 h2;simp only[qI,qR]at h;obtain⟨rfl,rfl⟩:=h;have:=D7 h2;have:=Am h1;simp;omega
def Dk(b:List UInt8):Item×Bool:=match BC 3 (AO b).2.1 with
 |some ([v,n,g],_)=>if(AO b).2.2=0 then(⟨(AO b).1,v,n,g==1⟩,true)else(AA,false)
 |_=>(AA,false)
theorem fK(b:List UInt8):(AO b).2.1.length<=b.length:=by
 rcases IU b with⟨s,r,h1,h2,h3⟩|h1
 .rw[h1,h2];simp;omega
 .rw[h1];simp
theorem QR(b:List UInt8)(hb:b.length<70368744177664):qB 223 [.by b] (.tup [(Dk b).1.d,.b (Dk b).2]):=by
 have ht:=Le b hb;have hn:=C2 (AO b).2.1 3 (by have:=fK b;omega) (by decide);have hlen:=@D7 3 (AO b).2.1;unfold Fc at ht;unfold Dk;generalize(AO b).1=s at *;generalize(AO b).2.1=r at *;generalize(AO b).2.2=e at *;refine zF A4 Tryz.func223 ?_
 by_cases he:e=0
 .subst he
  cases hp:BC 3 r with
  |none=>
   rw[hp]at hn;unfold DJ at hn;refine wd IM [] A0 (AX @ht @hn) ?_;exact Ag (qQ @AA.eq_1 (qQ @Item.d.eq_1 @Item.cells.eq_1))
  |some p=>
   obtain⟨l,r2⟩:=p;obtain⟨hl,_⟩:=hlen hp
   obtain⟨v,n,g,rfl⟩:∃v n g,l=[v,n,g]:=by
    rcases l with _|⟨v,_|⟨n,_|⟨g,_|⟨x,t⟩⟩⟩⟩<;>first|exact⟨_,_,_,rfl⟩|(simp at hl)
   rw[hp]at hn;unfold DJ at hn;refine wd IM [] A0 (AX @ht @hn) ?_;exact Ag (qQ @Item.d.eq_1 @Item.cells.eq_1)
 .have f:=BJ he
  have e2:(match BC 3 r with|some ([v,n,g],_)=>if e=0 then((⟨s,v,n,g==1⟩,true):Item×Bool)else(AA,false)|_=>(AA,false))=(AA,false):=by
   split
   .rw[if_neg he]
   .rfl
  rw[e2]
  cases hp:BC 3 r with
  |none=>
   rw[hp]at hn;unfold DJ at hn;refine wd IM [] (A6 f) (AX @ht @hn) ?_;exact Ag (qQ @AA.eq_1 (qQ @Item.d.eq_1 @Item.cells.eq_1))
  |some p=>
   obtain⟨l,r2⟩:=p;rw[hp]at hn;unfold DJ at hn;refine wd IM [] (A6 f) (AX @ht @hn) ?_;exact Ag (qQ @AA.eq_1 (qQ @Item.d.eq_1 @Item.cells.eq_1))
abbrev BH:List Nat:=[0,1,2,4,5,6,7,8,9,10,12,13,14,15,17,18,19,21,22,25,37,40,41,52,63,69,87,98,112,120]
def Co(k:Int):Nat:=if k=4 then 2 else if k=10 then 2 else if k=7 then 1 else if k=11 then 1 else if k=12 then 1 else 0
def BB(m:A2)(b:List UInt8):A2×Bool:=match BC (Co m.kind) b with
 |none=>(m,false)
 |some (l,r)=>
  if m.kind=4 then({m with key:=l.getD 0 0,slow:=l.getD 1 0==1},true)else
  if m.kind=10 then({m with place:=l.getD 0 0,done:=l.getD 1 0==1},true)else
  if m.kind=11 then({m with code:=l.getD 0 0},true)else
  if m.kind=7 then({m with pred:=l.getD 0 0-1,list:=(Af r).1},(Af r).2.2==0)else
  if m.kind=5 then({m with item:=(Dk r).1},(Dk r).2)else
  if m.kind=6 then({m with item:=⟨(AO r).1,m.item.value,m.item.version,m.item.gone⟩},(AO r).2.2==0)else
  if m.kind=12 then(if l.getD 0 0=0 then({m with code:=0,item:=(Dk r).1},(Dk r).2)else({m with code:=l.getD 0 0},true))else(m,true)
theorem FN{k:Nat}{b r:List UInt8}{l:List Int}(h:BC k b=some (l,r)):∀x∈l,0<=x/\x<=1099511627776:=by
 induction k generalizing b r l with
 |zero=>simp only[BC,qI,qR]at h;obtain⟨rfl,rfl⟩:=h;intro x hx;cases hx
 |succ k ih=>
  rw[BC]at h;split at h
  .cases h
  .rename_i n r1 h1;split at h
   .cases h
   .rename_i l1 r2 h2;simp only[qI,qR]at h;obtain⟨rfl,rfl⟩:=h;intro x hx;rcases sG.1 hx with rfl|hx
    .have:=S6 h1;omega
    .exact ih h2 x hx
theorem de(m:A2)(b:List UInt8)(hb:b.length<70368744177664):qB 144 [m.d,.by b] (.tup [(BB m b).1.d,.b (BB m b).2]):=by
 obtain⟨k,c,s,d,ky,sl,dn,pl,pr,l,⟨ik,iv,ir,ig⟩,co⟩:=m;refine zF A4 Tryz.func144 ?_;unfold A2.d A2.cells
 by_cases h4:k=4
 .subst h4;have hn:=C2 b 2 hb (by decide);have hgt:=@FN 2 b;have hln:=@D7 2 b
  cases hp:BC 2 b with
  |none=>
   have e:BB ⟨4,c,s,d,ky,sl,dn,pl,pr,l,⟨ik,iv,ir,ig⟩,co⟩ b=(⟨4,c,s,d,ky,sl,dn,pl,pr,l,⟨ik,iv,ir,ig⟩,co⟩,false):=by unfold BB;simp only[Co,Int.reduceEq,qw,ql,hp]
   rw[e];rw[hp]at hn;unfold DJ at hn;refine wd BH [] A0 (A6 @hn) ?_;with_reducible repeat' first|constructor|intro hc;try simp only[AB]at hc
   exact zE
  |some p=>
   obtain⟨q,r⟩:=p;have hg:=hgt hp;obtain⟨hl1,hl2⟩:=hln hp
   obtain⟨x,y,rfl⟩:∃x y,q=[x,y]:=by
    rcases q with _|⟨x,_|⟨y,_|⟨z,t⟩⟩⟩<;>first|exact⟨_,_,rfl⟩|(simp at hl1)
   have hx:=hg x sm;have hy:=hg y sm;rw[hp]at hn;unfold DJ at hn;have e:BB ⟨4,c,s,d,ky,sl,dn,pl,pr,l,⟨ik,iv,ir,ig⟩,co⟩ b=(⟨4,c,s,d,x,y==1,dn,pl,pr,l,⟨ik,iv,ir,ig⟩,co⟩,true):=by unfold BB;simp only[Co,Int.reduceEq,qw,ql,hp]<;>rfl
   rw[e];refine wd BH [] A0 (A6 @hn) ?_;with_reducible repeat' first|constructor|intro hc;try simp only[AB]at hc
   exact zE
 by_cases h10:k=10
 .subst h10;have hn:=C2 b 2 hb (by decide);have hgt:=@FN 2 b;have hln:=@D7 2 b
  cases hp:BC 2 b with
  |none=>
   have e:BB ⟨10,c,s,d,ky,sl,dn,pl,pr,l,⟨ik,iv,ir,ig⟩,co⟩ b=(⟨10,c,s,d,ky,sl,dn,pl,pr,l,⟨ik,iv,ir,ig⟩,co⟩,false):=by unfold BB;simp only[Co,Int.reduceEq,qw,ql,hp]
   rw[e];rw[hp]at hn;unfold DJ at hn;refine wd BH [] A0 (A6 @hn) ?_;with_reducible repeat' first|constructor|intro hc;try simp only[AB]at hc
   exact zE
  |some p=>
   obtain⟨q,r⟩:=p;have hg:=hgt hp;obtain⟨hl1,hl2⟩:=hln hp
   obtain⟨x,y,rfl⟩:∃x y,q=[x,y]:=by
    rcases q with _|⟨x,_|⟨y,_|⟨z,t⟩⟩⟩<;>first|exact⟨_,_,rfl⟩|(simp at hl1)
   have hx:=hg x sm;have hy:=hg y sm;rw[hp]at hn;unfold DJ at hn;have e:BB ⟨10,c,s,d,ky,sl,dn,pl,pr,l,⟨ik,iv,ir,ig⟩,co⟩ b=(⟨10,c,s,d,ky,sl,y==1,x,pr,l,⟨ik,iv,ir,ig⟩,co⟩,true):=by unfold BB;simp only[Co,Int.reduceEq,qw,ql,hp]<;>rfl
   rw[e];refine wd BH [] A0 (A6 @hn) ?_;with_reducible repeat' first|constructor|intro hc;try simp only[AB]at hc
   exact zE
 by_cases h11:k=11
 .subst h11;have hn:=C2 b 1 hb (by decide);have hgt:=@FN 1 b;have hln:=@D7 1 b
  cases hp:BC 1 b with
  |none=>
   have e:BB ⟨11,c,s,d,ky,sl,dn,pl,pr,l,⟨ik,iv,ir,ig⟩,co⟩ b=(⟨11,c,s,d,ky,sl,dn,pl,pr,l,⟨ik,iv,ir,ig⟩,co⟩,false):=by unfold BB;simp only[Co,Int.reduceEq,qw,ql,hp]
   rw[e];rw[hp]at hn;unfold DJ at hn;refine wd BH [] A0 (A6 @hn) ?_;with_reducible repeat' first|constructor|intro hc;try simp only[AB]at hc
   exact zE
  |some p=>
   obtain⟨q,r⟩:=p;have hg:=hgt hp;obtain⟨hl1,hl2⟩:=hln hp
   obtain⟨x,rfl⟩:∃x,q=[x]:=by
    rcases q with _|⟨x,_|⟨z,t⟩⟩<;>first|exact⟨_,rfl⟩|(simp at hl1)
   have hx:=hg x sm;rw[hp]at hn;unfold DJ at hn;have e:BB ⟨11,c,s,d,ky,sl,dn,pl,pr,l,⟨ik,iv,ir,ig⟩,co⟩ b=(⟨11,c,s,d,ky,sl,dn,pl,pr,l,⟨ik,iv,ir,ig⟩,x⟩,true):=by unfold BB;simp only[Co,Int.reduceEq,qw,ql,hp]<;>rfl
   rw[e];refine wd BH [] A0 (A6 @hn) ?_;with_reducible repeat' first|constructor|intro hc;try simp only[AB]at hc
   exact zE
 by_cases h7:k=7
 .subst h7;have hn:=C2 b 1 hb (by decide);have hgt:=@FN 1 b;have hln:=@D7 1 b
  cases hp:BC 1 b with
  |none=>
   have e:BB ⟨7,c,s,d,ky,sl,dn,pl,pr,l,⟨ik,iv,ir,ig⟩,co⟩ b=(⟨7,c,s,d,ky,sl,dn,pl,pr,l,⟨ik,iv,ir,ig⟩,co⟩,false):=by unfold BB;simp only[Co,Int.reduceEq,qw,ql,hp]
   rw[e];rw[hp]at hn;unfold DJ at hn;refine wd BH [] A0 (A6 @hn) ?_;with_reducible repeat' first|constructor|intro hc;try simp only[AB]at hc
   exact zE
  |some p=>
   obtain⟨q,r⟩:=p;have hg:=hgt hp;obtain⟨hl1,hl2⟩:=hln hp
   obtain⟨x,rfl⟩:∃x,q=[x]:=by
    rcases q with _|⟨x,_|⟨z,t⟩⟩<;>first|exact⟨_,rfl⟩|(simp at hl1)
   have hx:=hg x sm;rw[hp]at hn;unfold DJ at hn;have ht:=SE r om;unfold Gc at ht;have e:BB ⟨7,c,s,d,ky,sl,dn,pl,pr,l,⟨ik,iv,ir,ig⟩,co⟩ b=(⟨7,c,s,d,ky,sl,dn,pl,(x-1),(Af r).1,⟨ik,iv,ir,ig⟩,co⟩,(Af r).2.2==0):=by unfold BB;simp only[Co,Int.reduceEq,qw,ql,hp]<;>rfl
   rw[e];refine wd BH [] A0 (AX @hn @ht) ?_;with_reducible repeat' first|constructor|intro hc;try simp only[AB]at hc
   exact zE
 by_cases h5:k=5
 .subst h5;have hn:=C2 b 0 hb (by decide);have hgt:=@FN 0 b;have hln:=@D7 0 b
  cases hp:BC 0 b with
  |none=>
   have e:BB ⟨5,c,s,d,ky,sl,dn,pl,pr,l,⟨ik,iv,ir,ig⟩,co⟩ b=(⟨5,c,s,d,ky,sl,dn,pl,pr,l,⟨ik,iv,ir,ig⟩,co⟩,false):=by unfold BB;simp only[Co,Int.reduceEq,qw,ql,hp]
   rw[e];rw[hp]at hn;unfold DJ at hn;refine wd BH [] A0 (A6 @hn) ?_;with_reducible repeat' first|constructor|intro hc;try simp only[AB]at hc
   exact zE
  |some p=>
   obtain⟨q,r⟩:=p;have hg:=hgt hp;obtain⟨hl1,hl2⟩:=hln hp;obtain rfl:q=[]:=uY.1 hl1;rw[hp]at hn;unfold DJ at hn;have ht:=QR r om;have hD:∀z:Item,z.d= .agg [.s z.key,.i .i64 z.value,.i .i64 z.version,.b z.gone]:=fun _=>rfl
   rw[hD]at ht;have e:BB ⟨5,c,s,d,ky,sl,dn,pl,pr,l,⟨ik,iv,ir,ig⟩,co⟩ b=(⟨5,c,s,d,ky,sl,dn,pl,pr,l,(Dk r).1,co⟩,(Dk r).2):=by unfold BB;simp only[Co,Int.reduceEq,qw,ql,hp]<;>rfl
   rw[e];refine wd BH [] A0 (AX @hn @ht) ?_;with_reducible repeat' first|constructor|intro hc;try simp only[AB]at hc
   exact zE
 by_cases h6:k=6
 .subst h6;have hn:=C2 b 0 hb (by decide);have hgt:=@FN 0 b;have hln:=@D7 0 b
  cases hp:BC 0 b with
  |none=>
   have e:BB ⟨6,c,s,d,ky,sl,dn,pl,pr,l,⟨ik,iv,ir,ig⟩,co⟩ b=(⟨6,c,s,d,ky,sl,dn,pl,pr,l,⟨ik,iv,ir,ig⟩,co⟩,false):=by unfold BB;simp only[Co,Int.reduceEq,qw,ql,hp]
   rw[e];rw[hp]at hn;unfold DJ at hn;refine wd BH [] A0 (A6 @hn) ?_;with_reducible repeat' first|constructor|intro hc;try simp only[AB]at hc
   exact zE
  |some p=>
   obtain⟨q,r⟩:=p;have hg:=hgt hp;obtain⟨hl1,hl2⟩:=hln hp;obtain rfl:q=[]:=uY.1 hl1;rw[hp]at hn;unfold DJ at hn;have ht:=Le r om;unfold Fc at ht;have e:BB ⟨6,c,s,d,ky,sl,dn,pl,pr,l,⟨ik,iv,ir,ig⟩,co⟩ b=(⟨6,c,s,d,ky,sl,dn,pl,pr,l,⟨(AO r).1,iv,ir,ig⟩,co⟩,(AO r).2.2==0):=by unfold BB;simp only[Co,Int.reduceEq,qw,ql,hp]<;>rfl
   rw[e];refine wd BH [] A0 (AX @hn @ht) ?_;with_reducible repeat' first|constructor|intro hc;try simp only[AB]at hc
   exact zE
 by_cases h12:k=12
 .subst h12;have hn:=C2 b 1 hb (by decide);have hgt:=@FN 1 b;have hln:=@D7 1 b
  cases hp:BC 1 b with
  |none=>
   have e:BB ⟨12,c,s,d,ky,sl,dn,pl,pr,l,⟨ik,iv,ir,ig⟩,co⟩ b=(⟨12,c,s,d,ky,sl,dn,pl,pr,l,⟨ik,iv,ir,ig⟩,co⟩,false):=by unfold BB;simp only[Co,Int.reduceEq,qw,ql,hp]
   rw[e];rw[hp]at hn;unfold DJ at hn;refine wd BH [] A0 (A6 @hn) ?_;with_reducible repeat' first|constructor|intro hc;try simp only[AB]at hc
   exact zE
  |some p=>
   obtain⟨q,r⟩:=p;have hg:=hgt hp;obtain⟨hl1,hl2⟩:=hln hp
   obtain⟨x,rfl⟩:∃x,q=[x]:=by
    rcases q with _|⟨x,_|⟨z,t⟩⟩<;>first|exact⟨_,rfl⟩|(simp at hl1)
   have hx:=hg x sm;rw[hp]at hn;unfold DJ at hn
   by_cases h0:x=0
   .subst h0;have ht:=QR r om;have hD:∀z:Item,z.d= .agg [.s z.key,.i .i64 z.value,.i .i64 z.version,.b z.gone]:=fun _=>rfl
    rw[hD]at ht;have e:BB ⟨12,c,s,d,ky,sl,dn,pl,pr,l,⟨ik,iv,ir,ig⟩,co⟩ b=(⟨12,c,s,d,ky,sl,dn,pl,pr,l,(Dk r).1,0⟩,(Dk r).2):=by unfold BB;simp only[Co,Int.reduceEq,qw,ql,hp]<;>rfl
    rw[e];refine wd BH [] A0 (AX @hn @ht) ?_;with_reducible repeat' first|constructor|intro hc;try simp only[AB]at hc
    exact zE
   .have f:=eq_false' h0;have e:BB ⟨12,c,s,d,ky,sl,dn,pl,pr,l,⟨ik,iv,ir,ig⟩,co⟩ b=(⟨12,c,s,d,ky,sl,dn,pl,pr,l,⟨ik,iv,ir,ig⟩,x⟩,true):=by unfold BB;simp only[Co,Int.reduceEq,qw,ql,hp,uf,h0]
    rw[e];refine wd BH [] (A6 f) (A6 @hn) ?_;with_reducible repeat' first|constructor|intro hc;try simp only[AB]at hc
    exact zE
 have hn:=C2 b 0 hb (by decide)
 have e:BB ⟨k,c,s,d,ky,sl,dn,pl,pr,l,⟨ik,iv,ir,ig⟩,co⟩ b=(⟨k,c,s,d,ky,sl,dn,pl,pr,l,⟨ik,iv,ir,ig⟩,co⟩,true):=by
  unfold BB;simp only[Co,h4,h10,h11,h7,h5,h6,h12,ql,BC]
 rw[e];have hp:BC 0 b=some ([],b):=rfl;rw[hp]at hn;unfold DJ at hn;have f4:=eq_false' h4;have f5:=eq_false' h5;have f6:=eq_false' h6;have f7:=eq_false' h7;have f10:=eq_false' h10;have f11:=eq_false' h11;have f12:=eq_false' h12;refine wd BH [] (zq7 f4 f5 f6 f7 f10 f11 f12) (A6 @hn) ?_;with_reducible repeat' first|constructor|intro hc;try simp only[AB]at hc
 exact zE
end Wi
end Go.Proofs.YtkljbfejbakooaaGreatDoor
namespace Go.Proofs.YtkljbfejbakooaaGreatDoor
open Go.Gar
abbrev GH:List Nat:=[0,1,4,5,7,8,9,16]
abbrev Hk:List Nat:=[0,1,4,5,10,14,25]
def Cp(n:Int):Int:=n%65536
def Aa(a b:Int):Int:=(b-a)%65536
theorem P6(n:Int):0<=Cp n/\Cp n<65536:=by unfold Cp;omega
theorem X4(a b:Int):0<=Aa a b/\Aa a b<65536:=by unfold Aa;omega
theorem cK(a b:Int):Cp (Cp b-Cp a)=Aa a b:=by unfold Cp Aa;omega
theorem lE(n:Int):C9 .and .i64 n 65535=Cp n:=by
 have h1:((BitVec.ofInt 64 n)&&&(BitVec.ofInt 64 65535)).toNat=(n%65536).toNat:=by
  rw[BitVec.toNat_and];have e1:(BitVec.ofInt 64 65535).toNat=2^16-1:=by decide
  rw[e1,Nat.and_two_pow_sub_one_eq_mod,BitVec.toNat_ofInt];omega
 have e:C9 .and .i64 n 65535=IntKind.wrap .i64 (((BitVec.ofInt 64 n)&&&(BitVec.ofInt 64 65535)).toNat:Int):=rfl;rw[e,h1,IntKind.wrap_i64];unfold Cp;omega
theorem jR(n:Int):(n.tmod 65536+65536).tmod 65536=Cp n:=by
 have h1:=Int.tmod_lt_of_pos n (show(0:Int)<65536 by decide);have h2:=Int.lt_tmod_of_pos n (show(0:Int)<65536 by decide);rw[Int.tmod_eq_emod_of_nonneg om];unfold Cp;have h3:=Int.tmod_add_mul_tdiv n 65536;omega
theorem EQ(n:Int):qB 237 [.i .i64 n] (.i .i64 (Cp n)):=by
 have e:=lE n;refine zF A4 Tryz.func237 ?_;refine wd [0,2] [] (A6 e) A0 ?_;exact zE
theorem H9(a b:Int):qB 217 [.i .i64 a,.i .i64 b] (.i .i64 (Aa a b)):=by
 have c1:=EQ a;have c2:=EQ b;have c3:=EQ (Cp b-Cp a);rw[cK]at c3;have h1:=P6 a;have h2:=P6 b;refine zF A4 Tryz.func217 ?_;refine wd [0,1,4] [] A0 (C3 @c1 @c2 @c3) ?_;exact zE
theorem Dl(n:Int)(hn: -9223372036854775808<=n/\n<=9223372036854775807):qB 71 [.i .i64 n] (.i .i64 (Cp n)):=by
 have e:=jR n;have h1:=Int.tmod_lt_of_pos n (show(0:Int)<65536 by decide);have h2:=Int.lt_tmod_of_pos n (show(0:Int)<65536 by decide);refine zF A4 Tryz.func71 ?_;refine wd [0,2] [] (A6 e) A0 ?_;exact zE
def i64(n:Int):Prop:=-9223372036854775808<=n/\n<=9223372036854775807
theorem Xm(a b:Int)(ha:i64 a)(hb:i64 b):qB 148 [.i .i64 a,.i .i64 b] (.i .i64 (Aa a b)):=by
 have h1:=P6 a;have h2:=P6 b;have c1:=Dl a ha;have c2:=Dl b hb;have c3:=Dl (Cp b-Cp a) om;rw[cK]at c3;refine zF A4 Tryz.func148 ?_;refine wd [0,1,4] [] A0 (C3 @c1 @c2 @c3) ?_;exact zE
def Ai(n:Int):Bool:=decide (0<=n/\n<65536)
theorem HD{n:Int}(h:Ai n=true):0<=n/\n<65536:=by simpa[Ai]using h
theorem GR(n:Int):qB 159 [.i .i64 n] (.b (Ai n)):=by
 refine zF A4 Tryz.func159 ?_
 by_cases h1:0<=n
 .have f1:decide (n>=0)=true:=qM h1
  by_cases h2:n<65536
  .have f2:decide (n<65536)=true:=qM h2;have e:Ai n=true:=qM ⟨h1,h2⟩;rw[e];refine wd [0,2] [] (AX f1 f2) A0 ?_;exact zE
  .have f2:decide (n<65536)=false:=qO h2;have e:Ai n=false:=qO fun h=>h2 h.2
   rw[e];refine wd [0,2] [] (AX f1 f2) A0 ?_;exact zE
 .have f1:decide (n>=0)=false:=qO h1;have e:Ai n=false:=qO fun h=>h1 h.1
  rw[e];refine wd [0,2] [] (A6 f1) A0 ?_;exact zE
theorem MV(n:Int):qB 239 [.i .i64 n] (.b (Ai n)):=by
 refine zF A4 Tryz.func239 ?_
 by_cases h1:0<=n
 .have f1:decide (n>=0)=true:=qM h1
  by_cases h2:n<65536
  .have f2:decide (n<65536)=true:=qM h2;have e:Ai n=true:=qM ⟨h1,h2⟩;rw[e];refine wd [0,2] [] (AX f1 f2) A0 ?_;exact zE
  .have f2:decide (n<65536)=false:=qO h2;have e:Ai n=false:=qO fun h=>h2 h.2
   rw[e];refine wd [0,2] [] (AX f1 f2) A0 ?_;exact zE
 .have f1:decide (n>=0)=false:=qO h1;have e:Ai n=false:=qO fun h=>h1 h.1
  rw[e];refine wd [0,2] [] (A6 f1) A0 ?_;exact zE
theorem Kg(n:Int):qB 75 [.i .i64 n] (.b (Ai n)):=by
 refine zF A4 Tryz.func75 ?_
 by_cases h1:0<=n
 .have f1:decide (n>=0)=true:=qM h1
  by_cases h2:n<65536
  .have f2:decide (n<65536)=true:=qM h2;have e:Ai n=true:=qM ⟨h1,h2⟩;rw[e];refine wd [0,2] [] (AX f1 f2) A0 ?_;exact zE
  .have f2:decide (n<65536)=false:=qO h2;have e:Ai n=false:=qO fun h=>h2 h.2
   rw[e];refine wd [0,2] [] (AX f1 f2) A0 ?_;exact zE
 .have f1:decide (n>=0)=false:=qO h1;have e:Ai n=false:=qO fun h=>h1 h.1
  rw[e];refine wd [0,2] [] (A6 f1) A0 ?_;exact zE
theorem Vo(n:Int):qB 70 [.i .i64 n] (.b (Ai n)):=by
 refine zF A4 Tryz.func70 ?_
 by_cases h1:0<=n
 .have f1:decide (n>=0)=true:=qM h1
  by_cases h2:n<65536
  .have f2:decide (n<65536)=true:=qM h2;have e:Ai n=true:=qM ⟨h1,h2⟩;rw[e];refine wd [0,2] [] (AX f1 f2) A0 ?_;exact zE
  .have f2:decide (n<65536)=false:=qO h2;have e:Ai n=false:=qO fun h=>h2 h.2
   rw[e];refine wd [0,2] [] (AX f1 f2) A0 ?_;exact zE
 .have f1:decide (n>=0)=false:=qO h1;have e:Ai n=false:=qO fun h=>h1 h.1
  rw[e];refine wd [0,2] [] (A6 f1) A0 ?_;exact zE
theorem O1(l:List Int)(hl:l.length<=100000):qB 151 [.is l] (.is l):=by
 refine zF A4 Tryz.func151 ?_;have nS:=tZ
 repeat'(first|((with_reducible refine sg ?_);first|with_reducible rfl|((with_reducible refine NJ ?_);first|kernel_rfl|rfl|(simp[Er,HV,nS];done))|with_reducible refine Ip ?_ ?_|with_reducible exact tq _|with_reducible exact Cd _|((with_reducible refine qM ?_);first|omega|(simp only[If,nS];omega))|decide|(simp[If,slc,Bw,D.one,Dt,AV.one,nS];done)|(simp[If,nS];omega))|((with_reducible refine fa ?_);first|(refine F3 rfl ?_;refine fY A4 rfl rfl rfl rfl ?_)|refine kr A4 rfl rfl rfl rfl rfl rfl (fun hnil=> ?_) ?_|refine ku A4 rfl rfl rfl rfl rfl rfl (fun hnil=> ?_) ?_|refine Xq A4 rfl rfl rfl rfl ?_ ?_|refine Xn [0,2,4] rfl ?_|refine Xw A4 rfl rfl rfl rfl ?_ ?_)|refine HO ?_|refine Dz ?_|refine Eo ?_|refine HN ?_|refine De ?_|refine En ?_|refine Cc rfl ?_|refine Cb rfl ?_|(refine GL rfl (fun hc=> ?_) (fun hc=> ?_)<;>(try simp only[AB]at hc)<;>(try(exfalso;omega))))
 .have e:=is_nil hnil;subst e;exact zE
 .exact zE
theorem Cy{l:List Int}{k:Nat}{x:Int}(hx:l[k]? =some x):l.getD k 0=x:=by rw[qW,hx];rfl
theorem af(l:List Int)(x:Int)(hl:l.length<=100000)(hx:∀y∈l,x≠y):qB 346 [.is l,.i .i64 x] (.i .i64 (-1)):=by
 refine zF A4 Tryz.func346 ?_;refine wd GH [] A0 A0 ?_;refine An (fun k=>k<=l.length) (fun k:Nat=>⟨[(0,.qF l),(1,.pY x),(4,.pY 0),(7,.pY l.length),(8,.pY k)],[],19⟩) (fun k=>l.length-k) 0 (qP _) ?_ (qG _) ?_
 .exact A1.ck rfl
 intro k hk
 by_cases hkl:k<l.length
 .obtain⟨y,hy⟩:=AT hkl;have gy:=Cy hy;have f1:=eq_false' (hx y (rE hy));refine wd GH [] (AX gy f1) A0 ?_;with_reducible repeat' first|constructor|intro hc;try simp only[AB]at hc
  refine⟨k+1,hkl,om,qG _,?_⟩;exact A1.ck rfl
 .have e:k=l.length:=om
  subst e;refine wd GH [] A0 A0 ?_;with_reducible repeat' first|constructor|intro hc;try simp only[AB]at hc
  exact zE
theorem ae(l:List Int)(x:Int)(n:Nat)(hl:l.length<=100000)(hn:l[n]? =some x)(hx:∀j y,j<n->l[j]? =some y->x≠y):qB 346 [.is l,.i .i64 x] (.i .i64 n):=by
 refine zF A4 Tryz.func346 ?_;have hnl:=(qN.1 hn).1;refine wd GH [] A0 A0 ?_;refine An (fun k=>k<=n) (fun k:Nat=>⟨[(0,.qF l),(1,.pY x),(4,.pY 0),(7,.pY l.length),(8,.pY k)],[],19⟩) (fun k=>n-k) 0 (qP _) ?_ (qG _) ?_
 .exact A1.ck rfl
 intro k hk
 by_cases hkl:k<n
 .obtain⟨y,hy⟩:=AT (xs:=l) (k:=k) om;have gy:=Cy hy;have f1:=eq_false' (hx k y hkl hy);refine wd GH [] (AX gy f1) A0 ?_;with_reducible repeat' first|constructor|intro hc;try simp only[AB]at hc
  refine⟨k+1,hkl,om,qG _,?_⟩;exact A1.ck rfl
 .have e:k=n:=om
  subst e;have gy:=Cy hn;refine wd GH [] (A6 gy) A0 ?_;with_reducible repeat' first|constructor|intro hc;try simp only[AB]at hc
  exact zE
theorem Ih(l:List Int)(x:Int)(hl:l.length<=100000):qB 303 [.is l,.i .i64 x] (.b (decide (x∈l))):=by
 refine zF A4 Tryz.func303 ?_
 by_cases hm:x∈l
 .obtain⟨n,hn⟩:∃n,l.findIdx? (fun y=>y==x)=some n:=by
   cases h:l.findIdx? (fun y=>y==x)with
   |some n=>exact⟨n,rfl⟩
   |none=>rw[List.findIdx?_eq_none_iff]at h;have:=h x hm;simp at this
  obtain⟨h1,h2,h3⟩:=List.findIdx?_eq_some_iff_getElem.1 hn
  have c:=ae l x n hl (by rw[qK h1];simpa using h2) (fun j y hj hy e=>by
   have:=h3 j hj;rw[(qN.1 hy).2,e]at this
   simp at this)
  rw[qM hm];have f1:decide ((n:Int)>=0)=true:=qM om;refine wd [0,1,4] [] (A6 f1) (A6 @c) ?_;exact zE
 .have c:=af l x hl (fun y hy e=>hm (e▸hy));rw[qO hm];refine wd [0,1,4] [] A0 (A6 @c) ?_;exact zE
theorem XI(a b:List Int)(hl:a.length<=100000):qB 39 [.is a,.is b] (.b (decide (a=b))):=by
 refine zF A4 Tryz.func39 ?_
 by_cases heq:a.length=b.length
 .have e1:((a.length:Int)!=(b.length:Int))=false:=BF om;refine wd Hk [] (A6 e1) A0 ?_;refine An (fun k=>k<=a.length/\a.take k=b.take k) (fun k:Nat=>⟨[(0,.qF a),(1,.qF b),(4,.pq false),(5,.pY k)],[],26⟩) (fun k=>a.length-k) 0 ⟨qP _,sm⟩ ?_ (qG _) ?_
  .exact A1.ck rfl
  rintro k ⟨hk,hpre⟩
  by_cases hkl:k<a.length
  .obtain⟨x,hx⟩:=AT hkl;obtain⟨y,hy⟩:=AT (xs:=b) (k:=k) om;have gx:a.getD k 0=x:=by rw[qW,hx];rfl
   have gy:b.getD k 0=y:=by rw[qW,hy];rfl
   by_cases hxy:x=y
   .have f1:=BF hxy;refine wd Hk [] (C3 gx gy f1) A0 ?_;with_reducible repeat' first|constructor|intro hc;try simp only[AB]at hc
    refine⟨k+1,⟨hkl,by rw[List.take_add_one,List.take_add_one,hpre,hx,hy,hxy]⟩,om,qG _,?_⟩;exact A1.ck rfl
   .have hne:¬a=b:=fun e=>by subst e;rw[hx]at hy;cases hy;exact hxy rfl
    have f1:=BJ hxy;refine wd Hk [] (C3 gx gy f1) A0 ?_;with_reducible repeat' first|constructor|intro hc;try simp only[AB]at hc
    exact Ag hne
  .have e:k=a.length:=om
   subst e;have hE:a=b:=by rw[qx,heq,qx]at hpre;exact hpre
   refine wd Hk [] A0 A0 ?_;with_reducible repeat' first|constructor|intro hc;try simp only[AB]at hc
   exact Ag hE
 .have e1:((a.length:Int)!=(b.length:Int))=true:=BJ om;have hne:¬a=b:=fun e=>heq (by rw[e])
  refine wd Hk [] (A6 e1) A0 ?_;exact Ag hne
def Ir(a x b:Int):Bool:=if Cp a=Cp b then decide (Cp x≠Cp a)else decide (Aa a x>0/\Aa a x<Aa a b)
end Go.Proofs.YtkljbfejbakooaaGreatDoor
