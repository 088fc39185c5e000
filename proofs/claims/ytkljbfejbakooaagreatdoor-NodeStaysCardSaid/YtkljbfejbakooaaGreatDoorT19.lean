/- Part 19 of a proof. Conditions: those that its theorems state. -/
import Derived.Test.YtkljbfejbakooaaGreatDoorT18
set_option linter.unusedSimpArgs false
set_option linter.unusedVariables false
set_option linter.unnecessarySimpa false
set_option maxHeartbeats 40000000
set_option maxRecDepth 4000
namespace Go.Proofs.YtkljbfejbakooaaGreatDoor
namespace Wi
open Go.Gar
abbrev D8:Aw:=[0,1,2,3,4,5,6,10,32]
theorem WZ(n c:Int):xB 180 [.ifc 224 (.agg #[.int .i64 n]),.i .i64 c] (.i .i64 n):=by
 refine zF AF Tryz.func180 ?_;refine wd [0,1,4,5,6,12] [] A4 A4 ?_;exact zE
theorem EV(H:xS):OO Tryz.prog 276 [.ptr 0 0 1,.ptr 1 0 1] H .returning H:=by
 refine LN Tryz.func276 rfl rfl xA fun c0 cs hu=> ?_;refine Kf (LP ?_)
 refine o5 rfl rfl rfl rfl (.inl ⟨by simp[recoverD,hu],rfl,rfl⟩) ?_;refine Sq AF rfl rfl rfl rfl ?_ rfl;refine Q9 ?_;refine Kf (GR ?_);refine Kq AF rfl rfl rfl rfl ?_ rfl;refine Kn AF rfl rfl rfl rfl ?_;refine EM ?_;refine Q6 rfl (ax ?_);exact⟨.returning,by rw[<-hu],rfl,_,A6.refl _,xH _,rfl⟩
theorem iJ(x y:AV)(n:Int):OO Tryz.prog 276 [.ptr 0 0 1,.ptr 1 0 1] [.c [x],.c [y]] (.panicking (pF n)) [.c [.e0],.c [.wo n]]:=by
 have hc:=WZ n 2;refine LN Tryz.func276 rfl rfl xA fun c0 cs hu=> ?_
 refine Kf (LP ?_);refine o5 (cs':={c0 with mode:=.panicking [{v:=.iface 224 (.agg #[.int .i64 n]),recovered:=true}]}::cs) rfl rfl rfl rfl (.inr ⟨224,.agg #[.int .i64 n],by simp[recoverD,hu,pF],rfl⟩) ?_;refine Sq AF rfl rfl rfl rfl ?_ rfl;refine Q9 ?_;refine Kf (GR ?_);refine Kq AF rfl rfl rfl rfl ?_ rfl;refine Kn AF rfl rfl rfl rfl ?_;refine EM ?_;refine Q6 rfl (GR ?_);refine Kq AF rfl rfl rfl rfl ?_ rfl;refine KF hc rfl rfl rfl rfl (by simp[MO,EE,Cq]) rfl rfl ?_;refine Kw AF rfl rfl rfl rfl ?_ rfl;refine Kw AF rfl rfl rfl rfl ?_ rfl;refine EM ?_;exact⟨_,rfl,rfl,_,A6.refl _,xH _,rfl⟩
def tK:xT:=[(.i .u8 4,.fn (.func 320) [] [.ptr 3 0 1,.ptr 2 0 15]),(.i .u8 5,.fn (.func 322) [] [.ptr 3 0 1,.ptr 2 0 15]),(.i .u8 6,.fn (.func 324) [] [.ptr 3 0 1,.ptr 2 0 15]),(.i .u8 7,.fn (.func 326) [] [.ptr 3 0 1,.ptr 2 0 15]),
 (.i .u8 10,.fn (.func 328) [] [.ptr 3 0 1,.ptr 2 0 15]),(.i .u8 11,.fn (.func 329) [] [.ptr 3 0 1,.ptr 2 0 15]),(.i .u8 12,.fn (.func 330) [] [.ptr 3 0 1,.ptr 2 0 15])]
theorem aj(m:AC)(o:AJ):xC 278 [.d m.d,.ptr 0 0 1] (wH o) (.mp 4) [.c [.sl 1 o.length 1],.a (.by o),.c (mC m),.c [.ptr 0 0 1],.m tK]:=by
 refine zD AF Tryz.func278 ?_;unfold wH tK mC AC.d AC.A0;refine wd [0,1,2,3,4] [] A4 A4 ?_;exact⟨_,A6.refl _,xA,_,_,rfl,rfl,rfl,rfl⟩
theorem OO.at{P:Program}{f:FuncId}{args:xD}{H:xS}{u:FrameMode}{H':xS}(ids:Aw)(h:OO P f args H u H'){xs:xD}{H2 H3:xS}(hx:AV.EF (rn ids H2.length) args=xs)(hn:nodupB ids=true)(hm:E8 (rn ids H2.length) H2 ids H)(ho:BY H.length H=true)(ha:AV.oks H.length args=true)(hH:Px ids H2 (Gb (rn ids H2.length) H')=H3):OO P f xs H2 u H3:=by
 subst hx;subst hH;exact h.ren ids hn hm ho ha
theorem Yb(m:AC)(hl:m.A8.length<9223372036854775807)(h:m.right=false):xC 195 [.d m.d] [] (.tup [.e0,.wo 2]) [.gone,.c [.e0],.c [.wo 2]]:=by
 have hR:=CX m hl;rw[h]at hR;unfold AC.d AC.A0 at *;refine Fx (g:=276) (xs:=[.ptr 1 0 1,.ptr 2 0 1]) AF Tryz.func195 rfl rfl xA ?_;refine Ka AF rfl rfl rfl rfl rfl ?_ rfl;refine Ka AF rfl rfl rfl rfl rfl ?_ rfl;refine Ka AF rfl rfl rfl rfl rfl ?_ rfl;refine EM ?_;refine Fq AF rfl rfl rfl rfl ?_ rfl;refine F1 rfl rfl rfl rfl rfl rfl ⟨_,Tryz.func276,rfl,rfl⟩ rfl ?_;refine wd D8 [] A4 (AM @hR) ?_;refine⟨_,OO.at [1,2] (iJ .e0 (.wo 0) 2) rfl rfl ⟨rfl,rfl,trivial⟩ rfl rfl rfl,?_⟩;exact⟨⟨[(2,.ptr 1 0 1),(3,.ptr 2 0 1)],[.gone,.c [.e0],.c [.wo 2]],Tryz.f195.ntmps⟩,(A6.ck rfl),xQ _,_,_,rfl,rfl,rfl,rfl⟩
def By(m:AC):AJ:=Ac [m.AR,m.Aa,m.As,m.dst]++CK m
variable {n:Int}
theorem Dv(h:0<=n/\n<=1099511627776):fits n=true:=by simp[fits];omega
theorem CQ(h:Bp n=true):fits n=true:=Dv (by have:=FD h;omega)
theorem Wy(h:isVal n=true):fits n=true:=Dv (by simp[isVal]at h;omega)
theorem HP{x:AK}(h:BE x=true):x.AH.length<=255/\fits x.B2=true/\fits x.AZ=true:=by
 simp only[BE,xI]at h;refine⟨?_,Wy h.1.2,Wy h.2⟩;have:=h.1.1;simp[Bc]at this;omega
theorem Hj{m:AC}(h:m.right=true):(1<=m.AR/\m.AR<13)/\(Bp m.As=true/\Bp m.dst=true)/\m.As≠m.dst/\(m.asker*1048576+1<=m.Aa/\m.Aa<m.asker*1048576+1+1048576)/\m.bare=m.empty/\m.has=true:=by
 simp only[AC.right,AC.Iy,xI,xK]at h;obtain⟨⟨⟨⟨⟨⟨⟨h1,h2⟩,h3⟩,h4⟩,h5⟩,h6⟩,h7⟩,h8,h9⟩:=h;exact⟨⟨h1,h2⟩,⟨h3,h4⟩,h5,⟨h6,h7⟩,h8,h9⟩
theorem L5{l:Ad}{s:Int}(h:Et l s=true):l.length<=3/\l.all fits=true:=by
 simp only[Et,GF,xI,xK]at h;refine⟨h.2,?_⟩;rw[yc]at *;intro x hx;have:=h.1.1 x hx;simp only[xI]at this;exact CQ this.1
theorem NC{m:AC}(h:m.right=true):0<=m.asker/\m.asker<65536:=by
 obtain⟨_,⟨h1,h2⟩,_⟩:=Hj h;unfold AC.asker;split
 .exact FD h1
 .exact FD h2
theorem WC(m:AC)(hl:m.A8.length<9223372036854775807)(h:m.right=true):xC 195 [.d m.d] [] (.tup [.sl 4 (By m).length 1,.wo 0]) [.gone,.c [.sl 4 (By m).length 1],.c [.wo 0],.gone,.a (.by (By m))]:=by
 have hR:=CX m hl;rw[h]at hR;obtain⟨⟨k1,k2⟩,⟨p1,p2⟩,_,⟨c1,c2⟩,hb,hh⟩:=Hj h;have ha:=NC h;have hput:=K3 [m.AR,m.Aa,m.As,m.dst] [] (by simp only[yj,zi,zy,CQ p1,CQ p2,Dv (n:=m.AR) om,Dv (n:=m.Aa) om]) sm sm;have hw:=aj m ([]++Ac [m.AR,m.Aa,m.As,m.dst]);have hlen:=Fj [m.AR,m.Aa,m.As,m.dst] (by simp only[yj,zi,zy,CQ p1,CQ p2,Dv (n:=m.AR) om,Dv (n:=m.Aa) om]);simp only[xw,yI]at hlen;refine Fx (g:=276) (xs:=[.ptr 1 0 1,.ptr 2 0 1]) AF Tryz.func195 rfl rfl xA ?_;refine Ka AF rfl rfl rfl rfl rfl ?_ rfl;refine Ka AF rfl rfl rfl rfl rfl ?_ rfl;refine Ka AF rfl rfl rfl rfl rfl ?_ rfl;refine EM ?_;refine Fq AF rfl rfl rfl rfl ?_ rfl;refine F1 rfl rfl rfl rfl rfl rfl ⟨_,Tryz.func276,rfl,rfl⟩ rfl ?_;unfold wH at *;refine wd D8 [5] A4 (AM @hR) ?_;refine BC (A6.EO 3 0 (.by []) rfl rfl rfl rfl trivial) sm ?_;obtain⟨k,c,s,d,ky,sl,dn,pl,pr,l,⟨ik,iv,ir,ig⟩,co⟩:=m;simp only[mC,tK]at *;have hkind:k=1\/k=2\/k=3\/k=4\/k=5\/k=6\/k=7\/k=8\/k=9\/k=10\/k=11\/k=12:=om
 clear hR h hb k1 k2;rcases hkind with rfl|rfl|rfl|rfl|rfl|rfl|rfl|rfl|rfl|rfl|rfl|rfl
 .have hfin:True:=trivial;have d1:=Ds.mk [3,4] (hput);have d2:=Ds.mk [3,4] (hw);refine wd D8 [] A4 A4 ?_ [(2,1),(3,1)];clear d2 d1;refine⟨_,OO.at [1,2,4] (EV [.c [.sl 2 _ 1],.c [.wo 0],.a (.by _)]) rfl rfl ⟨rfl,rfl,rfl,trivial⟩ rfl rfl (by simp only[HZ,Nat.reduceAdd];rfl),?_⟩;refine⟨⟨[(2,.ptr 1 0 1),(3,.ptr 2 0 1)],[.gone,.c [.sl 4 (By ⟨1,c,s,d,ky,sl,dn,pl,pr,l,⟨ik,iv,ir,ig⟩,co⟩).length 1],.c [.wo 0],.gone,.a (.by (By ⟨1,c,s,d,ky,sl,dn,pl,pr,l,⟨ik,iv,ir,ig⟩,co⟩))],Tryz.f195.ntmps⟩,?_,xQ _,_,_,rfl,rfl,rfl,rfl⟩;exact(have nC:=xU @By.eq_1 (xU @CK.eq_1 hfin);A6.co rfl)
 .have hfin:True:=trivial;have d1:=Ds.mk [3,4] (hput);have d2:=Ds.mk [3,4] (hw);refine wd D8 [] A4 A4 ?_ [(2,1),(3,1)];clear d2 d1;refine⟨_,OO.at [1,2,4] (EV [.c [.sl 2 _ 1],.c [.wo 0],.a (.by _)]) rfl rfl ⟨rfl,rfl,rfl,trivial⟩ rfl rfl (by simp only[HZ,Nat.reduceAdd];rfl),?_⟩;refine⟨⟨[(2,.ptr 1 0 1),(3,.ptr 2 0 1)],[.gone,.c [.sl 4 (By ⟨2,c,s,d,ky,sl,dn,pl,pr,l,⟨ik,iv,ir,ig⟩,co⟩).length 1],.c [.wo 0],.gone,.a (.by (By ⟨2,c,s,d,ky,sl,dn,pl,pr,l,⟨ik,iv,ir,ig⟩,co⟩))],Tryz.f195.ntmps⟩,?_,xQ _,_,_,rfl,rfl,rfl,rfl⟩;exact(have nC:=xU @By.eq_1 (xU @CK.eq_1 hfin);A6.co rfl)
 .have hfin:True:=trivial;have d1:=Ds.mk [3,4] (hput);have d2:=Ds.mk [3,4] (hw);refine wd D8 [] A4 A4 ?_ [(2,1),(3,1)];clear d2 d1;refine⟨_,OO.at [1,2,4] (EV [.c [.sl 2 _ 1],.c [.wo 0],.a (.by _)]) rfl rfl ⟨rfl,rfl,rfl,trivial⟩ rfl rfl (by simp only[HZ,Nat.reduceAdd];rfl),?_⟩;refine⟨⟨[(2,.ptr 1 0 1),(3,.ptr 2 0 1)],[.gone,.c [.sl 4 (By ⟨3,c,s,d,ky,sl,dn,pl,pr,l,⟨ik,iv,ir,ig⟩,co⟩).length 1],.c [.wo 0],.gone,.a (.by (By ⟨3,c,s,d,ky,sl,dn,pl,pr,l,⟨ik,iv,ir,ig⟩,co⟩))],Tryz.f195.ntmps⟩,?_,xQ _,_,_,rfl,rfl,rfl,rfl⟩;exact(have nC:=xU @By.eq_1 (xU @CK.eq_1 hfin);A6.co rfl)
 .have hfin:True:=trivial;simp[AC.has]at hh;have hk:=uJ ⟨4,c,s,d,ky,sl,dn,pl,pr,l,⟨ik,iv,ir,ig⟩,co⟩ ([]++Ac [4,c,s,d]) (CQ hh) (by simp only[xY];omega);unfold kH at hk;simp only[mC]at hk;have d1:=Ds.mk [3,4] (hput);have d2:=Ds.mk [3,4] (hw);have d3:=Ds.mk [6,5,3,4] (hk);refine wd D8 [] A4 A4 ?_ [(2,1),(3,1)];clear d3 d2 d1;refine⟨_,OO.at [1,2,4] (EV [.c [.sl 2 _ 1],.c [.wo 0],.a (.by _)]) rfl rfl ⟨rfl,rfl,rfl,trivial⟩ rfl rfl (by simp only[HZ,Nat.reduceAdd];rfl),?_⟩;refine⟨⟨[(2,.ptr 1 0 1),(3,.ptr 2 0 1)],[.gone,.c [.sl 4 (By ⟨4,c,s,d,ky,sl,dn,pl,pr,l,⟨ik,iv,ir,ig⟩,co⟩).length 1],.c [.wo 0],.gone,.a (.by (By ⟨4,c,s,d,ky,sl,dn,pl,pr,l,⟨ik,iv,ir,ig⟩,co⟩))],Tryz.f195.ntmps⟩,?_,xQ _,_,_,rfl,rfl,rfl,rfl⟩;exact(have nC:=xU @By.eq_1 (xU @CK.eq_1 hfin);A6.co rfl)
 .have hfin:True:=trivial;simp[AC.has]at hh;obtain⟨a1,a2,a3⟩:=HP hh;have hk:=uK ⟨5,c,s,d,ky,sl,dn,pl,pr,l,⟨ik,iv,ir,ig⟩,co⟩ ([]++Ac [5,c,s,d]) a1 a2 a3 (by simp only[xY];omega);unfold kH at hk;simp only[mC]at hk;have d1:=Ds.mk [3,4] (hput);have d2:=Ds.mk [3,4] (hw);have d3:=Ds.mk [6,5,3,4] (hk);refine wd D8 [] A4 A4 ?_ [(2,1),(3,1)];clear d3 d2 d1;refine⟨_,OO.at [1,2,4] (EV [.c [.sl 2 _ 1],.c [.wo 0],.a (.by _)]) rfl rfl ⟨rfl,rfl,rfl,trivial⟩ rfl rfl (by simp only[HZ,Nat.reduceAdd];rfl),?_⟩;refine⟨⟨[(2,.ptr 1 0 1),(3,.ptr 2 0 1)],[.gone,.c [.sl 4 (By ⟨5,c,s,d,ky,sl,dn,pl,pr,l,⟨ik,iv,ir,ig⟩,co⟩).length 1],.c [.wo 0],.gone,.a (.by (By ⟨5,c,s,d,ky,sl,dn,pl,pr,l,⟨ik,iv,ir,ig⟩,co⟩))],Tryz.f195.ntmps⟩,?_,xQ _,_,_,rfl,rfl,rfl,rfl⟩;exact(have nC:=xU @By.eq_1 (xU @CK.eq_1 hfin);A6.co rfl)
 .have hfin:True:=trivial;simp[AC.has]at hh;obtain⟨a1,a2,a3⟩:=HP hh.1;have hk:=uL ⟨6,c,s,d,ky,sl,dn,pl,pr,l,⟨ik,iv,ir,ig⟩,co⟩ ([]++Ac [6,c,s,d]) a1 (by simp only[xY];omega);unfold kH at hk;simp only[mC]at hk;have d1:=Ds.mk [3,4] (hput);have d2:=Ds.mk [3,4] (hw);have d3:=Ds.mk [6,5,3,4] (hk);refine wd D8 [] A4 A4 ?_ [(2,1),(3,1)];clear d3 d2 d1;refine⟨_,OO.at [1,2,4] (EV [.c [.sl 2 _ 1],.c [.wo 0],.a (.by _)]) rfl rfl ⟨rfl,rfl,rfl,trivial⟩ rfl rfl (by simp only[HZ,Nat.reduceAdd];rfl),?_⟩;refine⟨⟨[(2,.ptr 1 0 1),(3,.ptr 2 0 1)],[.gone,.c [.sl 4 (By ⟨6,c,s,d,ky,sl,dn,pl,pr,l,⟨ik,iv,ir,ig⟩,co⟩).length 1],.c [.wo 0],.gone,.a (.by (By ⟨6,c,s,d,ky,sl,dn,pl,pr,l,⟨ik,iv,ir,ig⟩,co⟩))],Tryz.f195.ntmps⟩,?_,xQ _,_,_,rfl,rfl,rfl,rfl⟩;exact(have nC:=xU @By.eq_1 (xU @CK.eq_1 hfin);A6.co rfl)
 .have hfin:True:=trivial;simp[AC.has]at hh
  have hf:fits (pr+1)=true:=by
   rcases hh.1 with h|h
   .subst h;rfl
   .exact Dv (by have:=FD h;omega)
  have hL:=L5 hh.2;have hk:=uM ⟨7,c,s,d,ky,sl,dn,pl,pr,l,⟨ik,iv,ir,ig⟩,co⟩ ([]++Ac [7,c,s,d]) hf (zB hL.1 (by decide)) hL.2 (by simp only[xY];omega);unfold kH at hk;simp only[mC]at hk;have d1:=Ds.mk [3,4] (hput);have d2:=Ds.mk [3,4] (hw);have d3:=Ds.mk [6,5,3,4] (hk);refine wd D8 [] A4 A4 ?_ [(2,1),(3,1)];clear d3 d2 d1;refine⟨_,OO.at [1,2,4] (EV [.c [.sl 2 _ 1],.c [.wo 0],.a (.by _)]) rfl rfl ⟨rfl,rfl,rfl,trivial⟩ rfl rfl (by simp only[HZ,Nat.reduceAdd];rfl),?_⟩;refine⟨⟨[(2,.ptr 1 0 1),(3,.ptr 2 0 1)],[.gone,.c [.sl 4 (By ⟨7,c,s,d,ky,sl,dn,pl,pr,l,⟨ik,iv,ir,ig⟩,co⟩).length 1],.c [.wo 0],.gone,.a (.by (By ⟨7,c,s,d,ky,sl,dn,pl,pr,l,⟨ik,iv,ir,ig⟩,co⟩))],Tryz.f195.ntmps⟩,?_,xQ _,_,_,rfl,rfl,rfl,rfl⟩;exact(have nC:=xU @By.eq_1 (xU @CK.eq_1 hfin);A6.co rfl)
 .have hfin:True:=trivial;have d1:=Ds.mk [3,4] (hput);have d2:=Ds.mk [3,4] (hw);refine wd D8 [] A4 A4 ?_ [(2,1),(3,1)];clear d2 d1;refine⟨_,OO.at [1,2,4] (EV [.c [.sl 2 _ 1],.c [.wo 0],.a (.by _)]) rfl rfl ⟨rfl,rfl,rfl,trivial⟩ rfl rfl (by simp only[HZ,Nat.reduceAdd];rfl),?_⟩;refine⟨⟨[(2,.ptr 1 0 1),(3,.ptr 2 0 1)],[.gone,.c [.sl 4 (By ⟨8,c,s,d,ky,sl,dn,pl,pr,l,⟨ik,iv,ir,ig⟩,co⟩).length 1],.c [.wo 0],.gone,.a (.by (By ⟨8,c,s,d,ky,sl,dn,pl,pr,l,⟨ik,iv,ir,ig⟩,co⟩))],Tryz.f195.ntmps⟩,?_,xQ _,_,_,rfl,rfl,rfl,rfl⟩;exact(have nC:=xU @By.eq_1 (xU @CK.eq_1 hfin);A6.co rfl)
 .have hfin:True:=trivial;have d1:=Ds.mk [3,4] (hput);have d2:=Ds.mk [3,4] (hw);refine wd D8 [] A4 A4 ?_ [(2,1),(3,1)];clear d2 d1;refine⟨_,OO.at [1,2,4] (EV [.c [.sl 2 _ 1],.c [.wo 0],.a (.by _)]) rfl rfl ⟨rfl,rfl,rfl,trivial⟩ rfl rfl (by simp only[HZ,Nat.reduceAdd];rfl),?_⟩;refine⟨⟨[(2,.ptr 1 0 1),(3,.ptr 2 0 1)],[.gone,.c [.sl 4 (By ⟨9,c,s,d,ky,sl,dn,pl,pr,l,⟨ik,iv,ir,ig⟩,co⟩).length 1],.c [.wo 0],.gone,.a (.by (By ⟨9,c,s,d,ky,sl,dn,pl,pr,l,⟨ik,iv,ir,ig⟩,co⟩))],Tryz.f195.ntmps⟩,?_,xQ _,_,_,rfl,rfl,rfl,rfl⟩;exact(have nC:=xU @By.eq_1 (xU @CK.eq_1 hfin);A6.co rfl)
 .have hfin:True:=trivial;simp[AC.has]at hh;have hk:=uN ⟨10,c,s,d,ky,sl,dn,pl,pr,l,⟨ik,iv,ir,ig⟩,co⟩ ([]++Ac [10,c,s,d]) (CQ hh) (by simp only[xY];omega);unfold kH at hk;simp only[mC]at hk;have d1:=Ds.mk [3,4] (hput);have d2:=Ds.mk [3,4] (hw);have d3:=Ds.mk [6,5,3,4] (hk);refine wd D8 [] A4 A4 ?_ [(2,1),(3,1)];clear d3 d2 d1;refine⟨_,OO.at [1,2,4] (EV [.c [.sl 2 _ 1],.c [.wo 0],.a (.by _)]) rfl rfl ⟨rfl,rfl,rfl,trivial⟩ rfl rfl (by simp only[HZ,Nat.reduceAdd];rfl),?_⟩;refine⟨⟨[(2,.ptr 1 0 1),(3,.ptr 2 0 1)],[.gone,.c [.sl 4 (By ⟨10,c,s,d,ky,sl,dn,pl,pr,l,⟨ik,iv,ir,ig⟩,co⟩).length 1],.c [.wo 0],.gone,.a (.by (By ⟨10,c,s,d,ky,sl,dn,pl,pr,l,⟨ik,iv,ir,ig⟩,co⟩))],Tryz.f195.ntmps⟩,?_,xQ _,_,_,rfl,rfl,rfl,rfl⟩;exact(have nC:=xU @By.eq_1 (xU @CK.eq_1 hfin);A6.co rfl)
 .have hfin:True:=trivial;simp[AC.has]at hh;have hk:=uO ⟨11,c,s,d,ky,sl,dn,pl,pr,l,⟨ik,iv,ir,ig⟩,co⟩ ([]++Ac [11,c,s,d]) (by rcases hh with h|h<;>subst h<;>rfl) (by simp only[xY];omega);unfold kH at hk;simp only[mC]at hk;have d1:=Ds.mk [3,4] (hput);have d2:=Ds.mk [3,4] (hw);have d3:=Ds.mk [6,5,3,4] (hk);refine wd D8 [] A4 A4 ?_ [(2,1),(3,1)];clear d3 d2 d1;refine⟨_,OO.at [1,2,4] (EV [.c [.sl 2 _ 1],.c [.wo 0],.a (.by _)]) rfl rfl ⟨rfl,rfl,rfl,trivial⟩ rfl rfl (by simp only[HZ,Nat.reduceAdd];rfl),?_⟩;refine⟨⟨[(2,.ptr 1 0 1),(3,.ptr 2 0 1)],[.gone,.c [.sl 4 (By ⟨11,c,s,d,ky,sl,dn,pl,pr,l,⟨ik,iv,ir,ig⟩,co⟩).length 1],.c [.wo 0],.gone,.a (.by (By ⟨11,c,s,d,ky,sl,dn,pl,pr,l,⟨ik,iv,ir,ig⟩,co⟩))],Tryz.f195.ntmps⟩,?_,xQ _,_,_,rfl,rfl,rfl,rfl⟩;exact(have nC:=xU @By.eq_1 (xU @CK.eq_1 hfin);A6.co rfl)
 .have hfin:True:=trivial;simp[AC.has]at hh
  have hf:fits co=true:=by
   rcases hh with h|h
   .rw[h.1];rfl
   .rw[h.1];rfl
  have hI:co=0->BE ⟨ik,iv,ir,ig⟩=true:=fun h=>by
   rcases hh with h2|h2
   .exact h2.2
   .exact absurd (h2.1.symm.trans h) (by decide)
  have hk:=uP ⟨12,c,s,d,ky,sl,dn,pl,pr,l,⟨ik,iv,ir,ig⟩,co⟩ ([]++Ac [12,c,s,d]) hf (fun h=>HP (hI h)) (by simp only[xY];omega);unfold kH at hk;simp only[mC]at hk;have d1:=Ds.mk [3,4] (hput);have d2:=Ds.mk [3,4] (hw);have d3:=Ds.mk [6,5,3,4] (hk);refine wd D8 [] A4 A4 ?_ [(2,1),(3,1)];clear d3 d2 d1;refine⟨_,OO.at [1,2,4] (EV [.c [.sl 2 _ 1],.c [.wo 0],.a (.by _)]) rfl rfl ⟨rfl,rfl,rfl,trivial⟩ rfl rfl (by simp only[HZ,Nat.reduceAdd];rfl),?_⟩;refine⟨⟨[(2,.ptr 1 0 1),(3,.ptr 2 0 1)],[.gone,.c [.sl 4 (By ⟨12,c,s,d,ky,sl,dn,pl,pr,l,⟨ik,iv,ir,ig⟩,co⟩).length 1],.c [.wo 0],.gone,.a (.by (By ⟨12,c,s,d,ky,sl,dn,pl,pr,l,⟨ik,iv,ir,ig⟩,co⟩))],Tryz.f195.ntmps⟩,?_,xQ _,_,_,rfl,rfl,rfl,rfl⟩;exact(have nC:=xU @By.eq_1 (xU @CK.eq_1 hfin);A6.co rfl)
end Wi
end Go.Proofs.YtkljbfejbakooaaGreatDoor
namespace Go.Proofs.YtkljbfejbakooaaGreatDoor
namespace Nd
open Go.Gar
open Wi (AC Bp BE AN Bc)
abbrev W0:Aw:=[0,1,2,3,6,7,8,10,25]
def X5(a i:Int):Int:=if 0<=i/\i<16 then Cp (Cp a+2^i.toNat)else Cp a
theorem Tb(a i:Int):xB 173 [.i .i64 a,.i .i64 i] (.i .i64 (X5 a i)):=by
 have c1:=FL a;have hp:=PD a;refine zF AF Tryz.func173 ?_
 by_cases hi:0<=i/\i<16
 .have hT:X5 a i=Cp (Cp a+2^i.toNat):=if_pos hi;rw[hT];generalize Cp a=p at *;have:i=0\/i=1\/i=2\/i=3\/i=4\/i=5\/i=6\/i=7\/i=8\/i=9\/i=10\/i=11\/i=12\/i=13\/i=14\/i=15:=om
  clear hT hi;rcases this with rfl|rfl|rfl|rfl|rfl|rfl|rfl|rfl|rfl|rfl|rfl|rfl|rfl|rfl|rfl|rfl
  all_goals
   refine wd [0,1,4,10] [] A4 (Ax @c1 @FL) ?_ [(3,1),(4,1)];exact zE
 .have hT:X5 a i=Cp a:=if_neg hi;rw[hT];generalize Cp a=p at*
  by_cases h0:i<0
  .have f1:decide (i<0)=true:=xM h0;refine wd [0,1,4,10] [] (AM f1) (AM @c1) ?_;exact zE
  .have f1:decide (i<0)=false:=xO h0;have f2:decide (i>=16)=true:=xM om;refine wd [0,1,4,10] [] (Ax f1 f2) (AM @c1) ?_;exact zE
theorem sO(n:Int):xB 291 [.i .i64 n] (.b (BW n)):=by
 refine zF AF Tryz.func291 ?_;refine wd [0,2] [] A4 A4 ?_;with_reducible repeat' first|constructor|intro hc
 all_goals(refine⟨_,_,rfl,rfl,?_⟩;simp only[Cy];refine congrArg D.b ?_;unfold BW;grind)
theorem ba(v:AD)(n:Int):xB 174 [v.d,.i .i64 n] (.i .i64 (if n=v.id then -1 else n)):=by
 obtain⟨id,AB,A8,AG,f⟩:=v;refine zF AF Tryz.func174 ?_
 by_cases h:n=id
 .have f1:=AS h;rw[if_pos h];refine wd [0,1,2,4,8] [] (AM f1) A4 ?_;exact zE
 .have f1:=eq_false' h;rw[if_neg h];refine wd [0,1,2,4,8] [] (AM f1) A4 ?_;exact zE
abbrev finD(f:Nat->Int):D:=.agg [.i .i64 (f 0),.i .i64 (f 1),.i .i64 (f 2),.i .i64 (f 3),.i .i64 (f 4),.i .i64 (f 5),.i .i64 (f 6),.i .i64 (f 7),.i .i64 (f 8),.i .i64 (f 9),.i .i64 (f 10),.i .i64 (f 11),.i .i64 (f 12),.i .i64 (f 13),.i .i64 (f 14),.i .i64 (f 15)]
theorem oe{f g:Nat->Int}(h:E3 f=E3 g)(k:Nat)(hk:k<16):f k=g k:=by
 simp only[E3,List.cons.injEq]at h;obtain⟨h0,h1,h2,h3,h4,h5,h6,h7,h8,h9,h10,h11,h12,h13,h14,h15,-⟩:=h;rcases Q1 hk with rfl|rfl|rfl|rfl|rfl|rfl|rfl|rfl|rfl|rfl|rfl|rfl|rfl|rfl|rfl|rfl<;>assumption
theorem Ws(v:AD)(g:Nat->Int)(hb:v.AB.length<=1000)(hl:v.A8.length<=1000):xB 175 [v.d,finD g] (AD.d ⟨v.id,v.AB,v.A8,v.AG,g⟩):=by
 have c1:=Hk v om om;have hE:=fE v.f g;obtain⟨id,AB,A8,AG,f⟩:=v;dsimp only at *;refine zF AF Tryz.func175 ?_
 by_cases h:E3 f=E3 g
 .rw[xM h]at hE;have q:=oe h;refine wd [0,1,2,3,4,5,11] [] (AM hE) (AM @c1) ?_;refine⟨_,_,rfl,rfl,?_⟩;simp[IT,BK,Bd,B0,AD.d,AD.A0,q 0 (by decide),q 1 (by decide),q 2 (by decide),q 3 (by decide),q 4 (by decide),q 5 (by decide),q 6 (by decide),q 7 (by decide),q 8 (by decide),q 9 (by decide),q 10 (by decide),q 11 (by decide),q 12 (by decide),q 13 (by decide),q 14 (by decide),q 15 (by decide)]
 .rw[xO h]at hE;refine wd [0,1,2,3,4,5,11] [] (AM hE) (AM @c1) ?_;exact BL (xU @AD.d.eq_1 @AD.A0.eq_1)
theorem bZ(v:AD)(i:Int)(hb:v.AB.length<=1000)(hl:v.A8.length<=1000):xB 254 [v.d,.i .i64 i] (.tup [.i .i64 (if decide (0<=i)&&(decide (i<16)&&Al v)then X5 v.id i else 0),.i .i64 (if decide (0<=i)&&(decide (i<16)&&Al v)then 0 else 2)]):=by
 have c1:=BV v hb hl;have c2:=Tb v.id i;generalize Al v=b at *;generalize X5 v.id i=z at *;obtain⟨id,AB,A8,AG,f⟩:=v;refine zF AF Tryz.func254 ?_
 by_cases h0:i<0
 .have f1:decide (i<0)=true:=xM h0;rw[xO (show ¬0<=i by omega)];refine wd [0,1,2,4,5,16] [] (AM f1) A4 ?_ [] true;exact zE
 .have f1:decide (i<0)=false:=xO h0;rw[xM (show 0<=i by omega)]
  by_cases h1:i<16
  .have f2:decide (i>=16)=false:=xO om;rw[xM h1]
   cases b with
   |true=>
    refine wd [0,1,2,4,5,16] [] (Ax f1 f2) (Ax @c1 @c2) ?_ [] true;exact zE
   |false=>
    refine wd [0,1,2,4,5,16] [] (Ax f1 f2) (AM @c1) ?_ [] true;exact zE
  .have f2:decide (i>=16)=true:=xM om;rw[xO h1];refine wd [0,1,2,4,5,16] [] (Ax f1 f2) A4 ?_ [] true;exact zE
theorem bc(v:AD)(i n:Int)(hb:v.AB.length<=1000)(hl:v.A8.length<=1000):xB 210 [v.d,.i .i64 i,.i .i64 n] (.tup [(JG v i n).1.d,.i .i64 (JG v i n).2]):=by
 have c1:=bZ v i hb hl;have c2:=sO n;have c3:=ba v n;have c4:=Ws v (Vq v.f i.toNat (if n=v.id then -1 else n)) hb hl;have c5:=Hk v om om;have hT:JG v i n=if(decide (0<=i)&&(decide (i<16)&&Al v))&&BW n then(⟨v.id,v.AB,v.A8,v.AG,Vq v.f i.toNat (if n=v.id then -1 else n)⟩,0)else(v,2):=rfl
 refine zF AF Tryz.func210 ?_
 have hi:(decide (0<=i)&&(decide (i<16)&&Al v))=true->0<=i/\i<16:=by
  intro h;simp only[xI,xK]at h;exact⟨h.1,h.2.1⟩
 generalize(decide (0<=i)&&(decide (i<16)&&Al v))=b at *;generalize BW n=b2 at *;generalize(if n=v.id then -1 else n)=p at *;generalize X5 v.id i=z at *;obtain⟨id,AB,A8,AG,f⟩:=v;dsimp only at*
 cases b with
 |false=>
  rw[hT];simp only[yJ,yC]at c1;clear hT c4;refine wd W0 [] A4 (Ax @c1 @c5) ?_ [] true;exact BL (xU @AD.d.eq_1 @AD.A0.eq_1)
 |true=>
 simp only[yG]at c1
 cases b2 with
 |false=>
  rw[hT];clear hT c4;refine wd W0 [] A4 (Ci @c1 @c2 @c5) ?_ [] true;exact BL (xU @AD.d.eq_1 @AD.A0.eq_1)
 |true=>
  rw[hT];have h:=hi rfl;have:i=0\/i=1\/i=2\/i=3\/i=4\/i=5\/i=6\/i=7\/i=8\/i=9\/i=10\/i=11\/i=12\/i=13\/i=14\/i=15:=om
  clear hT hi h c5;rcases this with rfl|rfl|rfl|rfl|rfl|rfl|rfl|rfl|rfl|rfl|rfl|rfl|rfl|rfl|rfl|rfl
  all_goals
   refine wd W0 [] A4 (KQ @c1 @c2 @c3 @c4) ?_ [] true;exact BL (xU @AD.d.eq_1 @AD.A0.eq_1)
abbrev F8:Aw:=[0,1,2,3,6,7,8,18,24,25,47]
abbrev Qe:Aw:=[0,1,4,5,6,7,8,14]
def J0(x:Int)(o:Ad)(p:Int):Bool:=decide (o.length>=3)||(!BW p||decide (B1 x p<=B1 x (o.getD (o.length-1) 0)))
def Nk(x:Int):Ad->Ad->Ad
 |o,[]=>o
 |o,p::r=>if J0 x o p then o else Nk x (o++[p]) r
theorem fA(o:Ad)(p:Int):(o++[p]).getD ((o++[p]).length-1) 0=p:=by
 rw[y9,List.length_singleton,Nat.add_sub_cancel,xu,yE (xH _),Nat.sub_self];rfl
theorem lL(x:Int):∀(l o:Ad),o.length<=3->Nk x o l=o++HQ.makR x (o.getD (o.length-1) 0) l (3-o.length)
 |[],o,_=>by unfold Nk HQ.makR;simp
 |p::r,o,h=>by
  unfold Nk J0;rcases yO o.length 3 with h3|h3
  .obtain⟨k,hk⟩:∃k,3-o.length=k+1:=⟨2-o.length,om⟩;rw[hk,xO om,zJ];unfold HQ.makR
   cases hp:BW p with
   |false=>simp
   |true=>
    by_cases hf:B1 x p>B1 x (o.getD (o.length-1) 0)
    .have ih:=lL x r (o++[p]) (by simp;omega);rw[fA]at ih;rw[xO (show ¬B1 x p<=B1 x (o.getD (o.length-1) 0)by omega),xM hf];simp only[q05,Bool.or_self,yJ,yC,zh,yG];rw[ih,yB];have e:3-(o++[p]).length=k:=by rw[y9,List.length_singleton];omega
     rw[e];rfl
    .rw[xM (show B1 x p<=B1 x (o.getD (o.length-1) 0)by omega),xO hf];simp
  .have hk:3-o.length=0:=om
   rw[hk,xM h3];unfold HQ.makR;simp
theorem Xc(x:Int):∀(l o:Ad),o.length<=3->(Nk x o l).length<=3
 |[],o,h=>h
 |p::r,o,h=>by
  unfold Nk;split
  .exact h
  .rename_i hs;refine Xc x r _ ?_;unfold J0 at hs;simp only[yL,xK,not_or]at hs;rw[y9,List.length_singleton];omega
theorem lM(x s:Int)(l:Ad):HQ x s l=if BW s&&decide (s≠Cp x)then Nk x [s] l else[]:=by
 unfold HQ;split
 .rw[lL x l [s] xA];rfl
 .rfl
theorem lN(x s:Int)(l:Ad):(HQ x s l).length<=3:=by
 rw[lM];split
 .exact Xc x l [s] xA
 .simp
theorem u4{o:Ad}{k:Nat}(h:k<o.length):(slc (.is o)).getD (k*1) .np= .i .i64 (o.getD k 0):=by
 rw[Nat.mul_one];simp only[slc,xu,yU,xP h];rfl
abbrev uX(x:Int)(o l:Ad)(r:Lp):xS:=[.c [.wo (Cp x)],.c [.sl 2 o.length 1],.a (.is o),.c [.xG l],.lp r]
theorem nv(x s:Int)(l:Ad)(hn:l.length<=1048576):xB 205 [.i .i64 x,.i .i64 s,.is l] (.is (HQ x s l)):=by
 have c1:=FL x;have c2:=Ot s;have c3:=Rr l;have hT:=lM x s l;refine zF AF Tryz.func205 ?_
 cases hs:BW s with
 |false=>
  rw[hs]at c2 hT;rw[hT];refine wd F8 [] A4 (Ax @c1 @c2) ?_ [] true;exact zE
 |true=>
 rw[hs]at c2 hT
 by_cases he:s=Cp x
 .have f1:=AS he;rw[hT,if_neg (by simp[he])];refine wd F8 [] (AM f1) (Ax @c1 @c2) ?_ [] true;exact zE
 have f1:=eq_false' he;rw[if_pos (by simp[he])]at hT;rw[hT];clear hT;have ow:Lv [22]:=trivial;have d1:=Ds.mk [] (c3);refine wd F8 [] (AM f1) (Ax @c1 @c2) ?_ [] true;clear d1 ow;refine zG (K:=fun r _ H'=>H'=uX x (Nk x [s] l) l r\/H'=uX x (Nk x [s] l) l (r.left (.goto 0))) ?_ ?_
 .intro r hr;have hk:=hr.ok (k:=4) rfl
  have hY:∀(o:Ad)(p:Int),o≠[]->o.length<=3->YT Tryz.prog 4 [.wo p] (uX x o l r) fun v K=>v= .wu (!(J0 x o p))/\K=if J0 x o p then uX x o l (r.left (.goto 0))else uX x (o++[p]) l r:=by
   intro o p hne ho;have hpos:0<o.length:=List.length_pos_iff.2 hne;have hsl:=u4 (o:=o) (k:=o.length-1) om;have c4:=Ot p;have c5:=Iu (Cp x) p;have c6:=Iu (Cp x) (o.getD (o.length-1) 0);rw[bg]at c5 c6;rw[<-hsl]at c6;clear hsl;have e1:(o.length:Int)-1=((o.length-1:Nat):Int):=om
   have hS:J0 x o p=(decide ((o.length:Int)>=3)||(!BW p||decide (B1 x p<=B1 x (o.getD (o.length-1) 0)))):=by
    unfold J0
    by_cases h:o.length>=3
    .rw[xM h,xM (show(o.length:Int)>=3 by omega)]
    .rw[xO h,xO (show ¬(o.length:Int)>=3 by omega)]
   rw[hS];clear hS;generalize B1 x p=fp at *;generalize B1 x (o.getD (o.length-1) 0)=fo at *;unfold uX;generalize Cp x=px at*
   by_cases h3:(o.length:Int)>=3
   .have g1:decide ((o.length:Int)>=3)=true:=xM h3;rw[g1,Bool.true_or];simp only[q05,yG];refine BD hr rfl rfl rfl ?_;refine wd F8 [] A4 A4 ?_ [] true;refine zR ?_;refine wd F8 [] (AM g1) A4 ?_ [] true;exact⟨_,A6.refl _,xH _,rfl,rfl,rfl⟩
   have g1:decide ((o.length:Int)>=3)=false:=xO h3;rw[g1,zJ]
   cases hp:BW p with
   |false=>
    rw[hp]at c4;simp only[Bool.not_false,Bool.true_or,q05,yG];refine BD hr rfl rfl rfl ?_;refine wd F8 [] A4 A4 ?_ [] true;refine zR ?_;refine wd F8 [] (AM g1) (AM @c4) ?_ [] true;exact⟨_,A6.refl _,xH _,rfl,rfl,rfl⟩
   |true=>
    rw[hp]at c4
    by_cases hf:fp<=fo
    .have g2:decide (fp<=fo)=true:=xM hf;rw[g2];simp only[q05,Bool.or_true,yG];refine BD hr rfl rfl rfl ?_;refine wd F8 [] A4 A4 ?_ [] true;refine zR ?_;refine wd F8 [] (Ci g1 e1 g2) (Ci @c4 @c5 @c6) ?_ [] true;exact⟨_,A6.refl _,xH _,rfl,rfl,rfl⟩
    .have g2:decide (fp<=fo)=false:=xO hf;rw[g2];simp only[q05,Bool.or_self,Bool.not_false,yJ,yC];refine BD hr rfl rfl rfl ?_;refine wd F8 [] A4 A4 ?_ [] true;refine zR ?_;refine wd F8 [] (Ci g1 e1 g2) (Ci @c4 @c5 @c6) ?_ [] true;refine⟨_,A6.refl _,xH _,rfl,rfl,?_⟩;simp only[y9,xw,yI,List.set_cons_succ,List.set_cons_zero]
  have hdone:∀(o:Ad)(p:Int)(q:Ad),Nk x o (p::q)=if J0 x o p then o else Nk x (o++[p]) q:=fun _ _ _=>rfl
  refine zT AF Tryz.func296 ?_;generalize hM:Nk x [s] l=M at *;refine wd Qe [] A4 A4 ?_;refine Ct (fun j:Nat=>j<=l.length/\(j<=2)/\Nk x (s::l.take j) (l.drop j)=M) (fun j:Nat=>[(7,.wo j)]) (fun j=>[(1,.c [.sl 2 (s::l.take j).length 1]),(2,.a (.is (s::l.take j)))]) (fun j=>l.length-j) 0 ⟨xQ _,xQ _,hM⟩ (fun _=>rfl) (fun _=>rfl) ?_ ?_
  .exact A6.ck rfl
  rintro j ⟨hj,hj2,hpre⟩;have htl:(l.take j).length=j:=by rw[yM];omega
  by_cases hjl:j<l.length
  .obtain⟨p,hq⟩:=BB hjl;have gq:=DX hq
   have hd:l.drop j=p::l.drop (j+1):=by
    rw[zS hjl];rw[xP hjl]at hq;cases hq;rfl
   have hn:s::l.take j++[p]=s::l.take (j+1):=by rw[Au hq];rfl
   rw[hd,hdone]at hpre;have hy:=hY (s::l.take j) p sm (by simp[htl];omega)
   cases hst:J0 x (s::l.take j) p with
   |true=>
    rw[hst]at hy hpre;simp only[q05,yG]at hy hpre;subst hpre;have q1:=@hy;refine wd Qe [] (AM gq) A4 ?_;clear q1;with_reducible repeat' first|constructor|intro hc
    exact⟨_,A6.refl _,xH _,_,_,rfl,rfl,.inr rfl⟩
   |false=>
    rw[hst]at hy hpre;simp only[Bool.not_false,yJ,yC]at hy hpre
    have hj3:j+1<=2:=by
     unfold J0 at hst;simp only[q08,zK]at hst;have:=hst.1;rw[xw,htl]at this;omega
    rw[hn]at hy hpre;have q1:=@hy;refine wd Qe [] (AM gq) A4 ?_;clear q1;with_reducible repeat' first|constructor|intro hc
    refine⟨j+1,⟨hjl,hj3,hpre⟩,om,xH _,?_⟩;exact A6.ck rfl
  .have e:j=l.length:=om
   subst e;rw[yD,List.drop_length]at hpre;rw[yD];have hpre:s::l=M:=hpre;subst hpre;refine wd Qe [] A4 A4 ?_;with_reducible repeat' first|constructor|intro hc
   exact⟨_,A6.refl _,xH _,_,_,rfl,rfl,.inl rfl⟩
 .generalize Nk x [s] l=M at *;rintro r hr v H' (rfl|rfl)
  .refine .inl ⟨rfl,?_⟩;refine wd F8 [] A4 A4 ?_ [] true;exact zE
  .refine .inr ⟨.goto 0,rfl,?_⟩;refine wd F8 [] A4 A4 ?_ [] true;exact zE
end Nd
end Go.Proofs.YtkljbfejbakooaaGreatDoor
namespace Go.Proofs.YtkljbfejbakooaaGreatDoor
open Go.Gar
abbrev ON:Aw:=[0,2,3,4,10,12]
def H8(n k:Nat):AJ:=(List.range k).map fun j=>qd n (k-1-j)
theorem JQ(n k:Nat):H8 n (k+1)=qd n k::H8 n k:=by
 simp only[H8,List.range_succ_eq_map,zA,List.map_map];refine congr (congrArg _ sm) ?_;apply List.map_congr_left;intro j _;simp only[Function.comp]
 congr 1;omega
theorem Og(a:Nat)(h:a<4611686018427387904):GM .i64 (a:Int)=true:=by
 simp only[GM,xI,xK];constructor<;>omega
theorem size_pos{n k:Nat}:0<n/256^k↔k<size n:=by
 have hp:0<256^k:=Nat.pow_pos (by decide);rw[Nat.div_pos_iff];have e:256^k=2^(8*k):=by rw[Nat.pow_mul]
 obtain⟨h1,h2⟩:=(JN (n:=n) (k:=E7 n)).1 rfl;unfold size;constructor
 .rintro⟨_,h⟩;rcases yO (8*k) (E7 n)with h3|h3
  .omega
  .have:2^E7 n<=2^(8*k):=Nat.pow_le_pow_right (by decide) h3;omega
 .intro h;refine⟨hp,?_⟩;rcases h2 with h2|h2
  .omega
  .have:2^(8*k)<=2^(E7 n-1):=Nat.pow_le_pow_right (by decide) om;omega
theorem dB(n:Int):xB 298 [.i .i64 n] (.tup [.by (Nq n).1,.i .i64 (Nq n).2]):=by
 by_cases hf:fits n=true
 .obtain⟨m,rfl,hm⟩:=JJ hf;have hs:=size_le m om;refine zF AF Tryz.func298 ?_;refine wd ON [] A4 A4 ?_;with_reducible repeat' first|constructor|intro hc
  refine BC (A6.e0 4 (.by []) rfl rfl rfl trivial) sm ?_;refine BS (fun k=>k<=size m) (fun k:Nat=>⟨[(0,.wo (m/256^k:Nat)),(2,.e0),(3,.wo 0),(4,.d (.by (H8 m k)))],[],27⟩) (fun k=>size m-k) 0 (xQ _) ?_ sm ?_
  .exact A6.ck rfl
  intro k hk;have hsp:=size_pos (n:=m) (k:=k);have hle:m/256^k<=m:=Nat.div_le_self _ _;have hll:(H8 m k).length=k:=by simp[H8]
  by_cases hkm:k<size m
  .have hp:=hsp.2 hkm
   have e1:((m/256^k:Nat):Int).tmod 256=((m/256^k%256:Nat):Int):=by
    rw[Int.tmod_eq_emod_of_nonneg om];rfl
   have e2:((m/256^k%256:Nat):Int)%256=((m/256^k%256:Nat):Int):=om
   have e3:((m/256^k:Nat):Int).tdiv 256=((m/256^(k+1):Nat):Int):=by
    rw[Int.tdiv_eq_ediv_of_nonneg om,Nat.pow_succ,<-Nat.div_div_eq_div_mul];rfl
   have e4:(UInt8.ofNat (m/256^k%256)::H8 m k)=H8 m (k+1):=(JQ m k).symm;have hle':m/256^(k+1)<=m:=Nat.div_le_self _ _;have ow:Lv [16]:=trivial;refine wd ON [] (KQ e1 e2 e3 e4) A4 ?_;clear ow;with_reducible repeat' first|constructor|intro hc
   rotate_left
   .rw[e3];exact Ki rfl (Og _ om)
   refine⟨k+1,hkm,om,xQ _,?_⟩;refine A6.trans' (A6.kE 4 0 (x:=.by (H8 m (k+1))) (congrArg (fun z=>some (AI.a (D.by z))) e4) rfl rfl) ?_ (xQ _);exact A6.ck rfl
  .have e:k=size m:=om
   subst e;have h0:m/256^size m=0:=Nat.eq_zero_of_not_pos (fun h=>absurd (hsp.1 h) (Nat.lt_irrefl _));have e5:((size m:Nat):Int)%256=size m:=om
   have e6:H8 m (size m)=IU m:=rfl;have e7:(IU m).length=size m:=by simp[IU]
   have ow:Lv [24]:=trivial;refine wd ON [] (KQ h0 e5 e6 e7) A4 ?_;clear ow;exact BL (xU @Nq.eq_1 (xU hf (xU @CR.eq_1 (xU e6 e7))))
 .have hf':fits n=false:=by simpa using hf
  have hc':n<0\/n>1099511627776:=by simp[fits]at hf';omega
  refine zF AF Tryz.func298 ?_;refine wd ON [] A4 A4 ?_;with_reducible repeat' first|constructor|intro hc
  all_goals first
   |(refine⟨_,_,rfl,rfl,?_⟩;simp[IT,BK,Bd,B0,Nq,hf'];done)
   |(exfalso;omega)
end Go.Proofs.YtkljbfejbakooaaGreatDoor
namespace Go.Proofs.YtkljbfejbakooaaGreatDoor
open Go.Gar
theorem gj(l:AJ)(a:Nat):l.foldl (fun a d=>a*256+d.toNat) a=a*256^l.length+FR l:=by
 induction l generalizing a with
 |nil=>simp[FR]
 |cons d r ih=>
  have e:FR (d::r)=d.toNat*256^r.length+FR r:=by
   show r.foldl _ (0*256+d.toNat)=_;rw[ih];simp
  simp only[zH,xw];rw[ih,e,Nat.pow_succ,q03,Nat.mul_assoc,Nat.mul_comm 256,Nat.add_assoc]
theorem PU(d:UInt8)(l:AJ):FR (d::l)=d.toNat*256^l.length+FR l:=by
 show l.foldl _ (0*256+d.toNat)=_;rw[gj];simp
theorem NI(n i:Nat):(qd n i).toNat=n/256^i%256:=by
 simp[qd]
theorem Xb(n k:Nat):(H8 n k).length=k:=by simp[H8]
theorem gk(n k:Nat):FR (H8 n k)=n%256^k:=by
 induction k with
 |zero=>simp[H8,FR,Nat.mod_one]
 |succ k ih=>
  rw[JQ,PU,ih,Xb,NI,Nat.pow_succ,Nat.mod_mul];rw[Nat.mul_comm,Nat.add_comm]
theorem dE(n:Nat):n<256^size n:=by
 have h:=(size_pos (n:=n) (k:=size n));have h0:n/256^size n=0:=Nat.eq_zero_of_not_pos (fun h1=>absurd (h.1 h1) (Nat.lt_irrefl _));have hp:0<256^size n:=Nat.pow_pos (by decide);rcases(Nat.div_eq_zero_iff).1 h0 with h1|h1
 .omega
 .exact h1
theorem Ug(n:Nat):IU n=H8 n (size n):=rfl
theorem gh(n:Nat):FR (IU n)=n:=by
 rw[Ug,gk,Nat.mod_eq_of_lt (dE n)]
theorem jX(n:Nat):(IU n).length=size n:=Xb _ _
theorem eG(n:Nat)(h:0<size n):(IU n).getD 0 0≠0:=by
 obtain⟨k,hk⟩:∃k,size n=k+1:=⟨size n-1,om⟩;rw[Ug,hk,JQ];intro e;have e':=congrArg UInt8.toNat e;simp only[q0B,NI,UInt8.toNat_zero]at e';have h1:=(size_pos (n:=n) (k:=k)).2 om;have h2:=dE n;rw[hk,Nat.pow_succ]at h2;have h3:n/256^k<256:=(Nat.div_lt_iff_lt_mul (Nat.pow_pos (by decide))).2 (by rwa [Nat.mul_comm]);omega
theorem UF(n:Nat)(r:AJ)(h:n<=1099511627776):Bl (CR n++r)=(n,r,0):=by
 have hs:=size_le n om;have hl:=jX n;have hm:(UInt8.ofNat (size n)).toNat=size n:=by rw[q06];omega
 have e1:(IU n++r).take (size n)=IU n:=by rw[<-hl];simp
 have e2:(IU n++r).drop (size n)=r:=by rw[<-hl];simp
 simp only[CR,xX,Bl,hm];rw[if_neg om,if_neg (by simp;omega),e1,e2,gh,if_neg];rintro(⟨h1,h2⟩|h1)
 .refine eG n h1 (Eq.trans ?_ h2);rw[xu,xu,y8 om]
 .omega
theorem lH(n k:Nat):H8 (n%256^k) k=H8 n k:=by
 unfold H8;apply List.map_congr_left;intro j hj;have hj':j<k:=by simpa using hj
 have:(qd (n%256^k) (k-1-j)).toNat=(qd n (k-1-j)).toNat:=by
  rw[NI,NI];obtain⟨i,hi⟩:∃i,k=(k-1-j)+1+i:=⟨j,om⟩;generalize k-1-j=q at *;subst hi;rw[show q+1+i=q+(1+i)by omega,Nat.pow_add,Nat.mod_mul_right_div_self,show 1+i=i+1 by omega,Nat.pow_succ,Nat.mul_comm (256^i) 256,Nat.mod_mul_right_mod]
 exact q0N.1 this
theorem fJ(l:AJ):H8 (FR l) l.length=l:=by
 induction l with
 |nil=>rfl
 |cons d r ih=>
  have hp:0<256^r.length:=Nat.pow_pos (by decide);have hv:=Qc r;have hd:=d.toNat_lt;rw[xw,JQ,<-lH,PU,Nat.add_comm,Nat.add_mul_mod_self_right,Nat.mod_eq_of_lt hv,ih]
  congr 1
  apply q0N.1;rw[NI,Nat.add_comm,Nat.mul_comm,Nat.mul_add_div hp,Nat.div_eq_of_lt hv];omega
theorem size_eq{n k:Nat}(h1:n<256^k)(h2:k=0\/256^(k-1)<=n):size n=k:=by
 have a:=(size_pos (n:=n) (k:=k));have b:=(size_pos (n:=n) (k:=k-1));have c:n/256^k=0:=Nat.div_eq_of_lt h1;rcases h2 with h2|h2
 .subst h2;omega
 .have:0<n/256^(k-1):=Nat.div_pos h2 (Nat.pow_pos (by decide));have:=b.1 this;omega
theorem Tw{b r:AJ}{n:Nat}(h:Bl b=(n,r,0)):b=CR n++r/\n<=1099511627776:=by
 rcases b with _|⟨m,l⟩
 .simp[Bl]at h
 .simp only[Bl]at h;split at h
  .simp at h
  .rename_i h6;split at h
   .simp at h
   .rename_i hr;split at h
    .simp at h
    .rename_i hP;simp only[xZ,and_true]at h;obtain⟨rfl,rfl⟩:=h;have hlen:(l.take m.toNat).length=m.toNat:=by simp;omega
     have hsz:size (FR (l.take m.toNat))=m.toNat:=by
      refine size_eq (by have:=Qc (l.take m.toNat);rwa [hlen]at this) ?_;rcases zu m.toNat with h0|h0
      .exact .inl h0
      .right;rcases hl:l with _|⟨d,q⟩
       .rw[hl]at hr;simp at hr;omega
       .obtain⟨k,hk⟩:∃k,m.toNat=k+1:=⟨m.toNat-1,om⟩;rw[hl,hk,List.take_succ_cons]at hlen;rw[hk,List.take_succ_cons,PU];simp only[xw,Nat.add_right_cancel_iff]at hlen;rw[hlen,Nat.add_sub_cancel];have hd:d.toNat≠0:=fun e=>hP (.inl ⟨h0,by rw[hl];exact u8z e⟩)
        have:1*256^k<=d.toNat*256^k:=Nat.mul_le_mul_right _ om;omega
     refine⟨?_,om⟩
     have e:IU (FR (l.take m.toNat))=l.take m.toNat:=by
      rw[Ug,hsz];have:=fJ (l.take m.toNat);rwa [hlen]at this
     simp only[CR,e,hsz,xX,yg]
     congr 1
     apply q0N.1;rw[q06];have:=m.toNat_lt;omega
theorem IM:∀(k:Nat)(r:AJ)(acc:Ad),(Df k r acc).1.length<=acc.length+k
 |0,r,acc=>by simp[Df]
 |k+1,r,acc=>by
  simp only[Df];split
  .have:=IM k (Bl r).2.1 (acc++[((Bl r).1:Int)]);simp only[y9,xw,yI]at this;omega
  .simp
theorem TF(b:AJ):(BZ b).1.length<=255:=by
 rcases b with _|⟨m,r⟩
 .simp[BZ]
 .have h1:=IM m.toNat r [];have h2:=m.toNat_lt;simp only[BZ];simp only[yI]at h1;omega
theorem PR(s r:AJ)(h:s.length<=255):BI (UInt8.ofNat s.length::s++r)=(s,r,0):=by
 have hm:(UInt8.ofNat s.length).toNat=s.length:=by rw[q06];omega
 simp only[xX,BI,hm];rw[if_neg sm];simp
theorem MS(r:AJ):∀(l:Ad)(acc:Ad),l.all fits=true->Df l.length (Ac l++r) acc=(acc++l,r,0)
 |[],acc,_=>by simp[Df,Ac]
 |n::l,acc,h=>by
  simp only[yj,xI]at h;obtain⟨m,rfl,hm⟩:=JJ h.1;simp only[xw,Df,Ac,Int.toNat_natCast,yB,UF m _ hm,yG];rw[MS r l _ h.2];simp
theorem Tq(l:Ad)(r:AJ)(h:l.length<=255)(hf:l.all fits=true):BZ (UInt8.ofNat l.length::Ac l++r)=(l,r,0):=by
 have hm:(UInt8.ofNat l.length).toNat=l.length:=by rw[q06];omega
 simp only[xX,BZ,hm];rw[MS r l [] hf];simp
theorem YK(b:AJ):(∃n r,Bl b=(n,r,0)/\b=CR n++r/\n<=1099511627776)\/Bl b=(0,[],11)\/Bl b=(0,[],12):=by
 rcases hb:Bl b with⟨n,r,e⟩
 by_cases he:e=0
 .subst he;obtain⟨h1,h2⟩:=Tw hb;exact .inl ⟨n,r,rfl,h1,h2⟩
 .right;rcases b with _|⟨m,l⟩
  .simp[Bl]at hb;simp[<-hb.1,<-hb.2.1,<-hb.2.2]
  .simp only[Bl]at hb;split at hb
   .simp at hb;simp[<-hb.1,<-hb.2.1,<-hb.2.2]
   .split at hb
    .simp at hb;simp[<-hb.1,<-hb.2.1,<-hb.2.2]
    .split at hb
     .simp at hb;simp[<-hb.1,<-hb.2.1,<-hb.2.2]
     .simp at hb;exact absurd hb.2.2.symm he
theorem KL(b:AJ):(∃s r,BI b=(s,r,0)/\b=UInt8.ofNat s.length::s++r/\s.length<=255)\/BI b=([],[],11):=by
 rcases b with _|⟨m,l⟩
 .exact .inr rfl
 .have hm:=m.toNat_lt;simp only[BI]
  by_cases h:l.length<m.toNat
  .rw[if_pos h];exact .inr rfl
  .rw[if_neg h];have hl:(l.take m.toNat).length=m.toNat:=by simp;omega
   refine .inl ⟨_,_,rfl,?_,om⟩;rw[hl,xX,yg]
   congr 1
   apply q0N.1;rw[q06];omega
theorem Pr:∀(k:Nat)(b:AJ)(acc:Ad),(∃l r,Df k b acc=(acc++l,r,0)/\b=Ac l++r/\l.length=k/\l.all fits=true)\/∃e,Df k b acc=([],[],e)/\e≠0
 |0,b,acc=> .inl ⟨[],b,by simp[Df],by simp[Ac],rfl,rfl⟩
 |k+1,b,acc=>by
  simp only[Df];rcases YK b with⟨n,r,h,hb,hn⟩|h|h
  .rw[h];simp only[yG];rcases Pr k r (acc++[(n:Int)])with⟨l,r',h1,h2,h3,h4⟩|⟨e,h1,h2⟩
   .refine .inl ⟨(n:Int)::l,r',by rw[h1];simp,?_,by simp[h3],?_⟩
    .rw[hb,h2];simp[Ac]
    .have hf:fits (n:Int)=true:=by simp[fits];omega
     simp only[yj,hf,h4,zh]
   .exact .inr ⟨e,h1,h2⟩
  .rw[h];exact .inr ⟨11,sm,by decide⟩
  .rw[h];exact .inr ⟨12,sm,by decide⟩
theorem Q5(b:AJ):(∃l r,BZ b=(l,r,0)/\b=UInt8.ofNat l.length::Ac l++r/\l.length<=255/\l.all fits=true)\/∃e,BZ b=([],[],e)/\e≠0:=by
 rcases b with _|⟨m,q⟩
 .exact .inr ⟨11,rfl,by decide⟩
 .have hm:=m.toNat_lt;simp only[BZ];rcases Pr m.toNat q []with⟨l,r',h1,h2,h3,h4⟩|⟨e,h1,h2⟩
  .refine .inl ⟨l,r',by rw[h1];simp,?_,om,h4⟩;rw[xX,<-h2,h3]
   congr 1
   apply q0N.1;rw[q06];omega
  .exact .inr ⟨e,h1,h2⟩
end Go.Proofs.YtkljbfejbakooaaGreatDoor
