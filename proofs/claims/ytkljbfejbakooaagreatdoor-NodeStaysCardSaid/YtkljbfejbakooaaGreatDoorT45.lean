/- Part 45 of a proof. Conditions: those that its theorems state. -/
import Derived.Test.YtkljbfejbakooaaGreatDoorT34
import Derived.Test.YtkljbfejbakooaaGreatDoorT42
set_option linter.unusedSimpArgs false
set_option linter.unusedVariables false
set_option maxHeartbeats 40000000
set_option maxRecDepth 4000
namespace Go.Proofs.YtkljbfejbakooaaGreatDoor
namespace Nd
open Go.Gar
open Wi (AC Bp BE AN Bc mC C6 BP)
theorem pS(m:AC)(hm:m.A8.length<9223372036854775807):xB 21 [m.d] (.by (C6 m).1):=by
 have c1:=Wi.Xz m hm;refine zF AF Tryz.func21 ?_;unfold Wi.AC.d Wi.AC.A0 at *;refine wd [0,1,2,3] [] A4 (AM @c1) ?_;exact zE
theorem U5{m:AC}(h:m.right=true):(C6 m).1.length<70368744177664:=by
 have:=Wi.L9 h;rw[Wi.Vb h,Wi.Hp om];simp only[y9];have h1:(Wi.hdr (Wi.By m).length).length<=100:=by unfold Wi.hdr;simp
 have h2:∀n,(Wi.be4 n).length<=100:=fun n=>by unfold Wi.be4;simp
 have:=h2 (Wi.KW (Wi.hdr (Wi.By m).length++Wi.By m));omega
theorem QZ(l:List Dp)(id:Int)(h:∀g∈l,MR id g)(hn:l.length<=1048576):xB 14 [GZ l,.i .i64 id] (.b true):=by
 refine zF AF Tryz.func14 ?_;refine wd [0,1,4,5,6,7,11,53] [] A4 A4 ?_;refine DD (fun k=>k<=l.length) (fun k:Nat=>[(5,.wo k)]) (fun k=>l.length-k) 0 (xQ _) (fun _=>rfl) ?_ ?_
 .exact A6.ck rfl
 intro k hk
 by_cases hkl:k<l.length
 .have f1:decide ((k:Int)<(l.length:Int))=true:=xM om;obtain⟨x,hx⟩:=BB hkl;obtain⟨m,hr,hs,e⟩:=h x (yH hx);have c1:=Wi.U9 (C6 m).1 (U5 hr);rw[UG hr]at c1;have hne:=(Sc hr).2.2.2.1;subst e;have f2:=AS hs;have f3:(m.dst==m.dst)=true:=AS rfl;have f4:=eq_false' (show ¬m.dst=id from fun q=>hne (by rw[hs,q]));generalize(C6 m).1=b at *;unfold Wi.AC.d Wi.AC.A0 at c1;have ix1:=hx;refine wd [0,1,4,5,6,7,11,53] [] (KQ f1 f2 f3 f4) (AM @c1) ?_;clear ix1;with_reducible repeat' first|constructor|intro hc
  refine⟨k+1,hkl,om,xH _,?_⟩;exact A6.ck rfl
 .have f1:decide ((k:Int)<(l.length:Int))=false:=xO om;refine wd [0,1,4,5,6,7,11,53] [] (AM f1) A4 ?_;exact zE
theorem Ox(x:Int)(l AB:Ad)(hx:i64 x)(hl:∀y∈l,i64 y)(hb:∀y∈AB,i64 y)(hn:l.length<=1000)(hm:AB.length<=1000):xB 25 [.i .i64 x,.is l,.is AB] (.b (Fw x l AB)):=by
 have c1:=iN x l AB hx hl hb hn hm;refine zF AF Tryz.func25 ?_;refine wd [0,1,2,6] [] A4 (AM @c1) ?_;exact zE
def RQ(n:AA):Bool:=!(Fw n.A7.id n.A7.A8 n.A7.AB)&&((decide (n.A5=0)||decide (n.A5=3))|| !(Fw n.A7.id [n.B8] n.A7.AB))
theorem Md:∀(l:Ad)(f:Int),bT f l=true->∀y∈l,BW y=true
 |[],_,_,y,hy=>by cases hy
 |p::r,f,h,y,hy=>by
  simp only[bT,xI]at h;rcases yP.1 hy with rfl|hy
  .exact h.1.1
  .exact Md r p h.2 y hy
theorem R1{n:AA}(h:NB n):∀y∈n.A7.AB,i64 y:=by
 have hb:=(Cw h.rv).2.1;unfold Cl at hb;rw[xI]at hb;exact fun y hy=>Ri (Md _ _ hb.2 y hy)
theorem qD{n:AA}(h:NB n):i64 n.B8:=by
 have hs:=(Aq.1 h.r).2.2.2.2.2.1;unfold CZ at hs;unfold i64;split at hs
 .have:=of_decide_eq_true hs;omega
 .rw[xI]at hs;have:=Wi.FD hs.2;omega
theorem Ru(n:AA)(h:NB n):xB 23 [n.d] (.b (RQ n)):=by
 have hok:=h.FV;have c1:=Ox n.A7.id n.A7.A8 n.A7.AB hok.id hok.li (R1 h) hok.vl hok.vb;have c2:=Ox n.A7.id [n.B8] n.A7.AB hok.id (fun y hy=>by rw[zV]at hy;subst hy;exact qD h) (R1 h) sm hok.vb;have hF:RQ n=(!(Fw n.A7.id n.A7.A8 n.A7.AB)&&((decide (n.A5=0)||decide (n.A5=3))|| !(Fw n.A7.id [n.B8] n.A7.AB))):=rfl;rw[hF];clear hF;generalize Fw n.A7.id n.A7.A8 n.A7.AB=s1 at *;generalize Fw n.A7.id [n.B8] n.A7.AB=s2 at *;refine zF AF Tryz.func23 ?_;unfold AA.d AA.A0 AD.A0 Calls.A0 An.A0
 cases s1 with
 |true=>
  refine wd [0,1,2,12] [] A4 (AM @c1) ?_;exact zE
 |false=>
 by_cases h0:n.A5=0
 .have f0:=AS h0;rw[xM h0];refine wd [0,1,2,12] [] (AM f0) (AM @c1) ?_;exact zE
 have f0:=eq_false' h0;rw[xO h0]
 by_cases h3:n.A5=3
 .have f3:=AS h3;rw[xM h3];refine wd [0,1,2,12] [] (Ax f0 f3) (AM @c1) ?_;exact zE
 .have f3:=eq_false' h3;rw[xO h3];refine wd [0,1,2,12] [] (Ax f0 f3) (Ax @c1 @c2) ?_;exact zE
end Nd
end Go.Proofs.YtkljbfejbakooaaGreatDoor
