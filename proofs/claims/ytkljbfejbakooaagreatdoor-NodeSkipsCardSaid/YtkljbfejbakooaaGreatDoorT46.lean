/- Part 46 of a proof. Conditions: those that its theorems state. -/
import Derived.Test.YtkljbfejbakooaaGreatDoorT37
import Derived.Test.YtkljbfejbakooaaGreatDoorT41
import Derived.Test.YtkljbfejbakooaaGreatDoorT44
import Derived.Test.YtkljbfejbakooaaGreatDoorT45
set_option linter.unusedSimpArgs false
set_option linter.unusedVariables false
set_option maxHeartbeats 40000000
set_option maxRecDepth 4000
namespace Go.Proofs.YtkljbfejbakooaaGreatDoor
namespace Nd
open Go.Gar
open Wi (AC Bp BE AN Bc mC C6 BP)
set_option maxRecDepth 100000
abbrev FZ:Aw:=[0,1,2,3,4,5,7,25,34,55]
theorem Of{n:AA}(h:NB n):RQ n=true↔Fine n:=by
 have hs:=(Aq.1 h.r).2.2.2.2.2.1;have hp:=h.ph;have e:pc n=Fw n.A7.id n.A7.A8 n.A7.AB:=rfl;unfold RQ;constructor
 .intro k;simp only[xI,zf,yL,xK]at k;exact⟨by rw[e];exact k.1,fun q=>k.2.resolve_left om⟩
 .intro k;have k1:=k.l;rw[e]at k1;simp only[xI,zf,yL,xK];refine⟨k1,?_⟩
  by_cases h0:n.A5=0
  .exact .inl (.inl h0)
  by_cases h3:n.A5=3
  .exact .inl (.inr h3)
  refine .inr (k.o ?_);unfold CZ at hs;rw[if_neg h0,xI,xK]at hs;omega
theorem VR(n:AA)(m:AC)(hw:TG n)(hm:m.A8.length<=9223372036854775807)(hms:i64 m.As)(hml:∀y∈m.A8,i64 y):xB 6 [n.d,m.d] (.b true):=by
 have cw:=YR;obtain⟨g,c1,hG⟩:=U7 n
 cases g with
 |true=>
  clear hG;refine zF AF Tryz.func6 ?_;unfold AA.d AA.A0 AD.A0 Calls.A0 An.A0 Wi.AC.d Wi.AC.A0 at *;refine wd FZ [] A4 (Ax @c1 @cw) ?_;exact zE
 |false=>
 have hg:=hG rfl;clear hG;have c2:=PL n (qi hg hw);have c3:=Wi.U8 m hm
 cases hr:Av n with
 |false=>
  rw[hr]at c2;refine zF AF Tryz.func6 ?_;unfold AA.d AA.A0 AD.A0 Calls.A0 An.A0 Wi.AC.d Wi.AC.A0 at *;refine wd FZ [] A4 (Ci @c1 @c2 @cw) ?_;exact zE
 |true=>
 rw[hr]at c2;have hN:=ve hg hw hr;clear hr hg hw
 cases hmr:m.right with
 |false=>
  rw[hmr]at c3;refine zF AF Tryz.func6 ?_;unfold AA.d AA.A0 AD.A0 Calls.A0 An.A0 Wi.AC.d Wi.AC.A0 at *;refine wd FZ [] A4 (KQ @c1 @c2 @c3 @cw) ?_;exact zE
 |true=>
 rw[hmr]at c3;have c4:=Ru n hN
 cases hf:RQ n with
 |false=>
  rw[hf]at c4;refine zF AF Tryz.func6 ?_;unfold AA.d AA.A0 AD.A0 Calls.A0 An.A0 Wi.AC.d Wi.AC.A0 at *;refine wd FZ [] A4 (MX @c1 @c2 @c3 @c4 @cw) ?_;exact zE
 |true=>
 rw[hf]at c4;have hF:=(Of hN).1 hf;have c5:=dL n hN;have hT:=(dM hN).1;have c6:=Ru _ hT;rw[(Of hT).2 (eW hN hF)]at c6;have hll:=K4 hmr
 have hn3:m.A8.length<=1000:=by
  by_cases h7:m.AR=7
  .have:=hmr;unfold AC.right at this;rw[xI,xI]at this;have:=this.2.2;unfold AC.has at this;simp only[h7]at this;simp only[show ¬((7:Int)=4)by decide,show ¬((7:Int)=5)by decide,show ¬((7:Int)=6)by decide,yC,yG]at this;rw[xI]at this;have h3:=this.2;unfold Wi.Et at h3;simp only[xI,xK]at h3;omega
  .rw[XS hmr h7];exact xQ _
 have c7:=JU m.As m.A8 hms hml hn3;have c8:=Ox m.As m.A8 n.A7.AB hms hml (R1 hN) hn3 hN.FV.vb;have c9:=pS m (by unfold Am at hll;omega);have c10:=Lr n (C6 m).1 hN (U5 hmr);have hK:=(dI hN (C6 m).1).1;have c11:=Ru _ hK;have hk:(m.AR=7->Fw m.As m.A8 n.A7.AB=false)->RQ (HV n (C6 m).1).1=true:=fun q=>(Of hK).2 (eV hN hF hmr q)
 generalize HV n (C6 m).1=K at *;generalize GP n=T at *;generalize(C6 m).1=pb at *;generalize Fw m.As m.A8 n.A7.AB=S at *;generalize CO m.As m.A8=R at *;generalize RQ K.1=F at *;obtain⟨T1,T2⟩:=T;obtain⟨K1,K2⟩:=K;dsimp only at *;clear hN hF hT hK hll hn3 hms hml hm hmr hf;refine zF AF Tryz.func6 ?_;unfold AA.d AA.A0 AD.A0 Calls.A0 An.A0 Wi.AC.d Wi.AC.A0 at*
 by_cases h7:m.AR=7
 .have f1:=AS h7
  cases R with
  |false=>
   refine wd FZ [] (AM f1) (qP @c1 @c2 @c3 @c4 @c5 @c6 @c7 @cw) ?_;exact zE
  |true=>
  cases S with
  |true=>
   refine wd FZ [] (AM f1) (zq9 @c1 @c2 @c3 @c4 @c5 @c6 @c7 @c8 @cw) ?_;exact zE
  |false=>
   have hk:=hk (fun _=>rfl);subst hk;refine wd FZ [8] (AM f1) (qP @c1 @c2 @c3 @c4 @c5 @c6 @c7 @c8) ?_;refine wd FZ [9] A4 (Ax @c9 @c10) ?_ [(0,7),(1,7)];refine wd FZ [] A4 (Ax @c11 @cw) ?_;exact zE
 .have f1:=eq_false' h7;have hk:=hk (fun e=>absurd e h7);subst hk;refine wd FZ [8] (AM f1) (zq6 @c1 @c2 @c3 @c4 @c5 @c6) ?_;refine wd FZ [9] A4 (Ax @c9 @c10) ?_ [(0,7),(1,7)];refine wd FZ [] A4 (Ax @c11 @cw) ?_;exact zE
end Nd
end Go.Proofs.YtkljbfejbakooaaGreatDoor
