/- Part 19 of a proof. Conditions: those that its theorems state. -/
import Derived.Test.YtkljbfejbakooaaGreatDoorS10
import Derived.Test.YtkljbfejbakooaaGreatDoorS15
set_option linter.unusedSimpArgs false
set_option linter.unusedVariables false
set_option linter.unnecessarySimpa false
set_option maxHeartbeats 40000000
set_option maxRecDepth 4000
namespace Go.Proofs.YtkljbfejbakooaaGreatDoor
open Go.Gar
abbrev EK:List Nat:=[0,1,4,5,9,44]
abbrev D9:List Nat:=[0,1,2,4,5,6,9,14,15,16,28]
abbrev EL:List Nat:=[0,1,2,4,6,8,9,10,11,18]
def rT(x:Int):Int->List Int->Bool
 |_,[]=>true
 |f,p::r=>(Ai p&&decide (Aa x p>f))&&rT x (Aa x p) r
def J2(x:Int):Int->List Int->Int
 |f,[]=>f
 |_,p::r=>J2 x (Aa x p) r
theorem SB(x p:Int):∀(l:List Int)(f:Int),rT x f (l++[p])=(rT x f l&&(Ai p&&decide (Aa x p>J2 x f l)))
 |[],f=>by simp[rT,J2]
 |a::r,f=>by
  show((Ai a&&decide (Aa x a>f))&&rT x (Aa x a) (r++[p]))=(((Ai a&&decide (Aa x a>f))&&rT x (Aa x a) r)&&(Ai p&&decide (Aa x p>J2 x (Aa x a) r)));rw[SB x p r];exact(Bool.and_assoc _ _ _).symm
theorem Oj(x p:Int):∀(l:List Int)(f:Int),J2 x f (l++[p])=Aa x p
 |[],f=>rfl
 |a::r,f=>by simp only[qV,J2];exact Oj x p r _
theorem eO(x:Int):∀(l m:List Int)(f:Int),rT x f l=false->rT x f (l++m)=false
 |[],m,f,h=>by cases h
 |a::r,m,f,h=>by
  simp only[qV,rT,Bool.and_eq_false_iff]at h|-;rcases h with h|h
  .exact .inl h
  .exact .inr (eO x r m _ h)
variable {x:Int}{l:List Int}{k:Nat}
theorem SD{f:Int}(h:rT x f (l.take k)=false):rT x f l=false:=by
 rw[<-rX k l];exact eO x _ _ f h
variable {p:Int}
theorem KX(hp:l[k]? =some p):J2 x 0 (l.take (k+1))=Aa x p:=by
 rw[AQ hp,Oj]
def BY(x:Int)(l:List Int):Bool:=decide (l.length<=3)&&rT x 0 l
theorem VJ(x a b:Int)(hx:i64 x)(ha:i64 a)(hb:i64 b):qB 72 [.i .i64 x,.i .i64 a,.i .i64 b] (.b (decide (Aa x b>Aa x a))):=by
 have c1:=Xm x b hx hb;have c2:=Xm x a hx ha;refine zF A4 Tryz.func72 ?_;refine wd [0,1,2,6] [] A0 (AX @c1 @c2) ?_;exact zE
theorem cN(h:Ai p=true):(p=Cp x)↔Aa x p=0:=by
 have:=HD h;unfold Cp Aa;omega
theorem cM(x:Int):Aa x (Cp x)=0:=by unfold Aa Cp;omega
theorem X5(x p:Int):Aa (Cp x) p=Aa x p:=by unfold Aa Cp;omega
theorem P9(x:Int)(l:List Int)(hx:i64 x)(hl:∀y∈l,i64 y)(hn:l.length<=9223372036854775807):qB 24 [.i .i64 x,.is l] (.b (BY x l)):=by
 refine zF A4 Tryz.func24 ?_;refine wd EK [] A0 A0 ?_;refine An (fun k=>k<=l.length/\rT x 0 (l.take k)=true) (fun k:Nat=>⟨[(0,.pY x),(1,.qF l),(4,.pq false),(5,.pY k)],[],48⟩) (fun k=>l.length-k) 0 ⟨qP _,rfl⟩ ?_ (qG _) ?_
 .exact A1.ck rfl
 rintro k ⟨hk,hpre⟩
 by_cases hkl:k<l.length
 .obtain⟨p,hp⟩:=AT hkl;have gp:=Cy hp;have hs:=SB x p (l.take k) 0;rw[<-AQ hp,hpre,rC]at hs;have hbad:rT x 0 (l.take (k+1))=false->BY x l=false:=fun h=>by unfold BY;rw[SD h,uI]
  have c1:=Vo p;have c2:=Dl x hx;have f0:=cN (x:=x) (p:=p);have hfl:=X4 x p
  cases hpl:Ai p with
  |false=>
   rw[hpl]at c1 hs;have hB:=hbad hs;refine wd EK [] (A6 gp) (A6 @c1) ?_;with_reducible repeat' first|constructor|intro hc;try simp only[AB]at hc
   exact Ag hB
  |true=>
   rw[hpl]at c1 hs;rw[rC]at hs
   by_cases he:p=Cp x
   .have hB:=hbad (by
     rw[hs,(f0 hpl).1 he];refine qO ?_
     have:0<=J2 x 0 (l.take k):=by
      cases k with
      |zero=>exact Int.le_refl _
      |succ j=>
       obtain⟨q,hq⟩:=AT (xs:=l) (k:=j) om;rw[KX hq];exact(X4 x q).1
     omega)
    have f1:=A9 he;refine wd EK [] (AX gp f1) (AX @c1 @c2) ?_;with_reducible repeat' first|constructor|intro hc;try simp only[AB]at hc
    exact Ag hB
   .have f1:=eq_false' he
    by_cases k0:k=0
    .subst k0
     have hok:rT x 0 (l.take 1)=true:=by
      rw[hs];refine qM ?_;have h1:Aa x p≠0:=fun h=>he ((f0 hpl).2 h)
      show Aa x p>0;omega
     refine wd EK [] (AX gp f1) (AX @c1 @c2) ?_;with_reducible repeat' first|constructor|intro hc;try simp only[AB]at hc
     refine⟨1,⟨hkl,hok⟩,om,qG _,?_⟩;exact A1.ck rfl
    .obtain⟨q,hq⟩:=AT (xs:=l) (k:=k-1) om;have gq:=Cy hq
     have hlq:J2 x 0 (l.take k)=Aa x q:=by
      have:=KX (x:=x) hq;rwa [show k-1+1=k by omega]at this
     have c3:=VJ x q p hx (hl q (rE hq)) (hl p (rE hp));have f2:(k:Int)-1=((k-1:Nat):Int):=om
     have f3:decide ((k:Int)>0)=true:=qM om;rw[hlq]at hs
     cases hd:decide (Aa x p>Aa x q)with
     |true=>
      rw[hd]at hs c3;refine wd EK [] (NU gp gq f1 f2 f3) (C3 @c1 @c2 @c3) ?_;with_reducible repeat' first|constructor|intro hc;try simp only[AB]at hc
      refine⟨k+1,⟨hkl,hs⟩,om,qG _,?_⟩;exact A1.ck rfl
     |false=>
      rw[hd]at hs c3;have hB:=hbad hs;refine wd EK [] (NU gp gq f1 f2 f3) (C3 @c1 @c2 @c3) ?_;with_reducible repeat' first|constructor|intro hc;try simp only[AB]at hc
      exact Ag hB
 .have e:k=l.length:=om
  subst e;rw[qx]at hpre;have hR:BY x l=decide (l.length<=3):=by unfold BY;rw[hpre,uM]
  by_cases h3:l.length<=3
  .have f1:decide ((l.length:Int)<=3)=true:=qM om;have hT:BY x l=true:=by rw[hR];exact qM h3
   refine wd EK [] (A6 f1) A0 ?_;with_reducible repeat' first|constructor|intro hc;try simp only[AB]at hc
   exact Ag hT
  .have f1:decide ((l.length:Int)<=3)=false:=qO om;have hT:BY x l=false:=by rw[hR];exact qO h3
   refine wd EK [] (A6 f1) A0 ?_;with_reducible repeat' first|constructor|intro hc;try simp only[AB]at hc
   exact Ag hT
theorem Jh(x:Int)(l:List Int)(hx:i64 x)(hl:∀y∈l,i64 y)(hn:l.length<=1000):qB 24 [.i .i64 x,.is l] (.b (BY x l)):=P9 x l hx hl (tJ hn (by decide))
theorem Ls(x:Int)(l:List Int):qC 238 [.pY x,.qF l] [] (.fn (.func 299) [] [.ptr 0 0 1,.ptr 1 0 1]) [.c [.pY x],.c [.qF l]]:=by
 refine zD A4 Tryz.func238 ?_;refine wd [0,1,2,3,4] [] A0 A0 ?_;exact⟨_,(A1.ck rfl),qP _,_,_,rfl,rfl,rfl,rfl⟩
def ahead(x:Int)(l:List Int):Nat->Int
 |0=>x
 |k+1=>l.getD k 0
theorem YK(x:Int)(l:List Int)(k:Nat)(hk:k<=l.length):Aa x (ahead (Cp x) l k)=J2 x 0 (l.take k):=by
 cases k with
 |zero=>exact cM x
 |succ j=>
  obtain⟨q,hq⟩:=AT (xs:=l) (k:=j) om;rw[KX hq];show Aa x (l.getD j 0)=_;rw[Cy hq]
theorem Og(x:Int)(l:List Int)(hn:l.length<=9223372036854775807):qB 161 [.i .i64 x,.is l] (.b (BY x l)):=by
 refine zF A4 Tryz.func161 ?_
 by_cases h3:l.length>3
 .have f1:decide ((l.length:Int)>3)=true:=qM om;have hT:BY x l=false:=by unfold BY;rw[qO om];rfl
  refine wd D9 [] (A6 f1) A0 ?_;exact Ag hT
 have f1:decide ((l.length:Int)>3)=false:=qO om;have hR:BY x l=rT x 0 l:=by unfold BY;rw[qM om];rfl
 have cx:=EQ x;have d1:=Ds.mk [] (Ls (Cp x) l);refine wd D9 [] (A6 f1) (A6 @cx) ?_;clear d1
 refine zG (K:=fun r _ H'=>(rT x 0 l=true/\H'=[.c [.pY (Cp x)],.c [.pq false],.c [.pY (Cp x)],.c [.qF l],.lp r])\/
  (rT x 0 l=false/\H'=[.c [.pY (Cp x)],.c [.pq false],.c [.pY (Cp x)],.c [.qF l],.lp (r.left .ret)])) ?_ ?_
 .intro r hr;refine zT A4 Tryz.func299 ?_;refine wd EL [] A0 A0 ?_;have hk:=hr.ok (k:=4) rfl;refine An (fun k=>k<=l.length/\rT x 0 (l.take k)=true) (fun k:Nat=>⟨[(0,.yl 4),(1,.ptr 2 0 1),(2,.ptr 3 0 1),(4,.pY (ahead (Cp x) l k)),(8,.qF l),(9,.pY l.length),(10,.pY k)],[.c [.pY (Cp x)],.c [.pq false],.c [.pY (Cp x)],.c [.qF l],.lp r],21⟩) (fun k=>l.length-k) 0 ⟨qP _,rfl⟩ ?_ (qG _) ?_
  .exact(have nC:=@ahead.eq_1;A1.cn rfl)
  rintro k ⟨hkk,hpre⟩
  by_cases hkl:k<l.length
  .obtain⟨p,hp⟩:=AT hkl;have gp:=Cy hp;have hs:=SB x p (l.take k) 0;rw[<-AQ hp,hpre,rC]at hs;have ha:=YK x l k hkk;have ga:ahead (Cp x) l (k+1)=p:=gp;have c1:=MV p;have c2:=H9 (Cp x) p;have c3:=H9 (Cp x) (ahead (Cp x) l k);rw[X5]at c2 c3;rw[ha]at c3;generalize J2 x 0 (l.take k)=lf at *;generalize ahead (Cp x) l k=ak at*
   have hb:decide (Aa x p<=lf)= !decide (Aa x p>lf):=by
    by_cases h:Aa x p>lf
    .rw[qM h,qO om];rfl
    .rw[qO h,qM om];rfl
   cases hpl:Ai p with
   |false=>
    rw[hpl]at c1 hs;refine wd EL [] (A6 gp) A0 ?_;with_reducible repeat' first|constructor|intro hc;try simp only[AB]at hc
    refine Xy (x:=.pq false) (H':=[.c [.pY (Cp x)],.c [.pq false],.c [.pY (Cp x)],.c [.qF l],.lp (r.left .ret)]) (AZ hr rfl rfl rfl ?_) rfl rfl rfl rfl rfl ?_
    .refine wd D9 [] A0 A0 ?_;refine zR ?_;refine wd D9 [] A0 (A6 @c1) ?_;exact⟨_,A1.refl _,qG _,rfl,rfl,rfl⟩
    .refine wd EL [] A0 A0 ?_;exact⟨_,A1.refl _,qG _,_,_,rfl,rfl,.inr ⟨SD hs,rfl⟩⟩
   |true=>
    rw[hpl]at c1 hs;rw[rC]at hs
    cases hd:decide (Aa x p>lf)with
    |false=>
     rw[hd]at hs hb;refine wd EL [] (A6 gp) A0 ?_;with_reducible repeat' first|constructor|intro hc;try simp only[AB]at hc
     refine Xy (x:=.pq false) (H':=[.c [.pY (Cp x)],.c [.pq false],.c [.pY (Cp x)],.c [.qF l],.lp (r.left .ret)]) (AZ hr rfl rfl rfl ?_) rfl rfl rfl rfl rfl ?_
     .refine wd D9 [] A0 A0 ?_;refine zR ?_;refine wd D9 [] (A6 hb) (C3 @c1 @c2 @c3) ?_;exact⟨_,A1.refl _,qG _,rfl,rfl,rfl⟩
     .refine wd EL [] A0 A0 ?_;exact⟨_,A1.refl _,qG _,_,_,rfl,rfl,.inr ⟨SD hs,rfl⟩⟩
    |true=>
     rw[hd]at hs hb;refine wd EL [] (A6 gp) A0 ?_;with_reducible repeat' first|constructor|intro hc;try simp only[AB]at hc
     refine Xy (x:=.pq true) (H':=[.c [.pY (Cp x)],.c [.pq false],.c [.pY (Cp x)],.c [.qF l],.lp r]) (AZ hr rfl rfl rfl ?_) rfl rfl rfl rfl rfl ?_
     .refine wd D9 [] A0 A0 ?_;refine zR ?_;refine wd D9 [] (A6 hb) (C3 @c1 @c2 @c3) ?_;exact⟨_,A1.refl _,qG _,rfl,rfl,rfl⟩
     .refine wd EL [] A0 A0 ?_;refine⟨k+1,⟨hkl,hs⟩,om,qG _,?_⟩;exact(have nC:=ga;A1.cn rfl)
  .have e:k=l.length:=om
   subst e;rw[qx]at hpre;refine wd EL [] A0 A0 ?_;with_reducible repeat' first|constructor|intro hc;try simp only[AB]at hc
   exact⟨_,A1.refl _,qG _,_,_,rfl,rfl,.inl ⟨hpre,rfl⟩⟩
 .rintro r hr y H' (⟨h,rfl⟩|⟨h,rfl⟩)
  .refine .inl ⟨rfl,?_⟩;rw[h]at hR;refine wd D9 [] A0 A0 ?_;exact Ag hR
  .refine .inr ⟨.ret,rfl,?_⟩;rw[h]at hR;refine wd D9 [] A0 A0 ?_;exact Ag hR
theorem ZC(x:Int)(l:List Int)(hn:l.length<=1000):qB 161 [.i .i64 x,.is l] (.b (BY x l)):=Og x l (tJ hn (by decide))
abbrev EM:List Nat:=[0,2,3,4,12,13,14,15,16,35]
structure View where
 id:Int
 base:List Int
 list:List Int
 pred:Int
 f:Nat->Int
def DR(f:Nat->Int):List Int:=[f 0,f 1,f 2,f 3,f 4,f 5,f 6,f 7,f 8,f 9,f 10,f 11,f 12,f 13,f 14,f 15]
def View.cells(v:View):List D:=[.i .i64 v.id,.is v.base,.is v.list,.i .i64 v.pred,.i .i64 (v.f 0),.i .i64 (v.f 1),.i .i64 (v.f 2),.i .i64 (v.f 3),.i .i64 (v.f 4),.i .i64 (v.f 5),.i .i64 (v.f 6),.i .i64 (v.f 7),.i .i64 (v.f 8),.i .i64 (v.f 9),.i .i64 (v.f 10),.i .i64 (v.f 11),.i .i64 (v.f 12),.i .i64 (v.f 13),.i .i64 (v.f 14),.i .i64 (v.f 15)]
def View.d(v:View):D:=.agg v.cells
def bT:Int->List Int->Bool
 |_,[]=>true
 |f,p::r=>(Ai p&&decide (p>f))&&bT p r
def lastB:Int->List Int->Int
 |f,[]=>f
 |_,p::r=>lastB p r
theorem R0(p:Int):∀(l:List Int)(f:Int),bT f (l++[p])=(bT f l&&(Ai p&&decide (p>lastB f l)))
 |[],f=>by simp[bT,lastB]
 |a::r,f=>by
  show((Ai a&&decide (a>f))&&bT a (r++[p]))=(((Ai a&&decide (a>f))&&bT a r)&&(Ai p&&decide (p>lastB a r)));rw[R0 p r];exact(Bool.and_assoc _ _ _).symm
theorem Oh(p:Int):∀(l:List Int)(f:Int),lastB f (l++[p])=p
 |[],f=>rfl
 |a::r,f=>by simp only[qV,lastB];exact Oh p r _
theorem bQ:∀(l m:List Int)(f:Int),bT f l=false->bT f (l++m)=false
 |[],m,f,h=>by cases h
 |a::r,m,f,h=>by
  simp only[qV,bT,Bool.and_eq_false_iff]at h|-;rcases h with h|h
  .exact .inl h
  .exact .inr (bQ r m _ h)
theorem Nb{f:Int}(h:bT f (l.take k)=false):bT f l=false:=by
 rw[<-rX k l];exact bQ _ _ f h
theorem Oi(hp:l[k]? =some p):lastB (-1) (l.take (k+1))=p:=by
 rw[AQ hp,Oh]
def Bl(l:List Int):Bool:=(decide (2<=l.length)&&decide (l.length<=4))&&bT (-1) l
theorem Pf(l:List Int)(hn:l.length<=9223372036854775807):qB 160 [.is l] (.b (Bl l)):=by
 refine zF A4 Tryz.func160 ?_
 by_cases h2:l.length<2
 .have f1:decide ((l.length:Int)<2)=true:=qM om;have hT:Bl l=false:=by unfold Bl;rw[qO (show ¬2<=l.length by omega)];rfl
  refine wd EM [] (A6 f1) A0 ?_;exact Ag hT
 have f1:decide ((l.length:Int)<2)=false:=qO om
 by_cases h4:l.length>4
 .have f2:decide ((l.length:Int)>4)=true:=qM om;have hT:Bl l=false:=by unfold Bl;rw[qO (show ¬l.length<=4 by omega),uI];rfl
  refine wd EM [] (AX f1 f2) A0 ?_;exact Ag hT
 have f2:decide ((l.length:Int)>4)=false:=qO om;have hR:Bl l=bT (-1) l:=by unfold Bl;rw[qM (show 2<=l.length by omega),qM (show l.length<=4 by omega)];rfl
 refine wd EM [] (AX f1 f2) A0 ?_;refine An (fun k=>k<=l.length/\bT (-1) (l.take k)=true) (fun k:Nat=>⟨[(0,.qF l),(2,.pq false),(13,.qF l),(14,.pY l.length),(15,.pY k)],[],37⟩) (fun k=>l.length-k) 0 ⟨qP _,rfl⟩ ?_ (qG _) ?_
 .exact A1.ck rfl
 rintro k ⟨hk,hpre⟩
 by_cases hkl:k<l.length
 .obtain⟨p,hp⟩:=AT hkl;have gp:=Cy hp;have hs:=R0 p (l.take k) (-1);rw[<-AQ hp,hpre,rC]at hs;have c1:=GR p
  cases hpl:Ai p with
  |false=>
   rw[hpl]at c1 hs;have hB:=Nb hs;rw[hB]at hR;refine wd EM [] (A6 gp) (A6 @c1) ?_;with_reducible repeat' first|constructor|intro hc;try simp only[AB]at hc
   exact Ag hR
  |true=>
   rw[hpl]at c1 hs;rw[rC]at hs;have hp0:=HD hpl
   by_cases k0:k=0
   .subst k0
    have hok:bT (-1) (l.take 1)=true:=by
     rw[hs];exact qM (by show p> -1;omega)
    refine wd EM [] (A6 gp) (A6 @c1) ?_;with_reducible repeat' first|constructor|intro hc;try simp only[AB]at hc
    refine⟨1,⟨hkl,hok⟩,om,qG _,?_⟩;exact A1.ck rfl
   .obtain⟨q,hq⟩:=AT (xs:=l) (k:=k-1) om;have gq:=Cy hq
    have hlq:lastB (-1) (l.take k)=q:=by
     have:=Oi hq;rwa [show k-1+1=k by omega]at this
    have f4:(k:Int)-1=((k-1:Nat):Int):=om
    have f3:decide ((k:Int)>0)=true:=qM om;rw[hlq]at hs
    by_cases hd:p>q
    .rw[qM hd]at hs;have f5:decide (p<=q)=false:=qO om;refine wd EM [] (NU gp gq f3 f4 f5) (A6 @c1) ?_;with_reducible repeat' first|constructor|intro hc;try simp only[AB]at hc
     refine⟨k+1,⟨hkl,hs⟩,om,qG _,?_⟩;exact A1.ck rfl
    .rw[qO hd]at hs;have hB:=Nb hs;rw[hB]at hR;have f5:decide (p<=q)=true:=qM om;refine wd EM [] (NU gp gq f3 f4 f5) (A6 @c1) ?_;with_reducible repeat' first|constructor|intro hc;try simp only[AB]at hc
     exact Ag hR
 .have e:k=l.length:=om
  subst e;rw[qx]at hpre;rw[hpre]at hR;refine wd EM [] A0 A0 ?_;with_reducible repeat' first|constructor|intro hc;try simp only[AB]at hc
  exact Ag hR
def Ei(id n:Int):Bool:=decide (n= -1)||(Ai n&&decide (n≠id))
theorem UH(v:View)(n:Int):qB 76 [v.d,.i .i64 n] (.b (Ei v.id n)):=by
 obtain⟨id,base,list,pred,f⟩:=v;have c1:=Kg n;refine zF A4 Tryz.func76 ?_
 by_cases h1:n= -1
 .have f1:=A9 h1;have e:Ei id n=true:=by simp[Ei,h1]
  refine wd [0,1,2,4] [] (A6 f1) A0 ?_;exact Ag e
 have f1:=eq_false' h1;have e:Ei id n=(Ai n&&decide (n≠id)):=by simp[Ei,h1]
 cases hp:Ai n with
 |false=>
  rw[hp]at c1 e;refine wd [0,1,2,4] [] (A6 f1) (A6 @c1) ?_;exact Ag e
 |true=>
  rw[hp]at c1 e
  by_cases h2:n=id
  .have f2:=BF h2;have e2:Ei id n=false:=by rw[e];simp[h2]
   refine wd [0,1,2,4] [] (AX f1 f2) (A6 @c1) ?_;exact Ag e2
  .have f2:=BJ h2;have e2:Ei id n=true:=by rw[e];simp[h2]
   refine wd [0,1,2,4] [] (AX f1 f2) (A6 @c1) ?_;exact Ag e2
def AS(v:View):Bool:=((Ai v.id&&Bl v.base)&&BY v.id v.list)&&(Ei v.id v.pred&&(DR v.f).all (Ei v.id))
theorem Jq(v:View)(h1:v.base.length<=100000)(h2:v.list.length<=100000):qB 83 [v.d] v.d:=by
 obtain⟨id,base,list,pred,f⟩:=v;have c1:=O1 base h1;have c2:=O1 list h2;refine zF A4 Tryz.func83 ?_;refine wd [0,1,2] [] A0 (AX @c1 @c2) ?_;exact Ag (qQ @View.d.eq_1 @View.cells.eq_1)
theorem aN(v:View):qB 28 [v.d] (.b (decide (v.base.length>20\/v.list.length>20))):=by
 obtain⟨id,base,list,pred,f⟩:=v;refine zF A4 Tryz.func28 ?_
 by_cases h1:base.length>20
 .have f1:decide ((base.length:Int)>20)=true:=qM om;rw[qM (show base.length>20\/list.length>20 from .inl h1)];refine wd [0,1,2] [] (A6 f1) A0 ?_;exact zE
 .have f1:decide ((base.length:Int)>20)=false:=qO om
  by_cases h2:list.length>20
  .have f2:decide ((list.length:Int)>20)=true:=qM om;rw[qM (show base.length>20\/list.length>20 from .inr h2)];refine wd [0,1,2] [] (AX f1 f2) A0 ?_;exact zE
  .have f2:decide ((list.length:Int)>20)=false:=qO om;rw[qO (show ¬(base.length>20\/list.length>20)from fun h=>h.elim h1 h2)];refine wd [0,1,2] [] (AX f1 f2) A0 ?_;exact zE
abbrev Ck:List Nat:=[0,1,2,3,4,35,40,67,69,78]
variable {id:Int}
theorem f_all{f:Nat->Int}:(DR f).all (Ei id)=(Ei id (f 0)&&(Ei id (f 1)&&(Ei id (f 2)&&(Ei id (f 3)&&(Ei id (f 4)&&(Ei id (f 5)&&(Ei id (f 6)&&(Ei id (f 7)&&(Ei id (f 8)&&(Ei id (f 9)&&(Ei id (f 10)&&(Ei id (f 11)&&(Ei id (f 12)&&(Ei id (f 13)&&(Ei id (f 14)&&(Ei id (f 15)&&true)))))))))))))))):=rfl
theorem Uc(v:View)(hid:i64 v.id)(hli:∀y∈v.list,i64 y)(hb:v.base.length<=9223372036854775807)(hl:v.list.length<=9223372036854775807):qB 31 [v.d] (.b (AS v)):=by
 obtain⟨id,base,list,pred,f⟩:=v;replace hid:i64 id:=hid;replace hli:∀y∈list,i64 y:=hli;replace hb:base.length<=9223372036854775807:=hb;replace hl:list.length<=9223372036854775807:=hl;have c1:=Kg id;have c2:=P9 id list hid hli hl;have c3:=UH ⟨id,base,list,pred,f⟩ pred;have c4:=UH ⟨id,base,list,pred,f⟩;have hR:AS ⟨id,base,list,pred,f⟩=(((Ai id&&Bl base)&&BY id list)&&(Ei id pred&&(DR f).all (Ei id))):=rfl;refine zF A4 Tryz.func31 ?_
 cases h1:Ai id with
 |false=>
  rw[h1]at c1 hR;refine wd Ck [] A0 (A6 @c1) ?_;exact Ag hR
 |true=>
 rw[h1]at c1 hR
 by_cases h2:base.length<2
 .have f1:decide ((base.length:Int)<2)=true:=qM om;have hB:Bl base=false:=by unfold Bl;rw[qO (show ¬2<=base.length by omega)];rfl
  rw[hB]at hR;refine wd Ck [] (A6 f1) (A6 @c1) ?_;exact Ag hR
 have f1:decide ((base.length:Int)<2)=false:=qO om
 by_cases h4:base.length>4
 .have f2:decide ((base.length:Int)>4)=true:=qM om;have hB:Bl base=false:=by unfold Bl;rw[qO (show ¬base.length<=4 by omega),uI];rfl
  rw[hB]at hR;refine wd Ck [] (AX f1 f2) (A6 @c1) ?_;exact Ag hR
 have f2:decide ((base.length:Int)>4)=false:=qO om;have hRB:Bl base=bT (-1) base:=by unfold Bl;rw[qM (show 2<=base.length by omega),qM (show base.length<=4 by omega)];rfl
 rw[hRB]at hR
 cases h3:BY id list with
 |false=>
  rw[h3]at c2 hR;rw[uI,uH]at hR;refine wd Ck [] (AX f1 f2) (AX @c1 @c2) ?_;exact Ag hR
 |true=>
 rw[h3]at c2 hR
 cases h5:Ei id pred with
 |false=>
  change Go.Gar.Fn _ _ _ (.b (Ei id pred))at c3;rw[h5]at c3 hR;rw[uH,uI]at hR;refine wd Ck [] (AX f1 f2) (C3 @c1 @c2 @c3) ?_;exact Ag hR
 |true=>
 change Go.Gar.Fn _ _ _ (.b (Ei id pred))at c3;rw[h5]at c3 hR;rw[rC,uM,rC]at hR;refine wd Ck [] (AX f1 f2) (C3 @c1 @c2 @c3) ?_;refine An (fun k=>k<=base.length/\bT (-1) (base.take k)=true) (fun k:Nat=>⟨[(1,.ptr 0 0 20),(2,.pq false),(3,.pY k)],[.c [.pY id,.qF base,.qF list,.pY pred,.pY (f 0),.pY (f 1),.pY (f 2),.pY (f 3),.pY (f 4),.pY (f 5),.pY (f 6),.pY (f 7),.pY (f 8),.pY (f 9),.pY (f 10),.pY (f 11),.pY (f 12),.pY (f 13),.pY (f 14),.pY (f 15)]],79⟩) (fun k=>base.length-k) 0 ⟨qP _,rfl⟩ ?_ (qG _) ?_
 .exact A1.ck rfl
 rintro k ⟨hk,hpre⟩
 by_cases hkl:k<base.length
 .obtain⟨p,hp⟩:=AT hkl;have gp:=Cy hp;have hs:=R0 p (base.take k) (-1);rw[<-AQ hp,hpre,rC]at hs;have d1:=Kg p
  cases hpl:Ai p with
  |false=>
   rw[hpl]at d1 hs;rw[Nb hs]at hR;refine wd Ck [] (A6 gp) (A6 @d1) ?_;with_reducible repeat' first|constructor|intro hc;try simp only[AB]at hc
   exact Ag hR
  |true=>
   rw[hpl]at d1 hs;rw[rC]at hs;have hp0:=HD hpl
   by_cases k0:k=0
   .subst k0
    have hok:bT (-1) (base.take 1)=true:=by
     rw[hs];exact qM (by show p> -1;omega)
    refine wd Ck [] (A6 gp) (A6 @d1) ?_;with_reducible repeat' first|constructor|intro hc;try simp only[AB]at hc
    refine⟨1,⟨hkl,hok⟩,om,qG _,?_⟩;exact A1.ck rfl
   .obtain⟨q,hq⟩:=AT (xs:=base) (k:=k-1) om;have gq:=Cy hq
    have hlq:lastB (-1) (base.take k)=q:=by
     have:=Oi hq;rwa [show k-1+1=k by omega]at this
    have f4:(k:Int)-1=((k-1:Nat):Int):=om
    have f3:decide ((k:Int)>0)=true:=qM om;rw[hlq]at hs
    by_cases hd:p>q
    .rw[qM hd]at hs;have f5:decide (p<=q)=false:=qO om;refine wd Ck [] (NU gp gq f3 f4 f5) (A6 @d1) ?_;with_reducible repeat' first|constructor|intro hc;try simp only[AB]at hc
     refine⟨k+1,⟨hkl,hs⟩,om,qG _,?_⟩;exact A1.ck rfl
    .rw[qO hd]at hs;rw[Nb hs]at hR;have f5:decide (p<=q)=true:=qM om;refine wd Ck [] (NU gp gq f3 f4 f5) (A6 @d1) ?_;with_reducible repeat' first|constructor|intro hc;try simp only[AB]at hc
     exact Ag hR
 .have e:k=base.length:=om
  subst e;rw[qx]at hpre;rw[hpre,rC,f_all]at hR;change ∀n,Go.Gar.Fn _ _ _ (.b (Ei id n))at c4;have un:No 17:=trivial;refine wd Ck [] A0 (A6 @c4) ?_;clear un;with_reducible repeat' first|constructor|intro hc;try simp only[AB]at hc
  all_goals first
   |(refine⟨_,_,rfl,rfl,?_⟩;simp[H8,AP,Aj,AF,hR];done)
   |(refine⟨_,_,rfl,rfl,?_⟩;simp_all[Bb];done)
abbrev Bt:List Nat:=[0,1,2,3,21,23,24,37]
def vC(id:Int)(base list:List Int)(pred:Int)(f:Nat->Int):List AV:=[.pY id,.qF base,.qF list,.pY pred,.pY (f 0),.pY (f 1),.pY (f 2),.pY (f 3),.pY (f 4),.pY (f 5),.pY (f 6),.pY (f 7),.pY (f 8),.pY (f 9),.pY (f 10),.pY (f 11),.pY (f 12),.pY (f 13),.pY (f 14),.pY (f 15)]
theorem iS(id:Int)(base list:List Int)(pred:Int)(f:Nat->Int):qC 162 [.d (View.d ⟨id,base,list,pred,f⟩)] [] (.fn (.func 240) [] [.ptr 0 0 20]) [.c [.pY id,.qF base,.qF list,.pY pred,.pY (f 0),.pY (f 1),.pY (f 2),.pY (f 3),.pY (f 4),.pY (f 5),.pY (f 6),.pY (f 7),.pY (f 8),.pY (f 9),.pY (f 10),.pY (f 11),.pY (f 12),.pY (f 13),.pY (f 14),.pY (f 15)]]:=by
 refine zD A4 Tryz.func162 ?_;refine wd [0,1,2] [] A0 A0 ?_;exact⟨_,(A1.ck rfl),qP _,_,_,rfl,rfl,rfl,rfl⟩
theorem PS(v:View)(hb:v.base.length<=9223372036854775807)(hl:v.list.length<=9223372036854775807):qB 93 [v.d] (.b (AS v)):=by
 obtain⟨id,base,list,pred,f⟩:=v;replace hb:base.length<=9223372036854775807:=hb;replace hl:list.length<=9223372036854775807:=hl;have c1:=GR id;have c2:=Pf base hb;have c3:=Og id list hl;have c4:=GR;have hR:AS ⟨id,base,list,pred,f⟩=(((Ai id&&Bl base)&&BY id list)&&(Ei id pred&&(DR f).all (Ei id))):=rfl;refine zF A4 Tryz.func93 ?_
 cases h1:Ai id with
 |false=>
  rw[h1]at c1 hR;refine wd Bt [] A0 (A6 @c1) ?_ [] true;exact Ag hR
 |true=>
 rw[h1]at c1 hR
 cases h2:Bl base with
 |false=>
  rw[h2]at c2 hR;refine wd Bt [] A0 (AX @c1 @c2) ?_ [] true;exact Ag hR
 |true=>
 rw[h2]at c2 hR
 cases h3:BY id list with
 |false=>
  rw[h3]at c3 hR;refine wd Bt [] A0 (C3 @c1 @c2 @c3) ?_ [] true;exact Ag hR
 |true=>
 rw[h3]at c3 hR;simp only[uN,rC]at hR;have d1:=Ds.mk [] (iS id base list pred f);refine wd Bt [] A0 (C3 @c1 @c2 @c3) ?_ [] true;clear d1
 refine zG (K:=fun r _ H'=>((Ei id pred&&(DR f).all (Ei id))=true/\H'=[.c (vC id base list pred f),.c (vC id base list pred f),.lp r])\/
  ((Ei id pred&&(DR f).all (Ei id))=false/\H'=[.c (vC id base list pred f),.c (vC id base list pred f),.lp (r.left (.goto 0))])) ?_ ?_
 .intro r hr
  have hT:∀n,Ei id n=true->YT Tryz.prog 2 [.pY n] [.c (vC id base list pred f),.c (vC id base list pred f),.lp r] fun x K=>x= .pq true/\K=[.c (vC id base list pred f),.c (vC id base list pred f),.lp r]:=by
   intro n hn;have d1:=GR n;unfold vC;refine AZ hr rfl rfl rfl ?_
   by_cases h5:n= -1
   .have f1:=BF h5;refine wd Bt [] A0 A0 ?_ [] true;refine zR ?_;refine wd Bt [] (A6 f1) A0 ?_ [] true;exact⟨_,A1.refl _,qG _,rfl,rfl,rfl⟩
   .have f1:=BJ h5;simp only[Ei,h5,uw,su,qH,qJ]at hn;rw[hn.1]at d1;have f2:=eq_false' hn.2;refine wd Bt [] A0 A0 ?_ [] true;refine zR ?_;refine wd Bt [] (AX f1 f2) (A6 @d1) ?_ [] true;exact⟨_,A1.refl _,qG _,rfl,rfl,rfl⟩
  have hF:∀n,Ei id n=false->YT Tryz.prog 2 [.pY n] [.c (vC id base list pred f),.c (vC id base list pred f),.lp r] fun x K=>x= .pq false/\K=[.c (vC id base list pred f),.c (vC id base list pred f),.lp (r.left (.goto 0))]:=by
   intro n hn;have d1:=GR n;unfold vC;refine AZ hr rfl rfl rfl ?_;have h5:n≠ -1:=fun h=>by subst h;simp[Ei]at hn
   have f1:=BJ h5;simp only[Ei,h5,uw,su,Bool.and_eq_false_iff,uJ,ne_eq,Classical.not_not]at hn
   cases hp:Ai n with
   |false=>
    rw[hp]at d1;refine wd Bt [] A0 A0 ?_ [] true;refine zR ?_;refine wd Bt [] (A6 f1) (A6 @d1) ?_ [] true;exact⟨_,A1.refl _,qG _,rfl,rfl,rfl⟩
   |true=>
    rw[hp]at d1 hn;have f2:=A9 (hn.resolve_left (fun h=>by cases h));refine wd Bt [] A0 A0 ?_ [] true;refine zR ?_;refine wd Bt [] (AX f1 f2) (A6 @d1) ?_ [] true;exact⟨_,A1.refl _,qG _,rfl,rfl,rfl⟩
  refine zT A4 Tryz.func240 ?_;unfold vC at *;have g1T:=@hT;have g1F:=@hF;have un:No 17:=trivial;refine wd [0,1,4,9,11,12,13,18] [] A0 A0 ?_;clear un g1F g1T;with_reducible repeat' first|constructor|intro hc;try simp only[AB]at hc
  all_goals first
   |exact⟨_,A1.refl _,qG _,_,_,rfl,rfl,.inl ⟨by rw[f_all];simp only[*,uN],rfl⟩⟩
   |exact⟨_,A1.refl _,qG _,_,_,rfl,rfl,.inr ⟨by rw[f_all];simp only[*,uI,uH,uM,rC],rfl⟩⟩
 .rintro r hr y H' (⟨h,rfl⟩|⟨h,rfl⟩)
  .refine .inl ⟨rfl,?_⟩;rw[h]at hR;unfold vC;refine wd Bt [] A0 A0 ?_ [] true;exact Ag hR
  .refine .inr ⟨.goto 0,rfl,?_⟩;rw[h]at hR;unfold vC;refine wd Bt [] A0 A0 ?_ [] true;exact Ag hR
theorem Bg(v:View)(hb:v.base.length<=1000)(hl:v.list.length<=1000):qB 93 [v.d] (.b (AS v)):=PS v (tJ hb (by decide)) (tJ hl (by decide))
theorem fE(f g:Nat->Int):HC [.i .i64 (f 0),.i .i64 (f 1),.i .i64 (f 2),.i .i64 (f 3),.i .i64 (f 4),.i .i64 (f 5),.i .i64 (f 6),.i .i64 (f 7),.i .i64 (f 8),.i .i64 (f 9),.i .i64 (f 10),.i .i64 (f 11),.i .i64 (f 12),.i .i64 (f 13),.i .i64 (f 14),.i .i64 (f 15)] [.i .i64 (g 0),.i .i64 (g 1),.i .i64 (g 2),.i .i64 (g 3),.i .i64 (g 4),.i .i64 (g 5),.i .i64 (g 6),.i .i64 (g 7),.i .i64 (g 8),.i .i64 (g 9),.i .i64 (g 10),.i .i64 (g 11),.i .i64 (g 12),.i .i64 (g 13),.i .i64 (g 14),.i .i64 (g 15)]=decide (DR f=DR g):=by
 simp[HC,eq1,DR,Dg]
def Xu(v w:View):Bool:=decide (v.id=w.id)&&(decide (v.base=w.base)&&(decide (v.list=w.list)&&(decide (v.pred=w.pred)&&decide (DR v.f=DR w.f))))
theorem Zg(v w:View)(h1:v.base.length<=100000)(h2:v.list.length<=100000):qB 55 [v.d,w.d] (.b (Xu v w)):=by
 obtain⟨i1,b1,l1,p1,f1⟩:=v;obtain⟨i2,b2,l2,p2,f2⟩:=w;have cB:=XI b1 b2 h1;have cL:=XI l1 l2 h2;have hF:=fE f1 f2;have hS:Xu ⟨i1,b1,l1,p1,f1⟩ ⟨i2,b2,l2,p2,f2⟩=(decide (i1=i2)&&(decide (b1=b2)&&(decide (l1=l2)&&(decide (p1=p2)&&decide (DR f1=DR f2))))):=rfl;rw[hS];generalize decide (b1=b2)=bb at *;generalize decide (l1=l2)=bl at *;generalize decide (DR f1=DR f2)=bf at *;refine zF A4 Tryz.func55 ?_
 by_cases e1:i1=i2
 .have g1:=A9 e1;rw[qM e1]
  cases bb with
  |false=>
   refine wd [0,1,2,3,4] [] (A6 g1) (A6 @cB) ?_;exact zE
  |true=>
   cases bl with
   |false=>
    refine wd [0,1,2,3,4] [] (A6 g1) (AX @cB @cL) ?_;exact zE
   |true=>
    by_cases e2:p1=p2
    .have g2:=A9 e2;rw[qM e2];refine wd [0,1,2,3,4] [] (C3 g1 g2 hF) (AX @cB @cL) ?_;exact zE
    .have g2:=eq_false' e2;rw[qO e2];refine wd [0,1,2,3,4] [] (AX g1 g2) (AX @cB @cL) ?_;exact zE
 .have g1:=eq_false' e1;rw[qO e1];refine wd [0,1,2,3,4] [] (A6 g1) A0 ?_;exact zE
def DF(v:View)(l:List Int):View:=if AS v&&BY v.id l then⟨v.id,v.base,l,v.pred,v.f⟩else v
theorem YA(v:View)(l:List Int)(hb:v.base.length<=1000)(hv:v.list.length<=1000)(hl:l.length<=1000):qB 204 [v.d,.is l] (DF v l).d:=by
 obtain⟨id,base,list,pred,f⟩:=v;replace hb:base.length<=1000:=hb;replace hv:list.length<=1000:=hv;have c1:=Jq ⟨id,base,list,pred,f⟩ (by show base.length<=100000;omega) (by show list.length<=100000;omega);have c2:=Bg ⟨id,base,list,pred,f⟩ hb hv;have c3:=ZC id l hl;have c4:=O1 l om;have hL:DF ⟨id,base,list,pred,f⟩ l=if AS ⟨id,base,list,pred,f⟩&&BY id l then⟨id,base,l,pred,f⟩else⟨id,base,list,pred,f⟩:=rfl;refine zF A4 Tryz.func204 ?_
 cases h:AS ⟨id,base,list,pred,f⟩with
 |false=>
  rw[h]at c2 hL;rw[hL];refine wd [0,1,2,4,5,17] [] A0 (AX @c1 @c2) ?_ [] true;exact Ag (qQ @View.d.eq_1 @View.cells.eq_1)
 |true=>
  rw[h]at c2 hL
  cases h2:BY id l with
  |false=>
   rw[h2]at c3 hL;rw[hL];refine wd [0,1,2,4,5,17] [] A0 (C3 @c1 @c2 @c3) ?_ [] true;exact Ag (qQ @View.d.eq_1 @View.cells.eq_1)
  |true=>
   rw[h2]at c3 hL;rw[hL];refine wd [0,1,2,4,5,17] [] A0 (Kl @c1 @c2 @c3 @c4) ?_ [] true;exact Ag (qQ @View.d.eq_1 @View.cells.eq_1)
abbrev Hl:List Nat:=[0,1,4,5,6,7,8,14]
abbrev Hm:List Nat:=[0,2,3,4,6,7]
def EF(l:List Int)(d:Int):List Int:=l.filter fun x=>x !=d
theorem Tx(l:List Int):qC 216 [.qF l] [] (.fn (.func 296) [] [.ptr 0 0 1]) [.c [.qF l]]:=by
 refine zD A4 Tryz.func216 ?_;refine wd [0,1,2] [] A0 A0 ?_;exact⟨_,(A1.ck rfl),qP _,_,_,rfl,rfl,rfl,rfl⟩
def firstT:List Int->Int×Bool
 |[]=>(0,false)
 |a::_=>(a,true)
theorem aW(l:List Int)(hl:l.length<=100000):qB 138 [.is l] (.tup [.i .i64 (firstT l).1,.b (firstT l).2]):=by
 refine zF A4 Tryz.func138 ?_;have d1:=Ds.mk [] (Tx l);refine wd Hm [] A0 A0 ?_;clear d1
 cases l with
 |nil=>
  refine zG (K:=fun r _ H'=>H'=[.c [.pY 0],.c [.pq false],.c [.qF ([])],.lp r]) ?_ ?_
  .intro r hr;refine zT A4 Tryz.func296 ?_;refine wd Hl [] A0 A0 ?_;have hk:=hr.ok (k:=3) rfl;refine An (fun k=>k=0) (fun k:Nat=>⟨[(0,.yl 3),(1,.ptr 2 0 1),(5,.qF ([])),(6,.pY 0),(7,.pY k)],[.c [.pY 0],.c [.pq false],.c [.qF ([])],.lp r],16⟩) (fun k=>0) 0 rfl ?_ (qG _) ?_
   .exact A1.ck rfl
   rintro k rfl;refine wd Hl [] A0 A0 ?_;exact⟨_,A1.refl _,qG _,_,_,rfl,rfl,rfl⟩
  .rintro r hr x H' rfl;refine .inl ⟨rfl,?_⟩;refine wd Hm [] A0 A0 ?_;exact Ag @firstT.eq_1
 |cons a t=>
  refine zG (K:=fun r _ H'=>H'=[.c [.pY a],.c [.pq true],.c [.qF (a::t)],.lp (r.left .ret)]) ?_ ?_
  .intro r hr;refine zT A4 Tryz.func296 ?_;refine wd Hl [] A0 A0 ?_;have hk:=hr.ok (k:=3) rfl;refine An (fun k=>k=0) (fun k:Nat=>⟨[(0,.yl 3),(1,.ptr 2 0 1),(5,.qF (a::t)),(6,.pY ((a::t).length)),(7,.pY k)],[.c [.pY 0],.c [.pq false],.c [.qF (a::t)],.lp r],16⟩) (fun k=>0) 0 rfl ?_ (qG _) ?_
   .exact A1.ck rfl
   rintro k rfl;have ga:(a::t).getD 0 0=a:=rfl;refine wd Hl [] (A6 ga) A0 ?_;with_reducible repeat' first|constructor|intro hc;try simp only[AB]at hc
   refine Xy (x:=.pq false) (H':=[.c [.pY a],.c [.pq true],.c [.qF (a::t)],.lp (r.left .ret)]) (AZ hr rfl rfl rfl ?_) rfl rfl rfl rfl rfl ?_
   .refine wd Hm [] A0 A0 ?_;refine zR ?_;refine wd Hm [] A0 A0 ?_;exact⟨_,A1.refl _,qG _,rfl,rfl,rfl⟩
   .refine wd Hl [] A0 A0 ?_;exact⟨_,A1.refl _,qG _,_,_,rfl,rfl,rfl⟩
  .rintro r hr x H' rfl;refine .inr ⟨.ret,rfl,?_⟩;refine wd Hm [] A0 A0 ?_;refine⟨_,_,rfl,rfl,?_⟩;simp[H8,AP,Aj,AF,firstT]
def nv(f:Nat->Int)(d:Int)(x:Nat×(Nat->Int)):Prop:=x.1<=16/\∀i,x.2 i=if i<x.1 then(if f i=d then -1 else f i)else f i
theorem nv.at{f:Nat->Int}{d:Int}{h:Nat->Int}(hi:nv f d (k,h)):h k=f k:=by
 have:=hi.2 k;simpa using this
theorem dW(h:k<16):k=0\/k=1\/k=2\/k=3\/k=4\/k=5\/k=6\/k=7\/k=8\/k=9\/k=10\/k=11\/k=12\/k=13\/k=14\/k=15:=om
abbrev GI:List Nat:=[0,1,2,3,5,7,8,9,10,31]
def HI(id best b:Int):Int:=if b≠id/\(best<0\/Aa id b<Aa id best)then b else best
def L2(id:Int)(l:List Int):Int:=l.foldl (HI id) (-1)
def Sk(key out b:Int):Int:=if Aa key b<Aa key out then Cp b else out
def ou(key:Int):List Int->Int
 |[]=>0
 |a::l=>(a::l).foldl (Sk key) (Cp a)
theorem VK{α:Type}(g:α->Int->α)(s:α)(hp:l[k]? =some p):(l.take (k+1)).foldl g s=g ((l.take k).foldl g s) p:=by
 rw[AQ hp,List.foldl_append];rfl
theorem YM(v:View)(hb:v.base.length<=100000):qB 139 [v.d] (.i .i64 (L2 v.id v.base)):=by
 obtain⟨id,base,list,pred,f⟩:=v;replace hb:base.length<=100000:=hb;show Go.Gar.Fn _ _ _ (.i .i64 (L2 id base));refine zF A4 Tryz.func139 ?_;refine wd GI [] A0 A0 ?_;refine An (fun k=>k<=base.length) (fun k:Nat=>⟨[(1,.ptr 0 0 20),(3,.pY ((base.take k).foldl (HI id) (-1))),(7,.qF base),(8,.pY base.length),(9,.pY k)],[.c (vC id base list pred f)],35⟩) (fun k=>base.length-k) 0 (qP _) ?_ (qG _) ?_
 .exact A1.ck rfl
 intro k hk;unfold vC
 by_cases hkl:k<base.length
 .obtain⟨p,hp⟩:=AT hkl;have gp:=Cy hp;have hs:=VK (HI id) (-1) hp;generalize hB:(base.take k).foldl (HI id) (-1)=best at *;have c1:=H9 id p;have c2:=H9 id best
  by_cases h1:p=id
  .have f1:=BF h1;have hs':(base.take (k+1)).foldl (HI id) (-1)=best:=by rw[hs];simp[HI,h1]
   refine wd GI [] (AX gp f1) (AX @c1 @c2) ?_;with_reducible repeat' first|constructor|intro hc;try simp only[AB]at hc
   refine⟨k+1,hkl,om,qG _,?_⟩;exact(have nC:=hs';A1.cn rfl)
  have f1:=BJ h1
  by_cases h2:best<0
  .have f2:decide (best<0)=true:=qM h2;have hs':(base.take (k+1)).foldl (HI id) (-1)=p:=by rw[hs];simp[HI,h1,h2]
   refine wd GI [] (C3 gp f1 f2) (AX @c1 @c2) ?_;with_reducible repeat' first|constructor|intro hc;try simp only[AB]at hc
   refine⟨k+1,hkl,om,qG _,?_⟩;exact(have nC:=hs';A1.cn rfl)
  have f2:decide (best<0)=false:=qO h2
  by_cases h3:Aa id p<Aa id best
  .have f3:decide (Aa id p<Aa id best)=true:=qM h3;have hs':(base.take (k+1)).foldl (HI id) (-1)=p:=by rw[hs];simp[HI,h1,h3]
   refine wd GI [] (Kl gp f1 f2 f3) (AX @c1 @c2) ?_;with_reducible repeat' first|constructor|intro hc;try simp only[AB]at hc
   refine⟨k+1,hkl,om,qG _,?_⟩;exact(have nC:=hs';A1.cn rfl)
  .have f3:decide (Aa id p<Aa id best)=false:=qO h3;have hs':(base.take (k+1)).foldl (HI id) (-1)=best:=by rw[hs];simp[HI,h2,h3]
   refine wd GI [] (Kl gp f1 f2 f3) (AX @c1 @c2) ?_;with_reducible repeat' first|constructor|intro hc;try simp only[AB]at hc
   refine⟨k+1,hkl,om,qG _,?_⟩;exact(have nC:=hs';A1.cn rfl)
 .have e:k=base.length:=om
  subst e;rw[qx];refine wd GI [] A0 A0 ?_;with_reducible repeat' first|constructor|intro hc;try simp only[AB]at hc
  exact Ag @L2.eq_1
theorem Ux{best out b:Int}(hid:Ai id=true)(hb:Ai b=true)(h:(best= -1/\out=id)\/(best=out/\best≠id/\Ai best=true)):
  (HI id best b= -1/\Sk (id+1) out b=id)\/(HI id best b=Sk (id+1) out b/\HI id best b≠id/\Ai (HI id best b)=true):=by
 have h1:=HD hid;have h2:=HD hb;rcases h with⟨rfl,rfl⟩|⟨rfl,h3,h4⟩
 .by_cases e:b=out
  .subst e;left;refine⟨by simp[HI],?_⟩;simp[Sk]
  .right;have ea:HI out (-1) b=b:=by simp[HI,e]
   have eo:Sk (out+1) out b=b:=by
    unfold Sk;rw[if_pos (show Aa (out+1) b<Aa (out+1) out by unfold Aa;omega)];unfold Cp;omega
   rw[ea,eo];exact⟨rfl,e,hb⟩
 .have h5:=HD h4;right
  by_cases e:b=id
  .subst e;have ea:HI b best b=best:=by simp[HI]
   have eo:Sk (b+1) best b=best:=by
    unfold Sk;rw[if_neg (show ¬Aa (b+1) b<Aa (b+1) best by unfold Aa;omega)]
   rw[ea,eo];exact⟨rfl,h3,h4⟩
  .by_cases e2:Aa id b<Aa id best
   .have ea:HI id best b=b:=by simp[HI,e,e2]
    have eo:Sk (id+1) best b=b:=by
     unfold Sk;rw[if_pos (show Aa (id+1) b<Aa (id+1) best by unfold Aa at *;omega)];unfold Cp;omega
    rw[ea,eo];exact⟨rfl,e,hb⟩
   .have hn:¬best<0:=om
    have ea:HI id best b=best:=by simp[HI,e2,hn]
    have eo:Sk (id+1) best b=best:=by
     unfold Sk;rw[if_neg (show ¬Aa (id+1) b<Aa (id+1) best by unfold Aa at *;omega)]
    rw[ea,eo];exact⟨rfl,h3,h4⟩
theorem jk{id:Int}(hid:Ai id=true):∀(l:List Int)(best out:Int),(∀y∈l,Ai y=true)->((best= -1/\out=id)\/(best=out/\best≠id/\Ai best=true))->
  ((l.foldl (HI id) best= -1/\l.foldl (Sk (id+1)) out=id)\/(l.foldl (HI id) best=l.foldl (Sk (id+1)) out/\l.foldl (HI id) best≠id/\Ai (l.foldl (HI id) best)=true))
 |[],best,out,_,h=>h
 |b::l,best,out,hl,h=>by
  simp only[tV];exact jk hid l _ _ (fun y hy=>hl y (sZ _ hy)) (Ux hid (hl b (sQ ..)) h)
theorem jj{id:Int}(hid:Ai id=true):∀(l:List Int)(best:Int),(∀y∈l,Ai y=true)->best≠ -1->l.foldl (HI id) best≠ -1
 |[],best,_,h=>h
 |b::l,best,hl,h=>by
  simp only[tV];refine jj hid l _ (fun y hy=>hl y (sZ _ hy)) ?_;have:=HD (hl b (sQ ..));unfold HI;split<;>omega
theorem Wo{id:Int}(hid:Ai id=true):∀(l:List Int)(best:Int),(∀y∈l,Ai y=true)->(∃y∈l,y≠id)->l.foldl (HI id) best≠ -1
 |[],best,_,⟨y,hy,_⟩=>by cases hy
 |b::l,best,hl,⟨y,hy,hne⟩=>by
  simp only[tV];have hb:=HD (hl b (sQ ..))
  by_cases e:b=id
  .rcases sG.mp hy with rfl|hy
   .exact absurd e hne
   .exact Wo hid l _ (fun y hy=>hl y (sZ _ hy)) ⟨y,hy,hne⟩
  .refine jj hid l _ (fun y hy=>hl y (sZ _ hy)) ?_;unfold HI;split
   .omega
   .intro h;rename_i h1;exact h1 ⟨e,.inl om⟩
theorem Qz:∀(l:List Int)(f:Int),bT f l=true->∀y∈l,Ai y=true/\y>f
 |[],f,_,y,hy=>by cases hy
 |a::r,f,h,y,hy=>by
  simp only[bT,qH,qJ]at h;rcases sG.mp hy with rfl|hy
  .exact h.1
  .have:=Qz r a h.2 y hy;exact⟨this.1,om⟩
theorem Zl(h:Bl l=true):∀y∈l,Ai y=true:=by
 simp only[Bl,qH]at h;exact fun y hy=>(Qz l _ h.2 y hy).1
theorem Vw(h:Bl l=true)(id:Int):∃y∈l,y≠id:=by
 simp only[Bl,qH,qJ]at h
 match l,h with
 |a::b::r,h=>
  have h1:=Qz _ _ h.2
  have h2:bT a (b::r)=true:=by
   have:=h.2;simp only[bT,qH]at this|-;exact this.2
  have h3:=(Qz _ _ h2 b (sQ ..)).2
  by_cases e:a=id
  .exact⟨b,sm,om⟩
  .exact⟨a,sm,e⟩
 |[a],h=>exact absurd h.1.1 (show ¬2<=1 by decide)
 |[],h=>exact absurd h.1.1 (by decide)
theorem T7(hid:Ai id=true)(h:Bl l=true):L2 id l=ou (id+1) l/\Ai (L2 id l)=true/\L2 id l≠id:=by
 have hp:=Zl h;have hs:=Wo hid l (-1) hp (Vw h id)
 match l with
 |[]=>exact absurd rfl hs
 |a::r=>
  have ha:=HD (hp a (sQ ..));have e:Cp a=a:=by unfold Cp;omega
  have h0:Sk (id+1) a a=a:=by simp[Sk,e]
  have hS:ou (id+1) (a::r)=r.foldl (Sk (id+1)) a:=by
   show(a::r).foldl (Sk (id+1)) (Cp a)=_;rw[e,tV,h0]
  have hA:L2 id (a::r)=r.foldl (HI id) (HI id (-1) a):=rfl;rw[hS,hA]
  have hR:(HI id (-1) a= -1/\a=id)\/(HI id (-1) a=a/\HI id (-1) a≠id/\Ai (HI id (-1) a)=true):=by
   by_cases e2:a=id
   .left;exact⟨by simp[HI,e2],e2⟩
   .right;have e3:HI id (-1) a=a:=by simp[HI,e2]
    rw[e3];exact⟨rfl,e2,hp a (sQ ..)⟩
  rcases jk hid r _ _ (fun y hy=>hp y (sZ _ hy)) hR with h1|h1
  .exact absurd h1.1 hs
  .exact⟨h1.1,h1.2.2,h1.2.1⟩
def pV(a:Int):List Int->Int
 |[]=>a
 |b::_=>b
def KR(v:View):Int:=if AS v then pV (L2 v.id v.base) v.list else -1
theorem Eb{v:View}(h:AS v=true):Ai v.id=true/\Bl v.base=true/\BY v.id v.list=true/\Ei v.id v.pred=true/\(DR v.f).all (Ei v.id)=true:=by
 simp only[AS,qH]at h;exact⟨h.1.1.1,h.1.1.2,h.1.2,h.2.1,h.2.2⟩
theorem Qg(v:View)(hb:v.base.length<=1000)(hl:v.list.length<=1000):qB 53 [v.d] (.i .i64 (KR v)):=by
 obtain⟨id,base,list,pred,f⟩:=v;have c1:=Bg ⟨id,base,list,pred,f⟩ hb hl;have c2:=YM ⟨id,base,list,pred,f⟩ om;have c3:=aW list (by have:list.length<=1000:=hl;omega);refine zF A4 Tryz.func53 ?_
 cases h:AS ⟨id,base,list,pred,f⟩with
 |false=>
  have hT:KR ⟨id,base,list,pred,f⟩= -1:=by unfold KR;rw[h];rfl
  rw[h]at c1;refine wd [0,1,2,3,4,7,14] [] A0 (A6 @c1) ?_;exact Ag hT
 |true=>
  have hT:KR ⟨id,base,list,pred,f⟩=pV (L2 id base) list:=by unfold KR;rw[h];rfl
  rw[h]at c1;rw[hT]
  cases list with
  |nil=>
   refine wd [0,1,2,3,4,7,14] [] A0 (C3 @c1 @c2 @c3) ?_;exact Ag @pV.eq_1
  |cons a t=>
   refine wd [0,1,2,3,4,7,14] [] A0 (C3 @c1 @c2 @c3) ?_;refine⟨_,_,rfl,rfl,?_⟩;simp[H8,AP,Aj,AF,pV,firstT]
end Go.Proofs.YtkljbfejbakooaaGreatDoor
namespace Go.Proofs.YtkljbfejbakooaaGreatDoor
namespace Nd
open Go.Gar
open Wi (A2 B5)
structure Call where
 id:Int
 msg:A2
 why:Int
 ref:Int
 sent:Int
 tries:Int
def Call.cells(x:Call):List D:=[.i .i64 x.id,.i .u8 x.msg.kind,.i .i64 x.msg.call,.i .i64 x.msg.src,.i .i64 x.msg.dst,.i .i64 x.msg.key,.b x.msg.slow,.b x.msg.done,.i .i64 x.msg.place,.i .i64 x.msg.pred,.is x.msg.list,.s x.msg.item.key,.i .i64 x.msg.item.value,.i .i64 x.msg.item.version,.b x.msg.item.gone,.i .i64 x.msg.code,.i .u8 x.why,.i .i64 x.ref,.i .i64 x.sent,.i .i64 x.tries]
def Call.d(x:Call):D:=.agg x.cells
structure Calls where
 id:Int
 many:Int
 op:List Call
abbrev AN(l:List Call):D:=.sl 20 (l.map Call.cells)
def Calls.cells(c:Calls):List D:=[.i .i64 c.id,.i .i64 c.many,AN c.op]
def Calls.d(c:Calls):D:=.agg c.cells
structure Past where
 src:Int
 call:Int
 told:A2
def Past.cells(p:Past):List D:=[.i .i64 p.src,.i .i64 p.call,.i .u8 p.told.kind,.i .i64 p.told.call,.i .i64 p.told.src,.i .i64 p.told.dst,.i .i64 p.told.key,.b p.told.slow,.b p.told.done,.i .i64 p.told.place,.i .i64 p.told.pred,.is p.told.list,.s p.told.item.key,.i .i64 p.told.item.value,.i .i64 p.told.item.version,.b p.told.item.gone,.i .i64 p.told.code]
def Past.d(p:Past):D:=.agg p.cells
abbrev AH(l:List Past):D:=.sl 17 (l.map Past.cells)
structure Look where
 key:Int
 at_:Int
 hops:Int
 slow:Bool
 found:Bool
 code:Int
structure Job where
 what:Int
 phase:Int
 look:Look
 item:Item
 owner:Int
 left:List Int
 code:Int
def Job.cells(j:Job):List D:=[.i .u8 j.what,.i .u8 j.phase,.i .i64 j.look.key,.i .i64 j.look.at_,.i .i64 j.look.hops,.b j.look.slow,.b j.look.found,.i .i64 j.look.code,.s j.item.key,.i .i64 j.item.value,.i .i64 j.item.version,.b j.item.gone,.i .i64 j.owner,.is j.left,.i .i64 j.code]
def Job.d(j:Job):D:=.agg j.cells
structure Node where
 view:View
 clock:Int
 calls:Calls
 seen:List Past
 phase:Int
 of_:Int
 finger:Job
 mirror:Job
 client:Job
 next:Int
 last:List UInt8
 keep:List Item
 bad:Int
def Node.cells(n:Node):List D:=n.view.cells++(.i .i64 n.clock::(n.calls.cells++(AH n.seen:: .i .u8 n.phase:: .i .i64 n.of_::(n.finger.cells++(n.mirror.cells++(n.client.cells++[.i .i64 n.next,.s n.last,Ab n.keep,.i .i64 n.bad]))))))
def Node.d(n:Node):D:=.agg n.cells
structure ff where
 nodes:List Node
 gone:List Int
 base:List Int
 grams:List (List D)
 lost:Int
abbrev mK(l:List Node):D:=.sl 76 (l.map Node.cells)
def ff.cells(c:ff):List D:=[mK c.nodes,.is c.gone,.is c.base,.sl 3 c.grams,.i .i64 c.lost]
def ff.d(c:ff):D:=.agg c.cells
def Gz(n:Int):Bool:=decide (0<=n)&&decide (n<=1099511627776)
theorem ee(n:Int):qB 77 [.i .i64 n] (.b (Gz n)):=by
 refine zF A4 Tryz.func77 ?_;refine wd [0,2] [] A0 A0 ?_;with_reducible repeat' first|constructor|intro hc;try simp only[AB]at hc
 all_goals(refine⟨_,_,rfl,rfl,?_⟩;simp[Bb,Gz, *];try omega)
theorem QC(n:Int):qB 231 [.i .i64 n] (.b (Gz n)):=by
 refine zF A4 Tryz.func231 ?_;refine wd [0,2] [] A0 A0 ?_;with_reducible repeat' first|constructor|intro hc;try simp only[AB]at hc
 all_goals(refine⟨_,_,rfl,rfl,?_⟩;simp[Bb,Gz, *];try omega)
def D6(phase of_:Int):Bool:=if phase=0 then decide (of_=0)else decide (phase<=3)&&B5 of_
theorem ec(phase of_:Int):qB 34 [.agg [.i .u8 phase,.i .i64 of_]] (.b (D6 phase of_)):=by
 refine zF A4 Tryz.func34 ?_;refine wd [0,1,2,5] [] A0 A0 ?_;with_reducible repeat' first|constructor|intro hc;try simp only[AB]at hc
 all_goals(refine⟨_,_,rfl,rfl,?_⟩;simp[Bb,D6,B5,Dg, *];try omega)
theorem Y1(phase of_:Int):qB 97 [.agg [.i .u8 phase,.i .i64 of_]] (.b (D6 phase of_)):=by
 refine zF A4 Tryz.func97 ?_;refine wd [0,1,2,5] [] A0 A0 ?_;with_reducible repeat' first|constructor|intro hc;try simp only[AB]at hc
 all_goals(refine⟨_,_,rfl,rfl,?_⟩;simp[Bb,D6,B5,Dg, *];try omega)
def Pz(id n:Int):Int×Int:=if B5 id=true/\1<=n/\n<=1048576 then(id*1048576+n,0)else(0,2)
theorem WO(id n:Int):qB 54 [.i .i64 id,.i .i64 n] (.tup [.i .i64 (Pz id n).1,.i .i64 (Pz id n).2]):=by
 have h1:=Wi.MX id;have hb:B5 id=true->0<=id/\id<65536:=Wi.E3;refine zF A4 Tryz.func54 ?_
 cases h:B5 id with
 |false=>
  rw[h]at h1;refine wd [0,1,4,5,16] [] A0 (A6 @h1) ?_ [] true
  all_goals(refine⟨_,_,rfl,rfl,?_⟩;simp[Fj,C5,Ca,Bn,Pz,h])
 |true=>
  rw[h]at h1;have hb':=hb h;refine wd [0,1,4,5,16] [] A0 (A6 @h1) ?_ [] true;with_reducible repeat' first|constructor|intro hc;try simp only[AB]at hc
  all_goals(refine⟨_,_,rfl,rfl,?_⟩;simp only[Fj,C5,Ca,Bn,Pz,h,true_and,and_true];split<;>simp<;>omega)
abbrev Jw:List Nat:=[0,1,2,3,5,29,31,32,33,34,46]
abbrev IX:Call:=⟨0,Wi.A5,0,0,0,0⟩
def ET(id many:Int)(x:Call):Bool:=x.msg.right&&(x.msg.asks&&(decide (x.msg.src=id)&&(decide (x.id=x.msg.call)&&(decide (x.id<=id*1048576+many)&&(decide (1<=x.tries)&&(decide (x.tries<=3)&&Gz x.sent))))))
def HQ(c:Calls)(k:Nat):Bool:=ET c.id c.many (c.op.getD k IX)&&decide (k=0\/(c.op.getD (k-1) IX).id<(c.op.getD k IX).id)
def N4(c:Calls):Bool:=B5 c.id&&(decide (0<=c.many)&&(decide (c.many<=1048576)&&decide (c.op.length<=16)))
def BG(c:Calls):Bool:=N4 c&&FU c.op.length (HQ c)
def AD(m:A2):Prop:=m.list.length<=1048576
theorem lm{m:A2}(h:AD m):m.list.length<9223372036854775807:=by unfold AD at h;omega
theorem PE{m:A2}(h:m.right=true)(ha:m.asks=true):m.src*1048576+1<=m.call/\m.call<m.src*1048576+1+1048576/\B5 m.src=true:=by
 unfold A2.right A2.I1 at h;simp only[qH,qJ]at h;obtain⟨⟨⟨⟨⟨⟨⟨_,_⟩,h1⟩,_⟩,_⟩,h2⟩,h3⟩,_⟩:=h;unfold A2.asker at h2 h3;rw[if_pos ha]at h2 h3;exact⟨h2,h3,h1⟩
theorem getD_at{α:Type}{l:List α}{k:Nat}{x d:α}(hx:l[k]? =some x):l.getD k d=x:=by rw[qW,hx];rfl
theorem MR(id many:Int)(op:List Call)(x:Call)(hi:B5 id=true)(hm:0<=many/\many<=1048576)(hl:AD x.msg):qB 163 [Calls.d ⟨id,many,op⟩,x.d] (.b (ET id many x)):=by
 have hb:=Wi.E3 hi;have c1:=WO id 1;rw[show Pz id 1=(id*1048576+1,0)from if_pos ⟨hi,om,om⟩]at c1;have c2:=Wi.FK x.msg;have c3:=Wi.BV x.msg (lm hl);have c4:=QC x.sent;have hR:=@PE x.msg;have hT:ET id many x=(x.msg.right&&(x.msg.asks&&(decide (x.msg.src=id)&&(decide (x.id=x.msg.call)&&(decide (x.id<=id*1048576+many)&&(decide (1<=x.tries)&&(decide (x.tries<=3)&&Gz x.sent))))))):=rfl;generalize ET id many x=R at *;unfold Call.d Call.cells Calls.d Calls.cells;unfold A2.d A2.cells at c2 c3;generalize x.msg.right=rr at *;generalize x.msg.asks=aa at *;generalize Gz x.sent=tt at *;obtain⟨xid,⟨k,c,s,d,ky,sl,dn,pl,pr,l,⟨ik,iv,ir,ig⟩,co⟩,wh,rf,se,tr⟩:=x;simp only at *;refine zF A4 Tryz.func163 ?_;refine wd [0,1,2,3,4,5,6,29] [] A0 (Kl @c1 @c2 @c3 @c4) ?_;with_reducible repeat' first|constructor|intro hc;try simp only[AB]at hc
 all_goals(clear c1 c2 c3 c4;refine⟨_,_,rfl,rfl,?_⟩;simp only[Bn];refine congrArg D.b ?_;rw[hT];clear hT;grind)
theorem ON(c:Calls)(hl:∀x∈c.op,AD x.msg):qB 95 [c.d] (.b (BG c)):=by
 obtain⟨id,many,op⟩:=c;replace hl:∀x∈op,AD x.msg:=hl;refine zF A4 Tryz.func95 ?_;unfold Calls.d Calls.cells
 cases hh:N4 ⟨id,many,op⟩with
 |false=>
  have hT:BG ⟨id,many,op⟩=false:=by unfold BG;rw[hh];rfl
  refine wd Jw [] A0 A0 ?_ [] true;with_reducible repeat' first|constructor|intro hc;try simp only[AB]at hc
  all_goals first
   |(refine⟨_,_,rfl,rfl,?_⟩;simp only[Bn];rw[hT];done)
   |(exfalso;simp[N4,B5]at hh;omega)
 |true=>
 have hT:BG ⟨id,many,op⟩=FU op.length (HQ ⟨id,many,op⟩):=by unfold BG;rw[hh];rfl
 simp only[N4,B5,qH,qJ]at hh;obtain⟨⟨h1,h2⟩,h3,h4,h5⟩:=hh;have hp:B5 id=true:=Wi.ip.2 ⟨h1,h2⟩;have f1:decide (id<0)=false:=qO om;have f2:decide (id>=65536)=false:=qO om;have f3:decide (many<0)=false:=qO om;have f4:decide (many>1048576)=false:=qO om;have f5:decide ((op.length:Int)>16)=false:=qO om;refine wd Jw [] (NU f1 f2 f3 f4 f5) A0 ?_ [] true;refine CF (fun k=>k<=op.length/\FU k (HQ ⟨id,many,op⟩)=true) (fun k:Nat=>[(33,.pY k),(3,.pY (if k=0 then 0 else(op.getD (k-1) IX).id))]) (fun k=>op.length-k) 0 ⟨qP _,rfl⟩ (fun _=>rfl) ?_ ?_
 .exact A1.ck rfl
 rintro k ⟨hk,hpre⟩
 by_cases hkl:k<op.length
 .obtain⟨x,hx⟩:=AT hkl;have gx:op.getD k IX=x:=getD_at hx;have c1:=MR id many op x hp ⟨h3,h4⟩ (hl x (rE hx));have hK:HQ ⟨id,many,op⟩ k=(ET id many x&&decide (k=0\/(op.getD (k-1) IX).id<x.id)):=by unfold HQ;rw[gx]
  have hpos:ET id many x=true->1<=x.id:=by
   intro h;simp only[ET,qH,qJ]at h;have:=PE h.1 h.2.1;have:=Wi.E3 this.2.2;omega
  generalize hlast:(op.getD (k-1) IX).id=la at *;generalize ET id many x=ok at *;unfold Calls.d Calls.cells Call.d Call.cells at c1;have hix:=DT (f:=Call.cells) hx;unfold Call.cells at hix;have ix1:=hx;refine wd Jw [] A0 (A6 @c1) ?_ [] true;clear ix1;with_reducible repeat' first|constructor|intro hc;try simp only[AB]at hc
  all_goals first
   |(refine⟨k+1,⟨hkl,ED hpre (by rw[hK];grind)⟩,om,qG _,?_⟩
     exact(have nC:=gx;A1.co rfl))
   |(refine⟨_,_,rfl,rfl,?_⟩;simp only[Bn];rw[hT,GM hkl (by rw[hK];grind)])
 .have e:k=op.length:=om
  subst e;rw[hpre]at hT;refine wd Jw [] A0 A0 ?_ [] true;with_reducible repeat' first|constructor|intro hc;try simp only[AB]at hc
  exact Ag hT
end Nd
end Go.Proofs.YtkljbfejbakooaaGreatDoor
namespace Go.Proofs.YtkljbfejbakooaaGreatDoor
namespace Nd
open Go.Gar Go.Sort
open Wi (A2 B5 AU)
abbrev EJ:List Nat:=[0,1,2,3,4,7,9,10,11,29]
abbrev Jx:List Nat:=[0,1,3,4,5,6,7,8,16]
def EX(l:List Item)(k:Nat):Bool:=AU (l.getD k AA)&&decide (k=0\/(l.getD (k-1) AA).key<(l.getD k AA).key)
def Bo(l:List Item):Bool:=decide (l.length<=24)&&FU l.length (EX l)
theorem lV(a b:List UInt8):(!(Op.bytesLess a b))=(Op.bytesLess b a||b==a):=by
 rw[bytesLess_eq,bytesLess_eq,Dg,Bool.eq_iff_iff];simp only[uG,uJ,rO,qJ];constructor
 .intro h
  by_cases e:b=a
  .exact .inr e
  .left
   by_cases h2:b<a
   .exact h2
   .exact absurd (List.le_antisymm (List.not_lt.1 h) (List.not_lt.1 h2)) e
 .rintro(h|rfl)
  .exact List.lt_asymm h
  .exact List.lt_irrefl _
theorem eW(l:List Item)(hn:l.length<=9223372036854775807):qB 35 [Ab l] (.b (Bo l)):=by
 refine zF A4 Tryz.func35 ?_;have hT:Bo l=(decide (l.length<=24)&&FU l.length (EX l)):=rfl;refine wd [0,2,3,7,33] [] A0 A0 ?_;refine CF (fun k=>k<=l.length/\FU k (EX l)=true) (fun k:Nat=>[(3,.pY k)]) (fun k=>l.length-k) 0 ⟨qP _,rfl⟩ (fun _=>rfl) ?_ ?_
 .exact A1.ck rfl
 rintro k ⟨hk,hpre⟩
 by_cases hkl:k<l.length
 .obtain⟨x,hx⟩:=AT hkl;have gx:l.getD k AA=x:=getD_at hx;have c1:=Wi.P8 x;have hK:EX l k=(AU x&&decide (k=0\/(l.getD (k-1) AA).key<x.key)):=by unfold EX;rw[gx]
  unfold Item.d Item.cells at c1;generalize AU x=ok at*
  by_cases h0:k=0
  .have f6:decide ((k:Int)>0)=false:=qO om;have ix1:=hx;refine wd [0,2,3,7,33] [] (A6 f6) (A6 @c1) ?_;clear ix1;with_reducible repeat' first|constructor|intro hc;try simp only[AB]at hc
   all_goals clear c1
   all_goals first
    |(refine⟨k+1,⟨hkl,ED hpre (by rw[hK];grind)⟩,om,qG _,?_⟩
      exact A1.ck rfl)
    |(refine⟨_,_,rfl,rfl,?_⟩;simp only[Bn];rw[hT,GM hkl (by rw[hK];grind),uI])
  .have f6:decide ((k:Int)>0)=true:=qM om;have e1:(k:Int)-1=((k-1:Nat):Int):=om
   obtain⟨y,hy⟩:=AT (xs:=l) (k:=k-1) om;have gy:l.getD (k-1) AA=y:=getD_at hy;rw[gy]at hK
   have hs:decide (k=0\/y.key<x.key)= !(Op.bytesLess x.key y.key||x.key==y.key):=by
    rw[<-lV,bytesLess_eq,Bool.not_not];simp[h0]
   rw[hs]at hK;obtain⟨q,hq⟩:∃q,(Op.bytesLess x.key y.key||x.key==y.key)=q:=⟨_,rfl⟩;rw[hq]at hK;have ix1:=hx;have ix2:=hy;refine wd [0,2,3,7,33] [] (C3 f6 e1 hq) (A6 @c1) ?_;clear ix2 ix1;with_reducible repeat' first|constructor|intro hc;try simp only[AB]at hc
   all_goals clear c1
   all_goals first
    |(refine⟨k+1,⟨hkl,ED hpre (by rw[hK];grind)⟩,om,qG _,?_⟩
      exact A1.ck rfl)
    |(refine⟨_,_,rfl,rfl,?_⟩;simp only[Bn];rw[hT,GM hkl (by rw[hK];grind),uI])
 .have e:k=l.length:=om
  subst e;rw[hpre]at hT;refine wd [0,2,3,7,33] [] A0 A0 ?_;with_reducible repeat' first|constructor|intro hc;try simp only[AB]at hc
  all_goals(refine⟨_,_,rfl,rfl,?_⟩;simp only[Bn];rw[hT];simp;try omega)
theorem Tw(l:List Item):qC 157 [.d (Ab l)] [] (.fn (.func 235) [] [.ptr 0 0 1]) [.c [.d (Ab l)]]:=by
 refine zD A4 Tryz.func157 ?_;refine wd [0,1,2] [] A0 A0 ?_;exact⟨_,(A1.ck rfl),qP _,_,_,rfl,rfl,rfl,rfl⟩
theorem Ri(l:List Item)(hn:l.length<=9223372036854775807):qB 99 [Ab l] (.b (Bo l)):=by
 refine zF A4 Tryz.func99 ?_
 by_cases h24:l.length>24
 .have f1:decide ((l.length:Int)>24)=true:=qM om;have hT:Bo l=false:=by unfold Bo;rw[qO om];rfl
  refine wd EJ [] (A6 f1) A0 ?_;exact Ag hT
 have f1:decide ((l.length:Int)>24)=false:=qO om;have hT:Bo l=FU l.length (EX l):=by unfold Bo;rw[qM om];rfl
 have d1:=Ds.mk [] (Tw l);refine wd EJ [] (A6 f1) A0 ?_;clear d1
 refine zG (K:=fun r _ H'=>(FU l.length (EX l)=true/\H'=[.c [.d (Ab l)],.c [.pq false],.c [.d (Ab l)],.lp r])\/
  (FU l.length (EX l)=false/\H'=[.c [.d (Ab l)],.c [.pq false],.c [.d (Ab l)],.lp (r.left .ret)])) ?_ ?_
 .intro r hr;refine zT A4 Tryz.func235 ?_;refine wd Jx [] A0 A0 ?_;have hk:=hr.ok (k:=3) rfl;refine CF (fun k=>k<=l.length/\FU k (EX l)=true) (fun k:Nat=>[(7,.pY k)]) (fun k=>l.length-k) 0 ⟨qP _,rfl⟩ (fun _=>rfl) ?_ ?_
  .exact A1.ck rfl
  rintro k ⟨hkk,hpre⟩
  by_cases hkl:k<l.length
  .obtain⟨x,hx⟩:=AT hkl;have gx:l.getD k AA=x:=getD_at hx;have c1:=Wi.NV x;have hK:EX l k=(AU x&&decide (k=0\/(l.getD (k-1) AA).key<x.key)):=by unfold EX;rw[gx]
   unfold Item.d Item.cells at c1
   have hY:YT Tryz.prog 3 [.pY k,.d (.agg [.s x.key,.i .i64 x.value,.i .i64 x.version,.b x.gone])] [.c [.d (Ab l)],.c [.pq false],.c [.d (Ab l)],.lp r,.c [.qE x.key,.pY x.value,.pY x.version,.pq x.gone]] fun v K=>v= .pq (EX l k)/\K=if EX l k then[.c [.d (Ab l)],.c [.pq false],.c [.d (Ab l)],.lp r,.c [.qE x.key,.pY x.value,.pY x.version,.pq x.gone]]else[.c [.d (Ab l)],.c [.pq false],.c [.d (Ab l)],.lp (r.left .ret),.c [.qE x.key,.pY x.value,.pY x.version,.pq x.gone]]:=by
    refine AZ hr rfl rfl rfl ?_
    by_cases h0:k=0
    .have f6:decide ((k:Int)>0)=false:=qO om;have hK':EX l k=AU x:=by rw[hK];simp[h0]
     rw[hK'];refine wd EJ [] A0 A0 ?_;refine zR ?_;refine wd EJ [] (A6 f6) (A6 @c1) ?_;with_reducible repeat' first|constructor|intro hc;try simp only[AB]at hc
     .simp only[hc];exact⟨⟨[],[.c [.d (Ab l)],.c [.pq false],.c [.d (Ab l)],.lp r.busy,.c [.qE x.key,.pY x.value,.pY x.version,.pq x.gone]],_⟩,(A1.ck rfl),qG _,rfl,rfl,rfl⟩
     .simp only[hc];exact⟨⟨[],[.c [.d (Ab l)],.c [.pq false],.c [.d (Ab l)],.lp r.busy,.c [.qE x.key,.pY x.value,.pY x.version,.pq x.gone]],_⟩,(A1.ck rfl),qG _,rfl,rfl,rfl⟩
    .have f6:decide ((k:Int)>0)=true:=qM om;have e1:(k:Int)-1=((k-1:Nat):Int):=om
     obtain⟨y,hy⟩:=AT (xs:=l) (k:=k-1) om;have gy:l.getD (k-1) AA=y:=getD_at hy;rw[gy]at hK;obtain⟨q,hq⟩:∃q,Op.bytesLess y.key x.key=q:=⟨_,rfl⟩;have hK':EX l k=(AU x&&q):=by rw[hK,<-hq,bytesLess_eq];simp[h0]
     rw[hK'];refine wd EJ [] A0 A0 ?_;refine zR ?_;have ix1:=hy;refine wd EJ [] (C3 f6 e1 hq) (A6 @c1) ?_;clear ix1;with_reducible repeat' first|constructor|intro hc;try simp only[AB]at hc
     all_goals first
      |(rw[show(AU x&&q)=true by grind];exact⟨⟨[],[.c [.d (Ab l)],.c [.d (.b false)],.c [.d (Ab l)],.lp r.busy,.c [.d (.s x.key),.d (.i .i64 x.value),.d (.i .i64 x.version),.d (.b x.gone)]],_⟩,(A1.ck rfl),qG _,rfl,rfl,rfl⟩)
      |(rw[show(AU x&&q)=false by grind];exact⟨⟨[],[.c [.d (Ab l)],.c [.d (.b false)],.c [.d (Ab l)],.lp r.busy,.c [.d (.s x.key),.d (.i .i64 x.value),.d (.i .i64 x.version),.d (.b x.gone)]],_⟩,(A1.ck rfl),qG _,rfl,rfl,rfl⟩)
   cases hb:EX l k with
   |true=>
    rw[hb]at hY;have ix1:=hx;have q1:=@hY;refine wd Jx [] A0 A0 ?_;clear q1 ix1;with_reducible repeat' first|constructor|intro hc;try simp only[AB]at hc
    refine⟨k+1,⟨hkl,ED hpre hb⟩,om,qG _,?_⟩;exact A1.ck rfl
   |false=>
    rw[hb]at hY;have ix1:=hx;have q1:=@hY;refine wd Jx [] A0 A0 ?_;clear q1 ix1;with_reducible repeat' first|constructor|intro hc;try simp only[AB]at hc
    exact⟨⟨[],[.c [.d (Ab l)],.c [.pq false],.c [.d (Ab l)],.lp (r.left .ret)],_⟩,(A1.ck rfl),qG _,_,_,rfl,rfl,.inr ⟨GM hkl hb,rfl⟩⟩
  .have e:k=l.length:=om
   subst e;refine wd Jx [] A0 A0 ?_;with_reducible repeat' first|constructor|intro hc;try simp only[AB]at hc
   exact⟨_,A1.refl _,qG _,_,_,rfl,rfl,.inl ⟨hpre,rfl⟩⟩
 .rintro r hr y H' (⟨h,rfl⟩|⟨h,rfl⟩)
  .refine .inl ⟨rfl,?_⟩;rw[h]at hT;refine wd EJ [] A0 A0 ?_;exact Ag hT
  .refine .inr ⟨.ret,rfl,?_⟩;rw[h]at hT;refine wd EJ [] A0 A0 ?_;exact Ag hT
end Nd
end Go.Proofs.YtkljbfejbakooaaGreatDoor
namespace Go.Proofs.YtkljbfejbakooaaGreatDoor
namespace Nd
open Go.Gar
open Wi (A2 B5 AU)
abbrev Jy:List Nat:=[0,1,2,6,7,8,12,30]
abbrev NF:Past:=⟨0,0,Wi.A5⟩
def JX(s c:Int)(p:Past):Bool:=decide (p.src=s)&&decide (p.call=c)
def Ke(p:Past):Bool:=p.told.right&&(!p.told.asks&&(decide (p.told.dst=p.src)&&decide (p.told.call=p.call)))
def E2(l:List Past)(k:Nat):Bool:=Ke (l.getD k NF)&& !((l.take k).any (JX (l.getD k NF).src (l.getD k NF).call))
def Ec(l:List Past):Bool:=decide (l.length<=40)&&FU l.length (E2 l)
theorem Ua(m:A2)(h:AD m):qB 146 [m.d] m.d:=by
 obtain⟨k,c,s,d,ky,sl,dn,pl,pr,l,⟨ik,iv,ir,ig⟩,co⟩:=m;replace h:l.length<=1048576:=h;refine zF A4 Tryz.func146 ?_;unfold A2.d A2.cells;refine wd [0,1,2] [] A0 A0 ?_;exact zE
theorem mg(m:A2)(h:AD m):qB 78 [m.d] (.tup [(if m.right&& !m.asks then Past.d ⟨m.dst,m.call,m⟩else NF.d),.i .i64 (if m.right&& !m.asks then 0 else 2)]):=by
 have c1:=Wi.Jh m (lm h);have c2:=Wi.Ld m;have c3:=Ua m h;unfold Past.d Past.cells;unfold A2.d A2.cells at *;generalize m.right=rr at *;generalize m.asks=aa at *;obtain⟨k,c,s,d,ky,sl,dn,pl,pr,l,⟨ik,iv,ir,ig⟩,co⟩:=m;refine zF A4 Tryz.func78 ?_;simp only at *;cases rr<;>cases aa
 all_goals
  refine wd [0,1,2,3,10] [] A0 (C3 @c1 @c2 @c3) ?_;refine⟨_,_,rfl,rfl,?_⟩;simp[H8,AP,Aj,AF,Wi.A5,AA]
variable {k:Nat}
theorem GN{α:Type}{p:α->Bool}{l:List α}{x:α}(hx:l[k]? =some x):(l.take (k+1)).any p=((l.take k).any p||p x):=by
 rw[AQ hx,List.any_append];simp
theorem Wq{α:Type}{p:α->Bool}{l:List α}{x:α}(hx:l[k]? =some x)(h:p x=true):l.any p=true:=List.any_eq_true.2 ⟨x,rE hx,h⟩
def Q8(l:List Past)(s c:Int):A2:=match l.find? (JX s c)with
 |some p=>p.told
 |none=>Wi.A5
theorem cU{l:List Past}{s c:Int}{x:Past}(hx:l[k]? =some x)(h:JX s c x=true)(hn:(l.take k).any (JX s c)=false):Q8 l s c=x.told:=by
 have e:l=l.take k++x::l.drop (k+1):=by
  have hk:=(qN.1 hx).1;have hv:=(qN.1 hx).2;rw[<-hv,<-uQ hk,rX]
 unfold Q8;rw[e,List.find?_append]
 have:(l.take k).find? (JX s c)=none:=by
  rw[List.find?_eq_none];intro y hy;rw[uF]at hn;simpa using hn y hy
 rw[this];simp[List.find?_cons,h]
theorem Zd(l:List Past)(s c:Int)(hl:∀x∈l,AD x.told)(hn:l.length<=9223372036854775807):qB 79 [AH l,.i .i64 s,.i .i64 c] (.tup [(Q8 l s c).d,.b (l.any (JX s c))]):=by
 refine zF A4 Tryz.func79 ?_;refine wd Jy [] A0 A0 ?_;refine CF (fun k=>k<=l.length/\(l.take k).any (JX s c)=false) (fun k:Nat=>[(8,.pY k)]) (fun k=>l.length-k) 0 ⟨qP _,rfl⟩ (fun _=>rfl) ?_ ?_
 .exact A1.ck rfl
 rintro k ⟨hk,hpre⟩
 by_cases hkl:k<l.length
 .obtain⟨x,hx⟩:=AT hkl;have c1:=Ua x.told (hl x (rE hx));have hA:=GN (p:=JX s c) hx;rw[hpre,su]at hA;unfold A2.d A2.cells at c1
  cases hi:JX s c x with
  |true=>
   have h1:x.src=s/\x.call=c:=by simpa[JX]using hi
   have f1:(x.src==s)=true:=by simp[h1.1]
   have f2:(x.call==c)=true:=by simp[h1.2]
   have hF:=cU hx hi hpre;have hT:=Wq hx hi;have ix1:=hx;refine wd Jy [] (AX f1 f2) (A6 @c1) ?_;clear ix1;with_reducible repeat' first|constructor|intro hc;try simp only[AB]at hc
   all_goals(clear c1;refine⟨_,_,rfl,rfl,?_⟩;rw[hT,hF];simp[Fj,C5,Ca,Bn,MC,A2.d,A2.cells])
  |false=>
   have h1:¬(x.src=s/\x.call=c):=by simpa[JX]using hi
   have ix1:=hx;refine wd Jy [] A0 (A6 @c1) ?_;clear ix1;with_reducible repeat' first|constructor|intro hc;try simp only[AB]at hc
   all_goals first
    |(exfalso;exact h1 ⟨by assumption,by assumption⟩)
    |(refine⟨k+1,⟨hkl,by rw[hA,hi]⟩,om,qG _,?_⟩
      exact A1.ck rfl)
 .have e:k=l.length:=om
  subst e;rw[qx]at hpre
  have hF:Q8 l s c=Wi.A5:=by
   unfold Q8
   have:l.find? (JX s c)=none:=by
    rw[List.find?_eq_none];intro y hy;rw[uF]at hpre;simpa using hpre y hy
   rw[this]
  refine wd Jy [] A0 A0 ?_;with_reducible repeat' first|constructor|intro hc;try simp only[AB]at hc
  all_goals(refine⟨_,_,rfl,rfl,?_⟩;rw[hpre,hF];simp[Fj,C5,Ca,Bn,MC,MD,Aj,AP,AF,A2.d,A2.cells,Wi.A5,AA])
abbrev Ey:List Nat:=[0,2,3,5,6,8]
def AJ(n:Node):List AV:=.pY n.view.id:: .qF n.view.base:: .qF n.view.list:: .pY n.view.pred:: .pY (n.view.f 0):: .pY (n.view.f 1):: .pY (n.view.f 2):: .pY (n.view.f 3):: .pY (n.view.f 4):: .pY (n.view.f 5):: .pY (n.view.f 6):: .pY (n.view.f 7):: .pY (n.view.f 8):: .pY (n.view.f 9):: .pY (n.view.f 10):: .pY (n.view.f 11):: .pY (n.view.f 12):: .pY (n.view.f 13):: .pY (n.view.f 14):: .pY (n.view.f 15):: .pY n.clock:: .pY n.calls.id:: .pY n.calls.many:: .d (AN n.calls.op):: .d (AH n.seen):: .pz n.phase:: .pY n.of_:: .pz n.finger.what:: .pz n.finger.phase:: .pY n.finger.look.key:: .pY n.finger.look.at_:: .pY n.finger.look.hops:: .pq n.finger.look.slow:: .pq n.finger.look.found:: .pY n.finger.look.code:: .qE n.finger.item.key:: .pY n.finger.item.value:: .pY n.finger.item.version:: .pq n.finger.item.gone:: .pY n.finger.owner:: .qF n.finger.left:: .pY n.finger.code:: .pz n.mirror.what:: .pz n.mirror.phase:: .pY n.mirror.look.key:: .pY n.mirror.look.at_:: .pY n.mirror.look.hops:: .pq n.mirror.look.slow:: .pq n.mirror.look.found:: .pY n.mirror.look.code:: .qE n.mirror.item.key:: .pY n.mirror.item.value:: .pY n.mirror.item.version:: .pq n.mirror.item.gone:: .pY n.mirror.owner:: .qF n.mirror.left:: .pY n.mirror.code:: .pz n.client.what:: .pz n.client.phase:: .pY n.client.look.key:: .pY n.client.look.at_:: .pY n.client.look.hops:: .pq n.client.look.slow:: .pq n.client.look.found:: .pY n.client.look.code:: .qE n.client.item.key:: .pY n.client.item.value:: .pY n.client.item.version:: .pq n.client.item.gone:: .pY n.client.owner:: .qF n.client.left:: .pY n.client.code:: .pY n.next:: .qE n.last:: .d (Ab n.keep):: .pY n.bad::[]
theorem dt(n:Node)(k:Nat):AV.oks k (AJ n)=true:=rfl
abbrev fb(f:Nat):AV:=.fn (.func f) [] [.ptr 0 0 76]
abbrev DX:List AV:=[fb 89,fb 90,fb 91,fb 92,fb 94,fb 96,fb 98,fb 100,fb 102]
theorem fP(n:Node):qC 158 [.bs 1 0 9 1 9] [.c (AJ n),.c DX] (.fn (.func 236) [] [.ptr 2 0 1]) [.c (AJ n),.c DX,.c [.bs 1 0 9 1 9]]:=by
 refine zD A4 Tryz.func158 ?_;unfold DX fb;refine wd [0,1,2] [] A0 A0 ?_;exact⟨⟨[(2,.fn (.func 236) [] [.ptr 2 0 1])],[.c (AJ n),.c DX,.c [.bs 1 0 9 1 9]],_⟩,(A1.ck rfl),qA,_,_,rfl,rfl,rfl,rfl⟩
theorem kw(n:Node)(b1 b2 b3 b4 b5 b6 b7 b8 b9:Bool)(h1:qC 89 [.ptr 0 0 76] [.c (AJ n)] (.pq b1) [.c (AJ n)])(h2:qC 90 [.ptr 0 0 76] [.c (AJ n)] (.pq b2) [.c (AJ n)])(h3:qC 91 [.ptr 0 0 76] [.c (AJ n)] (.pq b3) [.c (AJ n)])(h4:qC 92 [.ptr 0 0 76] [.c (AJ n)] (.pq b4) [.c (AJ n)])(h5:qC 94 [.ptr 0 0 76] [.c (AJ n)] (.pq b5) [.c (AJ n)])(h6:qC 96 [.ptr 0 0 76] [.c (AJ n)] (.pq b6) [.c (AJ n)])(h7:qC 98 [.ptr 0 0 76] [.c (AJ n)] (.pq b7) [.c (AJ n)])(h8:qC 100 [.ptr 0 0 76] [.c (AJ n)] (.pq b8) [.c (AJ n)])(h9:qC 102 [.ptr 0 0 76] [.c (AJ n)] (.pq b9) [.c (AJ n)]):
  qC 88 [.bs 1 0 9 1 9] [.c (AJ n),.c DX] (.pq (b1&&(b2&&(b3&&(b4&&(b5&&(b6&&(b7&&(b8&&(b9)))))))))) [.c (AJ n),.c DX]:=by
 obtain⟨B,hB⟩:∃B,(b1&&(b2&&(b3&&(b4&&(b5&&(b6&&(b7&&(b8&&(b9)))))))))=B:=⟨_,rfl⟩;rw[hB];refine AY.drop (K:=[.c (AJ n),.c DX,.c [.pq B]]) _ ?_ ⟨.inr rfl,.inr rfl,trivial⟩ rfl rfl rfl;refine zD A4 Tryz.func88 ?_;have d1:=Ds.mk [0,1] (fP n);refine wd Ey [] A0 A0 ?_;clear d1;refine zG (K:=fun r _ H'=>(B=true/\H'=[.c (AJ n),.c DX,.c [.pq false],.c [.bs 1 0 9 1 9],.lp r])\/(B=false/\H'=[.c (AJ n),.c DX,.c [.pq false],.c [.bs 1 0 9 1 9],.lp (r.left .ret)])) ?_ ?_
 .intro r hr
  have hT:∀v:Bool,v=true->YT Tryz.prog 4 [.pq v] [.c (AJ n),.c DX,.c [.pq false],.c [.bs 1 0 9 1 9],.lp r] fun x K=>x= .pq true/\K=[.c (AJ n),.c DX,.c [.pq false],.c [.bs 1 0 9 1 9],.lp r]:=by
   rintro _ rfl;refine AZ hr rfl rfl rfl ?_;refine wd Ey [] A0 A0 ?_;refine zR ?_;refine wd Ey [] A0 A0 ?_;exact⟨_,A1.refl _,qG _,rfl,rfl,rfl⟩
  have hF:∀v:Bool,v=false->YT Tryz.prog 4 [.pq v] [.c (AJ n),.c DX,.c [.pq false],.c [.bs 1 0 9 1 9],.lp r] fun x K=>x= .pq false/\K=[.c (AJ n),.c DX,.c [.pq false],.c [.bs 1 0 9 1 9],.lp (r.left .ret)]:=by
   rintro _ rfl;refine AZ hr rfl rfl rfl ?_;refine wd Ey [] A0 A0 ?_;refine zR ?_;refine wd Ey [] A0 A0 ?_;exact⟨_,A1.refl _,qG _,rfl,rfl,rfl⟩
  refine zT A4 Tryz.func236 ?_;have hk:=qQ (dt n) (hr.ok (k:=4) rfl);have un:No 10:=trivial;have g1T:=@hT;have g1F:=@hF;have d1:=Ds.mk [0] (h1);have d2:=Ds.mk [0] (h2);have d3:=Ds.mk [0] (h3);have d4:=Ds.mk [0] (h4);have d5:=Ds.mk [0] (h5);have d6:=Ds.mk [0] (h6);have d7:=Ds.mk [0] (h7);have d8:=Ds.mk [0] (h8);have d9:=Ds.mk [0] (h9);refine wd [0,1,4,5,6,7,8,15] [] A0 A0 ?_;clear d9 d8 d7 d6 d5 d4 d3 d2 d1 g1F g1T un;with_reducible repeat' first|constructor|intro hc;try simp only[AB]at hc
  all_goals clear h1 h2 h3 h4 h5 h6 h7 h8 h9 hT hF
  all_goals first
   |(guard_hyp hc:b9=true;exact⟨⟨[],[.c (AJ n),.c DX,.c [.d (.b false)],.c [.bs 1 0 9 1 9],.lp r],_⟩,(A1.ck rfl),qG _,_,_,rfl,rfl,.inl ⟨by rw[<-hB];simp only[*,uN],rfl⟩⟩)
   |exact⟨⟨[],[.c (AJ n),.c DX,.c [.d (.b false)],.c [.bs 1 0 9 1 9],.lp (r.left .ret)],_⟩,(A1.ck rfl),qG _,_,_,rfl,rfl,.inr ⟨by rw[<-hB];simp only[*,uI,uH,uN],rfl⟩⟩
 .rintro r hr y H' (⟨h,rfl⟩|⟨h,rfl⟩)
  .refine .inl ⟨rfl,?_⟩;refine wd Ey [] A0 A0 ?_;exact⟨⟨[(2,.ptr 2 0 1)],[.c (AJ n),.c DX,.c [.pq true]],_⟩,(A1.ck rfl),qA,_,_,rfl,rfl,by rw[h],by rw[h]⟩
  .refine .inr ⟨.ret,rfl,?_⟩;refine wd Ey [] A0 A0 ?_;exact⟨⟨[(2,.ptr 2 0 1)],[.c (AJ n),.c DX,.c [.pq false]],_⟩,(A1.ck rfl),qA,_,_,rfl,rfl,by rw[h],by rw[h]⟩
theorem Oe(a x b:Int):qB 206 [.i .i64 a,.i .i64 x,.i .i64 b] (.b (Ir a x b)):=by
 have c1:=H9 a x;have c2:=H9 a b;refine zF A4 Tryz.func206 ?_;have h1:Aa a b=0↔Cp a=Cp b:=by unfold Aa Cp;omega
 have h2:Aa a x>0↔Cp x≠Cp a:=by unfold Aa Cp;omega
 have hT:Ir a x b=if Aa a b=0 then decide (Aa a x>0)else decide (Aa a x>0/\Aa a x<Aa a b):=by
  unfold Ir
  by_cases h:Aa a b=0
  .rw[if_pos h,if_pos (h1.1 h)]
   by_cases h3:Aa a x>0
   .rw[qM h3,qM (h2.1 h3)]
   .rw[qO h3,qO (fun h4=>h3 (h2.2 h4))]
  .rw[if_neg h,if_neg (fun h4=>h (h1.2 h4))]
 generalize Ir a x b=R at *;clear h1 h2;generalize Aa a x=u at *;generalize Aa a b=w at *;refine wd [0,1,2,6,7,8,16] [] A0 (AX @c1 @c2) ?_;with_reducible repeat' first|constructor|intro hc;try simp only[AB]at hc
 all_goals(clear c1 c2;refine⟨_,_,rfl,rfl,?_⟩;simp only[Bn];refine congrArg D.b ?_;rw[hT];clear hT;grind)
end Nd
end Go.Proofs.YtkljbfejbakooaaGreatDoor
