/- Part 12 of a proof. Conditions: those that its theorems state. -/
import Derived.Test.YtkljbfejbakooaaGreatDoorT11
set_option linter.unusedSimpArgs false
set_option linter.unusedVariables false
set_option maxHeartbeats 40000000
set_option maxRecDepth 4000
namespace Go.Proofs.YtkljbfejbakooaaGreatDoor
open Go.Gar
abbrev Fp:Aw:=[0,1,4,5,9,44]
abbrev Eb:Aw:=[0,1,2,4,5,6,9,14,15,16,28]
abbrev Fs:Aw:=[0,1,2,4,6,8,9,10,11,18]
def rT(x:Int):Int->Ad->Bool
 |_,[]=>true
 |f,p::r=>(BW p&&decide (B1 x p>f))&&rT x (B1 x p) r
def Kz(x:Int):Int->Ad->Int
 |f,[]=>f
 |_,p::r=>Kz x (B1 x p) r
theorem Ve(x p:Int):∀(l:Ad)(f:Int),rT x f (l++[p])=(rT x f l&&(BW p&&decide (B1 x p>Kz x f l)))
 |[],f=>by simp[rT,Kz]
 |a::r,f=>by
  show((BW a&&decide (B1 x a>f))&&rT x (B1 x a) (r++[p]))=(((BW a&&decide (B1 x a>f))&&rT x (B1 x a) r)&&(BW p&&decide (B1 x p>Kz x (B1 x a) r)));rw[Ve x p r];exact(Bool.and_assoc _ _ _).symm
theorem Ro(x p:Int):∀(l:Ad)(f:Int),Kz x f (l++[p])=B1 x p
 |[],f=>rfl
 |a::r,f=>by simp only[xX,Kz];exact Ro x p r _
theorem mQ(x:Int):∀(l m:Ad)(f:Int),rT x f l=false->rT x f (l++m)=false
 |[],m,f,h=>by cases h
 |a::r,m,f,h=>by
  simp only[xX,rT,Bool.and_eq_false_iff]at h|-;rcases h with h|h
  .exact .inl h
  .exact .inr (mQ x r m _ h)
variable {x:Int}{l:Ad}{k:Nat}
theorem Vf{f:Int}(h:rT x f (l.take k)=false):rT x f l=false:=by
 rw[<-yg k l];exact mQ x _ _ f h
variable {p:Int}
theorem Ml(hp:l[k]? =some p):Kz x 0 (l.take (k+1))=B1 x p:=by
 rw[Au hp,Ro]
def CO(x:Int)(l:Ad):Bool:=decide (l.length<=3)&&rT x 0 l
theorem ZD(x a b:Int)(hx:i64 x)(ha:i64 a)(hb:i64 b):xB 72 [.i .i64 x,.i .i64 a,.i .i64 b] (.b (decide (B1 x b>B1 x a))):=by
 have c1:=QX x b hx hb;have c2:=QX x a hx ha;refine zF AF Tryz.func72 ?_;refine wd [0,1,2,6] [] A4 (Ax @c1 @c2) ?_;exact zE
theorem jx(h:BW p=true):(p=Cp x)↔B1 x p=0:=by
 have:=FG h;unfold Cp B1;omega
theorem jw(x:Int):B1 x (Cp x)=0:=by unfold B1 Cp;omega
theorem bg(x p:Int):B1 (Cp x) p=B1 x p:=by unfold B1 Cp;omega
theorem SX(x:Int)(l:Ad)(hx:i64 x)(hl:∀y∈l,i64 y)(hn:l.length<=9223372036854775807):xB 24 [.i .i64 x,.is l] (.b (CO x l)):=by
 refine zF AF Tryz.func24 ?_;refine wd Fp [] A4 A4 ?_;refine BS (fun k=>k<=l.length/\rT x 0 (l.take k)=true) (fun k:Nat=>⟨[(0,.wo x),(1,.xG l),(4,.wu false),(5,.wo k)],[],48⟩) (fun k=>l.length-k) 0 ⟨xQ _,rfl⟩ ?_ (xH _) ?_
 .exact A6.ck rfl
 rintro k ⟨hk,hpre⟩
 by_cases hkl:k<l.length
 .obtain⟨p,hp⟩:=BB hkl;have gp:=DX hp;have hs:=Ve x p (l.take k) 0;rw[<-Au hp,hpre,yF]at hs;have hbad:rT x 0 (l.take (k+1))=false->CO x l=false:=fun h=>by unfold CO;rw[Vf h,zY]
  have c1:=Zw p;have c2:=Di x hx;have f0:=jx (x:=x) (p:=p);have hfl:=be x p
  cases hpl:BW p with
  |false=>
   rw[hpl]at c1 hs;have hB:=hbad hs;refine wd Fp [] (AM gp) (AM @c1) ?_;with_reducible repeat' first|constructor|intro hc
   exact BL hB
  |true=>
   rw[hpl]at c1 hs;rw[yF]at hs
   by_cases he:p=Cp x
   .have hB:=hbad (by
     rw[hs,(f0 hpl).1 he];refine xO ?_
     have:0<=Kz x 0 (l.take k):=by
      cases k with
      |zero=>exact q0C _
      |succ j=>
       obtain⟨q,hq⟩:=BB (xs:=l) (k:=j) om;rw[Ml hq];exact(be x q).1
     omega)
    have f1:=AS he;refine wd Fp [] (Ax gp f1) (Ax @c1 @c2) ?_;with_reducible repeat' first|constructor|intro hc
    exact BL hB
   .have f1:=eq_false' he
    by_cases k0:k=0
    .subst k0
     have hok:rT x 0 (l.take 1)=true:=by
      rw[hs];refine xM ?_;have h1:B1 x p≠0:=fun h=>he ((f0 hpl).2 h)
      show B1 x p>0;omega
     refine wd Fp [] (Ax gp f1) (Ax @c1 @c2) ?_;with_reducible repeat' first|constructor|intro hc
     refine⟨1,⟨hkl,hok⟩,om,xH _,?_⟩;exact A6.ck rfl
    .obtain⟨q,hq⟩:=BB (xs:=l) (k:=k-1) om;have gq:=DX hq
     have hlq:Kz x 0 (l.take k)=B1 x q:=by
      have:=Ml (x:=x) hq;rwa [show k-1+1=k by omega]at this
     have c3:=ZD x q p hx (hl q (yH hq)) (hl p (yH hp));have f2:(k:Int)-1=((k-1:Nat):Int):=om
     have f3:decide ((k:Int)>0)=true:=xM om;rw[hlq]at hs
     cases hd:decide (B1 x p>B1 x q)with
     |true=>
      rw[hd]at hs c3;refine wd Fp [] (MX gp gq f1 f2 f3) (Ci @c1 @c2 @c3) ?_;with_reducible repeat' first|constructor|intro hc
      refine⟨k+1,⟨hkl,hs⟩,om,xH _,?_⟩;exact A6.ck rfl
     |false=>
      rw[hd]at hs c3;have hB:=hbad hs;refine wd Fp [] (MX gp gq f1 f2 f3) (Ci @c1 @c2 @c3) ?_;with_reducible repeat' first|constructor|intro hc
      exact BL hB
 .have e:k=l.length:=om
  subst e;rw[yD]at hpre;have hR:CO x l=decide (l.length<=3):=by unfold CO;rw[hpre,zy]
  by_cases h3:l.length<=3
  .have f1:decide ((l.length:Int)<=3)=true:=xM om;have hT:CO x l=true:=by rw[hR];exact xM h3
   refine wd Fp [] (AM f1) A4 ?_;with_reducible repeat' first|constructor|intro hc
   exact BL hT
  .have f1:decide ((l.length:Int)<=3)=false:=xO om;have hT:CO x l=false:=by rw[hR];exact xO h3
   refine wd Fp [] (AM f1) A4 ?_;with_reducible repeat' first|constructor|intro hc
   exact BL hT
theorem JU(x:Int)(l:Ad)(hx:i64 x)(hl:∀y∈l,i64 y)(hn:l.length<=1000):xB 24 [.i .i64 x,.is l] (.b (CO x l)):=SX x l hx hl (zB hn (by decide))
theorem O2(x:Int)(l:Ad):xC 238 [.wo x,.xG l] [] (.fn (.func 299) [] [.ptr 0 0 1,.ptr 1 0 1]) [.c [.wo x],.c [.xG l]]:=by
 refine zD AF Tryz.func238 ?_;refine wd [0,1,2,3,4] [] A4 A4 ?_;exact⟨_,(A6.ck rfl),xQ _,_,_,rfl,rfl,rfl,rfl⟩
def ahead(x:Int)(l:Ad):Nat->Int
 |0=>x
 |k+1=>l.getD k 0
theorem dZ(x:Int)(l:Ad)(k:Nat)(hk:k<=l.length):B1 x (ahead (Cp x) l k)=Kz x 0 (l.take k):=by
 cases k with
 |zero=>exact jw x
 |succ j=>
  obtain⟨q,hq⟩:=BB (xs:=l) (k:=j) om;rw[Ml hq];show B1 x (l.getD j 0)=_;rw[DX hq]
theorem Rl(x:Int)(l:Ad)(hn:l.length<=9223372036854775807):xB 161 [.i .i64 x,.is l] (.b (CO x l)):=by
 refine zF AF Tryz.func161 ?_
 by_cases h3:l.length>3
 .have f1:decide ((l.length:Int)>3)=true:=xM om;have hT:CO x l=false:=by unfold CO;rw[xO om];rfl
  refine wd Eb [] (AM f1) A4 ?_;exact BL hT
 have f1:decide ((l.length:Int)>3)=false:=xO om;have hR:CO x l=rT x 0 l:=by unfold CO;rw[xM om];rfl
 have cx:=FL x;have d1:=Ds.mk [] (O2 (Cp x) l);refine wd Eb [] (AM f1) (AM @cx) ?_;clear d1
 refine zG (K:=fun r _ H'=>(rT x 0 l=true/\H'=[.c [.wo (Cp x)],.c [.wu false],.c [.wo (Cp x)],.c [.xG l],.lp r])\/
  (rT x 0 l=false/\H'=[.c [.wo (Cp x)],.c [.wu false],.c [.wo (Cp x)],.c [.xG l],.lp (r.left .ret)])) ?_ ?_
 .intro r hr;refine zT AF Tryz.func299 ?_;refine wd Fs [] A4 A4 ?_;have hk:=hr.ok (k:=4) rfl;refine BS (fun k=>k<=l.length/\rT x 0 (l.take k)=true) (fun k:Nat=>⟨[(0,.yl 4),(1,.ptr 2 0 1),(2,.ptr 3 0 1),(4,.wo (ahead (Cp x) l k)),(8,.xG l),(9,.wo l.length),(10,.wo k)],[.c [.wo (Cp x)],.c [.wu false],.c [.wo (Cp x)],.c [.xG l],.lp r],21⟩) (fun k=>l.length-k) 0 ⟨xQ _,rfl⟩ ?_ (xH _) ?_
  .exact(have nC:=@ahead.eq_1;A6.cn rfl)
  rintro k ⟨hkk,hpre⟩
  by_cases hkl:k<l.length
  .obtain⟨p,hp⟩:=BB hkl;have gp:=DX hp;have hs:=Ve x p (l.take k) 0;rw[<-Au hp,hpre,yF]at hs;have ha:=dZ x l k hkk;have ga:ahead (Cp x) l (k+1)=p:=gp;have c1:=Ot p;have c2:=Iu (Cp x) p;have c3:=Iu (Cp x) (ahead (Cp x) l k);rw[bg]at c2 c3;rw[ha]at c3;generalize Kz x 0 (l.take k)=lf at *;generalize ahead (Cp x) l k=ak at*
   have hb:decide (B1 x p<=lf)= !decide (B1 x p>lf):=by
    by_cases h:B1 x p>lf
    .rw[xM h,xO om];rfl
    .rw[xO h,xM om];rfl
   cases hpl:BW p with
   |false=>
    rw[hpl]at c1 hs;refine wd Fs [] (AM gp) A4 ?_;with_reducible repeat' first|constructor|intro hc
    refine Xy (x:=.wu false) (H':=[.c [.wo (Cp x)],.c [.wu false],.c [.wo (Cp x)],.c [.xG l],.lp (r.left .ret)]) (BD hr rfl rfl rfl ?_) rfl rfl rfl rfl rfl ?_
    .refine wd Eb [] A4 A4 ?_;refine zR ?_;refine wd Eb [] A4 (AM @c1) ?_;exact⟨_,A6.refl _,xH _,rfl,rfl,rfl⟩
    .refine wd Fs [] A4 A4 ?_;exact⟨_,A6.refl _,xH _,_,_,rfl,rfl,.inr ⟨Vf hs,rfl⟩⟩
   |true=>
    rw[hpl]at c1 hs;rw[yF]at hs
    cases hd:decide (B1 x p>lf)with
    |false=>
     rw[hd]at hs hb;refine wd Fs [] (AM gp) A4 ?_;with_reducible repeat' first|constructor|intro hc
     refine Xy (x:=.wu false) (H':=[.c [.wo (Cp x)],.c [.wu false],.c [.wo (Cp x)],.c [.xG l],.lp (r.left .ret)]) (BD hr rfl rfl rfl ?_) rfl rfl rfl rfl rfl ?_
     .refine wd Eb [] A4 A4 ?_;refine zR ?_;refine wd Eb [] (AM hb) (Ci @c1 @c2 @c3) ?_;exact⟨_,A6.refl _,xH _,rfl,rfl,rfl⟩
     .refine wd Fs [] A4 A4 ?_;exact⟨_,A6.refl _,xH _,_,_,rfl,rfl,.inr ⟨Vf hs,rfl⟩⟩
    |true=>
     rw[hd]at hs hb;refine wd Fs [] (AM gp) A4 ?_;with_reducible repeat' first|constructor|intro hc
     refine Xy (x:=.wu true) (H':=[.c [.wo (Cp x)],.c [.wu false],.c [.wo (Cp x)],.c [.xG l],.lp r]) (BD hr rfl rfl rfl ?_) rfl rfl rfl rfl rfl ?_
     .refine wd Eb [] A4 A4 ?_;refine zR ?_;refine wd Eb [] (AM hb) (Ci @c1 @c2 @c3) ?_;exact⟨_,A6.refl _,xH _,rfl,rfl,rfl⟩
     .refine wd Fs [] A4 A4 ?_;refine⟨k+1,⟨hkl,hs⟩,om,xH _,?_⟩;exact(have nC:=ga;A6.cn rfl)
  .have e:k=l.length:=om
   subst e;rw[yD]at hpre;refine wd Fs [] A4 A4 ?_;with_reducible repeat' first|constructor|intro hc
   exact⟨_,A6.refl _,xH _,_,_,rfl,rfl,.inl ⟨hpre,rfl⟩⟩
 .rintro r hr y H' (⟨h,rfl⟩|⟨h,rfl⟩)
  .refine .inl ⟨rfl,?_⟩;rw[h]at hR;refine wd Eb [] A4 A4 ?_;exact BL hR
  .refine .inr ⟨.ret,rfl,?_⟩;rw[h]at hR;refine wd Eb [] A4 A4 ?_;exact BL hR
theorem er(x:Int)(l:Ad)(hn:l.length<=1000):xB 161 [.i .i64 x,.is l] (.b (CO x l)):=Rl x l (zB hn (by decide))
abbrev Ft:Aw:=[0,2,3,4,12,13,14,15,16,35]
structure AD where
 id:Int
 AB:Ad
 A8:Ad
 AG:Int
 f:Nat->Int
def E3(f:Nat->Int):Ad:=[f 0,f 1,f 2,f 3,f 4,f 5,f 6,f 7,f 8,f 9,f 10,f 11,f 12,f 13,f 14,f 15]
def AD.A0(v:AD):ww:=[.i .i64 v.id,.is v.AB,.is v.A8,.i .i64 v.AG,.i .i64 (v.f 0),.i .i64 (v.f 1),.i .i64 (v.f 2),.i .i64 (v.f 3),.i .i64 (v.f 4),.i .i64 (v.f 5),.i .i64 (v.f 6),.i .i64 (v.f 7),.i .i64 (v.f 8),.i .i64 (v.f 9),.i .i64 (v.f 10),.i .i64 (v.f 11),.i .i64 (v.f 12),.i .i64 (v.f 13),.i .i64 (v.f 14),.i .i64 (v.f 15)]
def AD.d(v:AD):D:=.agg v.A0
def bT:Int->Ad->Bool
 |_,[]=>true
 |f,p::r=>(BW p&&decide (p>f))&&bT p r
def lastB:Int->Ad->Int
 |f,[]=>f
 |_,p::r=>lastB p r
theorem Ub(p:Int):∀(l:Ad)(f:Int),bT f (l++[p])=(bT f l&&(BW p&&decide (p>lastB f l)))
 |[],f=>by simp[bT,lastB]
 |a::r,f=>by
  show((BW a&&decide (a>f))&&bT a (r++[p]))=(((BW a&&decide (a>f))&&bT a r)&&(BW p&&decide (p>lastB a r)));rw[Ub p r];exact(Bool.and_assoc _ _ _).symm
theorem Rm(p:Int):∀(l:Ad)(f:Int),lastB f (l++[p])=p
 |[],f=>rfl
 |a::r,f=>by simp only[xX,lastB];exact Rm p r _
theorem jF:∀(l m:Ad)(f:Int),bT f l=false->bT f (l++m)=false
 |[],m,f,h=>by cases h
 |a::r,m,f,h=>by
  simp only[xX,bT,Bool.and_eq_false_iff]at h|-;rcases h with h|h
  .exact .inl h
  .exact .inr (jF r m _ h)
theorem QC{f:Int}(h:bT f (l.take k)=false):bT f l=false:=by
 rw[<-yg k l];exact jF _ _ f h
theorem Rn(hp:l[k]? =some p):lastB (-1) (l.take (k+1))=p:=by
 rw[Au hp,Rm]
def Cl(l:Ad):Bool:=(decide (2<=l.length)&&decide (l.length<=4))&&bT (-1) l
theorem TC(l:Ad)(hn:l.length<=9223372036854775807):xB 160 [.is l] (.b (Cl l)):=by
 refine zF AF Tryz.func160 ?_
 by_cases h2:l.length<2
 .have f1:decide ((l.length:Int)<2)=true:=xM om;have hT:Cl l=false:=by unfold Cl;rw[xO (show ¬2<=l.length by omega)];rfl
  refine wd Ft [] (AM f1) A4 ?_;exact BL hT
 have f1:decide ((l.length:Int)<2)=false:=xO om
 by_cases h4:l.length>4
 .have f2:decide ((l.length:Int)>4)=true:=xM om;have hT:Cl l=false:=by unfold Cl;rw[xO (show ¬l.length<=4 by omega),zY];rfl
  refine wd Ft [] (Ax f1 f2) A4 ?_;exact BL hT
 have f2:decide ((l.length:Int)>4)=false:=xO om;have hR:Cl l=bT (-1) l:=by unfold Cl;rw[xM (show 2<=l.length by omega),xM (show l.length<=4 by omega)];rfl
 refine wd Ft [] (Ax f1 f2) A4 ?_;refine BS (fun k=>k<=l.length/\bT (-1) (l.take k)=true) (fun k:Nat=>⟨[(0,.xG l),(2,.wu false),(13,.xG l),(14,.wo l.length),(15,.wo k)],[],37⟩) (fun k=>l.length-k) 0 ⟨xQ _,rfl⟩ ?_ (xH _) ?_
 .exact A6.ck rfl
 rintro k ⟨hk,hpre⟩
 by_cases hkl:k<l.length
 .obtain⟨p,hp⟩:=BB hkl;have gp:=DX hp;have hs:=Ub p (l.take k) (-1);rw[<-Au hp,hpre,yF]at hs;have c1:=I9 p
  cases hpl:BW p with
  |false=>
   rw[hpl]at c1 hs;have hB:=QC hs;rw[hB]at hR;refine wd Ft [] (AM gp) (AM @c1) ?_;with_reducible repeat' first|constructor|intro hc
   exact BL hR
  |true=>
   rw[hpl]at c1 hs;rw[yF]at hs;have hp0:=FG hpl
   by_cases k0:k=0
   .subst k0
    have hok:bT (-1) (l.take 1)=true:=by
     rw[hs];exact xM (by show p> -1;omega)
    refine wd Ft [] (AM gp) (AM @c1) ?_;with_reducible repeat' first|constructor|intro hc
    refine⟨1,⟨hkl,hok⟩,om,xH _,?_⟩;exact A6.ck rfl
   .obtain⟨q,hq⟩:=BB (xs:=l) (k:=k-1) om;have gq:=DX hq
    have hlq:lastB (-1) (l.take k)=q:=by
     have:=Rn hq;rwa [show k-1+1=k by omega]at this
    have f4:(k:Int)-1=((k-1:Nat):Int):=om
    have f3:decide ((k:Int)>0)=true:=xM om;rw[hlq]at hs
    by_cases hd:p>q
    .rw[xM hd]at hs;have f5:decide (p<=q)=false:=xO om;refine wd Ft [] (MX gp gq f3 f4 f5) (AM @c1) ?_;with_reducible repeat' first|constructor|intro hc
     refine⟨k+1,⟨hkl,hs⟩,om,xH _,?_⟩;exact A6.ck rfl
    .rw[xO hd]at hs;have hB:=QC hs;rw[hB]at hR;have f5:decide (p<=q)=true:=xM om;refine wd Ft [] (MX gp gq f3 f4 f5) (AM @c1) ?_;with_reducible repeat' first|constructor|intro hc
     exact BL hR
 .have e:k=l.length:=om
  subst e;rw[yD]at hpre;rw[hpre]at hR;refine wd Ft [] A4 A4 ?_;with_reducible repeat' first|constructor|intro hc
  exact BL hR
def FO(id n:Int):Bool:=decide (n= -1)||(BW n&&decide (n≠id))
theorem Xl(v:AD)(n:Int):xB 76 [v.d,.i .i64 n] (.b (FO v.id n)):=by
 obtain⟨id,AB,A8,AG,f⟩:=v;have c1:=Ms n;refine zF AF Tryz.func76 ?_
 by_cases h1:n= -1
 .have f1:=AS h1;have e:FO id n=true:=by simp[FO,h1]
  refine wd [0,1,2,4] [] (AM f1) A4 ?_;exact BL e
 have f1:=eq_false' h1;have e:FO id n=(BW n&&decide (n≠id)):=by simp[FO,h1]
 cases hp:BW n with
 |false=>
  rw[hp]at c1 e;refine wd [0,1,2,4] [] (AM f1) (AM @c1) ?_;exact BL e
 |true=>
  rw[hp]at c1 e
  by_cases h2:n=id
  .have f2:=C2 h2;have e2:FO id n=false:=by rw[e];simp[h2]
   refine wd [0,1,2,4] [] (Ax f1 f2) (AM @c1) ?_;exact BL e2
  .have f2:=C4 h2;have e2:FO id n=true:=by rw[e];simp[h2]
   refine wd [0,1,2,4] [] (Ax f1 f2) (AM @c1) ?_;exact BL e2
def Al(v:AD):Bool:=((BW v.id&&Cl v.AB)&&CO v.id v.A8)&&(FO v.id v.AG&&(E3 v.f).all (FO v.id))
theorem Hk(v:AD)(h1:v.AB.length<=100000)(h2:v.A8.length<=100000):xB 83 [v.d] v.d:=by
 obtain⟨id,AB,A8,AG,f⟩:=v;have c1:=Qo AB h1;have c2:=Qo A8 h2;refine zF AF Tryz.func83 ?_;refine wd [0,1,2] [] A4 (Ax @c1 @c2) ?_;exact BL (xU @AD.d.eq_1 @AD.A0.eq_1)
theorem gg(v:AD):xB 28 [v.d] (.b (decide (v.AB.length>20\/v.A8.length>20))):=by
 obtain⟨id,AB,A8,AG,f⟩:=v;refine zF AF Tryz.func28 ?_
 by_cases h1:AB.length>20
 .have f1:decide ((AB.length:Int)>20)=true:=xM om;rw[xM (show AB.length>20\/A8.length>20 from .inl h1)];refine wd [0,1,2] [] (AM f1) A4 ?_;exact zE
 .have f1:decide ((AB.length:Int)>20)=false:=xO om
  by_cases h2:A8.length>20
  .have f2:decide ((A8.length:Int)>20)=true:=xM om;rw[xM (show AB.length>20\/A8.length>20 from .inr h2)];refine wd [0,1,2] [] (Ax f1 f2) A4 ?_;exact zE
  .have f2:decide ((A8.length:Int)>20)=false:=xO om;rw[xO (show ¬(AB.length>20\/A8.length>20)from fun h=>h.elim h1 h2)];refine wd [0,1,2] [] (Ax f1 f2) A4 ?_;exact zE
abbrev EC:Aw:=[0,1,2,3,4,35,40,67,69,78]
theorem f_all{f:Nat->Int}{id:Int}:(E3 f).all (FO id)=(FO id (f 0)&&(FO id (f 1)&&(FO id (f 2)&&(FO id (f 3)&&(FO id (f 4)&&(FO id (f 5)&&(FO id (f 6)&&(FO id (f 7)&&(FO id (f 8)&&(FO id (f 9)&&(FO id (f 10)&&(FO id (f 11)&&(FO id (f 12)&&(FO id (f 13)&&(FO id (f 14)&&(FO id (f 15)&&true)))))))))))))))):=rfl
theorem YB(v:AD)(hid:i64 v.id)(hli:∀y∈v.A8,i64 y)(hb:v.AB.length<=9223372036854775807)(hl:v.A8.length<=9223372036854775807):xB 31 [v.d] (.b (Al v)):=by
 obtain⟨id,AB,A8,AG,f⟩:=v;replace hid:i64 id:=hid;replace hli:∀y∈A8,i64 y:=hli;replace hb:AB.length<=9223372036854775807:=hb;replace hl:A8.length<=9223372036854775807:=hl;have c1:=Ms id;have c2:=SX id A8 hid hli hl;have c3:=Xl ⟨id,AB,A8,AG,f⟩ AG;have c4:=Xl ⟨id,AB,A8,AG,f⟩;have hR:Al ⟨id,AB,A8,AG,f⟩=(((BW id&&Cl AB)&&CO id A8)&&(FO id AG&&(E3 f).all (FO id))):=rfl;refine zF AF Tryz.func31 ?_
 cases h1:BW id with
 |false=>
  rw[h1]at c1 hR;refine wd EC [] A4 (AM @c1) ?_;exact BL hR
 |true=>
 rw[h1]at c1 hR
 by_cases h2:AB.length<2
 .have f1:decide ((AB.length:Int)<2)=true:=xM om;have hB:Cl AB=false:=by unfold Cl;rw[xO (show ¬2<=AB.length by omega)];rfl
  rw[hB]at hR;refine wd EC [] (AM f1) (AM @c1) ?_;exact BL hR
 have f1:decide ((AB.length:Int)<2)=false:=xO om
 by_cases h4:AB.length>4
 .have f2:decide ((AB.length:Int)>4)=true:=xM om;have hB:Cl AB=false:=by unfold Cl;rw[xO (show ¬AB.length<=4 by omega),zY];rfl
  rw[hB]at hR;refine wd EC [] (Ax f1 f2) (AM @c1) ?_;exact BL hR
 have f2:decide ((AB.length:Int)>4)=false:=xO om;have hRB:Cl AB=bT (-1) AB:=by unfold Cl;rw[xM (show 2<=AB.length by omega),xM (show AB.length<=4 by omega)];rfl
 rw[hRB]at hR
 cases h3:CO id A8 with
 |false=>
  rw[h3]at c2 hR;rw[zY,zN]at hR;refine wd EC [] (Ax f1 f2) (Ax @c1 @c2) ?_;exact BL hR
 |true=>
 rw[h3]at c2 hR
 cases h5:FO id AG with
 |false=>
  change Go.Gar.Fn _ _ _ (.b (FO id AG))at c3;rw[h5]at c3 hR;rw[zN,zY]at hR;refine wd EC [] (Ax f1 f2) (Ci @c1 @c2 @c3) ?_;exact BL hR
 |true=>
 change Go.Gar.Fn _ _ _ (.b (FO id AG))at c3;rw[h5]at c3 hR;rw[yF,zy,yF]at hR;refine wd EC [] (Ax f1 f2) (Ci @c1 @c2 @c3) ?_;refine BS (fun k=>k<=AB.length/\bT (-1) (AB.take k)=true) (fun k:Nat=>⟨[(1,.ptr 0 0 20),(2,.wu false),(3,.wo k)],[.c [.wo id,.xG AB,.xG A8,.wo AG,.wo (f 0),.wo (f 1),.wo (f 2),.wo (f 3),.wo (f 4),.wo (f 5),.wo (f 6),.wo (f 7),.wo (f 8),.wo (f 9),.wo (f 10),.wo (f 11),.wo (f 12),.wo (f 13),.wo (f 14),.wo (f 15)]],79⟩) (fun k=>AB.length-k) 0 ⟨xQ _,rfl⟩ ?_ (xH _) ?_
 .exact A6.ck rfl
 rintro k ⟨hk,hpre⟩
 by_cases hkl:k<AB.length
 .obtain⟨p,hp⟩:=BB hkl;have gp:=DX hp;have hs:=Ub p (AB.take k) (-1);rw[<-Au hp,hpre,yF]at hs;have d1:=Ms p
  cases hpl:BW p with
  |false=>
   rw[hpl]at d1 hs;rw[QC hs]at hR;refine wd EC [] (AM gp) (AM @d1) ?_;with_reducible repeat' first|constructor|intro hc
   exact BL hR
  |true=>
   rw[hpl]at d1 hs;rw[yF]at hs;have hp0:=FG hpl
   by_cases k0:k=0
   .subst k0
    have hok:bT (-1) (AB.take 1)=true:=by
     rw[hs];exact xM (by show p> -1;omega)
    refine wd EC [] (AM gp) (AM @d1) ?_;with_reducible repeat' first|constructor|intro hc
    refine⟨1,⟨hkl,hok⟩,om,xH _,?_⟩;exact A6.ck rfl
   .obtain⟨q,hq⟩:=BB (xs:=AB) (k:=k-1) om;have gq:=DX hq
    have hlq:lastB (-1) (AB.take k)=q:=by
     have:=Rn hq;rwa [show k-1+1=k by omega]at this
    have f4:(k:Int)-1=((k-1:Nat):Int):=om
    have f3:decide ((k:Int)>0)=true:=xM om;rw[hlq]at hs
    by_cases hd:p>q
    .rw[xM hd]at hs;have f5:decide (p<=q)=false:=xO om;refine wd EC [] (MX gp gq f3 f4 f5) (AM @d1) ?_;with_reducible repeat' first|constructor|intro hc
     refine⟨k+1,⟨hkl,hs⟩,om,xH _,?_⟩;exact A6.ck rfl
    .rw[xO hd]at hs;rw[QC hs]at hR;have f5:decide (p<=q)=true:=xM om;refine wd EC [] (MX gp gq f3 f4 f5) (AM @d1) ?_;with_reducible repeat' first|constructor|intro hc
     exact BL hR
 .have e:k=AB.length:=om
  subst e;rw[yD]at hpre;rw[hpre,yF,f_all]at hR;change ∀n,Go.Gar.Fn _ _ _ (.b (FO id n))at c4;have un:No 17:=trivial;refine wd EC [] A4 (AM @c4) ?_;clear un;with_reducible repeat' first|constructor|intro hc
  all_goals first
   |(refine⟨_,_,rfl,rfl,?_⟩;simp[IT,BK,Bd,B0,hR];done)
   |(refine⟨_,_,rfl,rfl,?_⟩;simp_all[Cq];done)
def Ee(a x b:Int):Bool:=if Cp a=Cp b then decide (Cp x≠Cp a)else decide (B1 a x>0/\B1 a x<B1 a b)
def Fw:Int->Ad->Ad->Bool
 |_,[],_=>false
 |a,p::r,AB=>AB.any (fun b=>Ee a b p)||Fw p r AB
variable {g:Int->Bool}
theorem ry{b:Int}(hb:l[k]? =some b)(h:g b=true):l.any g=true:=q0R.2 ⟨b,yH hb,h⟩
theorem gY{b:Int}(hb:l[k]? =some b)(h:g b=false)(hp:∀x∈l.take k,g x=false):∀x∈l.take (k+1),g x=false:=by
 intro x hx;rw[Au hb,yx]at hx;rcases hx with hx|hx
 .exact hp x hx
 .rw[zV.1 hx];exact h
theorem PE{x:Int}(g:Int->Bool):∀(l:Ad)(f e:Int),rT x f l=true->e<=f->rT x e (l.filter g)=true
 |[],f,e,_,_=>rfl
 |a::r,f,e,h,he=>by
  simp only[rT,xI,xK]at h
  cases hg:g a with
  |true=>
   rw[List.filter_cons_of_pos hg];simp only[rT,xI,xK];exact⟨⟨h.1.1,om⟩,PE g r _ _ h.2 (q0C _)⟩
  |false=>
   rw[List.filter_cons_of_neg (by rw[hg];simp)];exact PE g r _ _ h.2 om
theorem mP{x:Int}:∀(l:Ad)(f:Int),rT x f l=true->∀y∈l,B1 x y>f
 |[],f,_,y,hy=>by cases hy
 |a::r,f,h,y,hy=>by
  simp only[rT,xI,xK]at h;rcases yP.1 hy with rfl|hy
  .exact h.1.2
  .have:=mP r _ h.2 y hy;omega
theorem aT{x:Int}{AB:Ad}(hb:∀b∈AB,BW b=true):∀(l:Ad)(a:Int),rT x (B1 x a) l=true->
  (Fw a l AB=true↔∃b∈AB,B1 x a<B1 x b/\(∃p∈l,B1 x b<B1 x p)/\b∉l)
 |[],a,_=>by simp[Fw]
 |p::r,a,h=>by
  simp only[rT,xI,xK]at h;obtain⟨⟨hp,hf⟩,hr⟩:=h;have hpl:=FG hp;have hfar:=mP r _ hr
  have hbt:∀b,Ee a b p=true↔B1 x a<B1 x b/\B1 x b<B1 x p:=by
   intro b;have hne:Cp a≠Cp p:=by unfold Cp;unfold B1 at hf;omega
   unfold Ee;rw[if_neg hne,xK];unfold B1 at *;omega
  simp only[Fw,yL,q0R,hbt];rw[aT hb r p hr];constructor
  .rintro(⟨b,h1,h2,h3⟩|⟨b,h1,h2,⟨q,h3,h4⟩,h5⟩)
   .refine⟨b,h1,h2,⟨p,yT ..,h3⟩,fun hm=> ?_⟩;rcases yP.1 hm with rfl|hm
    .omega
    .have:=hfar b hm;omega
   .refine⟨b,h1,om,⟨q,yQ _ h3,h4⟩,fun hm=> ?_⟩;rcases yP.1 hm with rfl|hm
    .omega
    .exact h5 hm
  .rintro⟨b,h1,h2,⟨q,h3,h4⟩,h5⟩
   by_cases e:B1 x b<B1 x p
   .exact .inl ⟨b,h1,h2,e⟩
   .right;have hbp:=FG (hb b h1)
    have hne:B1 x b≠B1 x p:=fun e2=>h5 (by
     have:b=p:=by unfold B1 at e2;omega
     rw[this];exact yT ..)
    refine⟨b,h1,om,⟨q,?_,h4⟩,fun hm=>h5 (yQ _ hm)⟩;rcases yP.1 h3 with rfl|h3
    .omega
    .exact h3
end Go.Proofs.YtkljbfejbakooaaGreatDoor
namespace Go.Proofs.YtkljbfejbakooaaGreatDoor
namespace Wi
open Go.Gar
theorem o4(a b:AC)(ha:a.A8.length<9223372036854775807):xB 201 [a.d,b.d] (.b (decide (a=b))):=by
 have hE:=eJ a.A8 b.A8 ha;obtain⟨k,c,s,d,ky,sl,dn,pl,pr,l,⟨ik,iv,ir,ig⟩,co⟩:=a;obtain⟨k',c',s',d',ky',sl',dn',pl',pr',l',⟨ik',iv',ir',ig'⟩,co'⟩:=b;have hI:=Kx ⟨ik,iv,ir,ig⟩ ⟨ik',iv',ir',ig'⟩;refine zF AF Tryz.func201 ?_;refine wd [0,1,2,3,4] [] (AM hI) (AM @hE) ?_;with_reducible repeat' first|constructor|intro hc
 all_goals(clear ha hE;refine⟨_,_,rfl,rfl,?_⟩;simp_all[Cq,F2])
def AC.beside(m:AC):AC:=
 if m.AR=4 then{m with AR:=0,Aa:=0,As:=0,dst:=0,AH:=0,B4:=false}else
 if m.AR=5 then{m with AR:=0,Aa:=0,As:=0,dst:=0,A9:=AY}else
 if m.AR=6 then{m with AR:=0,Aa:=0,As:=0,dst:=0,A9:=⟨[],m.A9.B2,m.A9.AZ,m.A9.gone⟩}else
 if m.AR=7 then{m with AR:=0,Aa:=0,As:=0,dst:=0,AG:=0,A8:=[]}else
 if m.AR=10 then{m with AR:=0,Aa:=0,As:=0,dst:=0,AT:=0,done:=false}else
 if m.AR=11 then{m with AR:=0,Aa:=0,As:=0,dst:=0,AQ:=0}else
 if m.AR=12 then{m with AR:=0,Aa:=0,As:=0,dst:=0,AQ:=0,A9:=AY}else
 {m with AR:=0,Aa:=0,As:=0,dst:=0}
def AC.holds(m:AC):Bool:=
 if m.AR=5 then BE m.A9 else
 if m.AR=6 then Bc m.A9.AH else
 if m.AR=7 then decide ((m.A8.length:Int)<=3)&&apartB m.As m.A8 else
 if m.AR=11 then decide (m.AQ=0)||decide (m.AQ=200)else
 if m.AR=12 then(decide (m.AQ=0)&&BE m.A9)||(decide (m.AQ=201)&&decide (m.A9=AY))else true
theorem dq(m:AC):xB 202 [m.d] m.beside.d:=by
 obtain⟨k,c,s,d,ky,sl,dn,pl,pr,l,⟨ik,iv,ir,ig⟩,co⟩:=m;refine zF AF Tryz.func202 ?_;refine wd [0,1,2,4,5,9,13,17,21,25,28] [] A4 A4 ?_;with_reducible repeat' first|constructor|intro hc
 all_goals(refine⟨_,_,rfl,rfl,?_⟩;simp[*,AC.beside,AC.d,AC.A0,AY,OS,DL,Dz,Cy,OT,Bd,BK,B0])
theorem kT(m:AC)(hl:m.A8.length<9223372036854775807):xB 197 [m.d] (.b m.holds):=by
 obtain⟨k,c,s,d,ky,sl,dn,pl,pr,l,⟨ik,iv,ir,ig⟩,co⟩:=m;have hk:=NZ ik;have hP:=LO ⟨ik,iv,ir,ig⟩;have hL:=ix s l hl;have i2:=Kx ⟨ik,iv,ir,ig⟩ ⟨[],0,0,false⟩;refine zF AF Tryz.func197 ?_;refine wd [0,1,2,4,5,10,16,29,39] [] (AM i2) (Ci @hk @hP @hL) ?_;with_reducible repeat' first|constructor|intro hc
 all_goals(clear hk hP hL i2;refine⟨_,_,rfl,rfl,?_⟩;simp_all[Cq,AC.holds,AY,F2]<;>(intro;exfalso;omega))
theorem Ol(a c:Int)(h:0<=a/\a<65536):xB 199 [.i .i64 a,.i .i64 c] (.b (decide (c>a*1048576)&&decide (c<=(a+1)*1048576))):=by
 refine zF AF Tryz.func199 ?_;refine wd [0,1,4] [] A4 A4 ?_;with_reducible repeat' first|constructor|intro hc
 all_goals(refine⟨_,_,rfl,rfl,?_⟩;simp_all[Cq]<;>omega)
def mC(m:AC):xD:=[.wz m.AR,.wo m.Aa,.wo m.As,.wo m.dst,.wo m.AH,.wu m.B4,.wu m.done,.wo m.AT,.wo m.AG,.xG m.A8,.xE m.A9.AH,.wo m.A9.B2,.wo m.A9.AZ,.wu m.A9.gone,.wo m.AQ]
theorem fj(m:AC):xC 198 [.d m.d] [] (.fn (.func 280) [] [.ptr 0 0 15]) [.c (mC m)]:=by
 refine zD AF Tryz.func198 ?_;refine wd [0,1,2] [] A4 A4 ?_;exact⟨_,(A6.ck rfl),xQ _,_,_,rfl,rfl,rfl,rfl⟩
def AC.GE(m:AC):Bool:=
 Bp m.As&&Bp m.dst&&(if m.AR=4 then Bp m.AH else if m.AR=10 then Bp m.AT else if m.AR=7 then(decide (m.AG= -1)||Bp m.AG)&&m.A8.all Bp else true)
end Wi
end Go.Proofs.YtkljbfejbakooaaGreatDoor
