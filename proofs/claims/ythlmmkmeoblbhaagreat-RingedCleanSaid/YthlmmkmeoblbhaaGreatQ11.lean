/- Part 11 of a proof. Conditions: those that its theorems state. -/
import Derived.Test.YthlmmkmeoblbhaaGreatQ10
import Derived.Lib.AppendZerosOnto
import Derived.Shelf.Spec.SlicesInsert
set_option linter.unusedSimpArgs false
set_option linter.unusedVariables false
set_option linter.unnecessarySimpa false
set_option maxHeartbeats 40000000
set_option maxRecDepth 4000
namespace Go.Proofs.YthlmmkmeoblbhaaGreat
open Go.Gar
abbrev GB:BK:=[0,2,3,4,12,13,14,15,16,35]
structure AB where
 id:Int
 A2:Ao
 A8:Ao
 AO:Int
 f:Nat->Int
def Hy(f:Nat->Int):Ao:=[f 0,f 1,f 2,f 3,f 4,f 5,f 6,f 7,f 8,f 9,f 10,f 11,f 12,f 13,f 14,f 15]
def AB.A1(v:AB):yo:=[.yE v.id,.is v.A2,.is v.A8,.yE v.AO,.yE (v.f 0),.yE (v.f 1),.yE (v.f 2),.yE (v.f 3),.yE (v.f 4),.yE (v.f 5),.yE (v.f 6),.yE (v.f 7),.yE (v.f 8),.yE (v.f 9),.yE (v.f 10),.yE (v.f 11),.yE (v.f 12),.yE (v.f 13),.yE (v.f 14),.yE (v.f 15)]
def AB.d(v:AB):D:=.agg v.A1
def bT:Int->Ao->Bool
 |_,[]=>true
 |f,p::r=>(BG p&&decide (p>f))&&bT p r
def lastB:Int->Ao->Int
 |f,[]=>f
 |_,p::r=>lastB p r
theorem Vq(p:Int):∀(l:Ao)(f:Int),bT f (l++[p])=(bT f l&&(BG p&&decide (p>lastB f l)))
 |[],f=>by simp[bT,lastB]
 |a::r,f=>by
  show((BG a&&decide (a>f))&&bT a (r++[p]))=(((BG a&&decide (a>f))&&bT a r)&&(BG p&&decide (p>lastB a r)));rw[Vq p r];exact(Bool.and_assoc _ _ _).symm
theorem Ss(p:Int):∀(l:Ao)(f:Int),lastB f (l++[p])=p
 |[],f=>rfl
 |a::r,f=>by simp only[zA,lastB];exact Ss p r _
theorem kG:∀(l m:Ao)(f:Int),bT f l=false->bT f (l++m)=false
 |[],m,f,h=>by cases h
 |a::r,m,f,h=>by
  simp only[zA,bT,q0f]at h|-;rcases h with h|h
  .exact .inl h
  .exact .inr (kG r m _ h)
variable {l:Ao}
theorem Ql{f:Int}{k:Nat}(h:bT f (l.take k)=false):bT f l=false:=by
 rw[<-q0J k l];exact kG _ _ f h
theorem Su{k:Nat}{p:Int}(hp:l[k]? =some p):lastB (-1) (l.take (k+1))=p:=by
 rw[AM hp,Ss]
def CZ(l:Ao):Bool:=(decide (2<=l.length)&&decide (l.length<=4))&&bT (-1) l
theorem UI(l:Ao)(hn:l.length<=9223372036854775807):yA 148 [.is l] (.b (CZ l)):=by
 refine zF AK Tryz.func148 ?_
 by_cases h2:l.length<2
 .have f1:decide ((l.length:Int)<2)=true:=yX om;have hT:CZ l=false:=by unfold CZ;rw[yY (show ¬2<=l.length by omega)];rfl
  refine Ae GB ?_ (AQ f1);exact BO hT
 have f1:decide ((l.length:Int)<2)=false:=yY om
 by_cases h4:l.length>4
 .have f2:decide ((l.length:Int)>4)=true:=yX om;have hT:CZ l=false:=by unfold CZ;rw[yY (show ¬l.length<=4 by omega),q0W];rfl
  refine Ae GB ?_ (B1 f1 f2);exact BO hT
 have f2:decide ((l.length:Int)>4)=false:=yY om;have hR:CZ l=bT (-1) l:=by unfold CZ;rw[yX (show 2<=l.length by omega),yX (show l.length<=4 by omega)];rfl
 refine Ae GB ?_ (B1 f1 f2);refine BY (fun k=>k<=l.length/\bT (-1) (l.take k)=true) (fun k:Nat=>⟨[(0,.yD l),(2,.y7 false),(13,.yD l),(14,.y5 l.length),(15,.y5 k)],[],37⟩) (fun k=>l.length-k) 0 ⟨yx _,rfl⟩ ?_ (yV _) ?_
 .exact A5.ck rfl
 rintro k ⟨hk,hpre⟩
 by_cases hkl:k<l.length
 .obtain⟨p,hp⟩:=AS hkl;have gp:=BQ hp;have hs:=Vq p (l.take k) (-1);rw[<-AM hp,hpre,zy]at hs;have c1:=IU p
  cases hpl:BG p with
  |false=>
   rw[hpl]at c1 hs;have hB:=Ql hs;rw[hB]at hR;refine AD GB ?_ (AQ gp) (AQ @c1);with_reducible repeat' first|constructor|intro hc
   exact BO hR
  |true=>
   rw[hpl]at c1 hs;rw[zy]at hs;have hp0:=Cq hpl
   by_cases k0:k=0
   .subst k0
    have hok:bT (-1) (l.take 1)=true:=by
     rw[hs];exact yX (by show p> -1;omega)
    refine AD GB ?_ (AQ gp) (AQ @c1);with_reducible repeat' first|constructor|intro hc
    refine⟨1,⟨hkl,hok⟩,om,yV _,?_⟩;exact A5.ck rfl
   .obtain⟨q,hq⟩:=AS (xs:=l) (k:=k-1) om;have gq:=BQ hq
    have hlq:lastB (-1) (l.take k)=q:=by
     have:=Su hq;rwa [show k-1+1=k by omega]at this
    have f4:(k:Int)-1=((k-1:Nat):Int):=om
    have f3:decide ((k:Int)>0)=true:=yX om;rw[hlq]at hs
    by_cases hd:p>q
    .rw[yX hd]at hs;have f5:decide (p<=q)=false:=yY om;refine AD GB ?_ (Ll gp gq f3 f4 f5) (AQ @c1);with_reducible repeat' first|constructor|intro hc
     refine⟨k+1,⟨hkl,hs⟩,om,yV _,?_⟩;exact A5.ck rfl
    .rw[yY hd]at hs;have hB:=Ql hs;rw[hB]at hR;have f5:decide (p<=q)=true:=yX om;refine AD GB ?_ (Ll gp gq f3 f4 f5) (AQ @c1);with_reducible repeat' first|constructor|intro hc
     exact BO hR
 .have e:k=l.length:=om
  subst e;rw[zU]at hpre;rw[hpre]at hR;refine A9 GB ?_;with_reducible repeat' first|constructor|intro hc
  exact BO hR
def Eu(id n:Int):Bool:=decide (n= -1)||(BG n&&decide (n≠id))
theorem Yi(v:AB)(n:Int):yA 126 [v.d,.yE n] (.b (Eu v.id n)):=by
 obtain⟨id,A2,A8,AO,f⟩:=v;have c1:=NT n;refine zF AK Tryz.func126 ?_
 by_cases h1:n= -1
 .have f1:=B6 h1;have e:Eu id n=true:=by simp[Eu,h1]
  refine Ae [0,1,2,4] ?_ (AQ f1);exact BO e
 have f1:=eq_false' h1;have e:Eu id n=(BG n&&decide (n≠id)):=by simp[Eu,h1]
 cases hp:BG n with
 |false=>
  rw[hp]at c1 e;refine AD [0,1,2,4] ?_ (AQ f1) (AQ @c1);exact BO e
 |true=>
  rw[hp]at c1 e
  by_cases h2:n=id
  .have f2:=BJ h2;have e2:Eu id n=false:=by rw[e];simp[h2]
   refine AD [0,1,2,4] ?_ (B1 f1 f2) (AQ @c1);exact BO e2
  .have f2:=Bp h2;have e2:Eu id n=true:=by rw[e];simp[h2]
   refine AD [0,1,2,4] ?_ (B1 f1 f2) (AQ @c1);exact BO e2
def AZ(v:AB):Bool:=((BG v.id&&CZ v.A2)&&CB v.id v.A8)&&(Eu v.id v.AO&&(Hy v.f).all (Eu v.id))
theorem oY(v:AB)(h1:v.A2.length<=100000)(h2:v.A8.length<=100000):yA 71 [v.d] v.d:=by
 obtain⟨id,A2,A8,AO,f⟩:=v;replace h1:A2.length<=100000:=h1;replace h2:A8.length<=100000:=h2;refine zF AK Tryz.func71 ?_;refine A9 [0,1,2] ?_;with_reducible repeat' first|constructor|intro hc
 exact BO (yg @AB.d.eq_1 @AB.A1.eq_1)
abbrev EO:BK:=[0,1,2,3,4,35,40,67,69,78]
theorem f_all{f:Nat->Int}{id:Int}:(Hy f).all (Eu id)=(Eu id (f 0)&&(Eu id (f 1)&&(Eu id (f 2)&&(Eu id (f 3)&&(Eu id (f 4)&&(Eu id (f 5)&&(Eu id (f 6)&&(Eu id (f 7)&&(Eu id (f 8)&&(Eu id (f 9)&&(Eu id (f 10)&&(Eu id (f 11)&&(Eu id (f 12)&&(Eu id (f 13)&&(Eu id (f 14)&&(Eu id (f 15)&&true)))))))))))))))):=rfl
theorem QU(v:AB)(hid:i64 v.id)(hli:∀y∈v.A8,i64 y)(hb:v.A2.length<=9223372036854775807)(hl:v.A8.length<=9223372036854775807):yA 77 [v.d] (.b (AZ v)):=by
 obtain⟨id,A2,A8,AO,f⟩:=v;replace hid:i64 id:=hid;replace hli:∀y∈A8,i64 y:=hli;replace hb:A2.length<=9223372036854775807:=hb;replace hl:A8.length<=9223372036854775807:=hl;have c1:=NT id;have c2:=TT id A8 hid hli hl;have c3:=Yi ⟨id,A2,A8,AO,f⟩ AO;have c4:=Yi ⟨id,A2,A8,AO,f⟩;have hR:AZ ⟨id,A2,A8,AO,f⟩=(((BG id&&CZ A2)&&CB id A8)&&(Eu id AO&&(Hy f).all (Eu id))):=rfl;refine zF AK Tryz.func77 ?_
 cases h1:BG id with
 |false=>
  rw[h1]at c1 hR;refine AP EO ?_ (AQ @c1);exact BO hR
 |true=>
 rw[h1]at c1 hR
 by_cases h2:A2.length<2
 .have f1:decide ((A2.length:Int)<2)=true:=yX om;have hB:CZ A2=false:=by unfold CZ;rw[yY (show ¬2<=A2.length by omega)];rfl
  rw[hB]at hR;refine AD EO ?_ (AQ f1) (AQ @c1);exact BO hR
 have f1:decide ((A2.length:Int)<2)=false:=yY om
 by_cases h4:A2.length>4
 .have f2:decide ((A2.length:Int)>4)=true:=yX om;have hB:CZ A2=false:=by unfold CZ;rw[yY (show ¬A2.length<=4 by omega),q0W];rfl
  rw[hB]at hR;refine AD EO ?_ (B1 f1 f2) (AQ @c1);exact BO hR
 have f2:decide ((A2.length:Int)>4)=false:=yY om;have hRB:CZ A2=bT (-1) A2:=by unfold CZ;rw[yX (show 2<=A2.length by omega),yX (show A2.length<=4 by omega)];rfl
 rw[hRB]at hR
 cases h3:CB id A8 with
 |false=>
  rw[h3]at c2 hR;rw[q0W,q0Z]at hR;refine AD EO ?_ (B1 f1 f2) (B1 @c1 @c2);exact BO hR
 |true=>
 rw[h3]at c2 hR
 cases h5:Eu id AO with
 |false=>
  change Go.Gar.Fn _ _ _ (.b (Eu id AO))at c3;rw[h5]at c3 hR;rw[q0Z,q0W]at hR;refine AD EO ?_ (B1 f1 f2) (DO @c1 @c2 @c3);exact BO hR
 |true=>
 change Go.Gar.Fn _ _ _ (.b (Eu id AO))at c3;rw[h5]at c3 hR;rw[zy,Bool.and_true,zy]at hR;refine AD EO ?_ (B1 f1 f2) (DO @c1 @c2 @c3);refine BY (fun k=>k<=A2.length/\bT (-1) (A2.take k)=true) (fun k:Nat=>⟨[(1,.ptr 0 0 20),(2,.y7 false),(3,.y5 k)],[.c [.y5 id,.yD A2,.yD A8,.y5 AO,.y5 (f 0),.y5 (f 1),.y5 (f 2),.y5 (f 3),.y5 (f 4),.y5 (f 5),.y5 (f 6),.y5 (f 7),.y5 (f 8),.y5 (f 9),.y5 (f 10),.y5 (f 11),.y5 (f 12),.y5 (f 13),.y5 (f 14),.y5 (f 15)]],79⟩) (fun k=>A2.length-k) 0 ⟨yx _,rfl⟩ ?_ (yV _) ?_
 .exact A5.ck rfl
 rintro k ⟨hk,hpre⟩
 by_cases hkl:k<A2.length
 .obtain⟨p,hp⟩:=AS hkl;have gp:=BQ hp;have hs:=Vq p (A2.take k) (-1);rw[<-AM hp,hpre,zy]at hs;have d1:=NT p
  cases hpl:BG p with
  |false=>
   rw[hpl]at d1 hs;rw[Ql hs]at hR;refine AD EO ?_ (AQ gp) (AQ @d1);with_reducible repeat' first|constructor|intro hc
   exact BO hR
  |true=>
   rw[hpl]at d1 hs;rw[zy]at hs;have hp0:=Cq hpl
   by_cases k0:k=0
   .subst k0
    have hok:bT (-1) (A2.take 1)=true:=by
     rw[hs];exact yX (by show p> -1;omega)
    refine AD EO ?_ (AQ gp) (AQ @d1);with_reducible repeat' first|constructor|intro hc
    refine⟨1,⟨hkl,hok⟩,om,yV _,?_⟩;exact A5.ck rfl
   .obtain⟨q,hq⟩:=AS (xs:=A2) (k:=k-1) om;have gq:=BQ hq
    have hlq:lastB (-1) (A2.take k)=q:=by
     have:=Su hq;rwa [show k-1+1=k by omega]at this
    have f4:(k:Int)-1=((k-1:Nat):Int):=om
    have f3:decide ((k:Int)>0)=true:=yX om;rw[hlq]at hs
    by_cases hd:p>q
    .rw[yX hd]at hs;have f5:decide (p<=q)=false:=yY om;refine AD EO ?_ (Ll gp gq f3 f4 f5) (AQ @d1);with_reducible repeat' first|constructor|intro hc
     refine⟨k+1,⟨hkl,hs⟩,om,yV _,?_⟩;exact A5.ck rfl
    .rw[yY hd]at hs;rw[Ql hs]at hR;have f5:decide (p<=q)=true:=yX om;refine AD EO ?_ (Ll gp gq f3 f4 f5) (AQ @d1);with_reducible repeat' first|constructor|intro hc
     exact BO hR
 .have e:k=A2.length:=om
  subst e;rw[zU]at hpre;rw[hpre,zy,f_all]at hR;change ∀n,Go.Gar.Fn _ _ _ (.b (Eu id n))at c4;have un:No 17:=trivial;refine AP EO ?_ (AQ @c4);clear un;with_reducible repeat' first|constructor|intro hc
  all_goals first
   |(refine⟨_,_,rfl,rfl,?_⟩;simp[E5,B3,B8,Aq,hR];done)
   |(refine⟨_,_,rfl,rfl,?_⟩;simp_all[D5];done)
theorem Ie(v:AB)(hid:i64 v.id)(hli:∀y∈v.A8,i64 y)(hb:v.A2.length<=1000)(hl:v.A8.length<=1000):yA 77 [v.d] (.b (AZ v)):=QU v hid hli (q0E hb (by decide)) (q0E hl (by decide))
abbrev DD:BK:=[0,1,2,3,21,23,24,37]
def vC(id:Int)(A2 A8:Ao)(AO:Int)(f:Nat->Int):yq:=[.y5 id,.yD A2,.yD A8,.y5 AO,.y5 (f 0),.y5 (f 1),.y5 (f 2),.y5 (f 3),.y5 (f 4),.y5 (f 5),.y5 (f 6),.y5 (f 7),.y5 (f 8),.y5 (f 9),.y5 (f 10),.y5 (f 11),.y5 (f 12),.y5 (f 13),.y5 (f 14),.y5 (f 15)]
theorem rC(id:Int)(A2 A8:Ao)(AO:Int)(f:Nat->Int):yB 150 [.d (AB.d ⟨id,A2,A8,AO,f⟩)] [] (.fn (.func 217) [] [.ptr 0 0 20]) [.c [.y5 id,.yD A2,.yD A8,.y5 AO,.y5 (f 0),.y5 (f 1),.y5 (f 2),.y5 (f 3),.y5 (f 4),.y5 (f 5),.y5 (f 6),.y5 (f 7),.y5 (f 8),.y5 (f 9),.y5 (f 10),.y5 (f 11),.y5 (f 12),.y5 (f 13),.y5 (f 14),.y5 (f 15)]]:=by
 refine zD AK Tryz.func150 ?_;refine A9 [0,1,2] ?_;exact wE
theorem U1(v:AB)(hb:v.A2.length<=9223372036854775807)(hl:v.A8.length<=9223372036854775807):yA 99 [v.d] (.b (AZ v)):=by
 obtain⟨id,A2,A8,AO,f⟩:=v;replace hb:A2.length<=9223372036854775807:=hb;replace hl:A8.length<=9223372036854775807:=hl;have c1:=IU id;have c2:=UI A2 hb;have c3:=aZ id A8 hl;have c4:=IU;have hR:AZ ⟨id,A2,A8,AO,f⟩=(((BG id&&CZ A2)&&CB id A8)&&(Eu id AO&&(Hy f).all (Eu id))):=rfl;refine zF AK Tryz.func99 ?_
 cases h1:BG id with
 |false=>
  rw[h1]at c1 hR;refine AP DD ?_ (AQ @c1);exact BO hR
 |true=>
 rw[h1]at c1 hR
 cases h2:CZ A2 with
 |false=>
  rw[h2]at c2 hR;refine AP DD ?_ (B1 @c1 @c2);exact BO hR
 |true=>
 rw[h2]at c2 hR
 cases h3:CB id A8 with
 |false=>
  rw[h3]at c3 hR;refine AP DD ?_ (DO @c1 @c2 @c3);exact BO hR
 |true=>
 rw[h3]at c3 hR;simp only[q0g,zy]at hR;refine Fc DD ?_ (DO @c1 @c2 @c3) (E8 [] (rC id A2 A8 AO f))
 refine zG (K:=fun r _ H'=>((Eu id AO&&(Hy f).all (Eu id))=true/\H'=[.c (vC id A2 A8 AO f),.c (vC id A2 A8 AO f),.lp r])\/
  ((Eu id AO&&(Hy f).all (Eu id))=false/\H'=[.c (vC id A2 A8 AO f),.c (vC id A2 A8 AO f),.lp (r.left (.goto 0))])) ?_ ?_
 .intro r hr
  have hT:∀n,Eu id n=true->YT Tryz.prog 2 [.y5 n] [.c (vC id A2 A8 AO f),.c (vC id A2 A8 AO f),.lp r] fun x K=>x= .y7 true/\K=[.c (vC id A2 A8 AO f),.c (vC id A2 A8 AO f),.lp r]:=by
   intro n hn;have d1:=IU n;unfold vC;refine CE hr rfl rfl rfl ?_
   by_cases h5:n= -1
   .have f1:=BJ h5;refine A9 DD ?_;refine zR ?_;refine Ae DD ?_ (AQ f1);exact⟨_,A5.refl _,yV _,rfl,rfl,rfl⟩
   .have f1:=Bp h5;simp only[Eu,h5,q1J,q0N,yU,yc]at hn;rw[hn.1]at d1;have f2:=eq_false' hn.2;refine A9 DD ?_;refine zR ?_;refine AD DD ?_ (B1 f1 f2) (AQ @d1);exact⟨_,A5.refl _,yV _,rfl,rfl,rfl⟩
  have hF:∀n,Eu id n=false->YT Tryz.prog 2 [.y5 n] [.c (vC id A2 A8 AO f),.c (vC id A2 A8 AO f),.lp r] fun x K=>x= .y7 false/\K=[.c (vC id A2 A8 AO f),.c (vC id A2 A8 AO f),.lp (r.left (.goto 0))]:=by
   intro n hn;have d1:=IU n;unfold vC;refine CE hr rfl rfl rfl ?_;have h5:n≠ -1:=fun h=>by subst h;simp[Eu]at hn
   have f1:=Bp h5;simp only[Eu,h5,q1J,q0N,q0f,zn,ne_eq,Classical.not_not]at hn
   cases hp:BG n with
   |false=>
    rw[hp]at d1;refine A9 DD ?_;refine zR ?_;refine AD DD ?_ (AQ f1) (AQ @d1);exact⟨_,A5.refl _,yV _,rfl,rfl,rfl⟩
   |true=>
    rw[hp]at d1 hn;have f2:=B6 (hn.resolve_left (fun h=>by cases h));refine A9 DD ?_;refine zR ?_;refine AD DD ?_ (B1 f1 f2) (AQ @d1);exact⟨_,A5.refl _,yV _,rfl,rfl,rfl⟩
  refine zT AK Tryz.func217 ?_;unfold vC at *;have g1T:=@hT;have g1F:=@hF;have un:No 17:=trivial;refine A9 [0,1,4,9,11,12,13,18] ?_;clear un g1F g1T;repeat'(apply zB<;>intro hc)
  all_goals first
   |exact⟨_,A5.refl _,yV _,_,_,rfl,rfl,.inl ⟨by rw[f_all];simp only[*,q0g],rfl⟩⟩
   |exact⟨_,A5.refl _,yV _,_,_,rfl,rfl,.inr ⟨by rw[f_all];simp only[*,q0W,q0Z,Bool.and_true,zy],rfl⟩⟩
 .rintro r hr y H' (⟨h,rfl⟩|⟨h,rfl⟩)
  .refine .inl ⟨rfl,?_⟩;rw[h]at hR;unfold vC;refine A9 DD ?_;exact BO hR
  .refine .inr ⟨.goto 0,rfl,?_⟩;rw[h]at hR;unfold vC;refine A9 DD ?_;exact BO hR
theorem jK(v:AB)(hb:v.A2.length<=1000)(hl:v.A8.length<=1000):yA 99 [v.d] (.b (AZ v)):=U1 v (q0E hb (by decide)) (q0E hl (by decide))
end Go.Proofs.YthlmmkmeoblbhaaGreat
namespace Go.Proofs.YthlmmkmeoblbhaaGreat
namespace Nd
open Go.Gar
open Wi (AE BE)
structure B4 where
 id:Int
 Cl:AE
 BH:Int
 ref:Int
 GD:Int
 D3:Int
def B4.A1(x:B4):yo:=[.yE x.id,.i .u8 x.Cl.AG,.yE x.Cl.AW,.yE x.Cl.Ax,.yE x.Cl.dst,.yE x.Cl.AH,.b x.Cl.BX,.b x.Cl.done,.yE x.Cl.AY,.yE x.Cl.AO,.is x.Cl.A8,.s x.Cl.AC.AH,.yE x.Cl.AC.BD,.yE x.Cl.AC.Aa,.b x.Cl.AC.gone,.yE x.Cl.Ab,.i .u8 x.BH,.yE x.ref,.yE x.GD,.yE x.D3]
def B4.d(x:B4):D:=.agg x.A1
structure Calls where
 id:Int
 Ah:Int
 op:List B4
abbrev C3(l:List B4):D:=.sl 20 (l.map B4.A1)
def Calls.A1(c:Calls):yo:=[.yE c.id,.yE c.Ah,C3 c.op]
def Calls.d(c:Calls):D:=.agg c.A1
structure Past where
 Ax:Int
 AW:Int
 AA:AE
def Past.A1(p:Past):yo:=[.yE p.Ax,.yE p.AW,.i .u8 p.AA.AG,.yE p.AA.AW,.yE p.AA.Ax,.yE p.AA.dst,.yE p.AA.AH,.b p.AA.BX,.b p.AA.done,.yE p.AA.AY,.yE p.AA.AO,.is p.AA.A8,.s p.AA.AC.AH,.yE p.AA.AC.BD,.yE p.AA.AC.Aa,.b p.AA.AC.gone,.yE p.AA.Ab]
def Past.d(p:Past):D:=.agg p.A1
abbrev Aw(l:List Past):D:=.sl 17 (l.map Past.A1)
structure CM where
 AH:Int
 Ck:Int
 Cs:Int
 BX:Bool
 Dz:Bool
 Ab:Int
structure B5 where
 AR:Int
 A3:Int
 Am:CM
 AC:AL
 Ar:Int
 left:Ao
 Ab:Int
def B5.A1(j:B5):yo:=[.i .u8 j.AR,.i .u8 j.A3,.yE j.Am.AH,.yE j.Am.Ck,.yE j.Am.Cs,.b j.Am.BX,.b j.Am.Dz,.yE j.Am.Ab,.s j.AC.AH,.yE j.AC.BD,.yE j.AC.Aa,.b j.AC.gone,.yE j.Ar,.is j.left,.yE j.Ab]
def B5.d(j:B5):D:=.agg j.A1
structure A6 where
 A4:AB
 AJ:Int
 AI:Calls
 BL:List Past
 A3:Int
 BN:Int
 Ag:B5
 Ak:B5
 Aj:B5
 next:Int
 last:AT
 keep:List AL
 bad:Int
def A6.A1(n:A6):yo:=n.A4.A1++(.yE n.AJ::(n.AI.A1++(Aw n.BL:: .i .u8 n.A3:: .yE n.BN::(n.Ag.A1++(n.Ak.A1++(n.Aj.A1++[.yE n.next,.s n.last,Bf n.keep,.yE n.bad]))))))
def A6.d(n:A6):D:=.agg n.A1
structure BF where
 nodes:List A6
 gone:Ao
 A2:Ao
 grams:List (yo)
 lost:Int
abbrev A7(l:List A6):D:=.sl 76 (l.map A6.A1)
def BF.A1(c:BF):yo:=[A7 c.nodes,.is c.gone,.is c.A2,.sl 3 c.grams,.yE c.lost]
def BF.d(c:BF):D:=.agg c.A1
def EV(n:Int):Bool:=decide (0<=n)&&decide (n<=1099511627776)
theorem Tl(n:Int):yA 129 [.yE n] (.b (EV n)):=by
 refine zF AK Tryz.func129 ?_;refine A9 [0,2] ?_;repeat'(apply zB<;>intro hc)
 all_goals(refine⟨_,_,rfl,rfl,?_⟩;simp[D5,EV, *];try omega)
theorem fz(n:Int):yA 219 [.yE n] (.b (EV n)):=by
 refine zF AK Tryz.func219 ?_;refine A9 [0,2] ?_;repeat'(apply zB<;>intro hc)
 all_goals(refine⟨_,_,rfl,rfl,?_⟩;simp[D5,EV, *];try omega)
def Ci(A3 BN:Int):Bool:=if A3=0 then decide (BN=0)else decide (A3<=3)&&BE BN
theorem LZ(A3 BN:Int):yA 81 [.agg [.i .u8 A3,.yE BN]] (.b (Ci A3 BN)):=by
 refine zF AK Tryz.func81 ?_;refine A9 [0,1,2,5] ?_;repeat'(apply zB<;>intro hc)
 all_goals(refine⟨_,_,rfl,rfl,?_⟩;simp[D5,Ci,BE,HA, *];try omega)
theorem sO(A3 BN:Int):yA 103 [.agg [.i .u8 A3,.yE BN]] (.b (Ci A3 BN)):=by
 refine zF AK Tryz.func103 ?_;refine A9 [0,1,2,5] ?_;repeat'(apply zB<;>intro hc)
 all_goals(refine⟨_,_,rfl,rfl,?_⟩;simp[D5,Ci,BE,HA, *];try omega)
def E0(id n:Int):Int×Int:=if BE id=true/\1<=n/\n<=1048576 then(id*1048576+n,0)else(0,2)
theorem pM(id n:Int):yA 218 [.yE id,.yE n] (.tup [.yE (E0 id n).1,.yE (E0 id n).2]):=by
 have h1:=Wi.Pb id;have hb:BE id=true->0<=id/\id<65536:=Wi.Fv;refine zF AK Tryz.func218 ?_
 cases h:BE id with
 |false=>
  rw[h]at h1;refine AP [0,1,4,5,16] ?_ (AQ @h1)
  all_goals(refine⟨_,_,rfl,rfl,?_⟩;simp[Jz,EA,Ev,C4,E0,h])
 |true=>
  rw[h]at h1;have hb':=hb h;refine AP [0,1,4,5,16] ?_ (AQ @h1);repeat'(apply zB<;>intro hc)
  all_goals(refine⟨_,_,rfl,rfl,?_⟩;simp only[Jz,EA,Ev,C4,E0,h,true_and,and_true];split<;>simp<;>omega)
end Nd
end Go.Proofs.YthlmmkmeoblbhaaGreat
namespace Go.Proofs.YthlmmkmeoblbhaaGreat
namespace Nd
open Go.Gar
open Wi (AE BE Ay)
abbrev Gy:BK:=[0,2,3,5,6,8]
def BI(n:A6):yq:=.y5 n.A4.id:: .yD n.A4.A2:: .yD n.A4.A8:: .y5 n.A4.AO:: .y5 (n.A4.f 0):: .y5 (n.A4.f 1):: .y5 (n.A4.f 2):: .y5 (n.A4.f 3):: .y5 (n.A4.f 4):: .y5 (n.A4.f 5):: .y5 (n.A4.f 6):: .y5 (n.A4.f 7):: .y5 (n.A4.f 8):: .y5 (n.A4.f 9):: .y5 (n.A4.f 10):: .y5 (n.A4.f 11):: .y5 (n.A4.f 12):: .y5 (n.A4.f 13):: .y5 (n.A4.f 14):: .y5 (n.A4.f 15):: .y5 n.AJ:: .y5 n.AI.id:: .y5 n.AI.Ah:: .d (C3 n.AI.op):: .d (Aw n.BL):: .y8 n.A3:: .y5 n.BN:: .y8 n.Ag.AR:: .y8 n.Ag.A3:: .y5 n.Ag.Am.AH:: .y5 n.Ag.Am.Ck:: .y5 n.Ag.Am.Cs:: .y7 n.Ag.Am.BX:: .y7 n.Ag.Am.Dz:: .y5 n.Ag.Am.Ab:: .yC n.Ag.AC.AH:: .y5 n.Ag.AC.BD:: .y5 n.Ag.AC.Aa:: .y7 n.Ag.AC.gone:: .y5 n.Ag.Ar:: .yD n.Ag.left:: .y5 n.Ag.Ab:: .y8 n.Ak.AR:: .y8 n.Ak.A3:: .y5 n.Ak.Am.AH:: .y5 n.Ak.Am.Ck:: .y5 n.Ak.Am.Cs:: .y7 n.Ak.Am.BX:: .y7 n.Ak.Am.Dz:: .y5 n.Ak.Am.Ab:: .yC n.Ak.AC.AH:: .y5 n.Ak.AC.BD:: .y5 n.Ak.AC.Aa:: .y7 n.Ak.AC.gone:: .y5 n.Ak.Ar:: .yD n.Ak.left:: .y5 n.Ak.Ab:: .y8 n.Aj.AR:: .y8 n.Aj.A3:: .y5 n.Aj.Am.AH:: .y5 n.Aj.Am.Ck:: .y5 n.Aj.Am.Cs:: .y7 n.Aj.Am.BX:: .y7 n.Aj.Am.Dz:: .y5 n.Aj.Am.Ab:: .yC n.Aj.AC.AH:: .y5 n.Aj.AC.BD:: .y5 n.Aj.AC.Aa:: .y7 n.Aj.AC.gone:: .y5 n.Aj.Ar:: .yD n.Aj.left:: .y5 n.Aj.Ab:: .y5 n.next:: .yC n.last:: .d (Bf n.keep):: .y5 n.bad::[]
theorem mj(n:A6)(k:Nat):AV.oks k (BI n)=true:=rfl
abbrev pK(f:Nat):AV:=.fn (.func f) [] [.ptr 0 0 76]
abbrev FM:yq:=[pK 95,pK 96,pK 97,pK 98,pK 100,pK 102,pK 104,pK 106,pK 108]
theorem p9(n:A6):yB 146 [.bs 1 0 9 1 9] [.c (BI n),.c FM] (.fn (.func 215) [] [.ptr 2 0 1]) [.c (BI n),.c FM,.c [.bs 1 0 9 1 9]]:=by
 refine zD AK Tryz.func146 ?_;unfold FM pK;refine A9 [0,1,2] ?_;exact wE
theorem uA(n:A6)(b1 b2 b3 b4 b5 b6 b7 b8 b9:Bool)(h1:yB 95 [.ptr 0 0 76] [.c (BI n)] (.y7 b1) [.c (BI n)])(h2:yB 96 [.ptr 0 0 76] [.c (BI n)] (.y7 b2) [.c (BI n)])(h3:yB 97 [.ptr 0 0 76] [.c (BI n)] (.y7 b3) [.c (BI n)])(h4:yB 98 [.ptr 0 0 76] [.c (BI n)] (.y7 b4) [.c (BI n)])(h5:yB 100 [.ptr 0 0 76] [.c (BI n)] (.y7 b5) [.c (BI n)])(h6:yB 102 [.ptr 0 0 76] [.c (BI n)] (.y7 b6) [.c (BI n)])(h7:yB 104 [.ptr 0 0 76] [.c (BI n)] (.y7 b7) [.c (BI n)])(h8:yB 106 [.ptr 0 0 76] [.c (BI n)] (.y7 b8) [.c (BI n)])(h9:yB 108 [.ptr 0 0 76] [.c (BI n)] (.y7 b9) [.c (BI n)]):
  yB 94 [.bs 1 0 9 1 9] [.c (BI n),.c FM] (.y7 (b1&&(b2&&(b3&&(b4&&(b5&&(b6&&(b7&&(b8&&(b9)))))))))) [.c (BI n),.c FM]:=by
 obtain⟨B,hB⟩:∃B,(b1&&(b2&&(b3&&(b4&&(b5&&(b6&&(b7&&(b8&&(b9)))))))))=B:=⟨_,rfl⟩;rw[hB];refine Bw.drop (K:=[.c (BI n),.c FM,.c [.y7 B]]) _ ?_ ⟨.inr rfl,.inr rfl,trivial⟩ rfl rfl rfl;refine zD AK Tryz.func94 ?_;refine Cd Gy ?_ (E8 [0,1] (p9 n));refine zG (K:=fun r _ H'=>(B=true/\H'=[.c (BI n),.c FM,.c [.y7 false],.c [.bs 1 0 9 1 9],.lp r])\/(B=false/\H'=[.c (BI n),.c FM,.c [.y7 false],.c [.bs 1 0 9 1 9],.lp (r.left .ret)])) ?_ ?_
 .intro r hr
  have hT:∀v:Bool,v=true->YT Tryz.prog 4 [.y7 v] [.c (BI n),.c FM,.c [.y7 false],.c [.bs 1 0 9 1 9],.lp r] fun x K=>x= .y7 true/\K=[.c (BI n),.c FM,.c [.y7 false],.c [.bs 1 0 9 1 9],.lp r]:=by
   rintro _ rfl;refine CE hr rfl rfl rfl ?_;refine A9 Gy ?_;refine zR ?_;refine A9 Gy ?_;exact⟨_,A5.refl _,yV _,rfl,rfl,rfl⟩
  have hF:∀v:Bool,v=false->YT Tryz.prog 4 [.y7 v] [.c (BI n),.c FM,.c [.y7 false],.c [.bs 1 0 9 1 9],.lp r] fun x K=>x= .y7 false/\K=[.c (BI n),.c FM,.c [.y7 false],.c [.bs 1 0 9 1 9],.lp (r.left .ret)]:=by
   rintro _ rfl;refine CE hr rfl rfl rfl ?_;refine A9 Gy ?_;refine zR ?_;refine A9 Gy ?_;exact⟨_,A5.refl _,yV _,rfl,rfl,rfl⟩
  refine zT AK Tryz.func215 ?_;have hk:=yg (mj n) (hr.ok (k:=4) rfl);have un:No 10:=trivial;have g1T:=@hT;have g1F:=@hF;refine Cd [0,1,4,5,6,7,8,15] ?_ (zd9 [0] h1 [0] h2 [0] h3 [0] h4 [0] h5 [0] h6 [0] h7 [0] h8 [0] h9);clear g1F g1T un;repeat'(apply zB<;>intro hc)
  all_goals clear h1 h2 h3 h4 h5 h6 h7 h8 h9 hT hF
  all_goals first
   |(guard_hyp hc:b9=true;exact⟨⟨[],[.c (BI n),.c FM,.c [.d (.b false)],.c [.bs 1 0 9 1 9],.lp r],_⟩,(A5.ck rfl),yV _,_,_,rfl,rfl,.inl ⟨by rw[<-hB];simp only[*,q0g],rfl⟩⟩)
   |exact⟨⟨[],[.c (BI n),.c FM,.c [.d (.b false)],.c [.bs 1 0 9 1 9],.lp (r.left .ret)],_⟩,(A5.ck rfl),yV _,_,_,rfl,rfl,.inr ⟨by rw[<-hB];simp only[*,q0W,q0Z,q0g],rfl⟩⟩
 .rintro r hr y H' (⟨h,rfl⟩|⟨h,rfl⟩)
  .refine .inl ⟨rfl,?_⟩;refine A9 Gy ?_;exact⟨⟨[(2,.ptr 2 0 1)],[.c (BI n),.c FM,.c [.y7 true]],_⟩,(A5.ck rfl),y9,_,_,rfl,rfl,by rw[h],by rw[h]⟩
  .refine .inr ⟨.ret,rfl,?_⟩;refine A9 Gy ?_;exact⟨⟨[(2,.ptr 2 0 1)],[.c (BI n),.c FM,.c [.y7 false]],_⟩,(A5.ck rfl),y9,_,_,rfl,rfl,by rw[h],by rw[h]⟩
end Nd
end Go.Proofs.YthlmmkmeoblbhaaGreat
namespace Go.Proofs.YthlmmkmeoblbhaaGreat
open Go.Gar
def newV(id:Int)(A2:Ao):AB:=⟨id,A2,[],-1,fun _=> -1⟩
def zeroV:AB:=⟨0,[],[],0,fun _=>0⟩
def newT(id:Int)(A2:Ao):AB×Int:=if AZ (newV id A2)then(newV id A2,0)else(zeroV,2)
theorem rz(id:Int)(A2:Ao)(hid:i64 id)(hb:A2.length<=1000):yA 40 [.yE id,.is A2] (.tup [(newT id A2).1.d,.yE (newT id A2).2]):=by
 have c2:=Ie (newV id A2) hid (fun y hy=>by cases hy) hb (show([]:Ao).length<=1000 by decide);change Go.Gar.Fn _ _ [.agg [.yE id,.is A2,.is [],.yE (-1),.yE (-1),.yE (-1),.yE (-1),.yE (-1),.yE (-1),.yE (-1),.yE (-1),.yE (-1),.yE (-1),.yE (-1),.yE (-1),.yE (-1),.yE (-1),.yE (-1),.yE (-1),.yE (-1)]] _ at c2;unfold newT;refine zF AK Tryz.func40 ?_
 cases h:AZ (newV id A2)with
 |true=>
  rw[h]at c2;have z1:=@c2;have un:No 17:=trivial;refine A9 [0,1,4,5,6,7,14,22] ?_;clear un z1;with_reducible repeat' first|constructor|intro hc
  exact BO (yg @newV.eq_1 (yg @AB.d.eq_1 @AB.A1.eq_1))
 |false=>
  rw[h]at c2;have z1:=@c2;have un:No 17:=trivial;refine A9 [0,1,4,5,6,7,14,22] ?_;clear un z1;with_reducible repeat' first|constructor|intro hc
  exact BO (yg @zeroV.eq_1 (yg @AB.d.eq_1 @AB.A1.eq_1))
def FB(v:AB)(l:Ao):AB:=if AZ v&&CB v.id l then⟨v.id,v.A2,l,v.AO,v.f⟩else v
abbrev IF:BK:=[0,1,2,3,5,7,8,9,10,31]
abbrev Jv:BK:=[0,1,4,5,6,7,10,18,30]
def Hg(id best b:Int):Int:=if b≠id/\(best<0\/An id b<An id best)then b else best
def GG(id:Int)(l:Ao):Int:=l.foldl (Hg id) (-1)
def Pf(AH out b:Int):Int:=if An AH b<An AH out then C9 b else out
def nB(AH:Int):Ao->Int
 |[]=>0
 |a::l=>(a::l).foldl (Pf AH) (C9 a)
variable {l:Ao}
theorem SZ{α:Type}(g:α->Int->α)(s:α){k:Nat}{p:Int}(hp:l[k]? =some p):(l.take (k+1)).foldl g s=g ((l.take k).foldl g s) p:=by
 rw[AM hp,q19];rfl
theorem fH(v:AB)(hb:v.A2.length<=100000):yA 122 [v.d] (.yE (GG v.id v.A2)):=by
 obtain⟨id,A2,A8,AO,f⟩:=v;replace hb:A2.length<=100000:=hb;show Go.Gar.Fn _ _ _ (.yE (GG id A2));refine zF AK Tryz.func122 ?_;refine A9 IF ?_;refine BY (fun k=>k<=A2.length) (fun k:Nat=>⟨[(1,.ptr 0 0 20),(3,.y5 ((A2.take k).foldl (Hg id) (-1))),(7,.yD A2),(8,.y5 A2.length),(9,.y5 k)],[.c (vC id A2 A8 AO f)],35⟩) (fun k=>A2.length-k) 0 (yx _) ?_ (yV _) ?_
 .exact A5.ck rfl
 intro k hk;unfold vC
 by_cases hkl:k<A2.length
 .obtain⟨p,hp⟩:=AS hkl;have gp:=BQ hp;have hs:=SZ (Hg id) (-1) hp;generalize hB:(A2.take k).foldl (Hg id) (-1)=best at *;have c1:=P7 id p;have c2:=P7 id best
  by_cases h1:p=id
  .have f1:=BJ h1;have hs':(A2.take (k+1)).foldl (Hg id) (-1)=best:=by rw[hs];simp[Hg,h1]
   refine AD IF ?_ (B1 gp f1) (B1 @c1 @c2);with_reducible repeat' first|constructor|intro hc
   refine⟨k+1,hkl,om,yV _,?_⟩;exact(have nC:=hs';A5.cn rfl)
  have f1:=Bp h1
  by_cases h2:best<0
  .have f2:decide (best<0)=true:=yX h2;have hs':(A2.take (k+1)).foldl (Hg id) (-1)=p:=by rw[hs];simp[Hg,h1,h2]
   refine AD IF ?_ (DO gp f1 f2) (B1 @c1 @c2);with_reducible repeat' first|constructor|intro hc
   refine⟨k+1,hkl,om,yV _,?_⟩;exact(have nC:=hs';A5.cn rfl)
  have f2:decide (best<0)=false:=yY h2
  by_cases h3:An id p<An id best
  .have f3:decide (An id p<An id best)=true:=yX h3;have hs':(A2.take (k+1)).foldl (Hg id) (-1)=p:=by rw[hs];simp[Hg,h1,h3]
   refine AD IF ?_ (Hc gp f1 f2 f3) (B1 @c1 @c2);with_reducible repeat' first|constructor|intro hc
   refine⟨k+1,hkl,om,yV _,?_⟩;exact(have nC:=hs';A5.cn rfl)
  .have f3:decide (An id p<An id best)=false:=yY h3;have hs':(A2.take (k+1)).foldl (Hg id) (-1)=best:=by rw[hs];simp[Hg,h2,h3]
   refine AD IF ?_ (Hc gp f1 f2 f3) (B1 @c1 @c2);with_reducible repeat' first|constructor|intro hc
   refine⟨k+1,hkl,om,yV _,?_⟩;exact(have nC:=hs';A5.cn rfl)
 .have e:k=A2.length:=om
  subst e;rw[zU];refine A9 IF ?_;with_reducible repeat' first|constructor|intro hc
  exact BO @GG.eq_1
theorem jf(l:Ao)(AH:Int)(hk:i64 AH)(hl:∀y∈l,i64 y)(hn:l.length<=100000):yA 274 [.is l,.yE AH] (.tup [.yE (nB AH l),.b (decide (l≠[]))]):=by
 refine zF AK Tryz.func274 ?_
 cases l with
 |nil=>
  refine A9 Jv ?_;exact BO @nB.eq_1
 |cons a l=>
 have fa:decide (((a::l).length:Int)=0)=false:=yY (by simp only[yu];omega);have gA:(a::l).getD 0 0=a:=rfl;have ca:=C1 a (hl a (q02 ..));have hO:nB AH (a::l)=(a::l).foldl (Pf AH) (C9 a):=rfl;have hd:decide ((a::l)≠[])=true:=rfl;rw[hO,hd];have hla:(a::l).length=l.length+1:=rfl;generalize hL:a::l=m at *;have h0:(0:Int)<m.length:=om
 refine AD Jv ?_ (B1 fa gA) (AQ @ca);with_reducible repeat' first|constructor|intro hc
 refine BY (fun k=>k<=m.length/\i64 ((m.take k).foldl (Pf AH) (C9 a))) (fun k:Nat=>⟨[(0,.yD m),(1,.y5 AH),(6,.y5 ((m.take k).foldl (Pf AH) (C9 a))),(7,.y5 k)],[],37⟩) (fun k=>m.length-k) 0 ⟨yx _,by have:=Gr a;unfold i64;simp only[q1c,List.foldl_nil];omega⟩ ?_ (yV _) ?_
 .exact A5.ck rfl
 rintro k ⟨hk',hi⟩
 by_cases hkl:k<m.length
 .obtain⟨p,hp⟩:=AS hkl;have gp:=BQ hp;have hs:=SZ (Pf AH) (C9 a) hp;have hip:=hl p (zM hp);generalize hB:(m.take k).foldl (Pf AH) (C9 a)=out at *;have c1:=J5 AH p hk hip;have c2:=J5 AH out hk hi;have c3:=C1 p hip
  by_cases h3:An AH p<An AH out
  .have f3:decide (An AH p<An AH out)=true:=yX h3;have hs':(m.take (k+1)).foldl (Pf AH) (C9 a)=C9 p:=by rw[hs];simp[Pf,h3]
   refine AD Jv ?_ (B1 gp f3) (DO @c1 @c2 @c3);with_reducible repeat' first|constructor|intro hc
   refine⟨k+1,⟨hkl,by rw[hs'];have:=Gr p;unfold i64;omega⟩,om,yV _,?_⟩;exact(have nC:=hs';A5.cn rfl)
  .have f3:decide (An AH p<An AH out)=false:=yY h3;have hs':(m.take (k+1)).foldl (Pf AH) (C9 a)=out:=by rw[hs];simp[Pf,h3]
   refine AD Jv ?_ (B1 gp f3) (B1 @c1 @c2);with_reducible repeat' first|constructor|intro hc
   refine⟨k+1,⟨hkl,by rw[hs'];exact hi⟩,om,yV _,?_⟩;exact(have nC:=hs';A5.cn rfl)
 .have e:k=m.length:=om
  subst e;rw[zU];refine A9 Jv ?_;with_reducible repeat' first|constructor|intro hc
  exact zE
theorem Zm{id best out b:Int}(hid:BG id=true)(hb:BG b=true)(h:(best= -1/\out=id)\/(best=out/\best≠id/\BG best=true)):
  (Hg id best b= -1/\Pf (id+1) out b=id)\/(Hg id best b=Pf (id+1) out b/\Hg id best b≠id/\BG (Hg id best b)=true):=by
 have h1:=Cq hid;have h2:=Cq hb;rcases h with⟨rfl,rfl⟩|⟨rfl,h3,h4⟩
 .by_cases e:b=out
  .subst e;left;refine⟨by simp[Hg],?_⟩;simp[Pf]
  .right;have ea:Hg out (-1) b=b:=by simp[Hg,e]
   have eo:Pf (out+1) out b=b:=by
    unfold Pf;rw[zN (show An (out+1) b<An (out+1) out by unfold An;omega)];unfold C9;omega
   rw[ea,eo];exact⟨rfl,e,hb⟩
 .have h5:=Cq h4;right
  by_cases e:b=id
  .subst e;have ea:Hg b best b=best:=by simp[Hg]
   have eo:Pf (b+1) best b=best:=by
    unfold Pf;rw[zO (show ¬An (b+1) b<An (b+1) best by unfold An;omega)]
   rw[ea,eo];exact⟨rfl,h3,h4⟩
  .by_cases e2:An id b<An id best
   .have ea:Hg id best b=b:=by simp[Hg,e,e2]
    have eo:Pf (id+1) best b=b:=by
     unfold Pf;rw[zN (show An (id+1) b<An (id+1) best by unfold An at *;omega)];unfold C9;omega
    rw[ea,eo];exact⟨rfl,e,hb⟩
   .have hn:¬best<0:=om
    have ea:Hg id best b=best:=by simp[Hg,e2,hn]
    have eo:Pf (id+1) best b=best:=by
     unfold Pf;rw[zO (show ¬An (id+1) b<An (id+1) best by unfold An at *;omega)]
    rw[ea,eo];exact⟨rfl,h3,h4⟩
theorem t7{id:Int}(hid:BG id=true):∀(l:Ao)(best out:Int),(∀y∈l,BG y=true)->((best= -1/\out=id)\/(best=out/\best≠id/\BG best=true))->
  ((l.foldl (Hg id) best= -1/\l.foldl (Pf (id+1)) out=id)\/(l.foldl (Hg id) best=l.foldl (Pf (id+1)) out/\l.foldl (Hg id) best≠id/\BG (l.foldl (Hg id) best)=true))
 |[],best,out,_,h=>h
 |b::l,best,out,hl,h=>by
  simp only[q0c];exact t7 hid l _ _ (fun y hy=>hl y (q05 _ hy)) (Zm hid (hl b (q02 ..)) h)
theorem sy{id:Int}(hid:BG id=true):∀(l:Ao)(best:Int),(∀y∈l,BG y=true)->best≠ -1->l.foldl (Hg id) best≠ -1
 |[],best,_,h=>h
 |b::l,best,hl,h=>by
  simp only[q0c];refine sy hid l _ (fun y hy=>hl y (q05 _ hy)) ?_;have:=Cq (hl b (q02 ..));unfold Hg;split<;>omega
theorem Vk{id:Int}(hid:BG id=true):∀(l:Ao)(best:Int),(∀y∈l,BG y=true)->(∃y∈l,y≠id)->l.foldl (Hg id) best≠ -1
 |[],best,_,⟨y,hy,_⟩=>by cases hy
 |b::l,best,hl,⟨y,hy,hne⟩=>by
  simp only[q0c];have hb:=Cq (hl b (q02 ..))
  by_cases e:b=id
  .rcases q0C.mp hy with rfl|hy
   .exact absurd e hne
   .exact Vk hid l _ (fun y hy=>hl y (q05 _ hy)) ⟨y,hy,hne⟩
  .refine sy hid l _ (fun y hy=>hl y (q05 _ hy)) ?_;unfold Hg;split
   .omega
   .intro h;rename_i h1;exact h1 ⟨e,.inl om⟩
theorem Vp:∀(l:Ao)(f:Int),bT f l=true->∀y∈l,BG y=true/\y>f
 |[],f,_,y,hy=>by cases hy
 |a::r,f,h,y,hy=>by
  simp only[bT,yU,yc]at h;rcases q0C.mp hy with rfl|hy
  .exact h.1
  .have:=Vp r a h.2 y hy;exact⟨this.1,om⟩
theorem ME(h:CZ l=true):∀y∈l,BG y=true:=by
 simp only[CZ,yU]at h;exact fun y hy=>(Vp l _ h.2 y hy).1
theorem Tc(h:CZ l=true)(id:Int):∃y∈l,y≠id:=by
 simp only[CZ,yU,yc]at h
 match l,h with
 |a::b::r,h=>
  have h1:=Vp _ _ h.2
  have h2:bT a (b::r)=true:=by
   have:=h.2;simp only[bT,yU]at this|-;exact this.2
  have h3:=(Vp _ _ h2 b (q02 ..)).2
  by_cases e:a=id
  .exact⟨b,sm,om⟩
  .exact⟨a,sm,e⟩
 |[a],h=>exact absurd h.1.1 (show ¬2<=1 by decide)
 |[],h=>exact absurd h.1.1 (by decide)
theorem L6{id:Int}(hid:BG id=true)(h:CZ l=true):GG id l=nB (id+1) l/\BG (GG id l)=true/\GG id l≠id:=by
 have hp:=ME h;have hs:=Vk hid l (-1) hp (Tc h id)
 match l with
 |[]=>exact absurd rfl hs
 |a::r=>
  have ha:=Cq (hp a (q02 ..));have e:C9 a=a:=by unfold C9;omega
  have h0:Pf (id+1) a a=a:=by simp[Pf,e]
  have hS:nB (id+1) (a::r)=r.foldl (Pf (id+1)) a:=by
   show(a::r).foldl (Pf (id+1)) (C9 a)=_;rw[e,q0c,h0]
  have hA:GG id (a::r)=r.foldl (Hg id) (Hg id (-1) a):=rfl;rw[hS,hA]
  have hR:(Hg id (-1) a= -1/\a=id)\/(Hg id (-1) a=a/\Hg id (-1) a≠id/\BG (Hg id (-1) a)=true):=by
   by_cases e2:a=id
   .left;exact⟨by simp[Hg,e2],e2⟩
   .right;have e3:Hg id (-1) a=a:=by simp[Hg,e2]
    rw[e3];exact⟨rfl,e2,hp a (q02 ..)⟩
  rcases t7 hid r _ _ (fun y hy=>hp y (q05 _ hy)) hR with h1|h1
  .exact absurd h1.1 hs
  .exact⟨h1.1,h1.2.2,h1.2.1⟩
def XV(v:AB):Int:=if AZ v then GG v.id v.A2 else -1
def xL(a:Int):Ao->Int
 |[]=>a
 |b::_=>b
def FJ(v:AB):Int:=if AZ v then xL (GG v.id v.A2) v.A8 else -1
theorem Bz{v:AB}(h:AZ v=true):BG v.id=true/\CZ v.A2=true/\CB v.id v.A8=true/\Eu v.id v.AO=true/\(Hy v.f).all (Eu v.id)=true:=by
 simp only[AZ,yU]at h;exact⟨h.1.1.1,h.1.1.2,h.1.2,h.2.1,h.2.2⟩
theorem er(v:AB)(hb:v.A2.length<=1000)(hl:v.A8.length<=1000):yA 69 [v.d] (.yE (XV v)):=by
 obtain⟨id,A2,A8,AO,f⟩:=v;have c1:=jK ⟨id,A2,A8,AO,f⟩ hb hl;have c2:=fH ⟨id,A2,A8,AO,f⟩ om;refine zF AK Tryz.func69 ?_
 cases h:AZ ⟨id,A2,A8,AO,f⟩with
 |false=>
  have hT:XV ⟨id,A2,A8,AO,f⟩= -1:=by unfold XV;rw[h];rfl
  rw[h]at c1;refine AP [0,1,2,5] ?_ (AQ @c1);with_reducible repeat' first|constructor|intro hc
  exact BO hT
 |true=>
  have hT:XV ⟨id,A2,A8,AO,f⟩=GG id A2:=by unfold XV;rw[h];rfl
  rw[h]at c1;rw[hT];refine AP [0,1,2,5] ?_ (B1 @c1 @c2);with_reducible repeat' first|constructor|intro hc
  exact zE
theorem bG(v:AB)(hid:i64 v.id)(hli:∀y∈v.A8,i64 y)(hb:v.A2.length<=1000)(hl:v.A8.length<=1000):yA 214 [v.d] (.yE (XV v)):=by
 obtain⟨id,A2,A8,AO,f⟩:=v;have c1:=Ie ⟨id,A2,A8,AO,f⟩ hid hli hb hl;refine zF AK Tryz.func214 ?_
 cases h:AZ ⟨id,A2,A8,AO,f⟩with
 |false=>
  have hT:XV ⟨id,A2,A8,AO,f⟩= -1:=by unfold XV;rw[h];rfl
  rw[h]at c1;refine AP [0,1,2,3,7] ?_ (AQ @c1);exact BO hT
 |true=>
  have hT:XV ⟨id,A2,A8,AO,f⟩=GG id A2:=by unfold XV;rw[h];rfl
  obtain⟨r1,r2,-⟩:=Bz h;replace r1:BG id=true:=r1;replace r2:CZ A2=true:=r2;have r3:=Cq r1;have c2:=jf A2 (id+1) (by unfold i64;omega) (fun y hy=>by have:=Cq (ME r2 y hy);unfold i64;omega) (by have:A2.length<=1000:=hb;omega);rw[<-(L6 r1 r2).1]at c2;rw[h]at c1;rw[hT];refine AP [0,1,2,3,7] ?_ (B1 @c1 @c2);exact zE
theorem bb(v:AB)(hid:i64 v.id)(hli:∀y∈v.A8,i64 y)(hb:v.A2.length<=1000)(hl:v.A8.length<=1000):yA 145 [v.d] (.yE (FJ v)):=by
 obtain⟨id,A2,A8,AO,f⟩:=v;have c1:=Ie ⟨id,A2,A8,AO,f⟩ hid hli hb hl;have c2:=bG ⟨id,A2,A8,AO,f⟩ hid hli hb hl;refine zF AK Tryz.func145 ?_
 cases h:AZ ⟨id,A2,A8,AO,f⟩with
 |false=>
  have hT:FJ ⟨id,A2,A8,AO,f⟩= -1:=by unfold FJ;rw[h];rfl
  have hA:XV ⟨id,A2,A8,AO,f⟩= -1:=by unfold XV;rw[h];rfl
  rw[h]at c1;rw[hA]at c2;rw[hT];refine AP [0,1,2,10] ?_ (B1 @c1 @c2);exact zE
 |true=>
  have hT:FJ ⟨id,A2,A8,AO,f⟩=xL (GG id A2) A8:=by unfold FJ;rw[h];rfl
  have hA:XV ⟨id,A2,A8,AO,f⟩=GG id A2:=by unfold XV;rw[h];rfl
  rw[h]at c1;rw[hA]at c2;rw[hT]
  cases A8 with
  |nil=>
   refine AP [0,1,2,10] ?_ (B1 @c1 @c2);exact BO @xL.eq_1
  |cons a t=>
   have f1:decide (((a::t).length:Int)>0)=true:=yX (by simp only[yu];omega);refine AD [0,1,2,10] ?_ (AQ f1) (AQ @c1);with_reducible repeat' first|constructor|intro hc
   refine⟨_,_,rfl,rfl,?_⟩;simp[E5,B3,B8,Aq,xL]
end Go.Proofs.YthlmmkmeoblbhaaGreat
namespace Go.Proofs.YthlmmkmeoblbhaaGreat
namespace Nd
open Go.Gar
open Wi (AE BE Ay)
abbrev EN:BK:=[0,1,2,5,6,7,8,10,14,15,16,17,18,19,20,26]
abbrev MS:BK:=[0,1,2,4,6,8,9,10,11,18]
theorem lw(a x b:Int):yA 60 [.yE a,.yE x,.yE b] (.b (Dt a x b)):=by
 have c1:=P7 a x;have c2:=P7 a b;refine zF AK Tryz.func60 ?_;have h1:An a b=0↔C9 a=C9 b:=by unfold An C9;omega
 have h2:An a x>0↔C9 x≠C9 a:=by unfold An C9;omega
 have hT:Dt a x b=if An a b=0 then decide (An a x>0)else decide (An a x>0/\An a x<An a b):=by
  unfold Dt
  by_cases h:An a b=0
  .rw[zN h,zN (h1.1 h)]
   by_cases h3:An a x>0
   .rw[yX h3,yX (h2.1 h3)]
   .rw[yY h3,yY (fun h4=>h3 (h2.2 h4))]
  .rw[zO h,zO (fun h4=>h (h1.2 h4))]
 generalize Dt a x b=R at *;clear h1 h2;generalize An a x=u at *;generalize An a b=w at *;refine AP [0,1,2,6,7,8,16] ?_ (B1 @c1 @c2);repeat'(apply zB<;>intro hc)
 all_goals(clear c1 c2;refine⟨_,_,rfl,rfl,?_⟩;simp only[C4];refine congrArg D.b ?_;rw[hT];clear hT;grind)
theorem xe(x:Int)(l A2:Ao):FI (C9 x) l A2=FI x l A2:=by
 cases l with
 |nil=>rfl
 |cons b r=>
  show(A2.any (fun p=>Dt (C9 x) p b)||FI b r A2)=(A2.any (fun p=>Dt x p b)||FI b r A2)
  have:∀p,Dt (C9 x) p b=Dt x p b:=fun p=>by
   have e:C9 (C9 x)=C9 x:=by unfold C9;omega
   have e2:∀y,An (C9 x) y=An x y:=fun y=>dT x y;unfold Dt;rw[e,e2,e2]
  simp only[this]
theorem oi(x:Int)(l A2:Ao)(hn:l.length<=9223372036854775807)(hm:A2.length<=9223372036854775807):yA 24 [.yE x,.is l,.is A2] (.b (FI x l A2)):=by
 have cx:=L1 x;rw[<-xe];generalize C9 x=x0 at *;refine zF AK Tryz.func24 ?_;refine Fc EN ?_ (AQ @cx) (E8 [] (Ii x0 l));with_reducible repeat' first|constructor|intro hc
 refine zG (K:=fun r _ H'=>(FI x0 l A2=false/\H'=[.c [.yD A2],.c [.y5 x0],.c [.yD l],.lp r])\/
  (FI x0 l A2=true/\H'=[.c [.yD A2],.c [.y5 x0],.c [.yD l],.lp (r.left (.goto 0))])) ?_ ?_
 .intro r hr;refine zT AK Tryz.func112 ?_;refine A9 MS ?_;with_reducible repeat' first|constructor|intro hc
  have hk:=hr.ok (k:=3) rfl;refine BA (fun k=>k<=l.length/\FI x0 l A2=FI (ahead x0 l k) (l.drop k) A2) (fun k:Nat=>[(4,.y5 (ahead x0 l k)),(10,.y5 k)]) (fun k=>l.length-k) 0 ⟨yx _,rfl⟩ (fun _=>rfl) ?_ ?_
  .exact(have nC:=@ahead.eq_1;A5.cn rfl)
  rintro k ⟨hkk,hS⟩
  by_cases hkl:k<l.length
  .obtain⟨p,hp⟩:=AS hkl;have gp:=BQ hp
   have hd:l.drop k=p::l.drop (k+1):=by
    rw[q0V hkl];rw[yj hkl]at hp;cases hp;rfl
   have hN:ahead x0 l (k+1)=p:=gp;rw[hd]at hS;generalize hat:ahead x0 l k=a at *;have hS2:FI x0 l A2=(A2.any (fun q=>Dt a q p)||FI p (l.drop (k+1)) A2):=hS
   cases hb:A2.any (fun q=>Dt a q p)with
   |true=>
    have hY:YT Tryz.prog 3 [.y5 a,.y5 p] [.c [.yD A2],.c [.y5 x0],.c [.yD l],.lp r] fun v K=>v= .y7 false/\K=[.c [.yD A2],.c [.y5 x0],.c [.yD l],.lp (r.left (.goto 0))]:=by
     refine CE hr rfl rfl rfl ?_;refine A9 EN ?_;with_reducible repeat' first|constructor|intro hc
     refine zR ?_;refine A9 EN ?_;with_reducible repeat' first|constructor|intro hc
     refine BA (fun j=>j<=A2.length/\∀b∈A2.take j,Dt a b p=false) (fun j:Nat=>[(19,.y5 j)]) (fun j=>A2.length-j) 0 ⟨yx _,fun _ h=>by cases h⟩ (fun _=>rfl) ?_ ?_
     .exact A5.ck rfl
     rintro j ⟨hj,hpre⟩
     by_cases hjl:j<A2.length
     .obtain⟨b,hbj⟩:=AS hjl;have gb:=BQ hbj;have c1:=lw a b p
      cases hI:Dt a b p with
      |true=>
       rw[hI]at c1;refine AD EN ?_ (AQ gb) (AQ @c1);with_reducible repeat' first|constructor|intro hc
       exact⟨⟨[],[.c [.yD A2],.c [.y5 x0],.c [.yD l],.lp r.busy],_⟩,(A5.ck rfl),yV _,rfl,rfl,rfl⟩
      |false=>
       rw[hI]at c1;have hpre':=jI (g:=fun b=>Dt a b p) hbj hI hpre;refine AD EN ?_ (AQ gb) (AQ @c1);with_reducible repeat' first|constructor|intro hc
       refine⟨j+1,⟨hjl,hpre'⟩,om,yV _,?_⟩;exact A5.ck rfl
     .exfalso;have e:j=A2.length:=om
      subst e;rw[zU]at hpre;obtain⟨b,hb1,hb2⟩:=q1E.1 hb;rw[hpre b hb1]at hb2;cases hb2
    have q1:=@hY;refine Ae MS ?_ (AQ gp);clear q1;with_reducible repeat' first|constructor|intro hc
    exact⟨⟨[],[.c [.yD A2],.c [.y5 x0],.c [.yD l],.lp (r.left (.goto 0))],_⟩,(A5.ck rfl),yV _,_,_,rfl,rfl,.inr ⟨by rw[hS2,hb];rfl,rfl⟩⟩
   |false=>
    have hY:YT Tryz.prog 3 [.y5 a,.y5 p] [.c [.yD A2],.c [.y5 x0],.c [.yD l],.lp r] fun v K=>v= .y7 true/\K=[.c [.yD A2],.c [.y5 x0],.c [.yD l],.lp r]:=by
     refine CE hr rfl rfl rfl ?_;refine A9 EN ?_;with_reducible repeat' first|constructor|intro hc
     refine zR ?_;refine A9 EN ?_;with_reducible repeat' first|constructor|intro hc
     refine BA (fun j=>j<=A2.length) (fun j:Nat=>[(19,.y5 j)]) (fun j=>A2.length-j) 0 (yx _) (fun _=>rfl) ?_ ?_
     .exact A5.ck rfl
     intro j hj
     by_cases hjl:j<A2.length
     .obtain⟨b,hbj⟩:=AS hjl;have gb:=BQ hbj;have c1:=lw a b p
      have hI:Dt a b p=false:=by
       have:=q0O.1 hb b (zM hbj);simpa using this
      rw[hI]at c1;refine AD EN ?_ (AQ gb) (AQ @c1);with_reducible repeat' first|constructor|intro hc
      refine⟨j+1,om,om,yV _,?_⟩;exact A5.ck rfl
     .have e:j=A2.length:=om
      subst e;refine A9 EN ?_;with_reducible repeat' first|constructor|intro hc
      exact⟨⟨[],[.c [.yD A2],.c [.y5 x0],.c [.yD l],.lp r.busy],_⟩,(A5.ck rfl),yV _,rfl,rfl,rfl⟩
    have q1:=@hY;refine Ae MS ?_ (AQ gp);clear q1;with_reducible repeat' first|constructor|intro hc
    refine⟨k+1,⟨hkl,?_⟩,om,yV _,?_⟩
    .rw[hS2,hb,hN];rfl
    .exact(have nC:=hN;A5.cn rfl)
  .have e:k=l.length:=om
   subst e;rw[List.drop_length]at hS;replace hS:FI x0 l A2=false:=hS;refine A9 MS ?_;with_reducible repeat' first|constructor|intro hc
   exact⟨⟨[],[.c [.yD A2],.c [.y5 x0],.c [.yD l],.lp r],_⟩,(A5.ck rfl),yV _,_,_,rfl,rfl,.inl ⟨hS,rfl⟩⟩
 .rintro r hr y H' (⟨h,rfl⟩|⟨h,rfl⟩)
  .refine .inl ⟨rfl,?_⟩;rw[h];refine A9 EN ?_;with_reducible repeat' first|constructor|intro hc
   exact zE
  .refine .inr ⟨.goto 0,rfl,?_⟩;rw[h];refine A9 EN ?_;with_reducible repeat' first|constructor|intro hc
   exact zE
structure Af where
 to:Int
 by_:AT
 harmed:Bool
 deriving DecidableEq
def Af.A1(g:Af):yo:=[.yE g.to,.by g.by_,.b g.harmed]
def Af.d(g:Af):D:=.agg g.A1
end Nd
end Go.Proofs.YthlmmkmeoblbhaaGreat
namespace Go.Proofs.YthlmmkmeoblbhaaGreat
open Go.Gar
abbrev Mb:BK:=[0,1,4,5,6,10,18]
def E1(l:Ao)(d:Int):Ao:=l.filter fun x=>x !=d
theorem Lr(l:Ao)(d:Int):(E1 l d).length<=l.length:=q0b ..
variable {l:Ao}{d:Int}{k:Nat}
theorem Xr{x:Int}(hx:l[k]? =some x)(h:(x !=d)=true):E1 (l.take (k+1)) d=E1 (l.take k) d++[x]:=by
 unfold E1;rw[AM hx,List.filter_append];simp[h]
theorem UZ{x:Int}(hx:l[k]? =some x)(h:(x !=d)=false):E1 (l.take (k+1)) d=E1 (l.take k) d:=by
 unfold E1;rw[AM hx,List.filter_append];simp[h]
theorem TP(l:Ao)(d:Int)(hl:l.length<=1000):yA 284 [.is l,.yE d] (.is (E1 l d)):=by
 refine zF AK Tryz.func284 ?_;refine A9 Mb ?_;with_reducible repeat' first|constructor|intro hc
 refine Av (A5.EQ 5 (.is []) rfl rfl rfl trivial) sm ?_;refine BY (fun k=>k<=l.length) (fun k:Nat=>⟨[(0,.yD l),(1,.y5 d),(4,.e0),(5,.sl 0 (E1 (l.take k) d).length 1),(6,.y5 k)],[.a (.is (E1 (l.take k) d))],27⟩) (fun k=>l.length-k) 0 (yx _) ?_ (yV _) ?_
 .exact A5.ck rfl
 intro k hk;have hle:=Lr (l.take k) d;have htl:(l.take k).length<=k:=q0Q _ _
 by_cases hkl:k<l.length
 .obtain⟨x,hx⟩:=AS hkl;have gx:=BQ hx
  cases hT:(x !=d)with
  |true=>
   have hn:=Xr hx hT;refine Ae Mb ?_ (B1 gx hT);with_reducible repeat' first|constructor|intro hc
   refine⟨k+1,hkl,om,yV _,?_⟩;exact(have nC:=hn;A5.cn rfl)
  |false=>
   have hn:=UZ hx hT;refine Ae Mb ?_ (B1 gx hT);with_reducible repeat' first|constructor|intro hc
   refine⟨k+1,hkl,om,yV _,?_⟩;exact(have nC:=hn;A5.cn rfl)
 .have e:k=l.length:=om
  subst e;rw[zU];refine A9 Mb ?_;with_reducible repeat' first|constructor|intro hc
  exact zE
def Ca(v:AB)(d:Int):AB:=if AZ v&& !(decide (d∈v.A2))then⟨v.id,v.A2,E1 v.A8 d,if v.AO=d then -1 else v.AO,fun i=>if v.f i=d then -1 else v.f i⟩else v
def P6(f:Nat->Int)(d:Int)(x:Nat×(Nat->Int)):Prop:=x.1<=16/\∀i,x.2 i=if i<x.1 then(if f i=d then -1 else f i)else f i
variable {f:Nat->Int}
theorem ss:P6 f d (0,f):=⟨yx _,fun i=>rfl⟩
variable {h:Nat->Int}
theorem P6.at(hi:P6 f d (k,h)):h k=f k:=by
 have:=hi.2 k;simpa using this
theorem P6.yes(hi:P6 f d (k,h))(hk:k<16)(e:f k=d):P6 f d (k+1,fun i=>if i=k then -1 else h i):=by
 refine⟨hk,fun i=> ?_⟩;have:=hi.2 i;dsimp only at this|-
 by_cases e1:i=k
 .subst e1;simp[e]
 .rw[zO e1,this]
  by_cases e2:i<k
  .rw[zN e2,zN (show i<k+1 by omega)]
  .rw[zO e2,zO (show ¬i<k+1 by omega)]
theorem P6.no(hi:P6 f d (k,h))(hk:k<16)(e:f k≠d):P6 f d (k+1,h):=by
 refine⟨hk,fun i=> ?_⟩;have:=hi.2 i;dsimp only at this|-;rw[this]
 by_cases e1:i=k
 .subst e1;simp[e]
 .by_cases e2:i<k
  .rw[zN e2,zN (show i<k+1 by omega)]
  .rw[zO e2,zO (show ¬i<k+1 by omega)]
theorem P6.end(hi:P6 f d (16,h))(i:Nat)(hk:i<16):h i=if f i=d then -1 else f i:=by
 have:=hi.2 i;rwa [zN (show i<16 from hk)]at this
theorem YO(h:k<16):k=0\/k=1\/k=2\/k=3\/k=4\/k=5\/k=6\/k=7\/k=8\/k=9\/k=10\/k=11\/k=12\/k=13\/k=14\/k=15:=om
end Go.Proofs.YthlmmkmeoblbhaaGreat
namespace Go.Proofs.YthlmmkmeoblbhaaGreat
namespace Nd
open Go.Gar
open Wi (AE BE Ay AU C2 mC)
abbrev hC(n:A6)(aq:AV):yq:=.y5 n.A4.id:: .yD n.A4.A2:: .yD n.A4.A8:: .y5 n.A4.AO:: .y5 (n.A4.f 0):: .y5 (n.A4.f 1):: .y5 (n.A4.f 2):: .y5 (n.A4.f 3):: .y5 (n.A4.f 4):: .y5 (n.A4.f 5):: .y5 (n.A4.f 6):: .y5 (n.A4.f 7):: .y5 (n.A4.f 8):: .y5 (n.A4.f 9):: .y5 (n.A4.f 10):: .y5 (n.A4.f 11):: .y5 (n.A4.f 12):: .y5 (n.A4.f 13):: .y5 (n.A4.f 14):: .y5 (n.A4.f 15):: .y5 n.AJ:: .y5 n.AI.id:: .y5 n.AI.Ah:: .d (C3 n.AI.op):: .d (Aw n.BL):: .y8 n.A3:: .y5 n.BN:: .y8 n.Ag.AR:: .y8 n.Ag.A3:: .y5 n.Ag.Am.AH:: .y5 n.Ag.Am.Ck:: .y5 n.Ag.Am.Cs:: .y7 n.Ag.Am.BX:: .y7 n.Ag.Am.Dz:: .y5 n.Ag.Am.Ab:: .yC n.Ag.AC.AH:: .y5 n.Ag.AC.BD:: .y5 n.Ag.AC.Aa:: .y7 n.Ag.AC.gone:: .y5 n.Ag.Ar:: .yD n.Ag.left:: .y5 n.Ag.Ab:: .y8 n.Ak.AR:: .y8 n.Ak.A3:: .y5 n.Ak.Am.AH:: .y5 n.Ak.Am.Ck:: .y5 n.Ak.Am.Cs:: .y7 n.Ak.Am.BX:: .y7 n.Ak.Am.Dz:: .y5 n.Ak.Am.Ab:: .yC n.Ak.AC.AH:: .y5 n.Ak.AC.BD:: .y5 n.Ak.AC.Aa:: .y7 n.Ak.AC.gone:: .y5 n.Ak.Ar:: .yD n.Ak.left:: .y5 n.Ak.Ab:: .y8 n.Aj.AR:: .y8 n.Aj.A3:: .y5 n.Aj.Am.AH:: .y5 n.Aj.Am.Ck:: .y5 n.Aj.Am.Cs:: .y7 n.Aj.Am.BX:: .y7 n.Aj.Am.Dz:: .y5 n.Aj.Am.Ab:: .yC n.Aj.AC.AH:: .y5 n.Aj.AC.BD:: .y5 n.Aj.AC.Aa:: .y7 n.Aj.AC.gone:: .y5 n.Aj.Ar:: .yD n.Aj.left:: .y5 n.Aj.Ab:: .y5 n.next:: .yC n.last:: .d (Bf n.keep):: .y5 n.bad::aq::[]
end Nd
end Go.Proofs.YthlmmkmeoblbhaaGreat
namespace Go.Proofs.YthlmmkmeoblbhaaGreat
namespace Nd
open Go.Gar
open Wi (AE BE Ay AU C2 mC CG Ac)
abbrev Ba(l:List Af):D:=.sl 3 (l.map Af.A1)
end Nd
end Go.Proofs.YthlmmkmeoblbhaaGreat
namespace Go.Proofs.YthlmmkmeoblbhaaGreat
namespace Bg
open Go.Gar
open Nd (Af)
def ZW(u:UInt8)(m:Int):Int:=Cx .xor .u8 (u.toNat:Int) m
theorem em(u:UInt8)(m:Int):0<=ZW u m/\ZW u m<256:=by
 unfold ZW Cx;simp only[Sp];omega
def IT(y:AT)(i:Nat)(m:Int):AT:=y.set i (UInt8.ofNat (ZW (y.getD i 0) m).toNat)
def O9(g:Af)(i:Nat)(m:Int):Af:=⟨g.to,IT g.by_ i m,true⟩
theorem Uj(y:AT)(i:Nat)(m:Int):(IT y i m).length=y.length:=by simp[IT]
end Bg
end Go.Proofs.YthlmmkmeoblbhaaGreat
namespace Go.Proofs.YthlmmkmeoblbhaaGreat
open Go.Gar Go.Shelf Go.Sort Go.RowKit Go.Lib
set_option maxRecDepth 100000
theorem V0{α β:Type}(f:α->β):∀(l:List α)(i:Nat),(l.eraseIdx i).map f=(l.map f).eraseIdx i
 |[],_=>rfl
 |_::_,0=>rfl
 |a::r,i+1=>by simp only[List.eraseIdx_cons_succ,zV,V0 f r i]
theorem oT(l:List Nd.A6):∀e∈l.map Nd.A6.A1,e.length=76:=fun e he=>by
 obtain⟨n,_,rfl⟩:=q0q.1 he;rfl
end Go.Proofs.YthlmmkmeoblbhaaGreat
