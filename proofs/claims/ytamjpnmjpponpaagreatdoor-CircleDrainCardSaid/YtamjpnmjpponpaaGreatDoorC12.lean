/- Part 12 of a proof. Conditions: those that its theorems state. -/
import Derived.Test.YtamjpnmjpponpaaGreatDoorC11
set_option linter.unusedSimpArgs false
set_option linter.unusedVariables false
set_option linter.unnecessarySimpa false
set_option maxHeartbeats 40000000
set_option maxRecDepth 4000
namespace Go.Proofs.YtamjpnmjpponpaaGreatDoor
open Go.Gar
abbrev Hh:BF:=[0,1,4,5,7,8,9,16]
abbrev Jd:BF:=[0,1,4,5,10,14,25]
abbrev Je:BF:=[0,1,4,5,10,12,13,14,24]
def DN(n:Int):Int:=n%65536
def Ba(a b:Int):Int:=(b-a)%65536
theorem PU(n:Int):0<=DN n/\DN n<65536:=by unfold DN;omega
theorem cY(a b:Int):0<=Ba a b/\Ba a b<65536:=by unfold Ba;omega
theorem lc(a b:Int):DN (DN b-DN a)=Ba a b:=by unfold DN Ba;omega
theorem ju(n:Int):DK .and .i64 n 65535=DN n:=by
 have h1:((BitVec.ofInt 64 n)&&&(BitVec.ofInt 64 65535)).toNat=(n%65536).toNat:=by
  rw[BitVec.toNat_and];have e1:(BitVec.ofInt 64 65535).toNat=2^16-1:=by decide
  rw[e1,Nat.and_two_pow_sub_one_eq_mod,BitVec.toNat_ofInt];omega
 have e:DK .and .i64 n 65535=IntKind.wrap .i64 (((BitVec.ofInt 64 n)&&&(BitVec.ofInt 64 65535)).toNat:Int):=rfl;rw[e,h1,IntKind.wrap_i64];unfold DN;omega
theorem sY(n:Int):(n.tmod 65536+65536).tmod 65536=DN n:=by
 have h1:=Int.tmod_lt_of_pos n (show(0:Int)<65536 by decide);have h2:=Int.lt_tmod_of_pos n (show(0:Int)<65536 by decide);rw[Int.tmod_eq_emod_of_nonneg om];unfold DN;have h3:=Int.tmod_add_mul_tdiv n 65536;omega
theorem F7(n:Int):yS 195 [.yX n] (.yX (DN n)):=by
 have e:=ju n;refine zF AE Tryz.func195 ?_;refine Aj [0,2] ?_ (AK e);exact zE
theorem Iu(a b:Int):yS 198 [.yX a,.yX b] (.yX (Ba a b)):=by
 have c1:=F7 a;have c2:=F7 b;have c3:=F7 (DN b-DN a);rw[lc]at c3;have h1:=PU a;have h2:=PU b;refine zF AE Tryz.func198 ?_;refine AO [0,1,4] ?_ (CP @c1 @c2 @c3);exact zE
theorem Et(n:Int)(hn: -9223372036854775808<=n/\n<=9223372036854775807):yS 184 [.yX n] (.yX (DN n)):=by
 have e:=sY n;have h1:=Int.tmod_lt_of_pos n (show(0:Int)<65536 by decide);have h2:=Int.lt_tmod_of_pos n (show(0:Int)<65536 by decide);refine zF AE Tryz.func184 ?_;refine Aj [0,2] ?_ (AK e);exact zE
def i64(n:Int):Prop:=-9223372036854775808<=n/\n<=9223372036854775807
theorem dy(a b:Int)(ha:i64 a)(hb:i64 b):yS 256 [.yX a,.yX b] (.yX (Ba a b)):=by
 have h1:=PU a;have h2:=PU b;have c1:=Et a ha;have c2:=Et b hb;have c3:=Et (DN b-DN a) om;rw[lc]at c3;refine zF AE Tryz.func256 ?_;refine AO [0,1,4] ?_ (CP @c1 @c2 @c3);exact zE
def Bb(n:Int):Bool:=decide (0<=n/\n<65536)
theorem Iz{n:Int}(h:Bb n=true):0<=n/\n<65536:=by simpa[Bb]using h
theorem I2(n:Int):yS 146 [.yX n] (.b (Bb n)):=by
 refine zF AE Tryz.func146 ?_
 by_cases h1:0<=n
 .have f1:decide (n>=0)=true:=zU h1
  by_cases h2:n<65536
  .have f2:decide (n<65536)=true:=zU h2;have e:Bb n=true:=zU ⟨h1,h2⟩;rw[e];refine Aj [0,2] ?_ (Au f1 f2);exact zE
  .have f2:decide (n<65536)=false:=zQ h2;have e:Bb n=false:=zQ fun h=>h2 h.2
   rw[e];refine Aj [0,2] ?_ (Au f1 f2);exact zE
 .have f1:decide (n>=0)=false:=zQ h1;have e:Bb n=false:=zQ fun h=>h1 h.1
  rw[e];refine Aj [0,2] ?_ (AK f1);exact zE
theorem PF(n:Int):yS 197 [.yX n] (.b (Bb n)):=by
 refine zF AE Tryz.func197 ?_
 by_cases h1:0<=n
 .have f1:decide (n>=0)=true:=zU h1
  by_cases h2:n<65536
  .have f2:decide (n<65536)=true:=zU h2;have e:Bb n=true:=zU ⟨h1,h2⟩;rw[e];refine Aj [0,2] ?_ (Au f1 f2);exact zE
  .have f2:decide (n<65536)=false:=zQ h2;have e:Bb n=false:=zQ fun h=>h2 h.2
   rw[e];refine Aj [0,2] ?_ (Au f1 f2);exact zE
 .have f1:decide (n>=0)=false:=zQ h1;have e:Bb n=false:=zQ fun h=>h1 h.1
  rw[e];refine Aj [0,2] ?_ (AK f1);exact zE
theorem Mr(n:Int):yS 131 [.yX n] (.b (Bb n)):=by
 refine zF AE Tryz.func131 ?_
 by_cases h1:0<=n
 .have f1:decide (n>=0)=true:=zU h1
  by_cases h2:n<65536
  .have f2:decide (n<65536)=true:=zU h2;have e:Bb n=true:=zU ⟨h1,h2⟩;rw[e];refine Aj [0,2] ?_ (Au f1 f2);exact zE
  .have f2:decide (n<65536)=false:=zQ h2;have e:Bb n=false:=zQ fun h=>h2 h.2
   rw[e];refine Aj [0,2] ?_ (Au f1 f2);exact zE
 .have f1:decide (n>=0)=false:=zQ h1;have e:Bb n=false:=zQ fun h=>h1 h.1
  rw[e];refine Aj [0,2] ?_ (AK f1);exact zE
theorem ah(n:Int):yS 183 [.yX n] (.b (Bb n)):=by
 refine zF AE Tryz.func183 ?_
 by_cases h1:0<=n
 .have f1:decide (n>=0)=true:=zU h1
  by_cases h2:n<65536
  .have f2:decide (n<65536)=true:=zU h2;have e:Bb n=true:=zU ⟨h1,h2⟩;rw[e];refine Aj [0,2] ?_ (Au f1 f2);exact zE
  .have f2:decide (n<65536)=false:=zQ h2;have e:Bb n=false:=zQ fun h=>h2 h.2
   rw[e];refine Aj [0,2] ?_ (Au f1 f2);exact zE
 .have f1:decide (n>=0)=false:=zQ h1;have e:Bb n=false:=zQ fun h=>h1 h.1
  rw[e];refine Aj [0,2] ?_ (AK f1);exact zE
theorem N5(l:Ai)(hl:l.length<=100000):yS 19 [.is l] (.is l):=by
 refine zF AE Tryz.func19 ?_;have nS:=q0r
 repeat'(first|((with_reducible refine sg ?_);first|with_reducible rfl|((with_reducible refine Na ?_);first|kernel_rfl|rfl|(simp[Fp,IL,nS];done))|with_reducible refine Mb ?_ ?_|with_reducible exact q1K _|with_reducible exact DL _|((with_reducible refine zU ?_);first|omega|(simp only[IK,nS];omega))|decide|(simp[IK,slc,Cs,D.one,ER,AV.one,nS];done)|(simp[IK,nS];omega))|((with_reducible refine g0 ?_);first|(refine Er rfl ?_;refine el AE rfl rfl rfl rfl ?_)|refine q8 AE rfl rfl rfl rfl rfl rfl (fun hnil=> ?_) ?_|refine q9 AE rfl rfl rfl rfl rfl rfl (fun hnil=> ?_) ?_|refine Xq AE rfl rfl rfl rfl ?_ ?_|refine Xn [0,2,4] rfl ?_|refine Xw AE rfl rfl rfl rfl ?_ ?_)|refine IR ?_|refine Fh ?_|refine Fi ?_|refine IQ ?_|refine EU ?_|refine Fg ?_|refine Df rfl ?_|refine De rfl ?_|(refine FJ rfl (fun hc=> ?_) (fun hc=> ?_)<;>(try simp only[Ma]at hc)<;>(try(exfalso;omega))))
 .have e:=is_nil hnil;subst e;exact zE
 .exact zE
variable {l:Ai}{k:Nat}{x:Int}
theorem C5(hx:l[k]? =some x):l.getD k 0=x:=by rw[zo,hx];rfl
theorem jM(l:Ai)(x:Int)(hl:l.length<=100000)(hx:∀y∈l,x≠y):yS 177 [.is l,.yX x] (.yX (-1)):=by
 refine zF AE Tryz.func177 ?_;refine A9 Hh ?_;refine BX (fun k=>k<=l.length) (fun k:Nat=>⟨[(0,.yV l),(1,.yO x),(4,.yO 0),(7,.yO l.length),(8,.yO k)],[],19⟩) (fun k=>l.length-k) 0 (zi _) ?_ (zN _) ?_
 .exact A8.ck rfl
 intro k hk
 by_cases hkl:k<l.length
 .obtain⟨y,hy⟩:=Ah hkl;have gy:=C5 hy;have f1:=eq_false' (hx y (q00 hy));refine Aj Hh ?_ (Au gy f1);with_reducible repeat' first|constructor|intro hc
  refine⟨k+1,hkl,om,zN _,?_⟩;exact A8.ck rfl
 .have e:k=l.length:=om
  subst e;refine A9 Hh ?_;with_reducible repeat' first|constructor|intro hc
  exact zE
theorem jL(l:Ai)(x:Int)(n:Nat)(hl:l.length<=100000)(hn:l[n]? =some x)(hx:∀j y,j<n->l[j]? =some y->x≠y):yS 177 [.is l,.yX x] (.yX n):=by
 refine zF AE Tryz.func177 ?_;have hnl:=(zS.1 hn).1;refine A9 Hh ?_;refine BX (fun k=>k<=n) (fun k:Nat=>⟨[(0,.yV l),(1,.yO x),(4,.yO 0),(7,.yO l.length),(8,.yO k)],[],19⟩) (fun k=>n-k) 0 (zi _) ?_ (zN _) ?_
 .exact A8.ck rfl
 intro k hk
 by_cases hkl:k<n
 .obtain⟨y,hy⟩:=Ah (xs:=l) (k:=k) om;have gy:=C5 hy;have f1:=eq_false' (hx k y hkl hy);refine Aj Hh ?_ (Au gy f1);with_reducible repeat' first|constructor|intro hc
  refine⟨k+1,hkl,om,zN _,?_⟩;exact A8.ck rfl
 .have e:k=n:=om
  subst e;have gy:=C5 hn;refine Aj Hh ?_ (AK gy);with_reducible repeat' first|constructor|intro hc
  exact zE
theorem Eb(l:Ai)(x:Int)(hl:l.length<=100000):yS 120 [.is l,.yX x] (.b (decide (x∈l))):=by
 refine zF AE Tryz.func120 ?_
 by_cases hm:x∈l
 .obtain⟨n,hn⟩:∃n,l.findIdx? (fun y=>y==x)=some n:=by
   cases h:l.findIdx? (fun y=>y==x)with
   |some n=>exact⟨n,rfl⟩
   |none=>rw[q1o]at h;have:=h x hm;simp at this
  obtain⟨h1,h2,h3⟩:=List.findIdx?_eq_some_iff_getElem.1 hn
  have c:=jL l x n hl (by rw[zV h1];simpa using h2) (fun j y hj hy e=>by
   have:=h3 j hj;rw[(zS.1 hy).2,e]at this
   simp at this)
  rw[zU hm];have f1:decide ((n:Int)>=0)=true:=zU om;refine AJ [0,1,4] ?_ (AK f1) (AK @c);exact zE
 .have c:=jM l x hl (fun y hy e=>hm (e▸hy));rw[zQ hm];refine AO [0,1,4] ?_ (AK @c);exact zE
theorem dB(a b:Ai)(hl:a.length<=100000):yS 128 [.is a,.is b] (.b (decide (a=b))):=by
 refine zF AE Tryz.func128 ?_
 by_cases heq:a.length=b.length
 .have e1:((a.length:Int)!=(b.length:Int))=false:=C8 om;refine Aj Jd ?_ (AK e1);refine BX (fun k=>k<=a.length/\a.take k=b.take k) (fun k:Nat=>⟨[(0,.yV a),(1,.yV b),(4,.yP false),(5,.yO k)],[],26⟩) (fun k=>a.length-k) 0 ⟨zi _,sm⟩ ?_ (zN _) ?_
  .exact A8.ck rfl
  rintro k ⟨hk,hpre⟩
  by_cases hkl:k<a.length
  .obtain⟨x,hx⟩:=Ah hkl;obtain⟨y,hy⟩:=Ah (xs:=b) (k:=k) om;have gx:a.getD k 0=x:=by rw[zo,hx];rfl
   have gy:b.getD k 0=y:=by rw[zo,hy];rfl
   by_cases hxy:x=y
   .have f1:=C8 hxy;refine Aj Jd ?_ (CP gx gy f1);with_reducible repeat' first|constructor|intro hc
    refine⟨k+1,⟨hkl,by rw[q1S,q1S,hpre,hx,hy,hxy]⟩,om,zN _,?_⟩;exact A8.ck rfl
   .have hne:¬a=b:=fun e=>by subst e;rw[hx]at hy;cases hy;exact hxy rfl
    have f1:=CI hxy;refine Aj Jd ?_ (CP gx gy f1);with_reducible repeat' first|constructor|intro hc
    exact BW hne
  .have e:k=a.length:=om
   subst e;have hE:a=b:=by rw[q06,heq,q06]at hpre;exact hpre
   refine A9 Jd ?_;with_reducible repeat' first|constructor|intro hc
   exact BW hE
 .have e1:((a.length:Int)!=(b.length:Int))=true:=CI om;have hne:¬a=b:=fun e=>heq (by rw[e])
  refine Aj Jd ?_ (AK e1);exact BW hne
theorem WP(a b:Ai)(hl:a.length<=100000):yS 34 [.is a,.is b] (.b (decide (a=b))):=by
 refine zF AE Tryz.func34 ?_
 by_cases heq:a.length=b.length
 .have e1:((a.length:Int)!=(b.length:Int))=false:=C8 om;refine Aj Je ?_ (AK e1);refine BX (fun k=>k<=a.length/\a.take k=b.take k) (fun k:Nat=>⟨[(0,.yV a),(1,.yV b),(4,.yP false),(12,.yO a.length),(13,.yO k)],[],26⟩) (fun k=>a.length-k) 0 ⟨zi _,sm⟩ ?_ (zN _) ?_
  .exact A8.ck rfl
  rintro k ⟨hk,hpre⟩
  by_cases hkl:k<a.length
  .obtain⟨x,hx⟩:=Ah hkl;obtain⟨y,hy⟩:=Ah (xs:=b) (k:=k) om;have gx:a.getD k 0=x:=by rw[zo,hx];rfl
   have gy:b.getD k 0=y:=by rw[zo,hy];rfl
   by_cases hxy:x=y
   .have f1:=C8 hxy;refine Aj Je ?_ (CP gx gy f1);with_reducible repeat' first|constructor|intro hc
    refine⟨k+1,⟨hkl,by rw[q1S,q1S,hpre,hx,hy,hxy]⟩,om,zN _,?_⟩;exact A8.ck rfl
   .have hne:¬a=b:=fun e=>by subst e;rw[hx]at hy;cases hy;exact hxy rfl
    have f1:=CI hxy;refine Aj Je ?_ (CP gx gy f1);with_reducible repeat' first|constructor|intro hc
    exact BW hne
  .have e:k=a.length:=om
   subst e;have hE:a=b:=by rw[q06,heq,q06]at hpre;exact hpre
   refine A9 Je ?_;with_reducible repeat' first|constructor|intro hc
   exact BW hE
 .have e1:((a.length:Int)!=(b.length:Int))=true:=CI om;have hne:¬a=b:=fun e=>heq (by rw[e])
  refine Aj Je ?_ (AK e1);exact BW hne
abbrev Fa:BF:=[0,1,4,5,9,44]
abbrev EN:BF:=[0,1,2,4,5,6,9,14,15,16,28]
abbrev Fb:BF:=[0,1,2,4,6,8,9,10,11,18]
def rT(x:Int):Int->Ai->Bool
 |_,[]=>true
 |f,p::r=>(Bb p&&decide (Ba x p>f))&&rT x (Ba x p) r
def L2(x:Int):Int->Ai->Int
 |f,[]=>f
 |_,p::r=>L2 x (Ba x p) r
theorem Vs(x p:Int):∀(l:Ai)(f:Int),rT x f (l++[p])=(rT x f l&&(Bb p&&decide (Ba x p>L2 x f l)))
 |[],f=>by simp[rT,L2]
 |a::r,f=>by
  show((Bb a&&decide (Ba x a>f))&&rT x (Ba x a) (r++[p]))=(((Bb a&&decide (Ba x a>f))&&rT x (Ba x a) r)&&(Bb p&&decide (Ba x p>L2 x (Ba x a) r)));rw[Vs x p r];exact(Bool.and_assoc _ _ _).symm
theorem SP(x p:Int):∀(l:Ai)(f:Int),L2 x f (l++[p])=Ba x p
 |[],f=>rfl
 |a::r,f=>by simp only[zY,L2];exact SP x p r _
theorem o0(x:Int):∀(l m:Ai)(f:Int),rT x f l=false->rT x f (l++m)=false
 |[],m,f,h=>by cases h
 |a::r,m,f,h=>by
  simp only[zY,rT,Bool.and_eq_false_iff]at h|-;rcases h with h|h
  .exact .inl h
  .exact .inr (o0 x r m _ h)
theorem Vt{f:Int}(h:rT x f (l.take k)=false):rT x f l=false:=by
 rw[<-q0d k l];exact o0 x _ _ f h
variable {p:Int}
theorem Mm(hp:l[k]? =some p):L2 x 0 (l.take (k+1))=Ba x p:=by
 rw[AY hp,SP]
def CU(x:Int)(l:Ai):Bool:=decide (l.length<=3)&&rT x 0 l
theorem Zl(x a b:Int)(hx:i64 x)(ha:i64 a)(hb:i64 b):yS 185 [.yX x,.yX a,.yX b] (.b (decide (Ba x b>Ba x a))):=by
 have c1:=dy x b hx hb;have c2:=dy x a hx ha;refine zF AE Tryz.func185 ?_;refine AO [0,1,2,6] ?_ (Au @c1 @c2);exact zE
theorem lh(h:Bb p=true):(p=DN x)↔Ba x p=0:=by
 have:=Iz h;unfold DN Ba;omega
theorem lg(x:Int):Ba x (DN x)=0:=by unfold Ba DN;omega
theorem cZ(x p:Int):Ba (DN x) p=Ba x p:=by unfold Ba DN;omega
theorem T5(x:Int)(l:Ai)(hx:i64 x)(hl:∀y∈l,i64 y)(hn:l.length<=9223372036854775807):yS 132 [.yX x,.is l] (.b (CU x l)):=by
 refine zF AE Tryz.func132 ?_;refine A9 Fa ?_;refine BX (fun k=>k<=l.length/\rT x 0 (l.take k)=true) (fun k:Nat=>⟨[(0,.yO x),(1,.yV l),(4,.yP false),(5,.yO k)],[],48⟩) (fun k=>l.length-k) 0 ⟨zi _,rfl⟩ ?_ (zN _) ?_
 .exact A8.ck rfl
 rintro k ⟨hk,hpre⟩
 by_cases hkl:k<l.length
 .obtain⟨p,hp⟩:=Ah hkl;have gp:=C5 hp;have hs:=Vs x p (l.take k) 0;rw[<-AY hp,hpre,q0A]at hs;have hbad:rT x 0 (l.take (k+1))=false->CU x l=false:=fun h=>by unfold CU;rw[Vt h,q0v]
  have c1:=ah p;have c2:=Et x hx;have f0:=lh (x:=x) (p:=p);have hfl:=cY x p
  cases hpl:Bb p with
  |false=>
   rw[hpl]at c1 hs;have hB:=hbad hs;refine AJ Fa ?_ (AK gp) (AK @c1);with_reducible repeat' first|constructor|intro hc
   exact BW hB
  |true=>
   rw[hpl]at c1 hs;rw[q0A]at hs
   by_cases he:p=DN x
   .have hB:=hbad (by
     rw[hs,(f0 hpl).1 he];refine zQ ?_
     have:0<=L2 x 0 (l.take k):=by
      cases k with
      |zero=>exact q1C _
      |succ j=>
       obtain⟨q,hq⟩:=Ah (xs:=l) (k:=j) om;rw[Mm hq];exact(cY x q).1
     omega)
    have f1:=AT he;refine AJ Fa ?_ (Au gp f1) (Au @c1 @c2);with_reducible repeat' first|constructor|intro hc
    exact BW hB
   .have f1:=eq_false' he
    by_cases k0:k=0
    .subst k0
     have hok:rT x 0 (l.take 1)=true:=by
      rw[hs];refine zU ?_;have h1:Ba x p≠0:=fun h=>he ((f0 hpl).2 h)
      show Ba x p>0;omega
     refine AJ Fa ?_ (Au gp f1) (Au @c1 @c2);with_reducible repeat' first|constructor|intro hc
     refine⟨1,⟨hkl,hok⟩,om,zN _,?_⟩;exact A8.ck rfl
    .obtain⟨q,hq⟩:=Ah (xs:=l) (k:=k-1) om;have gq:=C5 hq
     have hlq:L2 x 0 (l.take k)=Ba x q:=by
      have:=Mm (x:=x) hq;rwa [show k-1+1=k by omega]at this
     have c3:=Zl x q p hx (hl q (q00 hq)) (hl p (q00 hp));have f2:(k:Int)-1=((k-1:Nat):Int):=om
     have f3:decide ((k:Int)>0)=true:=zU om;rw[hlq]at hs
     cases hd:decide (Ba x p>Ba x q)with
     |true=>
      rw[hd]at hs c3;refine AJ Fa ?_ (TT gp gq f1 f2 f3) (CP @c1 @c2 @c3);with_reducible repeat' first|constructor|intro hc
      refine⟨k+1,⟨hkl,hs⟩,om,zN _,?_⟩;exact A8.ck rfl
     |false=>
      rw[hd]at hs c3;have hB:=hbad hs;refine AJ Fa ?_ (TT gp gq f1 f2 f3) (CP @c1 @c2 @c3);with_reducible repeat' first|constructor|intro hc
      exact BW hB
 .have e:k=l.length:=om
  subst e;rw[q06]at hpre;have hR:CU x l=decide (l.length<=3):=by unfold CU;rw[hpre,q1G]
  by_cases h3:l.length<=3
  .have f1:decide ((l.length:Int)<=3)=true:=zU om;have hT:CU x l=true:=by rw[hR];exact zU h3
   refine Aj Fa ?_ (AK f1);with_reducible repeat' first|constructor|intro hc
   exact BW hT
  .have f1:decide ((l.length:Int)<=3)=false:=zQ om;have hT:CU x l=false:=by rw[hR];exact zQ h3
   refine Aj Fa ?_ (AK f1);with_reducible repeat' first|constructor|intro hc
   exact BW hT
theorem PV(x:Int)(l:Ai)(hx:i64 x)(hl:∀y∈l,i64 y)(hn:l.length<=1000):yS 132 [.yX x,.is l] (.b (CU x l)):=T5 x l hx hl (q0L hn (by decide))
theorem IC(x:Int)(l:Ai):yT 196 [.yO x,.yV l] [] (.fn (.func 260) [] [.ptr 0 0 1,.ptr 1 0 1]) [.c [.yO x],.c [.yV l]]:=by
 refine zD AE Tryz.func196 ?_;refine A9 [0,1,2,3,4] ?_;exact wE
def ahead(x:Int)(l:Ai):Nat->Int
 |0=>x
 |k+1=>l.getD k 0
theorem em(x:Int)(l:Ai)(k:Nat)(hk:k<=l.length):Ba x (ahead (DN x) l k)=L2 x 0 (l.take k):=by
 cases k with
 |zero=>exact lg x
 |succ j=>
  obtain⟨q,hq⟩:=Ah (xs:=l) (k:=j) om;rw[Mm hq];show Ba x (l.getD j 0)=_;rw[C5 hq]
theorem SK(x:Int)(l:Ai)(hn:l.length<=9223372036854775807):yS 148 [.yX x,.is l] (.b (CU x l)):=by
 refine zF AE Tryz.func148 ?_
 by_cases h3:l.length>3
 .have f1:decide ((l.length:Int)>3)=true:=zU om;have hT:CU x l=false:=by unfold CU;rw[zQ om];rfl
  refine Aj EN ?_ (AK f1);exact BW hT
 have f1:decide ((l.length:Int)>3)=false:=zQ om;have hR:CU x l=rT x 0 l:=by unfold CU;rw[zU om];rfl
 have cx:=F7 x;refine By EN ?_ (AK f1) (AK @cx) (BJ [] (IC (DN x) l))
 refine zG (K:=fun r _ H'=>(rT x 0 l=true/\H'=[.c [.yO (DN x)],.c [.yP false],.c [.yO (DN x)],.c [.yV l],.lp r])\/
  (rT x 0 l=false/\H'=[.c [.yO (DN x)],.c [.yP false],.c [.yO (DN x)],.c [.yV l],.lp (r.left .ret)])) ?_ ?_
 .intro r hr;refine zT AE Tryz.func260 ?_;refine A9 Fb ?_;have hk:=hr.ok (k:=4) rfl;refine BX (fun k=>k<=l.length/\rT x 0 (l.take k)=true) (fun k:Nat=>⟨[(0,.yl 4),(1,.ptr 2 0 1),(2,.ptr 3 0 1),(4,.yO (ahead (DN x) l k)),(8,.yV l),(9,.yO l.length),(10,.yO k)],[.c [.yO (DN x)],.c [.yP false],.c [.yO (DN x)],.c [.yV l],.lp r],21⟩) (fun k=>l.length-k) 0 ⟨zi _,rfl⟩ ?_ (zN _) ?_
  .exact(have nC:=@ahead.eq_1;A8.cn rfl)
  rintro k ⟨hkk,hpre⟩
  by_cases hkl:k<l.length
  .obtain⟨p,hp⟩:=Ah hkl;have gp:=C5 hp;have hs:=Vs x p (l.take k) 0;rw[<-AY hp,hpre,q0A]at hs;have ha:=em x l k hkk;have ga:ahead (DN x) l (k+1)=p:=gp;have c1:=PF p;have c2:=Iu (DN x) p;have c3:=Iu (DN x) (ahead (DN x) l k);rw[cZ]at c2 c3;rw[ha]at c3;generalize L2 x 0 (l.take k)=lf at *;generalize ahead (DN x) l k=ak at*
   have hb:decide (Ba x p<=lf)= !decide (Ba x p>lf):=by
    by_cases h:Ba x p>lf
    .rw[zU h,zQ om];rfl
    .rw[zQ h,zU om];rfl
   cases hpl:Bb p with
   |false=>
    rw[hpl]at c1 hs;refine Aj Fb ?_ (AK gp);with_reducible repeat' first|constructor|intro hc
    refine Xy (x:=.yP false) (H':=[.c [.yO (DN x)],.c [.yP false],.c [.yO (DN x)],.c [.yV l],.lp (r.left .ret)]) (Ar hr rfl rfl rfl ?_) rfl rfl rfl rfl rfl ?_
    .refine A9 EN ?_;refine zR ?_;refine AO EN ?_ (AK @c1);exact⟨_,A8.refl _,zN _,rfl,rfl,rfl⟩
    .refine A9 Fb ?_;exact⟨_,A8.refl _,zN _,_,_,rfl,rfl,.inr ⟨Vt hs,rfl⟩⟩
   |true=>
    rw[hpl]at c1 hs;rw[q0A]at hs
    cases hd:decide (Ba x p>lf)with
    |false=>
     rw[hd]at hs hb;refine Aj Fb ?_ (AK gp);with_reducible repeat' first|constructor|intro hc
     refine Xy (x:=.yP false) (H':=[.c [.yO (DN x)],.c [.yP false],.c [.yO (DN x)],.c [.yV l],.lp (r.left .ret)]) (Ar hr rfl rfl rfl ?_) rfl rfl rfl rfl rfl ?_
     .refine A9 EN ?_;refine zR ?_;refine AJ EN ?_ (AK hb) (CP @c1 @c2 @c3);exact⟨_,A8.refl _,zN _,rfl,rfl,rfl⟩
     .refine A9 Fb ?_;exact⟨_,A8.refl _,zN _,_,_,rfl,rfl,.inr ⟨Vt hs,rfl⟩⟩
    |true=>
     rw[hd]at hs hb;refine Aj Fb ?_ (AK gp);with_reducible repeat' first|constructor|intro hc
     refine Xy (x:=.yP true) (H':=[.c [.yO (DN x)],.c [.yP false],.c [.yO (DN x)],.c [.yV l],.lp r]) (Ar hr rfl rfl rfl ?_) rfl rfl rfl rfl rfl ?_
     .refine A9 EN ?_;refine zR ?_;refine AJ EN ?_ (AK hb) (CP @c1 @c2 @c3);exact⟨_,A8.refl _,zN _,rfl,rfl,rfl⟩
     .refine A9 Fb ?_;refine⟨k+1,⟨hkl,hs⟩,om,zN _,?_⟩;exact(have nC:=ga;A8.cn rfl)
  .have e:k=l.length:=om
   subst e;rw[q06]at hpre;refine A9 Fb ?_;with_reducible repeat' first|constructor|intro hc
   exact⟨_,A8.refl _,zN _,_,_,rfl,rfl,.inl ⟨hpre,rfl⟩⟩
 .rintro r hr y H' (⟨h,rfl⟩|⟨h,rfl⟩)
  .refine .inl ⟨rfl,?_⟩;rw[h]at hR;refine A9 EN ?_;exact BW hR
  .refine .inr ⟨.ret,rfl,?_⟩;rw[h]at hR;refine A9 EN ?_;exact BW hR
theorem gN(x:Int)(l:Ai)(hn:l.length<=1000):yS 148 [.yX x,.is l] (.b (CU x l)):=SK x l (q0L hn (by decide))
abbrev Fc:BF:=[0,2,3,4,12,13,14,15,16,35]
structure AG where
 id:Int
 A6:Ai
 AB:Ai
 AH:Int
 f:Nat->Int
def D6(f:Nat->Int):Ai:=[f 0,f 1,f 2,f 3,f 4,f 5,f 6,f 7,f 8,f 9,f 10,f 11,f 12,f 13,f 14,f 15]
def AG.A4(v:AG):yp:=[.yX v.id,.is v.A6,.is v.AB,.yX v.AH,.yX (v.f 0),.yX (v.f 1),.yX (v.f 2),.yX (v.f 3),.yX (v.f 4),.yX (v.f 5),.yX (v.f 6),.yX (v.f 7),.yX (v.f 8),.yX (v.f 9),.yX (v.f 10),.yX (v.f 11),.yX (v.f 12),.yX (v.f 13),.yX (v.f 14),.yX (v.f 15)]
def AG.d(v:AG):D:=.agg v.A4
def bT:Int->Ai->Bool
 |_,[]=>true
 |f,p::r=>(Bb p&&decide (p>f))&&bT p r
def lastB:Int->Ai->Int
 |f,[]=>f
 |_,p::r=>lastB p r
theorem Us(p:Int):∀(l:Ai)(f:Int),bT f (l++[p])=(bT f l&&(Bb p&&decide (p>lastB f l)))
 |[],f=>by simp[bT,lastB]
 |a::r,f=>by
  show((Bb a&&decide (a>f))&&bT a (r++[p]))=(((Bb a&&decide (a>f))&&bT a r)&&(Bb p&&decide (p>lastB a r)));rw[Us p r];exact(Bool.and_assoc _ _ _).symm
theorem SN(p:Int):∀(l:Ai)(f:Int),lastB f (l++[p])=p
 |[],f=>rfl
 |a::r,f=>by simp only[zY,lastB];exact SN p r _
theorem kE:∀(l m:Ai)(f:Int),bT f l=false->bT f (l++m)=false
 |[],m,f,h=>by cases h
 |a::r,m,f,h=>by
  simp only[zY,bT,Bool.and_eq_false_iff]at h|-;rcases h with h|h
  .exact .inl h
  .exact .inr (kE r m _ h)
theorem QV{f:Int}(h:bT f (l.take k)=false):bT f l=false:=by
 rw[<-q0d k l];exact kE _ _ f h
theorem SO(hp:l[k]? =some p):lastB (-1) (l.take (k+1))=p:=by
 rw[AY hp,SN]
def Cn(l:Ai):Bool:=(decide (2<=l.length)&&decide (l.length<=4))&&bT (-1) l
theorem Tg(l:Ai)(hn:l.length<=9223372036854775807):yS 147 [.is l] (.b (Cn l)):=by
 refine zF AE Tryz.func147 ?_
 by_cases h2:l.length<2
 .have f1:decide ((l.length:Int)<2)=true:=zU om;have hT:Cn l=false:=by unfold Cn;rw[zQ (show ¬2<=l.length by omega)];rfl
  refine Aj Fc ?_ (AK f1);exact BW hT
 have f1:decide ((l.length:Int)<2)=false:=zQ om
 by_cases h4:l.length>4
 .have f2:decide ((l.length:Int)>4)=true:=zU om;have hT:Cn l=false:=by unfold Cn;rw[zQ (show ¬l.length<=4 by omega),q0v];rfl
  refine Aj Fc ?_ (Au f1 f2);exact BW hT
 have f2:decide ((l.length:Int)>4)=false:=zQ om;have hR:Cn l=bT (-1) l:=by unfold Cn;rw[zU (show 2<=l.length by omega),zU (show l.length<=4 by omega)];rfl
 refine Aj Fc ?_ (Au f1 f2);refine BX (fun k=>k<=l.length/\bT (-1) (l.take k)=true) (fun k:Nat=>⟨[(0,.yV l),(2,.yP false),(13,.yV l),(14,.yO l.length),(15,.yO k)],[],37⟩) (fun k=>l.length-k) 0 ⟨zi _,rfl⟩ ?_ (zN _) ?_
 .exact A8.ck rfl
 rintro k ⟨hk,hpre⟩
 by_cases hkl:k<l.length
 .obtain⟨p,hp⟩:=Ah hkl;have gp:=C5 hp;have hs:=Us p (l.take k) (-1);rw[<-AY hp,hpre,q0A]at hs;have c1:=I2 p
  cases hpl:Bb p with
  |false=>
   rw[hpl]at c1 hs;have hB:=QV hs;rw[hB]at hR;refine AJ Fc ?_ (AK gp) (AK @c1);with_reducible repeat' first|constructor|intro hc
   exact BW hR
  |true=>
   rw[hpl]at c1 hs;rw[q0A]at hs;have hp0:=Iz hpl
   by_cases k0:k=0
   .subst k0
    have hok:bT (-1) (l.take 1)=true:=by
     rw[hs];exact zU (by show p> -1;omega)
    refine AJ Fc ?_ (AK gp) (AK @c1);with_reducible repeat' first|constructor|intro hc
    refine⟨1,⟨hkl,hok⟩,om,zN _,?_⟩;exact A8.ck rfl
   .obtain⟨q,hq⟩:=Ah (xs:=l) (k:=k-1) om;have gq:=C5 hq
    have hlq:lastB (-1) (l.take k)=q:=by
     have:=SO hq;rwa [show k-1+1=k by omega]at this
    have f4:(k:Int)-1=((k-1:Nat):Int):=om
    have f3:decide ((k:Int)>0)=true:=zU om;rw[hlq]at hs
    by_cases hd:p>q
    .rw[zU hd]at hs;have f5:decide (p<=q)=false:=zQ om;refine AJ Fc ?_ (TT gp gq f3 f4 f5) (AK @c1);with_reducible repeat' first|constructor|intro hc
     refine⟨k+1,⟨hkl,hs⟩,om,zN _,?_⟩;exact A8.ck rfl
    .rw[zQ hd]at hs;have hB:=QV hs;rw[hB]at hR;have f5:decide (p<=q)=true:=zU om;refine AJ Fc ?_ (TT gp gq f3 f4 f5) (AK @c1);with_reducible repeat' first|constructor|intro hc
     exact BW hR
 .have e:k=l.length:=om
  subst e;rw[q06]at hpre;rw[hpre]at hR;refine A9 Fc ?_;with_reducible repeat' first|constructor|intro hc
  exact BW hR
def F2(id n:Int):Bool:=decide (n= -1)||(Bb n&&decide (n≠id))
theorem Y8(v:AG)(n:Int):yS 133 [v.d,.yX n] (.b (F2 v.id n)):=by
 obtain⟨id,A6,AB,AH,f⟩:=v;have c1:=Mr n;refine zF AE Tryz.func133 ?_
 by_cases h1:n= -1
 .have f1:=AT h1;have e:F2 id n=true:=by simp[F2,h1]
  refine Aj [0,1,2,4] ?_ (AK f1);exact BW e
 have f1:=eq_false' h1;have e:F2 id n=(Bb n&&decide (n≠id)):=by simp[F2,h1]
 cases hp:Bb n with
 |false=>
  rw[hp]at c1 e;refine AJ [0,1,2,4] ?_ (AK f1) (AK @c1);exact BW e
 |true=>
  rw[hp]at c1 e
  by_cases h2:n=id
  .have f2:=C8 h2;have e2:F2 id n=false:=by rw[e];simp[h2]
   refine AJ [0,1,2,4] ?_ (Au f1 f2) (AK @c1);exact BW e2
  .have f2:=CI h2;have e2:F2 id n=true:=by rw[e];simp[h2]
   refine AJ [0,1,2,4] ?_ (Au f1 f2) (AK @c1);exact BW e2
def Aq(v:AG):Bool:=((Bb v.id&&Cn v.A6)&&CU v.id v.AB)&&(F2 v.id v.AH&&(D6 v.f).all (F2 v.id))
theorem HS(v:AG)(h1:v.A6.length<=100000)(h2:v.AB.length<=100000):yS 58 [v.d] v.d:=by
 obtain⟨id,A6,AB,AH,f⟩:=v;have c1:=N5 A6 h1;have c2:=N5 AB h2;refine zF AE Tryz.func58 ?_;refine AO [0,1,2] ?_ (Au @c1 @c2);exact BW (zh @AG.d.eq_1 @AG.A4.eq_1)
abbrev E8:BF:=[0,1,2,3,4,35,40,67,69,78]
theorem f_all{f:Nat->Int}{id:Int}:(D6 f).all (F2 id)=(F2 id (f 0)&&(F2 id (f 1)&&(F2 id (f 2)&&(F2 id (f 3)&&(F2 id (f 4)&&(F2 id (f 5)&&(F2 id (f 6)&&(F2 id (f 7)&&(F2 id (f 8)&&(F2 id (f 9)&&(F2 id (f 10)&&(F2 id (f 11)&&(F2 id (f 12)&&(F2 id (f 13)&&(F2 id (f 14)&&(F2 id (f 15)&&true)))))))))))))))):=rfl
theorem YS(v:AG)(hid:i64 v.id)(hli:∀y∈v.AB,i64 y)(hb:v.A6.length<=9223372036854775807)(hl:v.AB.length<=9223372036854775807):yS 53 [v.d] (.b (Aq v)):=by
 obtain⟨id,A6,AB,AH,f⟩:=v;replace hid:i64 id:=hid;replace hli:∀y∈AB,i64 y:=hli;replace hb:A6.length<=9223372036854775807:=hb;replace hl:AB.length<=9223372036854775807:=hl;have c1:=Mr id;have c2:=T5 id AB hid hli hl;have c3:=Y8 ⟨id,A6,AB,AH,f⟩ AH;have c4:=Y8 ⟨id,A6,AB,AH,f⟩;have hR:Aq ⟨id,A6,AB,AH,f⟩=(((Bb id&&Cn A6)&&CU id AB)&&(F2 id AH&&(D6 f).all (F2 id))):=rfl;refine zF AE Tryz.func53 ?_
 cases h1:Bb id with
 |false=>
  rw[h1]at c1 hR;refine AO E8 ?_ (AK @c1);exact BW hR
 |true=>
 rw[h1]at c1 hR
 by_cases h2:A6.length<2
 .have f1:decide ((A6.length:Int)<2)=true:=zU om;have hB:Cn A6=false:=by unfold Cn;rw[zQ (show ¬2<=A6.length by omega)];rfl
  rw[hB]at hR;refine AJ E8 ?_ (AK f1) (AK @c1);exact BW hR
 have f1:decide ((A6.length:Int)<2)=false:=zQ om
 by_cases h4:A6.length>4
 .have f2:decide ((A6.length:Int)>4)=true:=zU om;have hB:Cn A6=false:=by unfold Cn;rw[zQ (show ¬A6.length<=4 by omega),q0v];rfl
  rw[hB]at hR;refine AJ E8 ?_ (Au f1 f2) (AK @c1);exact BW hR
 have f2:decide ((A6.length:Int)>4)=false:=zQ om;have hRB:Cn A6=bT (-1) A6:=by unfold Cn;rw[zU (show 2<=A6.length by omega),zU (show A6.length<=4 by omega)];rfl
 rw[hRB]at hR
 cases h3:CU id AB with
 |false=>
  rw[h3]at c2 hR;rw[q0v,q0m]at hR;refine AJ E8 ?_ (Au f1 f2) (Au @c1 @c2);exact BW hR
 |true=>
 rw[h3]at c2 hR
 cases h5:F2 id AH with
 |false=>
  change Go.Gar.Fn _ _ _ (.b (F2 id AH))at c3;rw[h5]at c3 hR;rw[q0m,q0v]at hR;refine AJ E8 ?_ (Au f1 f2) (CP @c1 @c2 @c3);exact BW hR
 |true=>
 change Go.Gar.Fn _ _ _ (.b (F2 id AH))at c3;rw[h5]at c3 hR;rw[q0A,q1G,q0A]at hR;refine AJ E8 ?_ (Au f1 f2) (CP @c1 @c2 @c3);refine BX (fun k=>k<=A6.length/\bT (-1) (A6.take k)=true) (fun k:Nat=>⟨[(1,.ptr 0 0 20),(2,.yP false),(3,.yO k)],[.c [.yO id,.yV A6,.yV AB,.yO AH,.yO (f 0),.yO (f 1),.yO (f 2),.yO (f 3),.yO (f 4),.yO (f 5),.yO (f 6),.yO (f 7),.yO (f 8),.yO (f 9),.yO (f 10),.yO (f 11),.yO (f 12),.yO (f 13),.yO (f 14),.yO (f 15)]],79⟩) (fun k=>A6.length-k) 0 ⟨zi _,rfl⟩ ?_ (zN _) ?_
 .exact A8.ck rfl
 rintro k ⟨hk,hpre⟩
 by_cases hkl:k<A6.length
 .obtain⟨p,hp⟩:=Ah hkl;have gp:=C5 hp;have hs:=Us p (A6.take k) (-1);rw[<-AY hp,hpre,q0A]at hs;have d1:=Mr p
  cases hpl:Bb p with
  |false=>
   rw[hpl]at d1 hs;rw[QV hs]at hR;refine AJ E8 ?_ (AK gp) (AK @d1);with_reducible repeat' first|constructor|intro hc
   exact BW hR
  |true=>
   rw[hpl]at d1 hs;rw[q0A]at hs;have hp0:=Iz hpl
   by_cases k0:k=0
   .subst k0
    have hok:bT (-1) (A6.take 1)=true:=by
     rw[hs];exact zU (by show p> -1;omega)
    refine AJ E8 ?_ (AK gp) (AK @d1);with_reducible repeat' first|constructor|intro hc
    refine⟨1,⟨hkl,hok⟩,om,zN _,?_⟩;exact A8.ck rfl
   .obtain⟨q,hq⟩:=Ah (xs:=A6) (k:=k-1) om;have gq:=C5 hq
    have hlq:lastB (-1) (A6.take k)=q:=by
     have:=SO hq;rwa [show k-1+1=k by omega]at this
    have f4:(k:Int)-1=((k-1:Nat):Int):=om
    have f3:decide ((k:Int)>0)=true:=zU om;rw[hlq]at hs
    by_cases hd:p>q
    .rw[zU hd]at hs;have f5:decide (p<=q)=false:=zQ om;refine AJ E8 ?_ (TT gp gq f3 f4 f5) (AK @d1);with_reducible repeat' first|constructor|intro hc
     refine⟨k+1,⟨hkl,hs⟩,om,zN _,?_⟩;exact A8.ck rfl
    .rw[zQ hd]at hs;rw[QV hs]at hR;have f5:decide (p<=q)=true:=zU om;refine AJ E8 ?_ (TT gp gq f3 f4 f5) (AK @d1);with_reducible repeat' first|constructor|intro hc
     exact BW hR
 .have e:k=A6.length:=om
  subst e;rw[q06]at hpre;rw[hpre,q0A,f_all]at hR;change ∀n,Go.Gar.Fn _ _ _ (.b (F2 id n))at c4;have un:No 17:=trivial;refine AO E8 ?_ (AK @c4);clear un;with_reducible repeat' first|constructor|intro hc
  all_goals first
   |(refine⟨_,_,rfl,rfl,?_⟩;simp[LL,BP,Bl,BM,hR];done)
   |(refine⟨_,_,rfl,rfl,?_⟩;simp_all[Cw];done)
abbrev D2:BF:=[0,1,2,3,21,23,24,37]
def vC(id:Int)(A6 AB:Ai)(AH:Int)(f:Nat->Int):yr:=[.yO id,.yV A6,.yV AB,.yO AH,.yO (f 0),.yO (f 1),.yO (f 2),.yO (f 3),.yO (f 4),.yO (f 5),.yO (f 6),.yO (f 7),.yO (f 8),.yO (f 9),.yO (f 10),.yO (f 11),.yO (f 12),.yO (f 13),.yO (f 14),.yO (f 15)]
theorem rW(id:Int)(A6 AB:Ai)(AH:Int)(f:Nat->Int):yT 149 [.d (AG.d ⟨id,A6,AB,AH,f⟩)] [] (.fn (.func 199) [] [.ptr 0 0 20]) [.c [.yO id,.yV A6,.yV AB,.yO AH,.yO (f 0),.yO (f 1),.yO (f 2),.yO (f 3),.yO (f 4),.yO (f 5),.yO (f 6),.yO (f 7),.yO (f 8),.yO (f 9),.yO (f 10),.yO (f 11),.yO (f 12),.yO (f 13),.yO (f 14),.yO (f 15)]]:=by
 refine zD AE Tryz.func149 ?_;refine A9 [0,1,2] ?_;exact wE
theorem TO(v:AG)(hb:v.A6.length<=9223372036854775807)(hl:v.AB.length<=9223372036854775807):yS 69 [v.d] (.b (Aq v)):=by
 obtain⟨id,A6,AB,AH,f⟩:=v;replace hb:A6.length<=9223372036854775807:=hb;replace hl:AB.length<=9223372036854775807:=hl;have c1:=I2 id;have c2:=Tg A6 hb;have c3:=SK id AB hl;have c4:=I2;have hR:Aq ⟨id,A6,AB,AH,f⟩=(((Bb id&&Cn A6)&&CU id AB)&&(F2 id AH&&(D6 f).all (F2 id))):=rfl;refine zF AE Tryz.func69 ?_
 cases h1:Bb id with
 |false=>
  rw[h1]at c1 hR;refine AO D2 ?_ (AK @c1);exact BW hR
 |true=>
 rw[h1]at c1 hR
 cases h2:Cn A6 with
 |false=>
  rw[h2]at c2 hR;refine AO D2 ?_ (Au @c1 @c2);exact BW hR
 |true=>
 rw[h2]at c2 hR
 cases h3:CU id AB with
 |false=>
  rw[h3]at c3 hR;refine AO D2 ?_ (CP @c1 @c2 @c3);exact BW hR
 |true=>
 rw[h3]at c3 hR;simp only[q1c,q0A]at hR;refine B6 D2 ?_ (CP @c1 @c2 @c3) (BJ [] (rW id A6 AB AH f))
 refine zG (K:=fun r _ H'=>((F2 id AH&&(D6 f).all (F2 id))=true/\H'=[.c (vC id A6 AB AH f),.c (vC id A6 AB AH f),.lp r])\/
  ((F2 id AH&&(D6 f).all (F2 id))=false/\H'=[.c (vC id A6 AB AH f),.c (vC id A6 AB AH f),.lp (r.left (.goto 0))])) ?_ ?_
 .intro r hr
  have hT:∀n,F2 id n=true->YT Tryz.prog 2 [.yO n] [.c (vC id A6 AB AH f),.c (vC id A6 AB AH f),.lp r] fun x K=>x= .yP true/\K=[.c (vC id A6 AB AH f),.c (vC id A6 AB AH f),.lp r]:=by
   intro n hn;have d1:=I2 n;unfold vC;refine Ar hr rfl rfl rfl ?_
   by_cases h5:n= -1
   .have f1:=C8 h5;refine A9 D2 ?_;refine zR ?_;refine Aj D2 ?_ (AK f1);exact⟨_,A8.refl _,zN _,rfl,rfl,rfl⟩
   .have f1:=CI h5;simp only[F2,h5,decide_false,q0k,zO,zW]at hn;rw[hn.1]at d1;have f2:=eq_false' hn.2;refine A9 D2 ?_;refine zR ?_;refine AJ D2 ?_ (Au f1 f2) (AK @d1);exact⟨_,A8.refl _,zN _,rfl,rfl,rfl⟩
  have hF:∀n,F2 id n=false->YT Tryz.prog 2 [.yO n] [.c (vC id A6 AB AH f),.c (vC id A6 AB AH f),.lp r] fun x K=>x= .yP false/\K=[.c (vC id A6 AB AH f),.c (vC id A6 AB AH f),.lp (r.left (.goto 0))]:=by
   intro n hn;have d1:=I2 n;unfold vC;refine Ar hr rfl rfl rfl ?_;have h5:n≠ -1:=fun h=>by subst h;simp[F2]at hn
   have f1:=CI h5;simp only[F2,h5,decide_false,q0k,Bool.and_eq_false_iff,q0c,ne_eq,Classical.not_not]at hn
   cases hp:Bb n with
   |false=>
    rw[hp]at d1;refine A9 D2 ?_;refine zR ?_;refine AJ D2 ?_ (AK f1) (AK @d1);exact⟨_,A8.refl _,zN _,rfl,rfl,rfl⟩
   |true=>
    rw[hp]at d1 hn;have f2:=AT (hn.resolve_left (fun h=>by cases h));refine A9 D2 ?_;refine zR ?_;refine AJ D2 ?_ (Au f1 f2) (AK @d1);exact⟨_,A8.refl _,zN _,rfl,rfl,rfl⟩
  refine zT AE Tryz.func199 ?_;unfold vC at *;have g1T:=@hT;have g1F:=@hF;have un:No 17:=trivial;refine A9 [0,1,4,9,11,12,13,18] ?_;clear un g1F g1T;repeat'(apply zB<;>intro hc)
  all_goals first
   |exact⟨_,A8.refl _,zN _,_,_,rfl,rfl,.inl ⟨by rw[f_all];simp only[*,q1c],rfl⟩⟩
   |exact⟨_,A8.refl _,zN _,_,_,rfl,rfl,.inr ⟨by rw[f_all];simp only[*,q0v,q0m,q1G,q0A],rfl⟩⟩
 .rintro r hr y H' (⟨h,rfl⟩|⟨h,rfl⟩)
  .refine .inl ⟨rfl,?_⟩;rw[h]at hR;unfold vC;refine A9 D2 ?_;exact BW hR
  .refine .inr ⟨.goto 0,rfl,?_⟩;rw[h]at hR;unfold vC;refine A9 D2 ?_;exact BW hR
theorem Bo(v:AG)(hb:v.A6.length<=1000)(hl:v.AB.length<=1000):yS 69 [v.d] (.b (Aq v)):=TO v (q0L hb (by decide)) (q0L hl (by decide))
abbrev EO:BF:=[0,1,2,3,4]
theorem fE(f g:Nat->Int):Ix [.yX (f 0),.yX (f 1),.yX (f 2),.yX (f 3),.yX (f 4),.yX (f 5),.yX (f 6),.yX (f 7),.yX (f 8),.yX (f 9),.yX (f 10),.yX (f 11),.yX (f 12),.yX (f 13),.yX (f 14),.yX (f 15)] [.yX (g 0),.yX (g 1),.yX (g 2),.yX (g 3),.yX (g 4),.yX (g 5),.yX (g 6),.yX (g 7),.yX (g 8),.yX (g 9),.yX (g 10),.yX (g 11),.yX (g 12),.yX (g 13),.yX (g 14),.yX (g 15)]=decide (D6 f=D6 g):=by
 simp[Ix,eq1,D6,Dp]
def UY(v w:AG):Bool:=decide (v.id=w.id)&&(decide (v.A6=w.A6)&&(decide (v.AB=w.AB)&&(decide (v.AH=w.AH)&&decide (D6 v.f=D6 w.f))))
theorem iG(v w:AG)(h1:v.A6.length<=100000)(h2:v.AB.length<=100000):yS 48 [v.d,w.d] (.b (UY v w)):=by
 obtain⟨i1,b1,l1,p1,f1⟩:=v;obtain⟨i2,b2,l2,p2,f2⟩:=w;have cB:=dB b1 b2 h1;have cL:=dB l1 l2 h2;have hF:=fE f1 f2;have hS:UY ⟨i1,b1,l1,p1,f1⟩ ⟨i2,b2,l2,p2,f2⟩=(decide (i1=i2)&&(decide (b1=b2)&&(decide (l1=l2)&&(decide (p1=p2)&&decide (D6 f1=D6 f2))))):=rfl;rw[hS];generalize decide (b1=b2)=bb at *;generalize decide (l1=l2)=bl at *;generalize decide (D6 f1=D6 f2)=bf at *;refine zF AE Tryz.func48 ?_
 by_cases e1:i1=i2
 .have g1:=AT e1;rw[zU e1]
  cases bb with
  |false=>
   refine AJ EO ?_ (AK g1) (AK @cB);exact zE
  |true=>
   cases bl with
   |false=>
    refine AJ EO ?_ (AK g1) (Au @cB @cL);exact zE
   |true=>
    by_cases e2:p1=p2
    .have g2:=AT e2;rw[zU e2];refine AJ EO ?_ (CP g1 g2 hF) (Au @cB @cL);exact zE
    .have g2:=eq_false' e2;rw[zQ e2];refine AJ EO ?_ (Au g1 g2) (Au @cB @cL);exact zE
 .have g1:=eq_false' e1;rw[zQ e1];refine Aj EO ?_ (AK g1);exact zE
theorem jX(v w:AG)(h1:v.A6.length<=100000)(h2:v.AB.length<=100000):yS 85 [v.d,w.d] (.b (UY v w)):=by
 obtain⟨i1,b1,l1,p1,f1⟩:=v;obtain⟨i2,b2,l2,p2,f2⟩:=w;have cB:=WP b1 b2 h1;have cL:=WP l1 l2 h2;have hF:=fE f1 f2
 have hS:UY ⟨i1,b1,l1,p1,f1⟩ ⟨i2,b2,l2,p2,f2⟩=(decide (i1=i2)&&(decide (p1=p2)&&(decide (D6 f1=D6 f2)&&(decide (b1=b2)&&decide (l1=l2))))):=by
  show(decide (i1=i2)&&(decide (b1=b2)&&(decide (l1=l2)&&(decide (p1=p2)&&decide (D6 f1=D6 f2)))))=_;cases decide (i1=i2)<;>cases decide (b1=b2)<;>cases decide (l1=l2)<;>cases decide (p1=p2)<;>cases decide (D6 f1=D6 f2)<;>rfl
 rw[hS];generalize decide (b1=b2)=bb at *;generalize decide (l1=l2)=bl at *;generalize decide (D6 f1=D6 f2)=bf at *;refine zF AE Tryz.func85 ?_
 by_cases e1:i1=i2
 .have g1:=AT e1;rw[zU e1]
  by_cases e2:p1=p2
  .have g2:=AT e2;rw[zU e2]
   cases bf with
   |false=>
    refine Aj EO ?_ (CP g1 g2 hF);exact zE
   |true=>
    cases bb with
    |false=>
     refine AJ EO ?_ (CP g1 g2 hF) (AK @cB);exact zE
    |true=>
     refine AJ EO ?_ (CP g1 g2 hF) (Au @cB @cL);exact zE
  .have g2:=eq_false' e2;rw[zQ e2];refine Aj EO ?_ (Au g1 g2);exact zE
 .have g1:=eq_false' e1;rw[zQ e1];refine Aj EO ?_ (AK g1);exact zE
def newV(id:Int)(A6:Ai):AG:=⟨id,A6,[],-1,fun _=> -1⟩
def zeroV:AG:=⟨0,[],[],0,fun _=>0⟩
def newT(id:Int)(A6:Ai):AG×Int:=if Aq (newV id A6)then(newV id A6,0)else(zeroV,2)
theorem tZ(id:Int)(A6:Ai)(hb:A6.length<=1000):yS 41 [.yX id,.is A6] (.tup [(newT id A6).1.d,.yX (newT id A6).2]):=by
 have c1:=N5 A6 om;have c2:=Bo (newV id A6) hb (show([]:Ai).length<=1000 by decide);change Go.Gar.Fn _ _ [.agg [.yX id,.is A6,.is [],.yX (-1),.yX (-1),.yX (-1),.yX (-1),.yX (-1),.yX (-1),.yX (-1),.yX (-1),.yX (-1),.yX (-1),.yX (-1),.yX (-1),.yX (-1),.yX (-1),.yX (-1),.yX (-1),.yX (-1)]] _ at c2;unfold newT;refine zF AE Tryz.func41 ?_
 cases h:Aq (newV id A6)with
 |true=>
  rw[h]at c2;have z1:=@c2;have un:No 17:=trivial;refine AO [0,1,4,5,6,7,12,13,21] ?_ (AK @c1);clear un z1;exact BW (zh @newV.eq_1 (zh @AG.d.eq_1 @AG.A4.eq_1))
 |false=>
  rw[h]at c2;have z1:=@c2;have un:No 17:=trivial;refine AO [0,1,4,5,6,7,12,13,21] ?_ (AK @c1);clear un z1;exact BW (zh @zeroV.eq_1 (zh @AG.d.eq_1 @AG.A4.eq_1))
def EW(v:AG)(l:Ai):AG:=if Aq v&&CU v.id l then⟨v.id,v.A6,l,v.AH,v.f⟩else v
theorem eb(v:AG)(l:Ai)(hb:v.A6.length<=1000)(hv:v.AB.length<=1000)(hl:l.length<=1000):yS 308 [v.d,.is l] (EW v l).d:=by
 obtain⟨id,A6,AB,AH,f⟩:=v;replace hb:A6.length<=1000:=hb;replace hv:AB.length<=1000:=hv;have c1:=HS ⟨id,A6,AB,AH,f⟩ (by show A6.length<=100000;omega) (by show AB.length<=100000;omega);have c2:=Bo ⟨id,A6,AB,AH,f⟩ hb hv;have c3:=gN id l hl;have c4:=N5 l om;have hL:EW ⟨id,A6,AB,AH,f⟩ l=if Aq ⟨id,A6,AB,AH,f⟩&&CU id l then⟨id,A6,l,AH,f⟩else⟨id,A6,AB,AH,f⟩:=rfl;refine zF AE Tryz.func308 ?_
 cases h:Aq ⟨id,A6,AB,AH,f⟩with
 |false=>
  rw[h]at c2 hL;rw[hL];refine AO [0,1,2,4,5,17] ?_ (Au @c1 @c2);exact BW (zh @AG.d.eq_1 @AG.A4.eq_1)
 |true=>
  rw[h]at c2 hL
  cases h2:CU id l with
  |false=>
   rw[h2]at c3 hL;rw[hL];refine AO [0,1,2,4,5,17] ?_ (CP @c1 @c2 @c3);exact BW (zh @AG.d.eq_1 @AG.A4.eq_1)
  |true=>
   rw[h2]at c3 hL;rw[hL];refine AO [0,1,2,4,5,17] ?_ (ME @c1 @c2 @c3 @c4);exact BW (zh @AG.d.eq_1 @AG.A4.eq_1)
def Kk(a x b:Int):Bool:=if DN a=DN b then decide (DN x≠DN a)else decide (Ba a x>0/\Ba a x<Ba a b)
theorem PW{x:Int}(g:Int->Bool):∀(l:Ai)(f e:Int),rT x f l=true->e<=f->rT x e (l.filter g)=true
 |[],f,e,_,_=>rfl
 |a::r,f,e,h,he=>by
  simp only[rT,zO,zW]at h
  cases hg:g a with
  |true=>
   rw[List.filter_cons_of_pos hg];simp only[rT,zO,zW];exact⟨⟨h.1.1,om⟩,PW g r _ _ h.2 (q1C _)⟩
  |false=>
   rw[List.filter_cons_of_neg (by rw[hg];simp)];exact PW g r _ _ h.2 om
end Go.Proofs.YtamjpnmjpponpaaGreatDoor
