/- Part 21 of a proof. Conditions: those that its theorems state. -/
import Derived.Test.YthlmmkmeoblbhaaGreatQ18
set_option linter.unusedSimpArgs false
set_option linter.unusedVariables false
set_option linter.unnecessarySimpa false
set_option maxHeartbeats 40000000
set_option maxRecDepth 4000
namespace Go.Proofs.YthlmmkmeoblbhaaGreat
open Go.Gar
abbrev Io:BK:=[0,2,3,4,5,6,7,10,16,21,24,46]
abbrev Lj:BK:=[0,2,3,4,5,6,7,10,18,30]
abbrev Lk:BK:=[0,2,3,4,5,6,7,8,9,10,13,21,31]
theorem Tk(b:AT)(hb:b.length<70368744177664):yA 293 [.by b] (Dh (Bb b)):=by
 refine zF AK Tryz.func293 ?_;rcases b with _|⟨m,r⟩
 .refine A9 Io ?_;exact BO (yg @Bb.eq_1 @Dh.eq_1)
 have hm:=m.toNat_lt;simp only[yu]at hb
 by_cases h6:m.toNat>6
 .refine A9 Io ?_;with_reducible repeat' first|constructor|intro hc
  refine⟨_,_,rfl,rfl,?_⟩;simp[E5,B3,B8,Aq,Bb,Dh,h6]
 by_cases hr:r.length<m.toNat
 .refine A9 Io ?_;with_reducible repeat' first|constructor|intro hc
  refine⟨_,_,rfl,rfl,?_⟩;simp[E5,B3,B8,Aq,Bb,Dh,h6,hr]
 have hlt:∀k,k<=m.toNat->Fb (r.take k)<281474976710656:=by
  intro k hk;have:=R9 (r.take k);have h6':(r.take k).length<=6:=by simp;omega
  have:256^(r.take k).length<=256^6:=q1N (by decide) h6';omega
 refine A9 Io ?_;with_reducible repeat' first|constructor|intro hc
 refine BY (fun k=>k<=m.toNat) (fun k:Nat=>⟨[(0,.d (.by (m::r))),(2,.y5 0),(3,.e0),(4,.y5 0),(5,.y5 m.toNat),(6,.y5 (Fb (r.take k):Nat)),(7,.y5 ((k+1:Nat):Int))],[],54⟩) (fun k=>m.toNat-k) 0 (yx _) ?_ (yV _) ?_
 .exact A5.ck rfl
 intro k hk;have hv:=hlt k hk
 by_cases hkm:k<m.toNat
 .have e3:(Fb (r.take k):Int)*256+((r.getD k 0).toNat:Int)=(Fb (r.take (k+1)):Nat):=by
   have:=VZ r k om;omega
  have hv':=hlt (k+1) hkm;have hd:=(r.getD k 0).toNat_lt;refine Ae Io ?_ (AQ e3);with_reducible repeat' first|constructor|intro hc
  rotate_left
  .rw[e3];exact PD rfl (PT _ om)
  refine⟨k+1,hkm,om,yV _,?_⟩;exact A5.ck rfl
 .have hkm':k=m.toNat:=om
  subst hkm'
  by_cases hP:(m.toNat>0/\r.getD 0 0=0)\/Fb (r.take m.toNat)>1099511627776
  .have hT:Bb (m::r)=(0,[],12):=by simp only[Bb,zO h6,zO hr,zN hP]
   rw[hT];refine A9 Io ?_;with_reducible repeat' first|constructor|intro hc
   all_goals first
    |(refine⟨_,_,rfl,rfl,?_⟩;simp[E5,B3,B8,Aq,Dh];done)
    |(exfalso;rcases hP with⟨h,h'⟩|h<;>first|omega|(have h':=congrArg UInt8.toNat h';simp only[UInt8.toNat_zero]at h';omega))
  .have hT:Bb (m::r)=(Fb (r.take m.toNat),r.drop m.toNat,0):=by simp only[Bb,zO h6,zO hr,zO hP]
   rw[hT];have e5:(1+(m.toNat:Int)).toNat=m.toNat+1:=om
   refine Ae Io ?_ (AQ e5);with_reducible repeat' first|constructor|intro hc
   all_goals first
    |(refine⟨_,_,rfl,rfl,?_⟩;simp[E5,B3,B8,Aq,Dh];done)
    |(exfalso;exact hP (.inl ⟨om,u8z om⟩))
    |(exfalso;exact hP (.inr om))
theorem oN(l:Ao):yA 301 [.is l] (.tup [.by (Sx l).1,.yE (Sx l).2]):=by
 refine zF AK Tryz.func301 ?_
 by_cases hl:l.length>255
 .refine A9 Lj ?_;with_reducible repeat' first|constructor|intro hc
  exact BO (yg @Sx.eq_1 hl)
 have h1:(l.length:Int)%256=l.length:=om
 have ow:Lv [14]:=trivial;refine Ae Lj ?_ (AQ h1);clear ow;with_reducible repeat' first|constructor|intro hc
 refine BY (fun k=>k<=l.length/\(l.take k).all fits=true) (fun k:Nat=>⟨[(0,.yD l),(2,.e0),(3,.y5 0),(4,.sl 0 (UInt8.ofNat l.length::Ad (l.take k)).length 1),(5,.y5 k)],[.a (.by (UInt8.ofNat l.length::Ad (l.take k)))],36⟩) (fun k=>l.length-k) 0 ⟨yx _,sm⟩ ?_ (yV _) ?_
 .exact A5.ck rfl
 rintro k ⟨hk,hpre⟩;have hlen:=V8 _ hpre;have htl:(l.take k).length<=k:=q0Q _ _
 by_cases hka:k<l.length
 .by_cases hf:fits (l.getD k 0)=true
  .obtain⟨m,hm,hm'⟩:=O2 hf
   have hnext:(UInt8.ofNat l.length::Ad (l.take k))++GY m=UInt8.ofNat l.length::Ad (l.take (k+1)):=by
    rw[Ki hka,hm];simp
   have hnext':Ad (l.take k)++GY m=Ad (l.take (k+1)):=by
    rw[Ki hka,hm];simp
   have hnl:=Cy m hm';have hput:Yt (m:Int)=(GY m,0):=by rw[hm]at hf;simp[Yt,hf]
   rw[hm]at hf;refine AD Lj ?_ (DO hm hput hnext') (AQ (eX m));with_reducible repeat' first|constructor|intro hc
   refine⟨k+1,⟨hka,by rw[Mp hka,hpre,hm,hf];rfl⟩,om,yV _,?_⟩;exact(have nC:=hnext';A5.co rfl)
  .have hf':fits (l.getD k 0)=false:=by simpa using hf
   have hall:l.all fits=false:=by
    rw[<-q0J (k+1) l,List.all_append,Mp hka,hf'];simp
   have hput:Yt (l.getD k 0)=([],2):=by unfold Yt;rw[zO hf]
   refine AD Lj ?_ (AQ hput) (AQ (eX (l.getD k 0)));with_reducible repeat' first|constructor|intro hc
   exact BO (yg @Sx.eq_1 (yg hl hall))
 .have e:k=l.length:=om
  subst e;rw[zU]at hpre;refine A9 Lj ?_;with_reducible repeat' first|constructor|intro hc
  exact BO (yg @Sx.eq_1 (yg hl hpre))
theorem Wq(b:AT)(hb:b.length<70368744177664):yA 294 [.by b] (Ij (BM b)):=by
 refine zF AK Tryz.func294 ?_;rcases b with _|⟨m,r⟩
 .refine A9 Lk ?_;exact BO (yg @BM.eq_1 @Ij.eq_1)
 have hm:=m.toNat_lt;simp only[yu]at hb;refine A9 Lk ?_;refine Av (A5.EQ 5 (.is []) rfl rfl rfl trivial) sm ?_
 refine BY (α:=Nat×AT×Ao) (fun x=>x.1<=m.toNat/\x.2.1.length<=r.length/\x.2.2.length=x.1/\Di (m.toNat-x.1) x.2.1 x.2.2=Di m.toNat r [])
  (fun x=>⟨[(0,.d (.by (m::r))),(2,.e0),(3,.e0),(5,.sl 0 x.2.2.length 1),(6,.d (.by x.2.1)),(4,.y5 0),(7,.y5 x.1)],[.a (.is x.2.2)],42⟩) (fun x=>m.toNat-x.1) (0,r,[]) ⟨yx _,yV _,rfl,rfl⟩ ?_ sm ?_
 .exact A5.ck rfl
 rintro⟨k,rest,acc⟩ ⟨hk,hrl,hal,hT⟩;simp only at hk hrl hal hT;have hl:=IA rest;have hv:=ZR rest
 by_cases hkm:k<m.toNat
 .rw[show m.toNat-k=(m.toNat-(k+1))+1 by omega]at hT;simp only[Di]at hT
  by_cases he:(Bb rest).2.2=0
  .rw[zN he]at hT;refine AD Lk ?_ (B1 he @Dh.eq_1) (AQ (Tk rest om));with_reducible repeat' first|constructor|intro hc
   refine⟨(k+1,(Bb rest).2.1,acc++[((Bb rest).1:Int)]),⟨hkm,by simp only;omega,by simp;omega,hT⟩,by simp only;omega,sm,?_⟩;exact A5.ck rfl
  .rw[zO he]at hT;refine AD Lk ?_ (AQ @Dh.eq_1) (AQ (Tk rest om));with_reducible repeat' first|constructor|intro hc
   have e:BM (m::r)=([],[],(Bb rest).2.2):=hT.symm;exact BO (yg e @Ij.eq_1)
 .have e:k=m.toNat:=om
  subst e;rw[Nat.sub_self]at hT;have e:BM (m::r)=(acc,rest,0):=hT.symm;refine A9 Lk ?_;with_reducible repeat' first|constructor|intro hc
  exact BO (yg e @Ij.eq_1)
end Go.Proofs.YthlmmkmeoblbhaaGreat
namespace Go.Proofs.YthlmmkmeoblbhaaGreat
namespace Wi
open Go.Gar
abbrev KY:BK:=[0,1,4,5,6,7,8,9,10,11,14,24]
abbrev KZ:BK:=[0,2,3,4,5,6,7,9,27]
def C8:Nat->AT->Option (Ao×AT)
 |0,b=>some ([],b)
 |k+1,b=>match DL b with
  |none=>none
  |some (n,r)=>match C8 k r with
   |none=>none
   |some (l,r')=>some ((n:Int)::l,r')
def En:Option (Ao×AT)->D
 |some (l,r)=> .tup [.is l,.by r,.b true]
 |none=> .tup [.is [],.by [],.b false]
def ON(acc:Ao)(k:Nat)(b:AT):Option (Ao×AT):=match C8 k b with
 |none=>none
 |some (l,r)=>some (acc++l,r)
variable {acc:Ao}{k:Nat}{b:AT}
theorem ap{r:AT}{n:Nat}(h:DL b=some (n,r)):ON acc (k+1) b=ON (acc++[(n:Int)]) k r:=by
 unfold ON;rw[C8,h];simp only
 cases C8 k r with
 |none=>rfl
 |some p=>obtain⟨l,q⟩:=p;simp
theorem ao(h:DL b=none):ON acc (k+1) b=none:=by
 unfold ON;rw[C8,h]
theorem gT:ON [] k b=C8 k b:=by
 unfold ON
 cases C8 k b with
 |none=>rfl
 |some p=>rfl
theorem DJ(b:AT)(Ah:Nat)(hb:b.length<70368744177664)(hm:Ah<=100):yA 260 [.by b,.yE Ah] (En (C8 Ah b)):=by
 refine zF AK Tryz.func260 ?_;refine A9 KY ?_;refine Av (A5.EQ 7 (.is []) rfl rfl rfl trivial) sm ?_
 refine BY (α:=Nat×AT×Ao) (fun x=>x.1<=Ah/\x.2.1.length<=b.length/\x.2.2.length=x.1/\ON x.2.2 (Ah-x.1) x.2.1=C8 Ah b)
  (fun x=>⟨[(0,.d (.by x.2.1)),(1,.y5 Ah),(4,.e0),(5,.e0),(6,.y7 false),(7,.sl 0 x.2.2.length 1),(8,.y5 x.1)],[.a (.is x.2.2)],32⟩) (fun x=>Ah-x.1) (0,b,[]) ⟨yx _,yV _,rfl,gT⟩ ?_ (yV _) ?_
 .exact A5.ck rfl
 rintro⟨k,r,acc⟩ ⟨h1,h2,h3,h4⟩;simp only at h1 h2 h3 h4|-
 by_cases hk:k<Ah
 .have ht:=Tk r om;obtain⟨j,hj⟩:∃j,Ah-k=j+1:=⟨Ah-k-1,om⟩;rw[hj]at h4
  cases hp:DL r with
  |none=>
   have hne:=VB hp;rw[ao hp]at h4;rw[<-h4];have f:=Bp hne;unfold Dh at ht;refine AD KY ?_ (AQ f) (AQ @ht);with_reducible repeat' first|constructor|intro hc
   refine⟨_,_,rfl,rfl,?_⟩;simp[E5,B3,B8,Aq,En]
  |some p=>
   obtain⟨n,r'⟩:=p;have hle:=BS hp;rw[Je hp]at ht;rw[ap hp]at h4;unfold Dh at ht;refine AP KY ?_ (AQ @ht);with_reducible repeat' first|constructor|intro hc
   refine⟨(k+1,r',acc++[(n:Int)]),⟨hk,by simp only;omega,by simp only[yw,yu,zI];omega,by rw[show Ah-(k+1)=j by omega];exact h4⟩,(show Ah-(k+1)<Ah-k by omega),yV _,?_⟩;exact A5.ck rfl
 .have e:k=Ah:=om
  rw[e,Nat.sub_self]at h4;have e2:C8 Ah b=some (acc,r):=by rw[<-h4];simp[ON,C8]
  rw[e2];refine A9 KY ?_;with_reducible repeat' first|constructor|intro hc
  exact BO @En.eq_1
theorem Ee:∀{k:Nat}{b r:AT}{l:Ao},C8 k b=some (l,r)->l.length=k/\r.length<=b.length
 |0,b,r,l,h=>by simp only[C8,yh,zL]at h;obtain⟨rfl,rfl⟩:=h;exact⟨rfl,yV _⟩
 |k+1,b,r,l,h=>by
  rw[C8]at h;split at h
  .cases h
  .rename_i n r1 h1;split at h
   .cases h
   .rename_i l1 r2 h2;simp only[yh,zL]at h;obtain⟨rfl,rfl⟩:=h;have:=Ee h2;have:=BS h1;simp;omega
def FE(b:AT):AL×Bool:=match C8 3 (B7 b).2.1 with
 |some ([v,n,g],_)=>if(B7 b).2.2=0 then(⟨(B7 b).1,v,n,g==1⟩,true)else(AN,false)
 |_=>(AN,false)
theorem oy(b:AT):(B7 b).2.1.length<=b.length:=by
 rcases Kk b with⟨s,r,h1,h2,h3⟩|h1
 .rw[h1,h2];simp;omega
 .rw[h1];simp
theorem VF(b:AT)(hb:b.length<70368744177664):yA 295 [.by b] (.tup [(FE b).1.d,.b (FE b).2]):=by
 have ht:=OW b hb;have hn:=DJ (B7 b).2.1 3 (by have:=oy b;omega) (by decide);have hlen:=@Ee 3 (B7 b).2.1;unfold Hm at ht;unfold FE;generalize(B7 b).1=s at *;generalize(B7 b).2.1=r at *;generalize(B7 b).2.2=e at *;refine zF AK Tryz.func295 ?_
 by_cases he:e=0
 .subst he
  cases hp:C8 3 r with
  |none=>
   rw[hp]at hn;unfold En at hn;refine AP KZ ?_ (B1 @ht @hn);exact BO (yg @AN.eq_1 (yg @AL.d.eq_1 @AL.A1.eq_1))
  |some p=>
   obtain⟨l,r2⟩:=p;obtain⟨hl,_⟩:=hlen hp
   obtain⟨v,n,g,rfl⟩:∃v n g,l=[v,n,g]:=by
    rcases l with _|⟨v,_|⟨n,_|⟨g,_|⟨x,t⟩⟩⟩⟩<;>first|exact⟨_,_,_,rfl⟩|(simp at hl)
   rw[hp]at hn;unfold En at hn;refine AP KZ ?_ (B1 @ht @hn);exact BO (yg @AL.d.eq_1 @AL.A1.eq_1)
 .have f:=Bp he
  have e2:(match C8 3 r with|some ([v,n,g],_)=>if e=0 then((⟨s,v,n,g==1⟩,true):AL×Bool)else(AN,false)|_=>(AN,false))=(AN,false):=by
   split
   .rw[zO he]
   .rfl
  rw[e2]
  cases hp:C8 3 r with
  |none=>
   rw[hp]at hn;unfold En at hn;refine AD KZ ?_ (AQ f) (B1 @ht @hn);exact BO (yg @AN.eq_1 (yg @AL.d.eq_1 @AL.A1.eq_1))
  |some p=>
   obtain⟨l,r2⟩:=p;rw[hp]at hn;unfold En at hn;refine AD KZ ?_ (AQ f) (B1 @ht @hn);exact BO (yg @AN.eq_1 (yg @AL.d.eq_1 @AL.A1.eq_1))
abbrev CC:BK:=[0,1,2,4,5,6,7,8,9,10,12,13,14,15,17,18,19,21,22,25,37,40,41,52,63,69,87,98,112,120]
def ES(k:Int):Nat:=if k=4 then 2 else if k=10 then 2 else if k=7 then 1 else if k=11 then 1 else if k=12 then 1 else 0
def C7(m:AE)(b:AT):AE×Bool:=match C8 (ES m.AG) b with
 |none=>(m,false)
 |some (l,r)=>
  if m.AG=4 then({m with AH:=l.getD 0 0,BX:=l.getD 1 0==1},true)else
  if m.AG=10 then({m with AY:=l.getD 0 0,done:=l.getD 1 0==1},true)else
  if m.AG=11 then({m with Ab:=l.getD 0 0},true)else
  if m.AG=7 then({m with AO:=l.getD 0 0-1,A8:=(BM r).1},(BM r).2.2==0)else
  if m.AG=5 then({m with AC:=(FE r).1},(FE r).2)else
  if m.AG=6 then({m with AC:=⟨(B7 r).1,m.AC.BD,m.AC.Aa,m.AC.gone⟩},(B7 r).2.2==0)else
  if m.AG=12 then(if l.getD 0 0=0 then({m with Ab:=0,AC:=(FE r).1},(FE r).2)else({m with Ab:=l.getD 0 0},true))else(m,true)
theorem HU{k:Nat}{b r:AT}{l:Ao}(h:C8 k b=some (l,r)):∀x∈l,0<=x/\x<=1099511627776:=by
 induction k generalizing b r l with
 |zero=>simp only[C8,yh,zL]at h;obtain⟨rfl,rfl⟩:=h;intro x hx;cases hx
 |succ k ih=>
  rw[C8]at h;split at h
  .cases h
  .rename_i n r1 h1;split at h
   .cases h
   .rename_i l1 r2 h2;simp only[yh,zL]at h;obtain⟨rfl,rfl⟩:=h;intro x hx;rcases q0C.1 hx with rfl|hx
    .have:=Wj h1;omega
    .exact ih h2 x hx
theorem mb(m:AE)(b:AT)(hb:b.length<70368744177664):yA 261 [m.d,.by b] (.tup [(C7 m b).1.d,.b (C7 m b).2]):=by
 obtain⟨k,c,s,d,ky,sl,dn,pl,pr,l,⟨ik,iv,ir,ig⟩,co⟩:=m;refine zF AK Tryz.func261 ?_;unfold AE.d AE.A1
 by_cases h4:k=4
 .subst h4;have hn:=DJ b 2 hb (by decide);have hgt:=@HU 2 b;have hln:=@Ee 2 b
  cases hp:C8 2 b with
  |none=>
   have e:C7 ⟨4,c,s,d,ky,sl,dn,pl,pr,l,⟨ik,iv,ir,ig⟩,co⟩ b=(⟨4,c,s,d,ky,sl,dn,pl,pr,l,⟨ik,iv,ir,ig⟩,co⟩,false):=by unfold C7;simp only[ES,Int.reduceEq,zx,zo,hp]
   rw[e];rw[hp]at hn;unfold En at hn;refine AP CC ?_ (AQ @hn);with_reducible repeat' first|constructor|intro hc
   exact zE
  |some p=>
   obtain⟨q,r⟩:=p;have hg:=hgt hp;obtain⟨hl1,hl2⟩:=hln hp
   obtain⟨x,y,rfl⟩:∃x y,q=[x,y]:=by
    rcases q with _|⟨x,_|⟨y,_|⟨z,t⟩⟩⟩<;>first|exact⟨_,_,rfl⟩|(simp at hl1)
   have hx:=hg x sm;have hy:=hg y sm;rw[hp]at hn;unfold En at hn;have e:C7 ⟨4,c,s,d,ky,sl,dn,pl,pr,l,⟨ik,iv,ir,ig⟩,co⟩ b=(⟨4,c,s,d,x,y==1,dn,pl,pr,l,⟨ik,iv,ir,ig⟩,co⟩,true):=by unfold C7;simp only[ES,Int.reduceEq,zx,zo,hp]<;>rfl
   rw[e];refine AP CC ?_ (AQ @hn);with_reducible repeat' first|constructor|intro hc
   exact zE
 by_cases h10:k=10
 .subst h10;have hn:=DJ b 2 hb (by decide);have hgt:=@HU 2 b;have hln:=@Ee 2 b
  cases hp:C8 2 b with
  |none=>
   have e:C7 ⟨10,c,s,d,ky,sl,dn,pl,pr,l,⟨ik,iv,ir,ig⟩,co⟩ b=(⟨10,c,s,d,ky,sl,dn,pl,pr,l,⟨ik,iv,ir,ig⟩,co⟩,false):=by unfold C7;simp only[ES,Int.reduceEq,zx,zo,hp]
   rw[e];rw[hp]at hn;unfold En at hn;refine AP CC ?_ (AQ @hn);with_reducible repeat' first|constructor|intro hc
   exact zE
  |some p=>
   obtain⟨q,r⟩:=p;have hg:=hgt hp;obtain⟨hl1,hl2⟩:=hln hp
   obtain⟨x,y,rfl⟩:∃x y,q=[x,y]:=by
    rcases q with _|⟨x,_|⟨y,_|⟨z,t⟩⟩⟩<;>first|exact⟨_,_,rfl⟩|(simp at hl1)
   have hx:=hg x sm;have hy:=hg y sm;rw[hp]at hn;unfold En at hn;have e:C7 ⟨10,c,s,d,ky,sl,dn,pl,pr,l,⟨ik,iv,ir,ig⟩,co⟩ b=(⟨10,c,s,d,ky,sl,y==1,x,pr,l,⟨ik,iv,ir,ig⟩,co⟩,true):=by unfold C7;simp only[ES,Int.reduceEq,zx,zo,hp]<;>rfl
   rw[e];refine AP CC ?_ (AQ @hn);with_reducible repeat' first|constructor|intro hc
   exact zE
 by_cases h11:k=11
 .subst h11;have hn:=DJ b 1 hb (by decide);have hgt:=@HU 1 b;have hln:=@Ee 1 b
  cases hp:C8 1 b with
  |none=>
   have e:C7 ⟨11,c,s,d,ky,sl,dn,pl,pr,l,⟨ik,iv,ir,ig⟩,co⟩ b=(⟨11,c,s,d,ky,sl,dn,pl,pr,l,⟨ik,iv,ir,ig⟩,co⟩,false):=by unfold C7;simp only[ES,Int.reduceEq,zx,zo,hp]
   rw[e];rw[hp]at hn;unfold En at hn;refine AP CC ?_ (AQ @hn);with_reducible repeat' first|constructor|intro hc
   exact zE
  |some p=>
   obtain⟨q,r⟩:=p;have hg:=hgt hp;obtain⟨hl1,hl2⟩:=hln hp
   obtain⟨x,rfl⟩:∃x,q=[x]:=by
    rcases q with _|⟨x,_|⟨z,t⟩⟩<;>first|exact⟨_,rfl⟩|(simp at hl1)
   have hx:=hg x sm;rw[hp]at hn;unfold En at hn;have e:C7 ⟨11,c,s,d,ky,sl,dn,pl,pr,l,⟨ik,iv,ir,ig⟩,co⟩ b=(⟨11,c,s,d,ky,sl,dn,pl,pr,l,⟨ik,iv,ir,ig⟩,x⟩,true):=by unfold C7;simp only[ES,Int.reduceEq,zx,zo,hp]<;>rfl
   rw[e];refine AP CC ?_ (AQ @hn);with_reducible repeat' first|constructor|intro hc
   exact zE
 by_cases h7:k=7
 .subst h7;have hn:=DJ b 1 hb (by decide);have hgt:=@HU 1 b;have hln:=@Ee 1 b
  cases hp:C8 1 b with
  |none=>
   have e:C7 ⟨7,c,s,d,ky,sl,dn,pl,pr,l,⟨ik,iv,ir,ig⟩,co⟩ b=(⟨7,c,s,d,ky,sl,dn,pl,pr,l,⟨ik,iv,ir,ig⟩,co⟩,false):=by unfold C7;simp only[ES,Int.reduceEq,zx,zo,hp]
   rw[e];rw[hp]at hn;unfold En at hn;refine AP CC ?_ (AQ @hn);with_reducible repeat' first|constructor|intro hc
   exact zE
  |some p=>
   obtain⟨q,r⟩:=p;have hg:=hgt hp;obtain⟨hl1,hl2⟩:=hln hp
   obtain⟨x,rfl⟩:∃x,q=[x]:=by
    rcases q with _|⟨x,_|⟨z,t⟩⟩<;>first|exact⟨_,rfl⟩|(simp at hl1)
   have hx:=hg x sm;rw[hp]at hn;unfold En at hn;have ht:=Wq r om;unfold Ij at ht;have e:C7 ⟨7,c,s,d,ky,sl,dn,pl,pr,l,⟨ik,iv,ir,ig⟩,co⟩ b=(⟨7,c,s,d,ky,sl,dn,pl,(x-1),(BM r).1,⟨ik,iv,ir,ig⟩,co⟩,(BM r).2.2==0):=by unfold C7;simp only[ES,Int.reduceEq,zx,zo,hp]<;>rfl
   rw[e];refine AP CC ?_ (B1 @hn @ht);with_reducible repeat' first|constructor|intro hc
   exact zE
 by_cases h5:k=5
 .subst h5;have hn:=DJ b 0 hb (by decide);have hgt:=@HU 0 b;have hln:=@Ee 0 b
  cases hp:C8 0 b with
  |none=>
   have e:C7 ⟨5,c,s,d,ky,sl,dn,pl,pr,l,⟨ik,iv,ir,ig⟩,co⟩ b=(⟨5,c,s,d,ky,sl,dn,pl,pr,l,⟨ik,iv,ir,ig⟩,co⟩,false):=by unfold C7;simp only[ES,Int.reduceEq,zx,zo,hp]
   rw[e];rw[hp]at hn;unfold En at hn;refine AP CC ?_ (AQ @hn);with_reducible repeat' first|constructor|intro hc
   exact zE
  |some p=>
   obtain⟨q,r⟩:=p;have hg:=hgt hp;obtain⟨hl1,hl2⟩:=hln hp;obtain rfl:q=[]:=q1F.1 hl1;rw[hp]at hn;unfold En at hn;have ht:=VF r om;have hD:∀z:AL,z.d= .agg [.s z.AH,.yE z.BD,.yE z.Aa,.b z.gone]:=fun _=>rfl
   rw[hD]at ht;have e:C7 ⟨5,c,s,d,ky,sl,dn,pl,pr,l,⟨ik,iv,ir,ig⟩,co⟩ b=(⟨5,c,s,d,ky,sl,dn,pl,pr,l,(FE r).1,co⟩,(FE r).2):=by unfold C7;simp only[ES,Int.reduceEq,zx,zo,hp]<;>rfl
   rw[e];refine AP CC ?_ (B1 @hn @ht);with_reducible repeat' first|constructor|intro hc
   exact zE
 by_cases h6:k=6
 .subst h6;have hn:=DJ b 0 hb (by decide);have hgt:=@HU 0 b;have hln:=@Ee 0 b
  cases hp:C8 0 b with
  |none=>
   have e:C7 ⟨6,c,s,d,ky,sl,dn,pl,pr,l,⟨ik,iv,ir,ig⟩,co⟩ b=(⟨6,c,s,d,ky,sl,dn,pl,pr,l,⟨ik,iv,ir,ig⟩,co⟩,false):=by unfold C7;simp only[ES,Int.reduceEq,zx,zo,hp]
   rw[e];rw[hp]at hn;unfold En at hn;refine AP CC ?_ (AQ @hn);with_reducible repeat' first|constructor|intro hc
   exact zE
  |some p=>
   obtain⟨q,r⟩:=p;have hg:=hgt hp;obtain⟨hl1,hl2⟩:=hln hp;obtain rfl:q=[]:=q1F.1 hl1;rw[hp]at hn;unfold En at hn;have ht:=OW r om;unfold Hm at ht;have e:C7 ⟨6,c,s,d,ky,sl,dn,pl,pr,l,⟨ik,iv,ir,ig⟩,co⟩ b=(⟨6,c,s,d,ky,sl,dn,pl,pr,l,⟨(B7 r).1,iv,ir,ig⟩,co⟩,(B7 r).2.2==0):=by unfold C7;simp only[ES,Int.reduceEq,zx,zo,hp]<;>rfl
   rw[e];refine AP CC ?_ (B1 @hn @ht);with_reducible repeat' first|constructor|intro hc
   exact zE
 by_cases h12:k=12
 .subst h12;have hn:=DJ b 1 hb (by decide);have hgt:=@HU 1 b;have hln:=@Ee 1 b
  cases hp:C8 1 b with
  |none=>
   have e:C7 ⟨12,c,s,d,ky,sl,dn,pl,pr,l,⟨ik,iv,ir,ig⟩,co⟩ b=(⟨12,c,s,d,ky,sl,dn,pl,pr,l,⟨ik,iv,ir,ig⟩,co⟩,false):=by unfold C7;simp only[ES,Int.reduceEq,zx,zo,hp]
   rw[e];rw[hp]at hn;unfold En at hn;refine AP CC ?_ (AQ @hn);with_reducible repeat' first|constructor|intro hc
   exact zE
  |some p=>
   obtain⟨q,r⟩:=p;have hg:=hgt hp;obtain⟨hl1,hl2⟩:=hln hp
   obtain⟨x,rfl⟩:∃x,q=[x]:=by
    rcases q with _|⟨x,_|⟨z,t⟩⟩<;>first|exact⟨_,rfl⟩|(simp at hl1)
   have hx:=hg x sm;rw[hp]at hn;unfold En at hn
   by_cases h0:x=0
   .subst h0;have ht:=VF r om;have hD:∀z:AL,z.d= .agg [.s z.AH,.yE z.BD,.yE z.Aa,.b z.gone]:=fun _=>rfl
    rw[hD]at ht;have e:C7 ⟨12,c,s,d,ky,sl,dn,pl,pr,l,⟨ik,iv,ir,ig⟩,co⟩ b=(⟨12,c,s,d,ky,sl,dn,pl,pr,l,(FE r).1,0⟩,(FE r).2):=by unfold C7;simp only[ES,Int.reduceEq,zx,zo,hp]<;>rfl
    rw[e];refine AP CC ?_ (B1 @hn @ht);with_reducible repeat' first|constructor|intro hc
    exact zE
   .have f:=eq_false' h0;have e:C7 ⟨12,c,s,d,ky,sl,dn,pl,pr,l,⟨ik,iv,ir,ig⟩,co⟩ b=(⟨12,c,s,d,ky,sl,dn,pl,pr,l,⟨ik,iv,ir,ig⟩,x⟩,true):=by unfold C7;simp only[ES,Int.reduceEq,zx,zo,hp,q0u,h0]
    rw[e];refine AD CC ?_ (AQ f) (AQ @hn);with_reducible repeat' first|constructor|intro hc
    exact zE
 have hn:=DJ b 0 hb (by decide)
 have e:C7 ⟨k,c,s,d,ky,sl,dn,pl,pr,l,⟨ik,iv,ir,ig⟩,co⟩ b=(⟨k,c,s,d,ky,sl,dn,pl,pr,l,⟨ik,iv,ir,ig⟩,co⟩,true):=by
  unfold C7;simp only[ES,h4,h10,h11,h7,h5,h6,h12,zo,C8]
 rw[e];have hp:C8 0 b=some ([],b):=rfl;rw[hp]at hn;unfold En at hn;have f4:=eq_false' h4;have f5:=eq_false' h5;have f6:=eq_false' h6;have f7:=eq_false' h7;have f10:=eq_false' h10;have f11:=eq_false' h11;have f12:=eq_false' h12;refine AD CC ?_ (jT f4 f5 f6 f7 f10 f11 f12) (AQ @hn);with_reducible repeat' first|constructor|intro hc
 exact zE
theorem FD:∀(l:Ao)(r:AT),l.all fits=true->C8 l.length (Ad l++r)=some (l,r)
 |[],r,_=>rfl
 |n::l,r,h=>by
  simp only[q0j,yU]at h;have e:Ad (n::l)++r=Ad [n]++(Ad l++r):=by simp[Ad]
  rw[yu,C8,e,EG h.1];simp only;rw[FD l r h.2];simp only[(Bh h.1).1]
theorem Rx(g:Bool):(Ez g==1)=g:=by cases g<;>rfl
theorem QQ(x:AL)(hk:x.AH.length<=255)(hv:fits x.BD=true)(hn:fits x.Aa=true):FE (Cg x)=(x,true):=by
 obtain⟨k,v,n,g⟩:=x
 have ht:B7 (Cg ⟨k,v,n,g⟩)=(k,Ad [v,n,Ez g],0):=by
  rw[show Cg ⟨k,v,n,g⟩=UInt8.ofNat k.length::k++Ad [v,n,Ez g]by simp[TM,Da,Ad]];exact Py k _ hk
 have hp:C8 3 (Ad [v,n,Ez g])=some ([v,n,Ez g],[]):=by
  have:=FD [v,n,Ez g] [] (by simp only[q0j,List.all_nil,hv,hn,GJ,q0g]);rw[q07]at this;exact this
 unfold FE;rw[ht];simp only[hp,zx,Rx]
theorem gO(m:AE)(h:m.right=true):C7 m.empty (DI m)=(m,true):=by
 obtain⟨_,_,_,_,hb,hh⟩:=J6 h;clear h;obtain⟨k,c,s,d,ky,sl,dn,pl,pr,l,⟨ik,iv,ir,ig⟩,co⟩:=m;unfold C7 DI;simp only[AE.empty]at hb|-;unfold AE.bare AE.has at *;simp only at hb hh
 by_cases h4:k=4
 .subst h4;simp only[zx,AE.mk.injEq,AN,AL.mk.injEq]at hb hh|-
  have hp:C8 2 (Ad [ky,Ez sl])=some ([ky,Ez sl],[]):=by
   have:=FD [ky,Ez sl] [] (by simp only[q0j,List.all_nil,DG hh,GJ,q0g]);rw[q07]at this;exact this
  simp only[ES,zx,hp,q0u,List.getD_cons_succ,Rx]
  simp_all
 by_cases h5:k=5
 .subst h5;simp only[Int.reduceEq,zo,zx,AE.mk.injEq,AN,AL.mk.injEq]at hb hh|-;obtain⟨a1,a2,a3⟩:=KB hh;simp only[ES,Int.reduceEq,zo,C8,QQ _ a1 a2 a3]
  simp_all
 by_cases h6:k=6
 .subst h6;simp only[Int.reduceEq,zo,zx,AE.mk.injEq,AN,AL.mk.injEq,yU,yc]at hb hh|-;obtain⟨a1,a2,a3⟩:=KB hh.1
  have ht:B7 (Da ik)=(ik,[],0):=by
   have:=Py ik [] a1;rw[q07]at this;exact this
  simp only[ES,Int.reduceEq,zo,C8,ht]
  simp_all
 by_cases h7:k=7
 .subst h7;simp only[Int.reduceEq,zo,zx,AE.mk.injEq,AN,AL.mk.injEq,yU,q0G,yc]at hb hh|-;obtain⟨b1,b2⟩:=OO hh.2
  have hf:fits (pr+1)=true:=by
   rcases hh.1 with h|h
   .subst h;rfl
   .exact GK (by have:=Fv h;omega)
  have hp:C8 1 (Ad [pr+1]++UInt8.ofNat l.length::Ad l)=some ([pr+1],UInt8.ofNat l.length::Ad l):=FD [pr+1] _ (by simp only[q0j,List.all_nil,hf,q0g])
  have ht:BM (UInt8.ofNat l.length::Ad l)=(l,[],0):=by
   have:=Us l [] om b2;rw[q07]at this;exact this
  have e1:pr+1-1=pr:=om
  simp only[ES,Int.reduceEq,zo,zx,hp,ht,q0u,e1]
  simp_all
 by_cases h10:k=10
 .subst h10;simp only[Int.reduceEq,zo,zx,AE.mk.injEq,AN,AL.mk.injEq]at hb hh|-
  have hp:C8 2 (Ad [pl,Ez dn])=some ([pl,Ez dn],[]):=by
   have:=FD [pl,Ez dn] [] (by simp only[q0j,List.all_nil,DG hh,GJ,q0g]);rw[q07]at this;exact this
  simp only[ES,Int.reduceEq,zo,zx,hp,q0u,List.getD_cons_succ,Rx]
  simp_all
 by_cases h11:k=11
 .subst h11;simp only[Int.reduceEq,zo,zx,AE.mk.injEq,AN,AL.mk.injEq,q0G,yc]at hb hh|-;have hf:fits co=true:=by rcases hh with h|h<;>rw[h]<;>rfl
  have hp:C8 1 (Ad [co])=some ([co],[]):=by
   have:=FD [co] [] (by simp only[q0j,List.all_nil,hf,q0g]);rw[q07]at this;exact this
  simp only[ES,Int.reduceEq,zo,zx,hp,q0u]
  simp_all
 by_cases h12:k=12
 .subst h12;simp only[Int.reduceEq,zo,zx,AE.mk.injEq,AN,AL.mk.injEq,q0G,yU,yc]at hb hh|-;rcases hh with⟨h0,h1⟩|⟨h0,h1⟩
  .subst h0;obtain⟨a1,a2,a3⟩:=KB h1;have hp:C8 1 (Ad [0]++Cg ⟨ik,iv,ir,ig⟩)=some ([0],Cg ⟨ik,iv,ir,ig⟩):=FD [0] _ rfl;simp only[ES,Int.reduceEq,zo,zx,hp,q0u,QQ _ a1 a2 a3]
   simp_all
  .subst h0;have hp:C8 1 (Ad [201])=some ([201],[]):=FD [201] [] rfl;simp only[ES,Int.reduceEq,zo,zx,hp,q0u,q07]
   simp_all
 simp only[h4,h5,h6,h7,h10,h11,h12,zo,AE.mk.injEq,ES,C8]at hb|-
 simp_all
theorem aj(m:AE)(b:AT)(h:m.A8.length<=255):(C7 m b).1.A8.length<=255:=by
 unfold C7;split
 .exact h
 .repeat' split
  all_goals first|exact h|exact UK _
def Ht(b:AT):AE×Int:=match C8 4 b with
 |some ([k,c,s,d],r)=>if k>=13 then(AU,12)else
  if(C7 ⟨k,c,s,d,0,false,false,0,0,[],AN,0⟩ r).2=true/\(C7 ⟨k,c,s,d,0,false,false,0,0,[],AN,0⟩ r).1.right=true/\Ei (C7 ⟨k,c,s,d,0,false,false,0,0,[],AN,0⟩ r).1=b
  then((C7 ⟨k,c,s,d,0,false,false,0,0,[],AN,0⟩ r).1,0)else(AU,12)
 |_=>(AU,12)
theorem ZG(b:AT):(∃m,Ht b=(m,0)/\m.right=true/\Ei m=b)\/Ht b=(AU,12):=by
 unfold Ht;split
 .split
  .exact .inr rfl
  .split
   .rename_i h;exact .inl ⟨_,rfl,h.2.1,h.2.2⟩
   .exact .inr rfl
 .exact .inr rfl
theorem iW{m:AE}(h:m.right=true):Ht (Ei m)=(m,0):=by
 obtain⟨⟨k1,k2⟩,⟨p1,p2⟩,_,⟨c1,c2⟩,hb,hh⟩:=J6 h;have ha:=Qk h;have fk:fits m.AG=true:=GK om;have fc:fits m.AW=true:=GK om;have hp:C8 4 (Ei m)=some ([m.AG,m.AW,m.Ax,m.dst],DI m):=FD [m.AG,m.AW,m.Ax,m.dst] (DI m) (by simp only[q0j,List.all_nil,fk,fc,DG p1,DG p2,q0g]);have hm:=gO m h;unfold AE.empty at hm;unfold Ht;rw[hp];simp only[hm];rw[zO om,zN (yg trivial (yg h trivial))]
theorem oG(b:AT):Ht b=Ed b:=by
 rcases ZG b with⟨m,h1,h2,h3⟩|h1
 .rw[h1,<-h3,ZH h2]
 .obtain⟨m,e,h⟩:∃m e,Ed b=(m,e):=⟨_,_,rfl⟩;rcases oI h with⟨h2,h3,h4⟩|⟨h2,h3⟩
  .have:=iW h3;rw[h4,h1]at this;simp at this
  .rw[h1,h,h2,h3]
def TG(b:AT):AT×Int:=if b.length<8 then([],11)else
 if(CY ((b.take (b.length-4)).drop 4)).2=0/\(CY ((b.take (b.length-4)).drop 4)).1=b then((b.take (b.length-4)).drop 4,0)else([],12)
theorem fQ{p:AT}(h:(CY p).2=0):p.length<=112:=by
 unfold CY at h;split at h
 .simp at h
 .omega
theorem my(b:AT):TG b=Bl b:=by
 obtain⟨p,e,h⟩:∃p e,Bl b=(p,e):=⟨_,_,rfl⟩;unfold TG;rcases TI h with⟨h1,h2,h3⟩|⟨h1,h2,h3⟩|⟨h1,h2,h3⟩
 .subst h1;have hb:=h3;rw[Gj h2]at hb;simp only at hb;have hl:b.length=p.length+8:=by rw[<-hb];simp[Hz,K3];omega
  have e:(b.take (b.length-4)).drop 4=p:=by
   rw[hl,<-hb,zu,show p.length+8-4=(hdr p.length).length+p.length by rw[Hz];omega,List.take_append,List.drop_append];simp[Hz]
  rw[zO om,e,zN ⟨by rw[Gj h2],h3⟩,h]
 .rw[zN h2,h,h1,h3]
 .rw[zO om,zO,h,h1,h3];rintro⟨a,c⟩;have:=TH (fQ a);rw[c,h,h1]at this;simp at this
end Wi
end Go.Proofs.YthlmmkmeoblbhaaGreat
