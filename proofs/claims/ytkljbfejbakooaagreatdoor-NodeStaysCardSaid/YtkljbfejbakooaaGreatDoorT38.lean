/- Part 38 of a proof. Conditions: those that its theorems state. -/
import Derived.Test.YtkljbfejbakooaaGreatDoorT33
set_option linter.unusedSimpArgs false
set_option linter.unusedVariables false
set_option linter.unnecessarySimpa false
set_option maxHeartbeats 40000000
set_option maxRecDepth 4000
namespace Go.Proofs.YtkljbfejbakooaaGreatDoor
open Go.Gar
abbrev IR:Aw:=[0,2,3,4,5,6,7,10,16,21,24,46]
abbrev LK:Aw:=[0,2,3,4,5,6,7,10,18,30]
abbrev LM:Aw:=[0,2,3,4,5,6,7,8,9,10,13,21,31]
theorem Si(b:AJ)(hb:b.length<70368744177664):xB 221 [.by b] (De (Bl b)):=by
 refine zF AF Tryz.func221 ?_;rcases b with _|⟨m,r⟩
 .refine wd IR [] A4 A4 ?_;exact BL (xU @Bl.eq_1 @De.eq_1)
 have hm:=m.toNat_lt;simp only[xw]at hb
 by_cases h6:m.toNat>6
 .refine wd IR [] A4 A4 ?_;with_reducible repeat' first|constructor|intro hc
  refine⟨_,_,rfl,rfl,?_⟩;simp[IT,BK,Bd,B0,Bl,De,h6]
 by_cases hr:r.length<m.toNat
 .refine wd IR [] A4 A4 ?_;with_reducible repeat' first|constructor|intro hc
  refine⟨_,_,rfl,rfl,?_⟩;simp[IT,BK,Bd,B0,Bl,De,h6,hr]
 have hlt:∀k,k<=m.toNat->FR (r.take k)<281474976710656:=by
  intro k hk;have:=Qc (r.take k);have h6':(r.take k).length<=6:=by simp;omega
  have:256^(r.take k).length<=256^6:=Nat.pow_le_pow_right (by decide) h6';omega
 refine wd IR [] A4 A4 ?_;with_reducible repeat' first|constructor|intro hc
 refine BS (fun k=>k<=m.toNat) (fun k:Nat=>⟨[(0,.d (.by (m::r))),(2,.wo 0),(3,.e0),(4,.wo 0),(5,.wo m.toNat),(6,.wo (FR (r.take k):Nat)),(7,.wo ((k+1:Nat):Int))],[],54⟩) (fun k=>m.toNat-k) 0 (xQ _) ?_ (xH _) ?_
 .exact A6.ck rfl
 intro k hk;have hv:=hlt k hk
 by_cases hkm:k<m.toNat
 .have e3:(FR (r.take k):Int)*256+((r.getD k 0).toNat:Int)=(FR (r.take (k+1)):Nat):=by
   have:=UJ r k om;omega
  have hv':=hlt (k+1) hkm;have hd:=(r.getD k 0).toNat_lt;refine wd IR [] (AM e3) A4 ?_;with_reducible repeat' first|constructor|intro hc
  rotate_left
  .rw[e3];exact Ki rfl (Og _ om)
  refine⟨k+1,hkm,om,xH _,?_⟩;exact A6.ck rfl
 .have hkm':k=m.toNat:=om
  subst hkm'
  by_cases hP:(m.toNat>0/\r.getD 0 0=0)\/FR (r.take m.toNat)>1099511627776
  .have hT:Bl (m::r)=(0,[],12):=by simp only[Bl,if_neg h6,if_neg hr,if_pos hP]
   rw[hT];refine wd IR [] A4 A4 ?_;with_reducible repeat' first|constructor|intro hc
   all_goals first
    |(refine⟨_,_,rfl,rfl,?_⟩;simp[IT,BK,Bd,B0,De];done)
    |(exfalso;rcases hP with⟨h,h'⟩|h<;>first|omega|(have h':=congrArg UInt8.toNat h';simp only[UInt8.toNat_zero]at h';omega))
  .have hT:Bl (m::r)=(FR (r.take m.toNat),r.drop m.toNat,0):=by simp only[Bl,if_neg h6,if_neg hr,if_neg hP]
   rw[hT];have e5:(1+(m.toNat:Int)).toNat=m.toNat+1:=om
   refine wd IR [] (AM e5) A4 ?_;with_reducible repeat' first|constructor|intro hc
   all_goals first
    |(refine⟨_,_,rfl,rfl,?_⟩;simp[IT,BK,Bd,B0,De];done)
    |(exfalso;exact hP (.inl ⟨om,u8z om⟩))
    |(exfalso;exact hP (.inr om))
theorem ma(l:Ad):xB 229 [.is l] (.tup [.by (Ii l).1,.i .i64 (Ii l).2]):=by
 refine zF AF Tryz.func229 ?_
 by_cases hl:l.length>255
 .refine wd LK [] A4 A4 ?_;with_reducible repeat' first|constructor|intro hc
  exact BL (xU @Ii.eq_1 hl)
 have h1:(l.length:Int)%256=l.length:=om
 have ow:Lv [14]:=trivial;refine wd LK [] (AM h1) A4 ?_;clear ow;with_reducible repeat' first|constructor|intro hc
 refine BS (fun k=>k<=l.length/\(l.take k).all fits=true) (fun k:Nat=>⟨[(0,.xG l),(2,.e0),(3,.wo 0),(4,.sl 0 (UInt8.ofNat l.length::Ac (l.take k)).length 1),(5,.wo k)],[.a (.by (UInt8.ofNat l.length::Ac (l.take k)))],36⟩) (fun k=>l.length-k) 0 ⟨xQ _,sm⟩ ?_ (xH _) ?_
 .exact A6.ck rfl
 rintro k ⟨hk,hpre⟩;have hlen:=Fj _ hpre;have htl:(l.take k).length<=k:=List.length_take_le _ _
 by_cases hka:k<l.length
 .by_cases hf:fits (l.getD k 0)=true
  .obtain⟨m,hm,hm'⟩:=JJ hf
   have hnext:(UInt8.ofNat l.length::Ac (l.take k))++CR m=UInt8.ofNat l.length::Ac (l.take (k+1)):=by
    rw[FW hka,hm];simp
   have hnext':Ac (l.take k)++CR m=Ac (l.take (k+1)):=by
    rw[FW hka,hm];simp
   have hnl:=Cm m hm';have hput:Nq (m:Int)=(CR m,0):=by rw[hm]at hf;simp[Nq,hf]
   rw[hm]at hf;refine wd LK [] (Ci hm hput hnext') (AM (dB m)) ?_;with_reducible repeat' first|constructor|intro hc
   refine⟨k+1,⟨hka,by rw[Gm hka,hpre,hm,hf];rfl⟩,om,xH _,?_⟩;exact(have nC:=hnext';A6.co rfl)
  .have hf':fits (l.getD k 0)=false:=by simpa using hf
   have hall:l.all fits=false:=by
    rw[<-yg (k+1) l,List.all_append,Gm hka,hf'];simp
   have hput:Nq (l.getD k 0)=([],2):=by unfold Nq;rw[if_neg hf]
   refine wd LK [] (AM hput) (AM (dB (l.getD k 0))) ?_;with_reducible repeat' first|constructor|intro hc
   exact BL (xU @Ii.eq_1 (xU hl hall))
 .have e:k=l.length:=om
  subst e;rw[yD]at hpre;refine wd LK [] A4 A4 ?_;with_reducible repeat' first|constructor|intro hc
  exact BL (xU @Ii.eq_1 (xU hl hpre))
theorem Vg(b:AJ)(hb:b.length<70368744177664):xB 222 [.by b] (IL (BZ b)):=by
 refine zF AF Tryz.func222 ?_;rcases b with _|⟨m,r⟩
 .refine wd LM [] A4 A4 ?_;exact BL (xU @BZ.eq_1 @IL.eq_1)
 have hm:=m.toNat_lt;simp only[xw]at hb;refine wd LM [] A4 A4 ?_;refine BC (A6.bP 5 (.is []) rfl rfl rfl trivial) sm ?_
 refine BS (α:=Nat×AJ×Ad) (fun x=>x.1<=m.toNat/\x.2.1.length<=r.length/\x.2.2.length=x.1/\Df (m.toNat-x.1) x.2.1 x.2.2=Df m.toNat r [])
  (fun x=>⟨[(0,.d (.by (m::r))),(2,.e0),(3,.e0),(5,.sl 0 x.2.2.length 1),(6,.d (.by x.2.1)),(4,.wo 0),(7,.wo x.1)],[.a (.is x.2.2)],42⟩) (fun x=>m.toNat-x.1) (0,r,[]) ⟨xQ _,xH _,rfl,rfl⟩ ?_ sm ?_
 .exact A6.ck rfl
 rintro⟨k,rest,acc⟩ ⟨hk,hrl,hal,hT⟩;simp only at hk hrl hal hT;have hl:=Hs rest;have hv:=YL rest
 by_cases hkm:k<m.toNat
 .rw[show m.toNat-k=(m.toNat-(k+1))+1 by omega]at hT;simp only[Df]at hT
  by_cases he:(Bl rest).2.2=0
  .rw[if_pos he]at hT;refine wd LM [] (Ax he @De.eq_1) (AM (Si rest om)) ?_;with_reducible repeat' first|constructor|intro hc
   refine⟨(k+1,(Bl rest).2.1,acc++[((Bl rest).1:Int)]),⟨hkm,by simp only;omega,by simp;omega,hT⟩,by simp only;omega,sm,?_⟩;exact A6.ck rfl
  .rw[if_neg he]at hT;refine wd LM [] (AM @De.eq_1) (AM (Si rest om)) ?_;with_reducible repeat' first|constructor|intro hc
   have e:BZ (m::r)=([],[],(Bl rest).2.2):=hT.symm;exact BL (xU e @IL.eq_1)
 .have e:k=m.toNat:=om
  subst e;rw[Nat.sub_self]at hT;have e:BZ (m::r)=(acc,rest,0):=hT.symm;refine wd LM [] A4 A4 ?_;with_reducible repeat' first|constructor|intro hc
  exact BL (xU e @IL.eq_1)
end Go.Proofs.YtkljbfejbakooaaGreatDoor
namespace Go.Proofs.YtkljbfejbakooaaGreatDoor
namespace Wi
open Go.Gar
abbrev KB:Aw:=[0,1,4,5,6,7,8,9,10,11,14,24]
abbrev KC:Aw:=[0,2,3,4,5,6,7,9,27]
def CE:Nat->AJ->Option (Ad×AJ)
 |0,b=>some ([],b)
 |k+1,b=>match DR b with
  |none=>none
  |some (n,r)=>match CE k r with
   |none=>none
   |some (l,r')=>some ((n:Int)::l,r')
def Eh:Option (Ad×AJ)->D
 |some (l,r)=> .tup [.is l,.by r,.b true]
 |none=> .tup [.is [],.by [],.b false]
def Nm(acc:Ad)(k:Nat)(b:AJ):Option (Ad×AJ):=match CE k b with
 |none=>none
 |some (l,r)=>some (acc++l,r)
variable {acc:Ad}{k:Nat}{b:AJ}
theorem Zk{r:AJ}{n:Nat}(h:DR b=some (n,r)):Nm acc (k+1) b=Nm (acc++[(n:Int)]) k r:=by
 unfold Nm;rw[CE,h];simp only
 cases CE k r with
 |none=>rfl
 |some p=>obtain⟨l,q⟩:=p;simp
theorem Zj(h:DR b=none):Nm acc (k+1) b=none:=by
 unfold Nm;rw[CE,h]
theorem fQ:Nm [] k b=CE k b:=by
 unfold Nm
 cases CE k b with
 |none=>rfl
 |some p=>rfl
theorem DI(b:AJ)(AU:Nat)(hb:b.length<70368744177664)(hm:AU<=100):xB 143 [.by b,.i .i64 AU] (Eh (CE AU b)):=by
 refine zF AF Tryz.func143 ?_;refine wd KB [] A4 A4 ?_;refine BC (A6.bP 7 (.is []) rfl rfl rfl trivial) sm ?_
 refine BS (α:=Nat×AJ×Ad) (fun x=>x.1<=AU/\x.2.1.length<=b.length/\x.2.2.length=x.1/\Nm x.2.2 (AU-x.1) x.2.1=CE AU b)
  (fun x=>⟨[(0,.d (.by x.2.1)),(1,.wo AU),(4,.e0),(5,.e0),(6,.wu false),(7,.sl 0 x.2.2.length 1),(8,.wo x.1)],[.a (.is x.2.2)],32⟩) (fun x=>AU-x.1) (0,b,[]) ⟨xQ _,xH _,rfl,fQ⟩ ?_ (xH _) ?_
 .exact A6.ck rfl
 rintro⟨k,r,acc⟩ ⟨h1,h2,h3,h4⟩;simp only at h1 h2 h3 h4|-
 by_cases hk:k<AU
 .have ht:=Si r om;obtain⟨j,hj⟩:∃j,AU-k=j+1:=⟨AU-k-1,om⟩;rw[hj]at h4
  cases hp:DR r with
  |none=>
   have hne:=Ty hp;rw[Zj hp]at h4;rw[<-h4];have f:=C4 hne;unfold De at ht;refine wd KB [] (AM f) (AM @ht) ?_;with_reducible repeat' first|constructor|intro hc
   refine⟨_,_,rfl,rfl,?_⟩;simp[IT,BK,Bd,B0,Eh]
  |some p=>
   obtain⟨n,r'⟩:=p;have hle:=Bb hp;rw[JS hp]at ht;rw[Zk hp]at h4;unfold De at ht;refine wd KB [] A4 (AM @ht) ?_;with_reducible repeat' first|constructor|intro hc
   refine⟨(k+1,r',acc++[(n:Int)]),⟨hk,by simp only;omega,by simp only[y9,xw,yI];omega,by rw[show AU-(k+1)=j by omega];exact h4⟩,(show AU-(k+1)<AU-k by omega),xH _,?_⟩;exact A6.ck rfl
 .have e:k=AU:=om
  rw[e,Nat.sub_self]at h4;have e2:CE AU b=some (acc,r):=by rw[<-h4];simp[Nm,CE]
  rw[e2];refine wd KB [] A4 A4 ?_;with_reducible repeat' first|constructor|intro hc
  exact BL @Eh.eq_1
theorem EZ:∀{k:Nat}{b r:AJ}{l:Ad},CE k b=some (l,r)->l.length=k/\r.length<=b.length
 |0,b,r,l,h=>by simp only[CE,xJ,xZ]at h;obtain⟨rfl,rfl⟩:=h;exact⟨rfl,xH _⟩
 |k+1,b,r,l,h=>by
  rw[CE]at h;split at h
  .cases h
  .rename_i n r1 h1;split at h
   .cases h
   .rename_i l1 r2 h2;simp only[xJ,xZ]at h;obtain⟨rfl,rfl⟩:=h;have:=EZ h2;have:=Bb h1;simp;omega
def F5(b:AJ):AK×Bool:=match CE 3 (BI b).2.1 with
 |some ([v,n,g],_)=>if(BI b).2.2=0 then(⟨(BI b).1,v,n,g==1⟩,true)else(AY,false)
 |_=>(AY,false)
theorem nN(b:AJ):(BI b).2.1.length<=b.length:=by
 rcases KL b with⟨s,r,h1,h2,h3⟩|h1
 .rw[h1,h2];simp;omega
 .rw[h1];simp
theorem U2(b:AJ)(hb:b.length<70368744177664):xB 223 [.by b] (.tup [(F5 b).1.d,.b (F5 b).2]):=by
 have ht:=Nr b hb;have hn:=DI (BI b).2.1 3 (by have:=nN b;omega) (by decide);have hlen:=@EZ 3 (BI b).2.1;unfold HS at ht;unfold F5;generalize(BI b).1=s at *;generalize(BI b).2.1=r at *;generalize(BI b).2.2=e at *;refine zF AF Tryz.func223 ?_
 by_cases he:e=0
 .subst he
  cases hp:CE 3 r with
  |none=>
   rw[hp]at hn;unfold Eh at hn;refine wd KC [] A4 (Ax @ht @hn) ?_;exact BL (xU @AY.eq_1 (xU @AK.d.eq_1 @AK.A0.eq_1))
  |some p=>
   obtain⟨l,r2⟩:=p;obtain⟨hl,_⟩:=hlen hp
   obtain⟨v,n,g,rfl⟩:∃v n g,l=[v,n,g]:=by
    rcases l with _|⟨v,_|⟨n,_|⟨g,_|⟨x,t⟩⟩⟩⟩<;>first|exact⟨_,_,_,rfl⟩|(simp at hl)
   rw[hp]at hn;unfold Eh at hn;refine wd KC [] A4 (Ax @ht @hn) ?_;exact BL (xU @AK.d.eq_1 @AK.A0.eq_1)
 .have f:=C4 he
  have e2:(match CE 3 r with|some ([v,n,g],_)=>if e=0 then((⟨s,v,n,g==1⟩,true):AK×Bool)else(AY,false)|_=>(AY,false))=(AY,false):=by
   split
   .rw[if_neg he]
   .rfl
  rw[e2]
  cases hp:CE 3 r with
  |none=>
   rw[hp]at hn;unfold Eh at hn;refine wd KC [] (AM f) (Ax @ht @hn) ?_;exact BL (xU @AY.eq_1 (xU @AK.d.eq_1 @AK.A0.eq_1))
  |some p=>
   obtain⟨l,r2⟩:=p;rw[hp]at hn;unfold Eh at hn;refine wd KC [] (AM f) (Ax @ht @hn) ?_;exact BL (xU @AY.eq_1 (xU @AK.d.eq_1 @AK.A0.eq_1))
abbrev CJ:Aw:=[0,1,2,4,5,6,7,8,9,10,12,13,14,15,17,18,19,21,22,25,37,40,41,52,63,69,87,98,112,120]
def EI(k:Int):Nat:=if k=4 then 2 else if k=10 then 2 else if k=7 then 1 else if k=11 then 1 else if k=12 then 1 else 0
def CC(m:AC)(b:AJ):AC×Bool:=match CE (EI m.AR) b with
 |none=>(m,false)
 |some (l,r)=>
  if m.AR=4 then({m with AH:=l.getD 0 0,B4:=l.getD 1 0==1},true)else
  if m.AR=10 then({m with AT:=l.getD 0 0,done:=l.getD 1 0==1},true)else
  if m.AR=11 then({m with AQ:=l.getD 0 0},true)else
  if m.AR=7 then({m with AG:=l.getD 0 0-1,A8:=(BZ r).1},(BZ r).2.2==0)else
  if m.AR=5 then({m with A9:=(F5 r).1},(F5 r).2)else
  if m.AR=6 then({m with A9:=⟨(BI r).1,m.A9.B2,m.A9.AZ,m.A9.gone⟩},(BI r).2.2==0)else
  if m.AR=12 then(if l.getD 0 0=0 then({m with AQ:=0,A9:=(F5 r).1},(F5 r).2)else({m with AQ:=l.getD 0 0},true))else(m,true)
theorem HD{k:Nat}{b r:AJ}{l:Ad}(h:CE k b=some (l,r)):∀x∈l,0<=x/\x<=1099511627776:=by
 induction k generalizing b r l with
 |zero=>simp only[CE,xJ,xZ]at h;obtain⟨rfl,rfl⟩:=h;intro x hx;cases hx
 |succ k ih=>
  rw[CE]at h;split at h
  .cases h
  .rename_i n r1 h1;split at h
   .cases h
   .rename_i l1 r2 h2;simp only[xJ,xZ]at h;obtain⟨rfl,rfl⟩:=h;intro x hx;rcases yP.1 hx with rfl|hx
    .have:=VZ h1;omega
    .exact ih h2 x hx
theorem lV(m:AC)(b:AJ)(hb:b.length<70368744177664):xB 144 [m.d,.by b] (.tup [(CC m b).1.d,.b (CC m b).2]):=by
 obtain⟨k,c,s,d,ky,sl,dn,pl,pr,l,⟨ik,iv,ir,ig⟩,co⟩:=m;refine zF AF Tryz.func144 ?_;unfold AC.d AC.A0
 by_cases h4:k=4
 .subst h4;have hn:=DI b 2 hb (by decide);have hgt:=@HD 2 b;have hln:=@EZ 2 b
  cases hp:CE 2 b with
  |none=>
   have e:CC ⟨4,c,s,d,ky,sl,dn,pl,pr,l,⟨ik,iv,ir,ig⟩,co⟩ b=(⟨4,c,s,d,ky,sl,dn,pl,pr,l,⟨ik,iv,ir,ig⟩,co⟩,false):=by unfold CC;simp only[EI,Int.reduceEq,yG,yC,hp]
   rw[e];rw[hp]at hn;unfold Eh at hn;refine wd CJ [] A4 (AM @hn) ?_;with_reducible repeat' first|constructor|intro hc
   exact zE
  |some p=>
   obtain⟨q,r⟩:=p;have hg:=hgt hp;obtain⟨hl1,hl2⟩:=hln hp
   obtain⟨x,y,rfl⟩:∃x y,q=[x,y]:=by
    rcases q with _|⟨x,_|⟨y,_|⟨z,t⟩⟩⟩<;>first|exact⟨_,_,rfl⟩|(simp at hl1)
   have hx:=hg x sm;have hy:=hg y sm;rw[hp]at hn;unfold Eh at hn;have e:CC ⟨4,c,s,d,ky,sl,dn,pl,pr,l,⟨ik,iv,ir,ig⟩,co⟩ b=(⟨4,c,s,d,x,y==1,dn,pl,pr,l,⟨ik,iv,ir,ig⟩,co⟩,true):=by unfold CC;simp only[EI,Int.reduceEq,yG,yC,hp]<;>rfl
   rw[e];refine wd CJ [] A4 (AM @hn) ?_;with_reducible repeat' first|constructor|intro hc
   exact zE
 by_cases h10:k=10
 .subst h10;have hn:=DI b 2 hb (by decide);have hgt:=@HD 2 b;have hln:=@EZ 2 b
  cases hp:CE 2 b with
  |none=>
   have e:CC ⟨10,c,s,d,ky,sl,dn,pl,pr,l,⟨ik,iv,ir,ig⟩,co⟩ b=(⟨10,c,s,d,ky,sl,dn,pl,pr,l,⟨ik,iv,ir,ig⟩,co⟩,false):=by unfold CC;simp only[EI,Int.reduceEq,yG,yC,hp]
   rw[e];rw[hp]at hn;unfold Eh at hn;refine wd CJ [] A4 (AM @hn) ?_;with_reducible repeat' first|constructor|intro hc
   exact zE
  |some p=>
   obtain⟨q,r⟩:=p;have hg:=hgt hp;obtain⟨hl1,hl2⟩:=hln hp
   obtain⟨x,y,rfl⟩:∃x y,q=[x,y]:=by
    rcases q with _|⟨x,_|⟨y,_|⟨z,t⟩⟩⟩<;>first|exact⟨_,_,rfl⟩|(simp at hl1)
   have hx:=hg x sm;have hy:=hg y sm;rw[hp]at hn;unfold Eh at hn;have e:CC ⟨10,c,s,d,ky,sl,dn,pl,pr,l,⟨ik,iv,ir,ig⟩,co⟩ b=(⟨10,c,s,d,ky,sl,y==1,x,pr,l,⟨ik,iv,ir,ig⟩,co⟩,true):=by unfold CC;simp only[EI,Int.reduceEq,yG,yC,hp]<;>rfl
   rw[e];refine wd CJ [] A4 (AM @hn) ?_;with_reducible repeat' first|constructor|intro hc
   exact zE
 by_cases h11:k=11
 .subst h11;have hn:=DI b 1 hb (by decide);have hgt:=@HD 1 b;have hln:=@EZ 1 b
  cases hp:CE 1 b with
  |none=>
   have e:CC ⟨11,c,s,d,ky,sl,dn,pl,pr,l,⟨ik,iv,ir,ig⟩,co⟩ b=(⟨11,c,s,d,ky,sl,dn,pl,pr,l,⟨ik,iv,ir,ig⟩,co⟩,false):=by unfold CC;simp only[EI,Int.reduceEq,yG,yC,hp]
   rw[e];rw[hp]at hn;unfold Eh at hn;refine wd CJ [] A4 (AM @hn) ?_;with_reducible repeat' first|constructor|intro hc
   exact zE
  |some p=>
   obtain⟨q,r⟩:=p;have hg:=hgt hp;obtain⟨hl1,hl2⟩:=hln hp
   obtain⟨x,rfl⟩:∃x,q=[x]:=by
    rcases q with _|⟨x,_|⟨z,t⟩⟩<;>first|exact⟨_,rfl⟩|(simp at hl1)
   have hx:=hg x sm;rw[hp]at hn;unfold Eh at hn;have e:CC ⟨11,c,s,d,ky,sl,dn,pl,pr,l,⟨ik,iv,ir,ig⟩,co⟩ b=(⟨11,c,s,d,ky,sl,dn,pl,pr,l,⟨ik,iv,ir,ig⟩,x⟩,true):=by unfold CC;simp only[EI,Int.reduceEq,yG,yC,hp]<;>rfl
   rw[e];refine wd CJ [] A4 (AM @hn) ?_;with_reducible repeat' first|constructor|intro hc
   exact zE
 by_cases h7:k=7
 .subst h7;have hn:=DI b 1 hb (by decide);have hgt:=@HD 1 b;have hln:=@EZ 1 b
  cases hp:CE 1 b with
  |none=>
   have e:CC ⟨7,c,s,d,ky,sl,dn,pl,pr,l,⟨ik,iv,ir,ig⟩,co⟩ b=(⟨7,c,s,d,ky,sl,dn,pl,pr,l,⟨ik,iv,ir,ig⟩,co⟩,false):=by unfold CC;simp only[EI,Int.reduceEq,yG,yC,hp]
   rw[e];rw[hp]at hn;unfold Eh at hn;refine wd CJ [] A4 (AM @hn) ?_;with_reducible repeat' first|constructor|intro hc
   exact zE
  |some p=>
   obtain⟨q,r⟩:=p;have hg:=hgt hp;obtain⟨hl1,hl2⟩:=hln hp
   obtain⟨x,rfl⟩:∃x,q=[x]:=by
    rcases q with _|⟨x,_|⟨z,t⟩⟩<;>first|exact⟨_,rfl⟩|(simp at hl1)
   have hx:=hg x sm;rw[hp]at hn;unfold Eh at hn;have ht:=Vg r om;unfold IL at ht;have e:CC ⟨7,c,s,d,ky,sl,dn,pl,pr,l,⟨ik,iv,ir,ig⟩,co⟩ b=(⟨7,c,s,d,ky,sl,dn,pl,(x-1),(BZ r).1,⟨ik,iv,ir,ig⟩,co⟩,(BZ r).2.2==0):=by unfold CC;simp only[EI,Int.reduceEq,yG,yC,hp]<;>rfl
   rw[e];refine wd CJ [] A4 (Ax @hn @ht) ?_;with_reducible repeat' first|constructor|intro hc
   exact zE
 by_cases h5:k=5
 .subst h5;have hn:=DI b 0 hb (by decide);have hgt:=@HD 0 b;have hln:=@EZ 0 b
  cases hp:CE 0 b with
  |none=>
   have e:CC ⟨5,c,s,d,ky,sl,dn,pl,pr,l,⟨ik,iv,ir,ig⟩,co⟩ b=(⟨5,c,s,d,ky,sl,dn,pl,pr,l,⟨ik,iv,ir,ig⟩,co⟩,false):=by unfold CC;simp only[EI,Int.reduceEq,yG,yC,hp]
   rw[e];rw[hp]at hn;unfold Eh at hn;refine wd CJ [] A4 (AM @hn) ?_;with_reducible repeat' first|constructor|intro hc
   exact zE
  |some p=>
   obtain⟨q,r⟩:=p;have hg:=hgt hp;obtain⟨hl1,hl2⟩:=hln hp;obtain rfl:q=[]:=q09.1 hl1;rw[hp]at hn;unfold Eh at hn;have ht:=U2 r om;have hD:∀z:AK,z.d= .agg [.s z.AH,.i .i64 z.B2,.i .i64 z.AZ,.b z.gone]:=fun _=>rfl
   rw[hD]at ht;have e:CC ⟨5,c,s,d,ky,sl,dn,pl,pr,l,⟨ik,iv,ir,ig⟩,co⟩ b=(⟨5,c,s,d,ky,sl,dn,pl,pr,l,(F5 r).1,co⟩,(F5 r).2):=by unfold CC;simp only[EI,Int.reduceEq,yG,yC,hp]<;>rfl
   rw[e];refine wd CJ [] A4 (Ax @hn @ht) ?_;with_reducible repeat' first|constructor|intro hc
   exact zE
 by_cases h6:k=6
 .subst h6;have hn:=DI b 0 hb (by decide);have hgt:=@HD 0 b;have hln:=@EZ 0 b
  cases hp:CE 0 b with
  |none=>
   have e:CC ⟨6,c,s,d,ky,sl,dn,pl,pr,l,⟨ik,iv,ir,ig⟩,co⟩ b=(⟨6,c,s,d,ky,sl,dn,pl,pr,l,⟨ik,iv,ir,ig⟩,co⟩,false):=by unfold CC;simp only[EI,Int.reduceEq,yG,yC,hp]
   rw[e];rw[hp]at hn;unfold Eh at hn;refine wd CJ [] A4 (AM @hn) ?_;with_reducible repeat' first|constructor|intro hc
   exact zE
  |some p=>
   obtain⟨q,r⟩:=p;have hg:=hgt hp;obtain⟨hl1,hl2⟩:=hln hp;obtain rfl:q=[]:=q09.1 hl1;rw[hp]at hn;unfold Eh at hn;have ht:=Nr r om;unfold HS at ht;have e:CC ⟨6,c,s,d,ky,sl,dn,pl,pr,l,⟨ik,iv,ir,ig⟩,co⟩ b=(⟨6,c,s,d,ky,sl,dn,pl,pr,l,⟨(BI r).1,iv,ir,ig⟩,co⟩,(BI r).2.2==0):=by unfold CC;simp only[EI,Int.reduceEq,yG,yC,hp]<;>rfl
   rw[e];refine wd CJ [] A4 (Ax @hn @ht) ?_;with_reducible repeat' first|constructor|intro hc
   exact zE
 by_cases h12:k=12
 .subst h12;have hn:=DI b 1 hb (by decide);have hgt:=@HD 1 b;have hln:=@EZ 1 b
  cases hp:CE 1 b with
  |none=>
   have e:CC ⟨12,c,s,d,ky,sl,dn,pl,pr,l,⟨ik,iv,ir,ig⟩,co⟩ b=(⟨12,c,s,d,ky,sl,dn,pl,pr,l,⟨ik,iv,ir,ig⟩,co⟩,false):=by unfold CC;simp only[EI,Int.reduceEq,yG,yC,hp]
   rw[e];rw[hp]at hn;unfold Eh at hn;refine wd CJ [] A4 (AM @hn) ?_;with_reducible repeat' first|constructor|intro hc
   exact zE
  |some p=>
   obtain⟨q,r⟩:=p;have hg:=hgt hp;obtain⟨hl1,hl2⟩:=hln hp
   obtain⟨x,rfl⟩:∃x,q=[x]:=by
    rcases q with _|⟨x,_|⟨z,t⟩⟩<;>first|exact⟨_,rfl⟩|(simp at hl1)
   have hx:=hg x sm;rw[hp]at hn;unfold Eh at hn
   by_cases h0:x=0
   .subst h0;have ht:=U2 r om;have hD:∀z:AK,z.d= .agg [.s z.AH,.i .i64 z.B2,.i .i64 z.AZ,.b z.gone]:=fun _=>rfl
    rw[hD]at ht;have e:CC ⟨12,c,s,d,ky,sl,dn,pl,pr,l,⟨ik,iv,ir,ig⟩,co⟩ b=(⟨12,c,s,d,ky,sl,dn,pl,pr,l,(F5 r).1,0⟩,(F5 r).2):=by unfold CC;simp only[EI,Int.reduceEq,yG,yC,hp]<;>rfl
    rw[e];refine wd CJ [] A4 (Ax @hn @ht) ?_;with_reducible repeat' first|constructor|intro hc
    exact zE
   .have f:=eq_false' h0;have e:CC ⟨12,c,s,d,ky,sl,dn,pl,pr,l,⟨ik,iv,ir,ig⟩,co⟩ b=(⟨12,c,s,d,ky,sl,dn,pl,pr,l,⟨ik,iv,ir,ig⟩,x⟩,true):=by unfold CC;simp only[EI,Int.reduceEq,yG,yC,hp,q0B,h0]
    rw[e];refine wd CJ [] (AM f) (AM @hn) ?_;with_reducible repeat' first|constructor|intro hc
    exact zE
 have hn:=DI b 0 hb (by decide)
 have e:CC ⟨k,c,s,d,ky,sl,dn,pl,pr,l,⟨ik,iv,ir,ig⟩,co⟩ b=(⟨k,c,s,d,ky,sl,dn,pl,pr,l,⟨ik,iv,ir,ig⟩,co⟩,true):=by
  unfold CC;simp only[EI,h4,h10,h11,h7,h5,h6,h12,yC,CE]
 rw[e];have hp:CE 0 b=some ([],b):=rfl;rw[hp]at hn;unfold Eh at hn;have f4:=eq_false' h4;have f5:=eq_false' h5;have f6:=eq_false' h6;have f7:=eq_false' h7;have f10:=eq_false' h10;have f11:=eq_false' h11;have f12:=eq_false' h12;refine wd CJ [] (zq7 f4 f5 f6 f7 f10 f11 f12) (AM @hn) ?_;with_reducible repeat' first|constructor|intro hc
 exact zE
theorem F4:∀(l:Ad)(r:AJ),l.all fits=true->CE l.length (Ac l++r)=some (l,r)
 |[],r,_=>rfl
 |n::l,r,h=>by
  simp only[yj,xI]at h;have e:Ac (n::l)++r=Ac [n]++(Ac l++r):=by simp[Ac]
  rw[xw,CE,e,E9 h.1];simp only;rw[F4 l r h.2];simp only[(Bq h.1).1]
theorem R3(g:Bool):(Dl g==1)=g:=by cases g<;>rfl
theorem Pl(x:AK)(hk:x.AH.length<=255)(hv:fits x.B2=true)(hn:fits x.AZ=true):F5 (CN x)=(x,true):=by
 obtain⟨k,v,n,g⟩:=x
 have ht:BI (CN ⟨k,v,n,g⟩)=(k,Ac [v,n,Dl g],0):=by
  rw[show CN ⟨k,v,n,g⟩=UInt8.ofNat k.length::k++Ac [v,n,Dl g]by simp[SP,Cf,Ac]];exact PR k _ hk
 have hp:CE 3 (Ac [v,n,Dl g])=some ([v,n,Dl g],[]):=by
  have:=F4 [v,n,Dl g] [] (by simp only[yj,zi,hv,hn,EY,zh]);rw[yK]at this;exact this
 unfold F5;rw[ht];simp only[hp,yG,R3]
theorem fN(m:AC)(h:m.right=true):CC m.empty (CK m)=(m,true):=by
 obtain⟨_,_,_,_,hb,hh⟩:=Hj h;clear h;obtain⟨k,c,s,d,ky,sl,dn,pl,pr,l,⟨ik,iv,ir,ig⟩,co⟩:=m;unfold CC CK;simp only[AC.empty]at hb|-;unfold AC.bare AC.has at *;simp only at hb hh
 by_cases h4:k=4
 .subst h4;simp only[yG,AC.mk.injEq,AY,AK.mk.injEq]at hb hh|-
  have hp:CE 2 (Ac [ky,Dl sl])=some ([ky,Dl sl],[]):=by
   have:=F4 [ky,Dl sl] [] (by simp only[yj,zi,CQ hh,EY,zh]);rw[yK]at this;exact this
  simp only[EI,yG,hp,q0B,List.getD_cons_succ,R3]
  simp_all
 by_cases h5:k=5
 .subst h5;simp only[Int.reduceEq,yC,yG,AC.mk.injEq,AY,AK.mk.injEq]at hb hh|-;obtain⟨a1,a2,a3⟩:=HP hh;simp only[EI,Int.reduceEq,yC,CE,Pl _ a1 a2 a3]
  simp_all
 by_cases h6:k=6
 .subst h6;simp only[Int.reduceEq,yC,yG,AC.mk.injEq,AY,AK.mk.injEq,xI,xK]at hb hh|-;obtain⟨a1,a2,a3⟩:=HP hh.1
  have ht:BI (Cf ik)=(ik,[],0):=by
   have:=PR ik [] a1;rw[yK]at this;exact this
  simp only[EI,Int.reduceEq,yC,CE,ht]
  simp_all
 by_cases h7:k=7
 .subst h7;simp only[Int.reduceEq,yC,yG,AC.mk.injEq,AY,AK.mk.injEq,xI,yL,xK]at hb hh|-;obtain⟨b1,b2⟩:=L5 hh.2
  have hf:fits (pr+1)=true:=by
   rcases hh.1 with h|h
   .subst h;rfl
   .exact Dv (by have:=FD h;omega)
  have hp:CE 1 (Ac [pr+1]++UInt8.ofNat l.length::Ac l)=some ([pr+1],UInt8.ofNat l.length::Ac l):=F4 [pr+1] _ (by simp only[yj,zi,hf,zh])
  have ht:BZ (UInt8.ofNat l.length::Ac l)=(l,[],0):=by
   have:=Tq l [] om b2;rw[yK]at this;exact this
  have e1:pr+1-1=pr:=om
  simp only[EI,Int.reduceEq,yC,yG,hp,ht,q0B,e1]
  simp_all
 by_cases h10:k=10
 .subst h10;simp only[Int.reduceEq,yC,yG,AC.mk.injEq,AY,AK.mk.injEq]at hb hh|-
  have hp:CE 2 (Ac [pl,Dl dn])=some ([pl,Dl dn],[]):=by
   have:=F4 [pl,Dl dn] [] (by simp only[yj,zi,CQ hh,EY,zh]);rw[yK]at this;exact this
  simp only[EI,Int.reduceEq,yC,yG,hp,q0B,List.getD_cons_succ,R3]
  simp_all
 by_cases h11:k=11
 .subst h11;simp only[Int.reduceEq,yC,yG,AC.mk.injEq,AY,AK.mk.injEq,yL,xK]at hb hh|-;have hf:fits co=true:=by rcases hh with h|h<;>rw[h]<;>rfl
  have hp:CE 1 (Ac [co])=some ([co],[]):=by
   have:=F4 [co] [] (by simp only[yj,zi,hf,zh]);rw[yK]at this;exact this
  simp only[EI,Int.reduceEq,yC,yG,hp,q0B]
  simp_all
 by_cases h12:k=12
 .subst h12;simp only[Int.reduceEq,yC,yG,AC.mk.injEq,AY,AK.mk.injEq,yL,xI,xK]at hb hh|-;rcases hh with⟨h0,h1⟩|⟨h0,h1⟩
  .subst h0;obtain⟨a1,a2,a3⟩:=HP h1;have hp:CE 1 (Ac [0]++CN ⟨ik,iv,ir,ig⟩)=some ([0],CN ⟨ik,iv,ir,ig⟩):=F4 [0] _ rfl;simp only[EI,Int.reduceEq,yC,yG,hp,q0B,Pl _ a1 a2 a3]
   simp_all
  .subst h0;have hp:CE 1 (Ac [201])=some ([201],[]):=F4 [201] [] rfl;simp only[EI,Int.reduceEq,yC,yG,hp,q0B,yK]
   simp_all
 simp only[h4,h5,h6,h7,h10,h11,h12,yC,AC.mk.injEq,EI,CE]at hb|-
 simp_all
theorem SA(m:AC)(b:AJ)(h:m.A8.length<=255):(CC m b).1.A8.length<=255:=by
 unfold CC;split
 .exact h
 .repeat' split
  all_goals first|exact h|exact TF _
def HH(b:AJ):AC×Int:=match CE 4 b with
 |some ([k,c,s,d],r)=>if k>=13 then(AN,12)else
  if(CC ⟨k,c,s,d,0,false,false,0,0,[],AY,0⟩ r).2=true/\(CC ⟨k,c,s,d,0,false,false,0,0,[],AY,0⟩ r).1.right=true/\By (CC ⟨k,c,s,d,0,false,false,0,0,[],AY,0⟩ r).1=b
  then((CC ⟨k,c,s,d,0,false,false,0,0,[],AY,0⟩ r).1,0)else(AN,12)
 |_=>(AN,12)
theorem Y5(b:AJ):(∃m,HH b=(m,0)/\m.right=true/\By m=b)\/HH b=(AN,12):=by
 unfold HH;split
 .split
  .exact .inr rfl
  .split
   .rename_i h;exact .inl ⟨_,rfl,h.2.1,h.2.2⟩
   .exact .inr rfl
 .exact .inr rfl
theorem g0{m:AC}(h:m.right=true):HH (By m)=(m,0):=by
 obtain⟨⟨k1,k2⟩,⟨p1,p2⟩,_,⟨c1,c2⟩,hb,hh⟩:=Hj h;have ha:=NC h;have fk:fits m.AR=true:=Dv om;have fc:fits m.Aa=true:=Dv om;have hp:CE 4 (By m)=some ([m.AR,m.Aa,m.As,m.dst],CK m):=F4 [m.AR,m.Aa,m.As,m.dst] (CK m) (by simp only[yj,zi,fk,fc,CQ p1,CQ p2,zh]);have hm:=fN m h;unfold AC.empty at hm;unfold HH;rw[hp];simp only[hm];rw[if_neg om,if_pos (xU trivial (xU h trivial))]
theorem Y6(b:AJ):HH b=Ev b:=by
 rcases Y5 b with⟨m,h1,h2,h3⟩|h1
 .rw[h1,<-h3,Y7 h2]
 .obtain⟨m,e,h⟩:∃m e,Ev b=(m,e):=⟨_,_,rfl⟩;rcases mU h with⟨h2,h3,h4⟩|⟨h2,h3⟩
  .have:=g0 h3;rw[h4,h1]at this;simp at this
  .rw[h1,h,h2,h3]
def SL(b:AJ):AJ×Int:=if b.length<8 then([],11)else
 if(Cu ((b.take (b.length-4)).drop 4)).2=0/\(Cu ((b.take (b.length-4)).drop 4)).1=b then((b.take (b.length-4)).drop 4,0)else([],12)
theorem eC{p:AJ}(h:(Cu p).2=0):p.length<=112:=by
 unfold Cu at h;split at h
 .simp at h
 .omega
theorem lw(b:AJ):SL b=Bt b:=by
 obtain⟨p,e,h⟩:∃p e,Bt b=(p,e):=⟨_,_,rfl⟩;unfold SL;rcases Xj h with⟨h1,h2,h3⟩|⟨h1,h2,h3⟩|⟨h1,h2,h3⟩
 .subst h1;have hb:=h3;rw[Hp h2]at hb;simp only at hb;have hl:b.length=p.length+8:=by rw[<-hb];simp[Ig,Uc];omega
  have e:(b.take (b.length-4)).drop 4=p:=by
   rw[hl,<-hb,yB,show p.length+8-4=(hdr p.length).length+p.length by rw[Ig];omega,List.take_append,List.drop_append];simp[Ig]
  rw[if_neg om,e,if_pos ⟨by rw[Hp h2],h3⟩,h]
 .rw[if_pos h2,h,h1,h3]
 .rw[if_neg om,if_neg,h,h1,h3];rintro⟨a,c⟩;have:=SN (eC a);rw[c,h,h1]at this;simp at this
theorem aB(b:AJ):(Ev b).1.A8.length<=255:=by
 rw[<-Y6];unfold HH;split
 .split
  .exact xQ _
  .split
   .exact SA _ _ (xQ _)
   .exact xQ _
 .exact xQ _
theorem ab(b:AJ):(BP b).1.A8.length<=255:=by
 unfold BP;split
 .exact aB _
 .exact xQ _
end Wi
end Go.Proofs.YtkljbfejbakooaaGreatDoor
