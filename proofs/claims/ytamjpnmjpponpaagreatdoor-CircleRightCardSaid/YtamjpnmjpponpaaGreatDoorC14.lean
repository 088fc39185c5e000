/- Part 14 of a proof. Conditions: those that its theorems state. -/
import Derived.Test.YtamjpnmjpponpaaGreatDoorC13
set_option linter.unusedSimpArgs false
set_option linter.unusedVariables false
set_option linter.unnecessarySimpa false
set_option maxHeartbeats 40000000
set_option maxRecDepth 4000
namespace Go.Proofs.YtamjpnmjpponpaaGreatDoor
namespace Nd
open Go.Gar
open Wi (AF BV B7)
abbrev Lt:BF:=[0,1,2,6,7,8,12,30]
abbrev Q9:Past:=⟨0,0,Wi.AU⟩
def LX(s c:Int)(p:Past):Bool:=decide (p.B8=s)&&decide (p.Ae=c)
def Mp(p:Past):Bool:=p.AD.right&&(!p.AD.BY&&(decide (p.AD.dst=p.B8)&&decide (p.AD.Ae=p.Ae)))
def FC(l:List Past)(k:Nat):Bool:=Mp (l.getD k Q9)&& !((l.take k).any (LX (l.getD k Q9).B8 (l.getD k Q9).Ae))
def FX(l:List Past):Bool:=decide (l.length<=40)&&FK l.length (FC l)
theorem YP(m:AF)(h:Ay m):yS 190 [m.d] m.d:=by
 obtain⟨k,c,s,d,ky,sl,dn,pl,pr,l,⟨ik,iv,ir,ig⟩,co⟩:=m;replace h:l.length<=1048576:=h;refine zF AE Tryz.func190 ?_;unfold AF.d AF.A4;refine A9 [0,1,2] ?_;exact zE
theorem vS(m:AF)(h:Ay m):yS 137 [m.d] (.tup [(if m.right&& !m.BY then Past.d ⟨m.dst,m.Ae,m⟩else Q9.d),.yX (if m.right&& !m.BY then 0 else 2)]):=by
 have c1:=Wi.PV m (lm h);have c2:=Wi.T3 m;have c3:=YP m h;unfold Past.d Past.A4;unfold AF.d AF.A4 at *;generalize m.right=rr at *;generalize m.BY=aa at *;obtain⟨k,c,s,d,ky,sl,dn,pl,pr,l,⟨ik,iv,ir,ig⟩,co⟩:=m;refine zF AE Tryz.func137 ?_;simp only at *;cases rr<;>cases aa
 all_goals
  refine AO [0,1,2,3,10] ?_ (CP @c1 @c2 @c3);refine⟨_,_,rfl,rfl,?_⟩;simp[LL,BP,Bl,BM,Wi.AU,An]
variable {α:Type}{p:α->Bool}{l:List α}{k:Nat}{x:α}
theorem Hq(hx:l[k]? =some x):(l.take (k+1)).any p=((l.take k).any p||p x):=by
 rw[AY hx,List.any_append];simp
theorem bk(hx:l[k]? =some x)(h:p x=true):l.any p=true:=q1q.2 ⟨x,q00 hx,h⟩
def U7(l:List Past)(s c:Int):AF:=match l.find? (LX s c)with
 |some p=>p.AD
 |none=>Wi.AU
variable {s c:Int}
theorem ln{l:List Past}{x:Past}(hx:l[k]? =some x)(h:LX s c x=true)(hn:(l.take k).any (LX s c)=false):U7 l s c=x.AD:=by
 have e:l=l.take k++x::l.drop (k+1):=by
  have hk:=(zS.1 hx).1;have hv:=(zS.1 hx).2;rw[<-hv,<-q14 hk,q0d]
 unfold U7;rw[e,List.find?_append]
 have:(l.take k).find? (LX s c)=none:=by
  rw[List.find?_eq_none];intro y hy;rw[q0s]at hn;simpa using hn y hy
 rw[this];simp[q1k,h]
theorem iD(l:List Past)(s c:Int)(hl:∀x∈l,Ay x.AD)(hn:l.length<=9223372036854775807):yS 138 [Az l,.yX s,.yX c] (.tup [(U7 l s c).d,.b (l.any (LX s c))]):=by
 refine zF AE Tryz.func138 ?_;refine A9 Lt ?_;refine C4 (fun k=>k<=l.length/\(l.take k).any (LX s c)=false) (fun k:Nat=>[(8,.yO k)]) (fun k=>l.length-k) 0 ⟨zi _,rfl⟩ (fun _=>rfl) ?_ ?_
 .exact A8.ck rfl
 rintro k ⟨hk,hpre⟩
 by_cases hkl:k<l.length
 .obtain⟨x,hx⟩:=Ah hkl;have c1:=YP x.AD (hl x (q00 hx));have hA:=Hq (p:=LX s c) hx;rw[hpre,q0k]at hA;unfold AF.d AF.A4 at c1
  cases hi:LX s c x with
  |true=>
   have h1:x.B8=s/\x.Ae=c:=by simpa[LX]using hi
   have f1:(x.B8==s)=true:=by simp[h1.1]
   have f2:(x.Ae==c)=true:=by simp[h1.2]
   have hF:=ln hx hi hpre;have hT:=bk hx hi;have ix1:=hx;refine AJ Lt ?_ (Au f1 f2) (AK @c1);clear ix1;with_reducible repeat' first|constructor|intro hc
   all_goals(clear c1;refine⟨_,_,rfl,rfl,?_⟩;rw[hT,hF];simp[HM,CG,Ca,C7,Kf,AF.d,AF.A4])
  |false=>
   have h1:¬(x.B8=s/\x.Ae=c):=by simpa[LX]using hi
   have ix1:=hx;refine AO Lt ?_ (AK @c1);clear ix1;with_reducible repeat' first|constructor|intro hc
   all_goals first
    |(exfalso;exact h1 ⟨by assumption,by assumption⟩)
    |(refine⟨k+1,⟨hkl,by rw[hA,hi]⟩,om,zN _,?_⟩
      exact A8.ck rfl)
 .have e:k=l.length:=om
  subst e;rw[q06]at hpre
  have hF:U7 l s c=Wi.AU:=by
   unfold U7
   have:l.find? (LX s c)=none:=by
    rw[List.find?_eq_none];intro y hy;rw[q0s]at hpre;simpa using hpre y hy
   rw[this]
  refine A9 Lt ?_;with_reducible repeat' first|constructor|intro hc
  all_goals(refine⟨_,_,rfl,rfl,?_⟩;rw[hpre,hF];simp[HM,CG,Ca,C7,Kf,Iv,Bl,BP,BM,AF.d,AF.A4,Wi.AU,An])
abbrev GT:BF:=[0,1,3,4,5,6,8,9,10,13]
abbrev Lu:BF:=[0,1,3,4,5,6,7,8,16]
theorem O5(l:List Past):yT 142 [.d (Az l)] [] (.fn (.func 192) [] [.ptr 0 0 1]) [.c [.d (Az l)]]:=by
 refine zD AE Tryz.func142 ?_;refine A9 [0,1,2] ?_;exact wE
theorem p7(s c:Int):yT 155 [.yO s,.yO c] [] (.fn (.func 209) [] [.ptr 0 0 1,.ptr 1 0 1]) [.c [.yO s],.c [.yO c]]:=by
 refine zD AE Tryz.func155 ?_;refine A9 [0,1,2,3,4] ?_;exact wE
theorem vd(p:Past)(s c:Int):yT 209 [.d p.d,.ptr 0 0 1,.ptr 1 0 1] [.c [.yO s],.c [.yO c]] (.yP (LX s c p)) [.c [.yO s],.c [.yO c]]:=by
 refine zD AE Tryz.func209 ?_;unfold Past.d Past.A4;have hI:LX s c p=(decide (p.B8=s)&&decide (p.Ae=c)):=rfl;generalize LX s c p=q at*
 by_cases h1:p.B8=s
 .have f1:(p.B8==s)=true:=by simp[h1]
  by_cases h2:p.Ae=c
  .have f2:(p.Ae==c)=true:=by simp[h2]
   have e:q=true:=by rw[hI];simp[h1,h2]
   subst e;refine Aj [0,1,2,3,4] ?_ (Au f1 f2);exact wE
  .have f2:(p.Ae==c)=false:=by simp[h2]
   have e:q=false:=by rw[hI];simp[h2]
   subst e;refine Aj [0,1,2,3,4] ?_ (Au f1 f2);exact wE
 .have f1:(p.B8==s)=false:=by simp[h1]
  have e:q=false:=by rw[hI];simp[h1]
  subst e;refine Aj [0,1,2,3,4] ?_ (AK f1);exact wE
def MH(l:List Past)(s c:Int):Int:=match l.findIdx? (LX s c)with
 |some n=>(n:Int)
 |none=> -1
theorem Pt(hx:l[k]? =some x)(h:p x=true)(hn:(l.take k).any p=false):l.findIdx? p=some k:=by
 rw[List.findIdx?_eq_some_iff_getElem];obtain⟨hk,hv⟩:=zS.1 hx;refine⟨hk,by rw[hv];exact h,fun j hj=> ?_⟩;rw[q0s]at hn;exact hn _ (q0w.2 ⟨j,by rw[q0Y,zn hj];exact zV _⟩)
theorem qp{l:List Past}{x:Past}(hx:l[k]? =some x)(h:LX s c x=true)(hn:(l.take k).any (LX s c)=false):MH l s c=k:=by
 unfold MH;rw[Pt hx h hn]
theorem ce{l:List Past}(hn:l.any (LX s c)=false):MH l s c= -1:=by
 unfold MH
 have:l.findIdx? (LX s c)=none:=by
  rw[q1o];rw[q0s]at hn;intro x hx;simpa using hn x hx
 rw[this]
theorem qq(l:List Past)(s c:Int):decide (MH l s c>=0)=l.any (LX s c):=by
 cases h:l.any (LX s c)with
 |false=>rw[ce h];rfl
 |true=>
  obtain⟨x,hx,hp⟩:=q1q.1 h
  have:l.findIdx? (LX s c)≠none:=by
   rw[Ne,q1o];intro hh;have:=hh x hx;rw[hp]at this;cases this
  unfold MH;split
  .exact zU om
  .contradiction
theorem Rz(l:List Past)(s c:Int)(hn:l.length<=9223372036854775807):yT 154 [.d (Az l),.fn (.func 209) [] [.ptr 0 0 1,.ptr 1 0 1]] [.c [.yO s],.c [.yO c]] (.yO (MH l s c)) [.c [.yO s],.c [.yO c]]:=by
 refine Aw.drop (K:=[.c [.yO s],.c [.yO c],.gone,.c [.yO (MH l s c)]]) _ ?_ ⟨.inr rfl,.inr rfl,trivial⟩ rfl rfl rfl;refine zD AE Tryz.func154 ?_;refine Ax GT ?_ (BJ [] (O5 l))
 refine zG (K:=fun r _ H'=>(l.any (LX s c)=false/\H'=[.c [.yO s],.c [.yO c],.c [.fn (.func 209) [] [.ptr 0 0 1,.ptr 1 0 1]],.c [.yO 0],.c [.d (Az l)],.lp r])\/
  (∃k:Nat,MH l s c=k/\H'=[.c [.yO s],.c [.yO c],.c [.fn (.func 209) [] [.ptr 0 0 1,.ptr 1 0 1]],.c [.yO k],.c [.d (Az l)],.lp (r.left .ret)])) ?_ ?_
 .intro r hr;refine zT AE Tryz.func192 ?_;refine A9 Lu ?_;have hk:=hr.ok (k:=5) rfl;refine C4 (fun k=>k<=l.length/\(l.take k).any (LX s c)=false) (fun k:Nat=>[(7,.yO k)]) (fun k=>l.length-k) 0 ⟨zi _,rfl⟩ (fun _=>rfl) ?_ ?_
  .exact A8.ck rfl
  rintro k ⟨hkk,hpre⟩
  by_cases hkl:k<l.length
  .obtain⟨x,hx⟩:=Ah hkl;have c1:=vd x s c;have hA:=Hq (p:=LX s c) hx;rw[hpre,q0k]at hA;unfold Past.d Past.A4 at c1
   cases hb:LX s c x with
   |true=>
    rw[hb]at c1
    have hY:YT Tryz.prog 5 [.yO k,.d (.agg [.yX x.B8,.yX x.Ae,.i .u8 x.AD.AN,.yX x.AD.Ae,.yX x.AD.B8,.yX x.AD.dst,.yX x.AD.AI,.b x.AD.BA,.b x.AD.done,.yX x.AD.AP,.yX x.AD.AH,.is x.AD.AB,.s x.AD.AC.AI,.yX x.AD.AC.B4,.yX x.AD.AC.AZ,.b x.AD.AC.gone,.yX x.AD.Aa])] [.c [.yO s],.c [.yO c],.c [.fn (.func 209) [] [.ptr 0 0 1,.ptr 1 0 1]],.c [.yO 0],.c [.d (Az l)],.lp r,.c [.yO x.B8,.yO x.Ae,.yQ x.AD.AN,.yO x.AD.Ae,.yO x.AD.B8,.yO x.AD.dst,.yO x.AD.AI,.yP x.AD.BA,.yP x.AD.done,.yO x.AD.AP,.yO x.AD.AH,.yV x.AD.AB,.yU x.AD.AC.AI,.yO x.AD.AC.B4,.yO x.AD.AC.AZ,.yP x.AD.AC.gone,.yO x.AD.Aa]] fun v K=>v= .yP false/\K=[.c [.yO s],.c [.yO c],.c [.fn (.func 209) [] [.ptr 0 0 1,.ptr 1 0 1]],.c [.yO k],.c [.d (Az l)],.lp (r.left .ret),.c [.yO x.B8,.yO x.Ae,.yQ x.AD.AN,.yO x.AD.Ae,.yO x.AD.B8,.yO x.AD.dst,.yO x.AD.AI,.yP x.AD.BA,.yP x.AD.done,.yO x.AD.AP,.yO x.AD.AH,.yV x.AD.AB,.yU x.AD.AC.AI,.yO x.AD.AC.B4,.yO x.AD.AC.AZ,.yP x.AD.AC.gone,.yO x.AD.Aa]]:=by
     refine Ar hr rfl rfl rfl ?_;refine A9 GT ?_;refine zR ?_;refine Ax GT ?_ (BJ [0,1] c1);exact⟨⟨[],[.c [.yO s],.c [.yO c],.c [.fn (.func 209) [] [.ptr 0 0 1,.ptr 1 0 1]],.c [.yO k],.c [.d (Az l)],.lp r.busy,.c [.yO x.B8,.yO x.Ae,.yQ x.AD.AN,.yO x.AD.Ae,.yO x.AD.B8,.yO x.AD.dst,.yO x.AD.AI,.yP x.AD.BA,.yP x.AD.done,.yO x.AD.AP,.yO x.AD.AH,.yV x.AD.AB,.yU x.AD.AC.AI,.yO x.AD.AC.B4,.yO x.AD.AC.AZ,.yP x.AD.AC.gone,.yO x.AD.Aa]],_⟩,(A8.ck rfl),zN _,rfl,rfl,rfl⟩
    have ix1:=hx;have q1:=@hY;refine A9 Lu ?_;clear q1 ix1;with_reducible repeat' first|constructor|intro hc
    exact⟨⟨[],[.c [.yO s],.c [.yO c],.c [.fn (.func 209) [] [.ptr 0 0 1,.ptr 1 0 1]],.c [.yO k],.c [.d (Az l)],.lp (r.left .ret)],_⟩,(A8.ck rfl),zN _,_,_,rfl,rfl,.inr ⟨k,qp hx hb hpre,rfl⟩⟩
   |false=>
    rw[hb]at c1
    have hY:YT Tryz.prog 5 [.yO k,.d (.agg [.yX x.B8,.yX x.Ae,.i .u8 x.AD.AN,.yX x.AD.Ae,.yX x.AD.B8,.yX x.AD.dst,.yX x.AD.AI,.b x.AD.BA,.b x.AD.done,.yX x.AD.AP,.yX x.AD.AH,.is x.AD.AB,.s x.AD.AC.AI,.yX x.AD.AC.B4,.yX x.AD.AC.AZ,.b x.AD.AC.gone,.yX x.AD.Aa])] [.c [.yO s],.c [.yO c],.c [.fn (.func 209) [] [.ptr 0 0 1,.ptr 1 0 1]],.c [.yO 0],.c [.d (Az l)],.lp r,.c [.yO x.B8,.yO x.Ae,.yQ x.AD.AN,.yO x.AD.Ae,.yO x.AD.B8,.yO x.AD.dst,.yO x.AD.AI,.yP x.AD.BA,.yP x.AD.done,.yO x.AD.AP,.yO x.AD.AH,.yV x.AD.AB,.yU x.AD.AC.AI,.yO x.AD.AC.B4,.yO x.AD.AC.AZ,.yP x.AD.AC.gone,.yO x.AD.Aa]] fun v K=>v= .yP true/\K=[.c [.yO s],.c [.yO c],.c [.fn (.func 209) [] [.ptr 0 0 1,.ptr 1 0 1]],.c [.yO 0],.c [.d (Az l)],.lp r,.c [.yO x.B8,.yO x.Ae,.yQ x.AD.AN,.yO x.AD.Ae,.yO x.AD.B8,.yO x.AD.dst,.yO x.AD.AI,.yP x.AD.BA,.yP x.AD.done,.yO x.AD.AP,.yO x.AD.AH,.yV x.AD.AB,.yU x.AD.AC.AI,.yO x.AD.AC.B4,.yO x.AD.AC.AZ,.yP x.AD.AC.gone,.yO x.AD.Aa]]:=by
     refine Ar hr rfl rfl rfl ?_;refine A9 GT ?_;refine zR ?_;refine Ax GT ?_ (BJ [0,1] c1);exact⟨⟨[],[.c [.yO s],.c [.yO c],.c [.fn (.func 209) [] [.ptr 0 0 1,.ptr 1 0 1]],.c [.yO 0],.c [.d (Az l)],.lp r.busy,.c [.yO x.B8,.yO x.Ae,.yQ x.AD.AN,.yO x.AD.Ae,.yO x.AD.B8,.yO x.AD.dst,.yO x.AD.AI,.yP x.AD.BA,.yP x.AD.done,.yO x.AD.AP,.yO x.AD.AH,.yV x.AD.AB,.yU x.AD.AC.AI,.yO x.AD.AC.B4,.yO x.AD.AC.AZ,.yP x.AD.AC.gone,.yO x.AD.Aa]],_⟩,(A8.ck rfl),zN _,rfl,rfl,rfl⟩
    have ix1:=hx;have q1:=@hY;refine A9 Lu ?_;clear q1 ix1;with_reducible repeat' first|constructor|intro hc
    refine⟨k+1,⟨hkl,by rw[hA,hb]⟩,om,zN _,?_⟩;exact A8.ck rfl
  .have e:k=l.length:=om
   subst e;rw[q06]at hpre;refine A9 Lu ?_;with_reducible repeat' first|constructor|intro hc
   exact⟨_,A8.refl _,zN _,_,_,rfl,rfl,.inl ⟨hpre,rfl⟩⟩
 .rintro r hr y H' (⟨h,rfl⟩|⟨k,h,rfl⟩)
  .refine .inl ⟨rfl,?_⟩;rw[ce h];refine A9 GT ?_;exact wE
  .refine .inr ⟨.ret,rfl,?_⟩;rw[h];refine A9 GT ?_;exact wE
abbrev Ck:BF:=[0,1,2,3,4,7,9,10,11,20,34,44]
abbrev Lw:BF:=[0,1,3,4,5,6,7,8,16]
theorem sC(l:List Past)(hl:∀x∈l,Ay x.AD)(hn:l.length<=9223372036854775807):yS 77 [Az l] (.b (FX l)):=by
 refine zF AE Tryz.func77 ?_
 by_cases h40:l.length>40
 .have f1:decide ((l.length:Int)>40)=true:=zU om;have hT:FX l=false:=by unfold FX;rw[zQ om];rfl
  refine Aj Ck ?_ (AK f1);exact BW hT
 have f1:decide ((l.length:Int)>40)=false:=zQ om;have hT:FX l=FK l.length (FC l):=by unfold FX;rw[zU om];rfl
 refine Cd Ck ?_ (AK f1) (BJ [] (O5 l))
 refine zG (K:=fun r _ H'=>(FK l.length (FC l)=true/\H'=[.c [.d (Az l)],.c [.yP false],.c [.d (Az l)],.lp r])\/
  (FK l.length (FC l)=false/\H'=[.c [.d (Az l)],.c [.yP false],.c [.d (Az l)],.lp (r.left .ret)])) ?_ ?_
 .intro r hr;refine zT AE Tryz.func192 ?_;refine A9 Lw ?_;have hk:=hr.ok (k:=3) rfl;refine C4 (fun k=>k<=l.length/\FK k (FC l)=true) (fun k:Nat=>[(7,.yO k)]) (fun k=>l.length-k) 0 ⟨zi _,rfl⟩ (fun _=>rfl) ?_ ?_
  .exact A8.ck rfl
  rintro k ⟨hkk,hpre⟩
  by_cases hkl:k<l.length
  .obtain⟨x,hx⟩:=Ah hkl;have gx:l.getD k Q9=x:=getD_at hx;have hlx:=hl x (q00 hx);have hK:FC l k=((x.AD.right&&(!x.AD.BY&&(decide (x.AD.dst=x.B8)&&decide (x.AD.Ae=x.Ae))))&& !(decide (MH (l.take k) x.B8 x.Ae>=0))):=by unfold FC Mp;rw[gx,qq]
   have c1:=Wi.Ct x.AD (lm hlx);have c2:=Wi.Gs x.AD;have d1:=p7 x.B8 x.Ae;have d2:=Rz (l.take k) x.B8 x.Ae (by rw[q0D];omega);have e1:List.take k (List.map Past.A4 l)=List.map Past.A4 (List.take k l):=(List.map_take ..).symm;unfold AF.d AF.A4 at c1 c2;generalize MH (l.take k) x.B8 x.Ae=fi at*
   have hY:YT Tryz.prog 3 [.yO k,.d (.agg [.yX x.B8,.yX x.Ae,.i .u8 x.AD.AN,.yX x.AD.Ae,.yX x.AD.B8,.yX x.AD.dst,.yX x.AD.AI,.b x.AD.BA,.b x.AD.done,.yX x.AD.AP,.yX x.AD.AH,.is x.AD.AB,.s x.AD.AC.AI,.yX x.AD.AC.B4,.yX x.AD.AC.AZ,.b x.AD.AC.gone,.yX x.AD.Aa])] [.c [.d (Az l)],.c [.yP false],.c [.d (Az l)],.lp r,.c [.yO x.B8,.yO x.Ae,.yQ x.AD.AN,.yO x.AD.Ae,.yO x.AD.B8,.yO x.AD.dst,.yO x.AD.AI,.yP x.AD.BA,.yP x.AD.done,.yO x.AD.AP,.yO x.AD.AH,.yV x.AD.AB,.yU x.AD.AC.AI,.yO x.AD.AC.B4,.yO x.AD.AC.AZ,.yP x.AD.AC.gone,.yO x.AD.Aa]] fun v K=>v= .yP (FC l k)/\K=if FC l k then[.c [.d (Az l)],.c [.yP false],.c [.d (Az l)],.lp r,.c [.yO x.B8,.yO x.Ae,.yQ x.AD.AN,.yO x.AD.Ae,.yO x.AD.B8,.yO x.AD.dst,.yO x.AD.AI,.yP x.AD.BA,.yP x.AD.done,.yO x.AD.AP,.yO x.AD.AH,.yV x.AD.AB,.yU x.AD.AC.AI,.yO x.AD.AC.B4,.yO x.AD.AC.AZ,.yP x.AD.AC.gone,.yO x.AD.Aa]]else[.c [.d (Az l)],.c [.yP false],.c [.d (Az l)],.lp (r.left .ret),.c [.yO x.B8,.yO x.Ae,.yQ x.AD.AN,.yO x.AD.Ae,.yO x.AD.B8,.yO x.AD.dst,.yO x.AD.AI,.yP x.AD.BA,.yP x.AD.done,.yO x.AD.AP,.yO x.AD.AH,.yV x.AD.AB,.yU x.AD.AC.AI,.yO x.AD.AC.B4,.yO x.AD.AC.AZ,.yP x.AD.AC.gone,.yO x.AD.Aa]]:=by
    refine Ar hr rfl rfl rfl ?_;rw[hK];generalize x.AD.right=rr at *;generalize x.AD.BY=aa at *;clear hK;cases rr
    .refine A9 Ck ?_;refine zR ?_;refine AO Ck ?_ (AK @c1);exact⟨⟨[],[.c [.d (Az l)],.c [.yP false],.c [.d (Az l)],.lp r.busy,.c [.yO x.B8,.yO x.Ae,.yQ x.AD.AN,.yO x.AD.Ae,.yO x.AD.B8,.yO x.AD.dst,.yO x.AD.AI,.yP x.AD.BA,.yP x.AD.done,.yO x.AD.AP,.yO x.AD.AH,.yV x.AD.AB,.yU x.AD.AC.AI,.yO x.AD.AC.B4,.yO x.AD.AC.AZ,.yP x.AD.AC.gone,.yO x.AD.Aa]],_⟩,(A8.ck rfl),zN _,rfl,rfl,rfl⟩
    cases aa
    .by_cases h1:x.AD.dst=x.B8
     .have f2:(x.AD.dst !=x.B8)=false:=C8 h1
      by_cases h2:x.AD.Ae=x.Ae
      .have f3:(x.AD.Ae !=x.Ae)=false:=C8 h2;rw[zU h1,zU h2]
       by_cases h3:fi>=0
       .have f4:decide (fi>=0)=true:=zU h3;rw[f4];refine A9 Ck ?_;refine zR ?_;refine By Ck ?_ (ME f2 f3 f4 e1) (Au @c1 @c2) (H0 [] d1 [6,7] d2) [(0,7)];exact⟨⟨[],[.c [.d (Az l)],.c [.yP false],.c [.d (Az l)],.lp r.busy,.c [.yO x.B8,.yO x.Ae,.yQ x.AD.AN,.yO x.AD.Ae,.yO x.AD.B8,.yO x.AD.dst,.yO x.AD.AI,.yP x.AD.BA,.yP x.AD.done,.yO x.AD.AP,.yO x.AD.AH,.yV x.AD.AB,.yU x.AD.AC.AI,.yO x.AD.AC.B4,.yO x.AD.AC.AZ,.yP x.AD.AC.gone,.yO x.AD.Aa]],_⟩,(A8.ck rfl),zN _,rfl,rfl,rfl⟩
       .have f4:decide (fi>=0)=false:=zQ h3;rw[f4];refine A9 Ck ?_;refine zR ?_;refine By Ck ?_ (ME f2 f3 f4 e1) (Au @c1 @c2) (H0 [] d1 [6,7] d2) [(0,7)];exact⟨⟨[],[.c [.d (Az l)],.c [.yP false],.c [.d (Az l)],.lp r.busy,.c [.yO x.B8,.yO x.Ae,.yQ x.AD.AN,.yO x.AD.Ae,.yO x.AD.B8,.yO x.AD.dst,.yO x.AD.AI,.yP x.AD.BA,.yP x.AD.done,.yO x.AD.AP,.yO x.AD.AH,.yV x.AD.AB,.yU x.AD.AC.AI,.yO x.AD.AC.B4,.yO x.AD.AC.AZ,.yP x.AD.AC.gone,.yO x.AD.Aa]],_⟩,(A8.ck rfl),zN _,rfl,rfl,rfl⟩
      .have f3:(x.AD.Ae !=x.Ae)=true:=CI h2;rw[zU h1,zQ h2];refine A9 Ck ?_;refine zR ?_;refine AJ Ck ?_ (Au f2 f3) (Au @c1 @c2);exact⟨⟨[],[.c [.d (Az l)],.c [.yP false],.c [.d (Az l)],.lp r.busy,.c [.yO x.B8,.yO x.Ae,.yQ x.AD.AN,.yO x.AD.Ae,.yO x.AD.B8,.yO x.AD.dst,.yO x.AD.AI,.yP x.AD.BA,.yP x.AD.done,.yO x.AD.AP,.yO x.AD.AH,.yV x.AD.AB,.yU x.AD.AC.AI,.yO x.AD.AC.B4,.yO x.AD.AC.AZ,.yP x.AD.AC.gone,.yO x.AD.Aa]],_⟩,(A8.ck rfl),zN _,rfl,rfl,rfl⟩
     .have f2:(x.AD.dst !=x.B8)=true:=CI h1;rw[zQ h1];refine A9 Ck ?_;refine zR ?_;refine AJ Ck ?_ (AK f2) (Au @c1 @c2);exact⟨⟨[],[.c [.d (Az l)],.c [.yP false],.c [.d (Az l)],.lp r.busy,.c [.yO x.B8,.yO x.Ae,.yQ x.AD.AN,.yO x.AD.Ae,.yO x.AD.B8,.yO x.AD.dst,.yO x.AD.AI,.yP x.AD.BA,.yP x.AD.done,.yO x.AD.AP,.yO x.AD.AH,.yV x.AD.AB,.yU x.AD.AC.AI,.yO x.AD.AC.B4,.yO x.AD.AC.AZ,.yP x.AD.AC.gone,.yO x.AD.Aa]],_⟩,(A8.ck rfl),zN _,rfl,rfl,rfl⟩
    .refine A9 Ck ?_;refine zR ?_;refine AO Ck ?_ (Au @c1 @c2);exact⟨⟨[],[.c [.d (Az l)],.c [.yP false],.c [.d (Az l)],.lp r.busy,.c [.yO x.B8,.yO x.Ae,.yQ x.AD.AN,.yO x.AD.Ae,.yO x.AD.B8,.yO x.AD.dst,.yO x.AD.AI,.yP x.AD.BA,.yP x.AD.done,.yO x.AD.AP,.yO x.AD.AH,.yV x.AD.AB,.yU x.AD.AC.AI,.yO x.AD.AC.B4,.yO x.AD.AC.AZ,.yP x.AD.AC.gone,.yO x.AD.Aa]],_⟩,(A8.ck rfl),zN _,rfl,rfl,rfl⟩
   cases hb:FC l k with
   |true=>
    rw[hb]at hY;have ix1:=hx;have q1:=@hY;refine A9 Lw ?_;clear q1 ix1;with_reducible repeat' first|constructor|intro hc
    refine⟨k+1,⟨hkl,DZ hpre hb⟩,om,zN _,?_⟩;exact A8.ck rfl
   |false=>
    rw[hb]at hY;have ix1:=hx;have q1:=@hY;refine A9 Lw ?_;clear q1 ix1;with_reducible repeat' first|constructor|intro hc
    exact⟨⟨[],[.c [.d (Az l)],.c [.yP false],.c [.d (Az l)],.lp (r.left .ret)],_⟩,(A8.ck rfl),zN _,_,_,rfl,rfl,.inr ⟨FL hkl hb,rfl⟩⟩
  .have e:k=l.length:=om
   subst e;refine A9 Lw ?_;with_reducible repeat' first|constructor|intro hc
   exact⟨_,A8.refl _,zN _,_,_,rfl,rfl,.inl ⟨hpre,rfl⟩⟩
 .rintro r hr y H' (⟨h,rfl⟩|⟨h,rfl⟩)
  .refine .inl ⟨rfl,?_⟩;rw[h]at hT;refine A9 Ck ?_;exact BW hT
  .refine .inr ⟨.ret,rfl,?_⟩;rw[h]at hT;refine A9 Ck ?_;exact BW hT
abbrev Lx:BF:=[0,1,4,5,7,8,9,16]
structure Hm (n:AA):Prop where
 id:i64 n.A7.id
 li:∀y∈n.A7.AB,i64 y
 vb:n.A7.A6.length<=1000
 vl:n.A7.AB.length<=1000
 cl:∀x∈n.Ac.op,Ay x.BD
 cn:n.Ac.op.length<=1048576
 sl:∀x∈n.BZ,Ay x.AD
 sn:n.BZ.length<=1048576
 kn:n.keep.length<=1048576
 fl:n.AQ.left.length<=1048576
 ml:n.AX.left.length<=1048576
 tl:n.AW.left.length<=1048576
def PP(n:AA):Bool:=!(n.BZ.any fun p=>decide (p.AD.B8≠n.A7.id))
def BL(n:AA):Bool:=(decide (0<=n.Am)&&decide (n.Am<=1099511627776))&&(decide (0<=n.bad)&&((decide (0<=n.next)&&decide (n.next<16))&&(Aq n.A7&&((decide (n.Ac.id=n.A7.id)&&Bw n.Ac)&&(Cl n.A5 n.BH&&(Cg n.keep&&(FX n.BZ&&PP n)))))))
def JI(q:α->Bool)(l:List α):Int:=match l.findIdx? q with
 |some n=>(n:Int)
 |none=> -1
variable {q:α->Bool}
theorem VN(hx:l[k]? =some x)(h:q x=true)(hn:(l.take k).any q=false):JI q l=k:=by
 unfold JI;rw[Pt hx h hn]
theorem Nm(hn:l.any q=false):JI q l= -1:=by
 unfold JI
 have:l.findIdx? q=none:=by
  rw[q1o];rw[q0s]at hn;intro x hx;simpa using hn x hx
 rw[this]
theorem dA(q:α->Bool)(l:List α):decide (JI q l>=0)=l.any q:=by
 cases h:l.any q with
 |false=>rw[Nm h];rfl
 |true=>
  obtain⟨x,hx,hp⟩:=q1q.1 h
  have:l.findIdx? q≠none:=by
   rw[Ne,q1o];intro hh;have:=hh x hx;rw[hp]at this;cases this
  unfold JI;split
  .exact zU om
  .contradiction
theorem wk(n:AA):yT 65 [.ptr 0 0 76] [.c (As n)] (.yP (decide (0<=n.Am)&&decide (n.Am<=1099511627776))) [.c (As n)]:=by
 refine zD AE Tryz.func65 ?_;unfold As
 by_cases h1:0<=n.Am
 .have f1:decide (n.Am>=0)=true:=zU h1;rw[zU h1,q0A];refine Aj [0,1] ?_ (AK f1);exact wE
 .have f1:decide (n.Am>=0)=false:=zQ h1;rw[zQ h1,q0m];refine Aj [0,1] ?_ (AK f1);exact wE
theorem wl(n:AA):yT 66 [.ptr 0 0 76] [.c (As n)] (.yP (decide (0<=n.bad))) [.c (As n)]:=by
 refine zD AE Tryz.func66 ?_;unfold As;refine A9 [0,1] ?_;exact wE
theorem wm(n:AA):yT 67 [.ptr 0 0 76] [.c (As n)] (.yP (decide (0<=n.next)&&decide (n.next<16))) [.c (As n)]:=by
 refine zD AE Tryz.func67 ?_;unfold As
 by_cases h1:0<=n.next
 .have f1:decide (n.next>=0)=true:=zU h1;rw[zU h1,q0A];refine Aj [0,1] ?_ (AK f1);exact wE
 .have f1:decide (n.next>=0)=false:=zQ h1;rw[zQ h1,q0m];refine Aj [0,1] ?_ (AK f1);exact wE
theorem wn(n:AA)(h:Hm n):yT 68 [.ptr 0 0 76] [.c (As n)] (.yP (Aq n.A7)) [.c (As n)]:=by
 have c1:=TO n.A7 (by have:=h.vb;omega) (by have:=h.vl;omega);refine zD AE Tryz.func68 ?_;generalize Aq n.A7=b at *;unfold AG.d AG.A4 at c1;unfold As;refine AO [0,1] ?_ (AK @c1);exact wE
theorem wo(n:AA)(h:Hm n):yT 70 [.ptr 0 0 76] [.c (As n)] (.yP (decide (n.Ac.id=n.A7.id)&&Bw n.Ac)) [.c (As n)]:=by
 have c1:=Kl n.Ac h.cl;refine zD AE Tryz.func70 ?_;generalize Bw n.Ac=b at *;unfold Calls.d Calls.A4 at c1;unfold As
 by_cases h1:n.Ac.id=n.A7.id
 .have f1:=AT h1;rw[zU h1,q0A];refine AJ [0,1] ?_ (AK f1) (AK @c1);exact wE
 .have f1:=eq_false' h1;rw[zQ h1,q0m];refine AJ [0,1] ?_ (AK f1) (AK @c1);exact wE
theorem wt(n:AA):yT 72 [.ptr 0 0 76] [.c (As n)] (.yP (Cl n.A5 n.BH)) [.c (As n)]:=by
 have c1:=Qp n.A5 n.BH;refine zD AE Tryz.func72 ?_;generalize Cl n.A5 n.BH=b at *;unfold As;refine AO [0,1] ?_ (AK @c1);exact wE
theorem wu(n:AA)(h:Hm n):yT 74 [.ptr 0 0 76] [.c (As n)] (.yP (Cg n.keep)) [.c (As n)]:=by
 have c1:=Qh n.keep (by have:=h.kn;omega);refine zD AE Tryz.func74 ?_;generalize Cg n.keep=b at *;unfold As;refine AO [0,1] ?_ (AK @c1);exact wE
theorem wv(n:AA)(h:Hm n):yT 76 [.ptr 0 0 76] [.c (As n)] (.yP (FX n.BZ)) [.c (As n)]:=by
 have c1:=sC n.BZ h.sl (by have:=h.sn;omega);refine zD AE Tryz.func76 ?_;generalize FX n.BZ=b at *;unfold As;refine AO [0,1] ?_ (AK @c1);exact wE
theorem tk(n:AA)(x:Past):yT 80 [.d x.d,.ptr 0 0 76] [.c (As n)] (.yP (decide (x.AD.B8≠n.A7.id))) [.c (As n)]:=by
 refine zD AE Tryz.func80 ?_;unfold As Past.d Past.A4
 by_cases h1:x.AD.B8=n.A7.id
 .have f1:=C8 h1;rw[zQ (fun hh=>hh h1)];refine Aj [0,1,2,3] ?_ (AK f1);exact wE
 .have f1:=CI h1;rw[zU h1];refine Aj [0,1,2,3] ?_ (AK f1);exact wE
theorem mS(n:AA)(l:List Past)(hn:l.length<=9223372036854775807):yT 156 [.d (Az l),.fn (.func 80) [] [.ptr 0 0 76]] [.c (As n)] (.yO (JI (fun p=>decide (p.AD.B8≠n.A7.id)) l)) [.c (As n)]:=by
 refine zD AE Tryz.func156 ?_;have hC:=tk n;generalize hq:(fun p:Past=>decide (p.AD.B8≠n.A7.id))=q at *;have hC':∀x,yT 80 [.d x.d,.ptr 0 0 76] [.c (As n)] (.yP (q x)) [.c (As n)]:=fun x=>by have:=hC x;rw[<-hq];exact this
 clear hC;refine A9 Lx ?_;refine C4 (fun k=>k<=l.length/\(l.take k).any q=false) (fun k:Nat=>[(8,.yO k)]) (fun k=>l.length-k) 0 ⟨zi _,rfl⟩ (fun _=>rfl) ?_ ?_
 .exact A8.ck rfl
 rintro k ⟨hk,hpre⟩
 by_cases hkl:k<l.length
 .obtain⟨x,hx⟩:=Ah hkl;have hA:=Hq (p:=q) hx;rw[hpre,q0k]at hA;have c1:=hC' x;unfold Past.d Past.A4 at c1
  cases hb:q x with
  |true=>
   rw[hb]at c1;have ix1:=hx;refine Ax Lx ?_ (BJ [0] c1);clear ix1;with_reducible repeat' first|constructor|intro hc
   rw[VN hx hb hpre];exact wE
  |false=>
   rw[hb]at c1;have ix1:=hx;refine Ax Lx ?_ (BJ [0] c1);clear ix1;with_reducible repeat' first|constructor|intro hc
   refine⟨k+1,⟨hkl,by rw[hA,hb]⟩,om,zN _,?_⟩;exact A8.ck rfl
 .have e:k=l.length:=om
  subst e;rw[q06]at hpre;refine A9 Lx ?_;with_reducible repeat' first|constructor|intro hc
  rw[Nm hpre];exact wE
theorem mP(n:AA)(l:List Past)(hn:l.length<=9223372036854775807):yT 79 [.d (Az l),.fn (.func 80) [] [.ptr 0 0 76]] [.c (As n)] (.yP (l.any fun p=>decide (p.AD.B8≠n.A7.id))) [.c (As n)]:=by
 refine zD AE Tryz.func79 ?_;have c1:=mS n l hn;rw[<-dA];generalize JI (fun p:Past=>decide (p.AD.B8≠n.A7.id)) l=z at *;refine Ax [0,1,4] ?_ (BJ [0] c1);exact wE
theorem ww(n:AA)(h:Hm n):yT 78 [.ptr 0 0 76] [.c (As n)] (.yP (PP n)) [.c (As n)]:=by
 have c1:=mP n n.BZ (by have:=h.sn;omega);refine zD AE Tryz.func78 ?_;unfold PP;generalize(n.BZ.any fun p=>decide (p.AD.B8≠n.A7.id))=b at *;unfold As;refine Ax [0,1] ?_ (BJ [0] c1);exact wE
theorem BO(n:AA)(h:Hm n):yS 35 [n.d] (.b (BL n)):=by
 refine zF AE Tryz.func35 ?_;have c1:=uH n _ _ _ _ _ _ _ _ _ (wk n) (wl n) (wm n) (wn n h) (wo n h) (wt n) (wu n h) (wv n h) (ww n h);unfold BL;generalize((decide (0<=n.Am)&&decide (n.Am<=1099511627776))&&_)=B at *;refine Ax [0,1,2] ?_ (BJ [0,1] c1);exact zE
abbrev Jc:BF:=[0,1,4,5,10,14,25]
abbrev Ly:BF:=[0,1,2,4,5,10,21]
theorem Ms(n:Int):yS 29 [.yX n] (.b (BV n)):=by
 refine zF AE Tryz.func29 ?_;refine A9 [0,2] ?_;repeat'(apply zB<;>intro hc)
 all_goals(refine⟨_,_,rfl,rfl,?_⟩;simp[Cw,BV, *];try omega)
def T9(l:Ai)(k:Nat):Bool:=BV (l.getD k 0)&&decide (k=0\/l.getD (k-1) 0<l.getD k 0)
def Ti(l:Ai):Bool:=FK l.length (T9 l)
theorem UT(l:Ai)(hn:l.length<=9223372036854775807):yS 25 [.is l] (.b (Ti l)):=by
 refine zF AE Tryz.func25 ?_;have hT:Ti l=FK l.length (T9 l):=rfl;have c1:=Ms;refine A9 [0,2,3,7,31] ?_;refine C4 (fun k=>k<=l.length/\FK k (T9 l)=true) (fun k:Nat=>[(3,.yO k)]) (fun k=>l.length-k) 0 ⟨zi _,rfl⟩ (fun _=>rfl) ?_ ?_
 .exact A8.ck rfl
 rintro k ⟨hk,hpre⟩
 by_cases hkl:k<l.length
 .obtain⟨x,hx⟩:=Ah hkl;have gx:=C5 hx;have c1:=Ms x;have hK:T9 l k=(BV x&&decide (k=0\/l.getD (k-1) 0<x)):=by unfold T9;rw[gx]
  generalize BV x=ok at*
  by_cases h0:k=0
  .have f6:decide ((k:Int)>0)=false:=zQ om;refine AJ [0,2,3,7,31] ?_ (Au gx f6) (AK @c1);with_reducible repeat' first|constructor|intro hc
   all_goals clear c1
   all_goals first
    |(refine⟨k+1,⟨hkl,DZ hpre (by rw[hK];grind)⟩,om,zN _,?_⟩
      exact A8.ck rfl)
    |(refine⟨_,_,rfl,rfl,?_⟩;simp only[C7];rw[hT,FL hkl (by rw[hK];grind)])
  .have f6:decide ((k:Int)>0)=true:=zU om;have e1:(k:Int)-1=((k-1:Nat):Int):=om
   obtain⟨y,hy⟩:=Ah (xs:=l) (k:=k-1) om;have gy:=C5 hy;rw[gy]at hK;refine AJ [0,2,3,7,31] ?_ (ME gx gy f6 e1) (AK @c1);with_reducible repeat' first|constructor|intro hc
   all_goals clear c1
   all_goals first
    |(refine⟨k+1,⟨hkl,DZ hpre (by rw[hK];grind)⟩,om,zN _,?_⟩
      exact A8.ck rfl)
    |(refine⟨_,_,rfl,rfl,?_⟩;simp only[C7];rw[hT,FL hkl (by rw[hK];grind)])
 .have e:k=l.length:=om
  subst e;rw[hpre]at hT;refine A9 [0,2,3,7,31] ?_;with_reducible repeat' first|constructor|intro hc
  exact BW hT
theorem jr(l:Ai)(x:Int)(hn:l.length<=9223372036854775807):yS 30 [.is l,.yX x] (.b (decide (x∈l))):=by
 refine zF AE Tryz.func30 ?_;refine A9 [0,1,4,5,9,17] ?_;refine C4 (fun k=>k<=l.length/\x∉l.take k) (fun k:Nat=>[(5,.yO k)]) (fun k=>l.length-k) 0 ⟨zi _,sm⟩ (fun _=>rfl) ?_ ?_
 .exact A8.ck rfl
 rintro k ⟨hk,hpre⟩
 by_cases hkl:k<l.length
 .obtain⟨y,hy⟩:=Ah hkl;have gy:=C5 hy
  by_cases h:y=x
  .have f1:=AT h;refine Aj [0,1,4,5,9,17] ?_ (Au gy f1);with_reducible repeat' first|constructor|intro hc
   refine⟨_,_,rfl,rfl,?_⟩;simp only[C7];rw[zU (h▸q00 hy)]
  .have f1:=eq_false' h;have hn:x∉l.take (k+1):=by rw[AY hy,q0W,q0e];exact fun e=>e.elim hpre fun e=>h e.symm
   refine Aj [0,1,4,5,9,17] ?_ (Au gy f1);with_reducible repeat' first|constructor|intro hc
   refine⟨k+1,⟨hkl,hn⟩,om,zN _,?_⟩;exact A8.ck rfl
 .have e:k=l.length:=om
  subst e;rw[q06]at hpre;refine A9 [0,1,4,5,9,17] ?_;with_reducible repeat' first|constructor|intro hc
  refine⟨_,_,rfl,rfl,?_⟩;simp only[C7];rw[zQ hpre]
theorem pre_eq{a b:Ai}{x y:Int}(hx:a[k]? =some x)(hy:b[k]? =some y)(hp:a.take k=b.take k):a.take (k+1)=b.take (k+1)↔x=y:=by
 rw[AY hx,AY hy,hp];simp
theorem Pa(a b:Ai)(hn:a.length<=9223372036854775807):yS 22 [.is a,.is b] (.b (decide (a=b))):=by
 refine zF AE Tryz.func22 ?_
 by_cases hl:a.length=b.length
 .have f1:((a.length:Int)!=b.length)=false:=C8 om;refine Aj Jc ?_ (AK f1);refine C4 (fun k=>k<=a.length/\a.take k=b.take k) (fun k:Nat=>[(5,.yO k)]) (fun k=>a.length-k) 0 ⟨zi _,rfl⟩ (fun _=>rfl) ?_ ?_
  .exact A8.ck rfl
  rintro k ⟨hk,hpre⟩
  by_cases hkl:k<a.length
  .obtain⟨x,hx⟩:=Ah hkl;obtain⟨y,hy⟩:=Ah (xs:=b) (k:=k) om;have gx:=C5 hx;have gy:=C5 hy;have hE:=pre_eq hx hy hpre
   by_cases h:x=y
   .have f2:=C8 h;refine Aj Jc ?_ (CP gx gy f2);with_reducible repeat' first|constructor|intro hc
    refine⟨k+1,⟨hkl,hE.2 h⟩,om,zN _,?_⟩;exact A8.ck rfl
   .have f2:=CI h;have hN:a≠b:=by intro e;subst e;exact h (by rw[hx]at hy;exact q1E hy)
    refine Aj Jc ?_ (CP gx gy f2);with_reducible repeat' first|constructor|intro hc
    refine⟨_,_,rfl,rfl,?_⟩;simp only[C7];rw[zQ hN]
  .have e:k=a.length:=om
   subst e;rw[q06,hl,q06]at hpre;refine A9 Jc ?_;with_reducible repeat' first|constructor|intro hc
   refine⟨_,_,rfl,rfl,?_⟩;simp only[C7];rw[zU hpre]
 .have f1:((a.length:Int)!=b.length)=true:=CI om;have hN:a≠b:=fun e=>hl (by rw[e])
  refine Aj Jc ?_ (AK f1);refine⟨_,_,rfl,rfl,?_⟩;simp only[C7];rw[zQ hN]
def NJ(p:Int)(n:AA):Bool:=decide (n.A7.id=p)
def ids(l:List AA):Ai:=l.map fun n=>n.A7.id
theorem o8(c:D3)(p:Int)(hn:c.nodes.length<=9223372036854775807):yS 28 [c.d,.yX p] (.yX (JI (NJ p) c.nodes)):=by
 obtain⟨l,gone,A6,grams,lost⟩:=c;replace hn:l.length<=9223372036854775807:=hn;refine zF AE Tryz.func28 ?_;refine A9 Ly ?_;refine C4 (fun k=>k<=l.length/\(l.take k).any (NJ p)=false) (fun k:Nat=>[(5,.yO k)]) (fun k=>l.length-k) 0 ⟨zi _,rfl⟩ (fun _=>rfl) ?_ ?_
 .exact A8.ck rfl
 rintro k ⟨hk,hpre⟩
 by_cases hkl:k<l.length
 .obtain⟨x,hx⟩:=Ah hkl;have hA:=Hq (p:=NJ p) hx;rw[hpre,q0k]at hA;have hE:NJ p x=decide (x.A7.id=p):=rfl
  by_cases h:x.A7.id=p
  .have f1:=AT h;rw[zU h]at hE;have ix1:=hx;refine Aj Ly ?_ (AK f1);clear ix1;with_reducible repeat' first|constructor|intro hc
   refine⟨_,_,rfl,rfl,?_⟩;simp only[C7];rw[VN hx hE hpre]
  .have f1:=eq_false' h;rw[zQ h]at hE;have ix1:=hx;refine Aj Ly ?_ (AK f1);clear ix1;with_reducible repeat' first|constructor|intro hc
   refine⟨k+1,⟨hkl,by rw[hA,hE]⟩,om,zN _,?_⟩;exact A8.ck rfl
 .have e:k=l.length:=om
  subst e;rw[q06]at hpre;refine A9 Ly ?_;with_reducible repeat' first|constructor|intro hc
  refine⟨_,_,rfl,rfl,?_⟩;simp only[C7];rw[Nm hpre]
theorem ee(c:D3)(hn:c.nodes.length<=1048576):yS 26 [c.d] (.is (ids c.nodes)):=by
 obtain⟨l,gone,A6,grams,lost⟩:=c;replace hn:l.length<=1048576:=hn;refine zF AE Tryz.func26 ?_;refine A9 [0,1,2,3,4,9] ?_;refine BG (A8.bv 3 (.is []) rfl rfl rfl trivial) sm ?_;refine CM (fun k=>k<=l.length) (fun k:Nat=>[(3,.sl 1 (ids (l.take k)).length 1),(4,.yO k)]) (fun k=>[(1,.a (.is (ids (l.take k))))]) (fun k=>l.length-k) 0 (zi _) (fun _=>rfl) (fun _=>rfl) ?_ ?_
 .exact A8.ck rfl
 intro k hk;have htl:(ids (l.take k)).length<=k:=by unfold ids;rw[q08];exact q1T _ _
 by_cases hkl:k<l.length
 .obtain⟨x,hx⟩:=Ah hkl;have hn:ids (l.take (k+1))=ids (l.take k)++[x.A7.id]:=by unfold ids;rw[AY hx];simp
  have ix1:=hx;refine A9 [0,1,2,3,4,9] ?_;clear ix1;with_reducible repeat' first|constructor|intro hc
  refine⟨k+1,hkl,om,zN _,?_⟩;exact(have nC:=hn;A8.cn rfl)
 .have e:k=l.length:=om
  subst e;rw[q06];refine A9 [0,1,2,3,4,9] ?_;with_reducible repeat' first|constructor|intro hc
  exact zE
def Es(l:List AA)(p:Int):Bool:=l.any (NJ p)
def tI(c:D3)(n:AA):Bool:=BL n&&decide (n.A7.A6=c.A6)
def tA(c:D3)(k:Nat):Bool:=BV (c.gone.getD k 0)&&(!(Es c.nodes (c.gone.getD k 0))&& !(decide (c.gone.getD k 0∈c.gone.take k)))
def tB(c:D3):Bool:=decide (2<=c.A6.length)&&(decide (c.A6.length<=4)&&(Ti c.A6&&(decide (c.nodes.length<=12)&&(Ti (ids c.nodes)&&(decide (c.gone.length<=1000)&&decide (c.grams.length<=400))))))
def o9(c:D3):Bool:=tB c&&(c.nodes.all (tI c)&&(c.A6.all (Es c.nodes)&&FK c.gone.length (tA c)))
abbrev OE:B9:=⟨0,0,⟨0,0,0,false,false,0⟩,An,0,[],0⟩
abbrev FD:AA:=⟨zeroV,0,⟨0,0,[]⟩,[],0,0,OE,OE,OE,0,[],[],0⟩
def nodeAt(l:List AA)(p:Int):AA:=match l.find? (NJ p)with
 |some n=>n
 |none=>FD
theorem gk{l:List AA}{p:Int}{x:AA}(hx:l[k]? =some x)(h:NJ p x=true)(hn:(l.take k).any (NJ p)=false):nodeAt l p=x:=by
 have e:l=l.take k++x::l.drop (k+1):=by
  have hk:=(zS.1 hx).1;have hv:=(zS.1 hx).2;rw[<-hv,<-q14 hk,q0d]
 unfold nodeAt;rw[e,List.find?_append]
 have:(l.take k).find? (NJ p)=none:=by
  rw[List.find?_eq_none];intro y hy;rw[q0s]at hn;simpa using hn y hy
 rw[this];simp[q1k,h]
theorem gG{l:List AA}{p:Int}(h:Es l p=true):∃(k:Nat)(x:AA),JI (NJ p) l=k/\l[k]? =some x/\NJ p x=true/\nodeAt l p=x:=by
 obtain⟨x,hx,hp⟩:=q1q.1 h
 cases hf:l.findIdx? (NJ p)with
 |none=>rw[q1o]at hf;rw[hf x hx]at hp;cases hp
 |some k=>
  obtain⟨hk,h1,h2⟩:=List.findIdx?_eq_some_iff_getElem.1 hf;refine⟨k,l[k],by unfold JI;rw[hf],zV hk,h1,gk (zV hk) h1 ?_⟩;rw[q0s];intro y hy;obtain⟨j,hj⟩:=q0w.1 hy;rw[q0Y]at hj;split at hj
  .rename_i hjk;obtain⟨hj1,hj2⟩:=zS.1 hj;rw[<-hj2];simpa using h2 j hjk
  .cases hj
theorem P7{l:List AA}{p:Int}(h:Es l p=false):JI (NJ p) l= -1/\nodeAt l p=FD:=by
 refine⟨Nm h,?_⟩;unfold nodeAt
 have:l.find? (NJ p)=none:=by
  rw[List.find?_eq_none];intro y hy;have:=q0s.1 h y hy;simpa using this
 rw[this]
abbrev Hg:BF:=[0,2,3,4,12,13,14,15,16,35]
abbrev GV:BF:=[0,1,3,4,5,6,8,9,10,17]
abbrev Lz:BF:=[0,1,3,5,6,7,15]
theorem Gq(n:Int):yS 40 [.yX n] (.b (BV n)):=by
 refine zF AE Tryz.func40 ?_;refine A9 [0,2] ?_;repeat'(apply zB<;>intro hc)
 all_goals(refine⟨_,_,rfl,rfl,?_⟩;simp[Cw,BV, *];try omega)
theorem MV(l:Ai)(hn:l.length<=9223372036854775807):yS 18 [.is l] (.b (decide (2<=l.length)&&(decide (l.length<=4)&&Ti l))):=by
 refine zF AE Tryz.func18 ?_
 by_cases h2:l.length<2
 .have f1:decide ((l.length:Int)<2)=true:=zU om;rw[zQ (show ¬2<=l.length by omega),q0m];refine Aj Hg ?_ (AK f1);exact zE
 have f1:decide ((l.length:Int)<2)=false:=zQ om
 by_cases h4:l.length>4
 .have f2:decide ((l.length:Int)>4)=true:=zU om;rw[zQ (show ¬l.length<=4 by omega),q0m,q0v];refine Aj Hg ?_ (Au f1 f2);exact zE
 have f2:decide ((l.length:Int)>4)=false:=zQ om;rw[zU (show 2<=l.length by omega),zU (show l.length<=4 by omega),q0A,q0A];have hT:Ti l=FK l.length (T9 l):=rfl;refine Aj Hg ?_ (Au f1 f2);refine C4 (fun k=>k<=l.length/\FK k (T9 l)=true) (fun k:Nat=>[(15,.yO k)]) (fun k=>l.length-k) 0 ⟨zi _,rfl⟩ (fun _=>rfl) ?_ ?_
 .exact A8.ck rfl
 rintro k ⟨hk,hpre⟩
 by_cases hkl:k<l.length
 .obtain⟨x,hx⟩:=Ah hkl;have gx:=C5 hx;have c1:=Gq x;have hK:T9 l k=(BV x&&decide (k=0\/l.getD (k-1) 0<x)):=by unfold T9;rw[gx]
  generalize BV x=ok at*
  by_cases h0:k=0
  .have f6:decide ((k:Int)>0)=false:=zQ om;refine AJ Hg ?_ (Au gx f6) (AK @c1);with_reducible repeat' first|constructor|intro hc
   all_goals clear c1
   all_goals first
    |(refine⟨k+1,⟨hkl,DZ hpre (by rw[hK];grind)⟩,om,zN _,?_⟩
      exact A8.ck rfl)
    |(refine⟨_,_,rfl,rfl,?_⟩;simp only[C7];rw[hT,FL hkl (by rw[hK];grind)])
  .have f6:decide ((k:Int)>0)=true:=zU om;have e1:(k:Int)-1=((k-1:Nat):Int):=om
   obtain⟨y,hy⟩:=Ah (xs:=l) (k:=k-1) om;have gy:=C5 hy;rw[gy]at hK;refine AJ Hg ?_ (ME gx gy f6 e1) (AK @c1);with_reducible repeat' first|constructor|intro hc
   all_goals clear c1
   all_goals first
    |(refine⟨k+1,⟨hkl,DZ hpre (by rw[hK];grind)⟩,om,zN _,?_⟩
      exact A8.ck rfl)
    |(refine⟨_,_,rfl,rfl,?_⟩;simp only[C7];rw[hT,FL hkl (by rw[hK];grind)])
 .have e:k=l.length:=om
  subst e;rw[hpre]at hT;refine A9 Hg ?_;with_reducible repeat' first|constructor|intro hc
  exact BW hT
theorem J9(l:List AA):yT 33 [.d (Ak l)] [] (.fn (.func 63) [] [.ptr 0 0 1]) [.c [.d (Ak l)]]:=by
 refine zD AE Tryz.func33 ?_;refine A9 [0,1,2] ?_;exact wE
theorem NZ(l:List AA)(p:Int)(hn:l.length<=9223372036854775807):yS 31 [Ak l,.yX p] (.yX (JI (NJ p) l)):=by
 refine zF AE Tryz.func31 ?_;refine Ax GV ?_ (BJ [] (J9 l))
 refine zG (K:=fun r _ H'=>(l.any (NJ p)=false/\H'=[.c [.yO p],.c [.yO 0],.c [.d (Ak l)],.lp r])\/
  (∃k:Nat,JI (NJ p) l=k/\H'=[.c [.yO p],.c [.yO k],.c [.d (Ak l)],.lp (r.left .ret)])) ?_ ?_
 .intro r hr;refine zT AE Tryz.func63 ?_;refine A9 Lz ?_;have hk:=hr.ok (k:=3) rfl;refine C4 (fun k=>k<=l.length/\(l.take k).any (NJ p)=false) (fun k:Nat=>[(6,.yO k)]) (fun k=>l.length-k) 0 ⟨zi _,rfl⟩ (fun _=>rfl) ?_ ?_
  .exact A8.ck rfl
  rintro k ⟨hkk,hpre⟩
  by_cases hkl:k<l.length
  .obtain⟨x,hx⟩:=Ah hkl;have hA:=Hq (p:=NJ p) hx;rw[hpre,q0k]at hA;have hE:NJ p x=decide (x.A7.id=p):=rfl
   by_cases h:x.A7.id=p
   .have f1:=AT h;rw[zU h]at hE
    have hY:YT Tryz.prog 3 [.yO k,.dp x.A4] [.c [.yO p],.c [.yO 0],.c [.d (Ak l)],.lp r] fun v K=>v= .yP false/\K=[.c [.yO p],.c [.yO k],.c [.d (Ak l)],.lp (r.left .ret)]:=by
     refine Ar hr rfl rfl rfl ?_;refine A9 GV ?_;refine zR ?_;refine Aj GV ?_ (AK f1);exact⟨⟨[],[.c [.yO p],.c [.yO k],.c [.d (Ak l)],.lp r.busy],_⟩,(A8.ck rfl),zN _,rfl,rfl,rfl⟩
    have ix1:=hx;have q1:=@hY;refine A9 Lz ?_;clear q1 ix1;with_reducible repeat' first|constructor|intro hc
    exact⟨⟨[],[.c [.yO p],.c [.yO k],.c [.d (Ak l)],.lp (r.left .ret)],_⟩,(A8.ck rfl),zN _,_,_,rfl,rfl,.inr ⟨k,VN hx hE hpre,rfl⟩⟩
   .have f1:=eq_false' h;rw[zQ h]at hE
    have hY:YT Tryz.prog 3 [.yO k,.dp x.A4] [.c [.yO p],.c [.yO 0],.c [.d (Ak l)],.lp r] fun v K=>v= .yP true/\K=[.c [.yO p],.c [.yO 0],.c [.d (Ak l)],.lp r]:=by
     refine Ar hr rfl rfl rfl ?_;refine A9 GV ?_;refine zR ?_;refine Aj GV ?_ (AK f1);exact⟨⟨[],[.c [.yO p],.c [.yO 0],.c [.d (Ak l)],.lp r.busy],_⟩,(A8.ck rfl),zN _,rfl,rfl,rfl⟩
    have ix1:=hx;have q1:=@hY;refine A9 Lz ?_;clear q1 ix1;with_reducible repeat' first|constructor|intro hc
    refine⟨k+1,⟨hkl,by rw[hA,hE]⟩,om,zN _,?_⟩;exact A8.ck rfl
  .have e:k=l.length:=om
   subst e;rw[q06]at hpre;refine A9 Lz ?_;with_reducible repeat' first|constructor|intro hc
   exact⟨_,A8.refl _,zN _,_,_,rfl,rfl,.inl ⟨hpre,rfl⟩⟩
 .rintro r hr y H' (⟨h,rfl⟩|⟨k,h,rfl⟩)
  .refine .inl ⟨rfl,?_⟩;rw[Nm h];refine A9 GV ?_;exact zE
  .refine .inr ⟨.ret,rfl,?_⟩;rw[h];refine A9 GV ?_;exact zE
end Nd
end Go.Proofs.YtamjpnmjpponpaaGreatDoor
