/- Part 12 of a proof. Conditions: those that its theorems state. -/
import Derived.Test.YtmlaifbbpdanmaaV11
set_option linter.unusedSimpArgs false
set_option linter.unusedVariables false
set_option linter.unnecessarySimpa false
set_option maxHeartbeats 40000000
set_option maxRecDepth 4000
namespace Go.Proofs.Ytmlaifbbpdanmaa
open Go.Gar
abbrev Bq:QQ:=[0,1,2,3,4,5,6,7,8,9,18,19,20,27]
abbrev DL:QQ:=[0,1,3,4,6,7,8,9,18]
def FL(u:UInt8)(m:Int):Int:=C7 .xor .u8 (u.toNat:Int) m
theorem Ch(u:UInt8)(m:Int):0<=FL u m/\FL u m<256:=by
 unfold FL C7;simp only[Ih];omega
def Cx(y:A5)(i:Nat)(m:Int):A5:=y.set i (UInt8.ofNat (FL (y.getD i 0) m).toNat)
theorem Mm(t:Int)(y:A5)(h:Bool)(i:Nat)(m:Int)(hi:i<y.length)(hl:y.length<=100000):QL 23 [.ptr 0 0 3,.ptr 1 0 1,.ptr 2 0 1] [.c [.QF t,.sl 3 y.length 1,.QG h],.c [.QF i],.c [.QH m],.a (.by y)] (.QG true)
  [.c [.QF t,.sl 3 y.length 1,.QG true],.c [.QF i],.c [.QH m],.a (.by (Cx y i m))]:=by
 have hx:=Ch (y.getD i 0) m;unfold FL at hx;refine zD A7 Try.func23 ?_
 have e1:(slc (D.by y)).getD (i*1) D.np=D.i .u8 ((y.getD i 0).toNat:Int):=by
  rw[SE];simp only[slc,Qy,RX,Qm hi,Option.map_some,Option.getD_some]
 have sb:No 2:=trivial;refine B6 [0,1,2,4] ?_ (C0 e1);clear sb;with_reducible repeat' first|constructor|intro hc
 exact wE
def Cp(g:AF)(i:Nat)(m:Int):AF:=⟨g.to,Cx g.by_ i m,true⟩
theorem E3(y:A5)(i:Nat)(m:Int):(Cx y i m).length=y.length:=by simp[Cx]
theorem J6(l:List AF)(n:Int)(a:Nat)(g:AF)(hg:l[a]? =some g)(i:Nat)(m:Int)(hi:i<g.by_.length)(hl:l.length<=1000)(hs:small l):
  QL 20 [.d (Av.d ⟨l,n⟩),.QF a,.fn (.func 23) [] [.ptr 0 0 1,.ptr 1 0 1]] [.c [.QF i],.c [.QH m]] (.ag [.sl 6 (l.set a (Cp g i m)).length 3,.QF n]) [.c [.QF i],.c [.QH m],.gone,.gone,.gone,.c [.sl 6 (l.set a (Cp g i m)).length 3,.QF n],.a (A1 (l.set a (Cp g i m)))]:=by
 refine zD A7 Try.func20 ?_;refine AC Bq ?_ [] [1];with_reducible repeat' first|constructor|intro hc
 refine Dj T.get 5 7 6 7 ⟨[(0,.d (Av.d ⟨l,n⟩)),(1,.QF a),(2,.fn (.func 23) [] [.ptr 0 0 1,.ptr 1 0 1]),(3,.ptr 2 0 2),(4,.ptr 3 0 1),(5,.ptr 4 0 1),(6,.ptr 5 0 2),(7,.ptr 7 0 2)],[.c [.QF i],.c [.QH m],.c [.d (A1 l),.QF n],.c [.QF a],.c [.fn (.func 23) [] [.ptr 0 0 1,.ptr 1 0 1]],.c [.e0,.QF 0],.a (A1 []),.c [.sl 6 0 3,.QF n]],35⟩ mixed rfl rfl rfl ?_ ?_ ?_
 .refine AC Bq ?_ [(0,5),(1,5),(0,7),(1,7)];with_reducible repeat' first|constructor|intro hc
  exact⟨rfl,.inl rfl⟩
 .refine AC Bq ?_ [(0,5),(1,5),(2,5),(3,5),(0,6),(1,6)];with_reducible repeat' first|constructor|intro hc
  exact⟨rfl,.inr rfl⟩
 refine Fi Bq ?_ (HY [] (BQ l n));with_reducible repeat' first|constructor|intro hc
 refine zG (K:=fun r _ H'=>H'=[.c [.QF i],.c [.QH m],.c [.d (A1 l),.QF n],.c [.QF a],.c [.fn (.func 23) [] [.ptr 0 0 1,.ptr 1 0 1]],.c [.e0,.QF 0],.a (A1 (l.set a (Cp g i m))),.c [.sl 6 (l.set a (Cp g i m)).length 3,.QF n],.c [.d (A1 l),.QF n],.lp r]) ?_ ?_
 .intro r hr;refine zT A7 Try.func31 ?_;refine AC DL ?_;with_reducible repeat' first|constructor|intro hc
  have hk:=hr.ok (k:=9) rfl;refine AT (fun k=>k<=l.length) (fun k:Nat=>⟨[(0,.yl 9),(1,.ptr 8 0 2),(6,.d (A1 l)),(7,.QF l.length),(8,.QF k)],[.c [.QF i],.c [.QH m],.c [.d (A1 l),.QF n],.c [.QF a],.c [.fn (.func 23) [] [.ptr 0 0 1,.ptr 1 0 1]],.c [.e0,.QF 0],.a (A1 ((l.set a (Cp g i m)).take (k))),.c [.sl 6 ((l.set a (Cp g i m)).take (k)).length 3,.QF n],.c [.d (A1 l),.QF n],.lp r],20⟩) (fun k=>l.length-k) 0 (RN _) ?_ (Qn _) ?_
  .exact(have nC:=trivial;A3.co rfl)
  intro k hkk;have htl:((l.set a (Cp g i m)).take (k)).length<=1000:=by exact SC (List.length_take_le _ _) om
  by_cases hkl:k<l.length
  .obtain⟨x,hx⟩:=B1 hkl;have hb:=Ay hs hx
   by_cases hka:k=a
   .subst hka;rw[hg]at hx;cases hx;have hx:(l.set k (Cp g i m))[k]? =some ⟨g.to,Cx g.by_ i m,true⟩:=by rw[Qs hkl];rfl
    have e1:((k:Int)!=(k:Int))=false:=bne_self_eq_false' _;have ix1:=hg;refine Fi DL ?_ (HY [] (FX g.to g.by_ g.harmed hb));clear ix1;with_reducible repeat' first|constructor|intro hc
    refine Xy (x:=.QG true) (H':=[.c [.QF i],.c [.QH m],.c [.d (A1 l),.QF n],.c [.QF k],.c [.fn (.func 23) [] [.ptr 0 0 1,.ptr 1 0 1]],.c [.e0,.QF 0],.a (A1 ((l.set k (Cp g i m)).take (k+1))),.c [.sl 6 ((l.set k (Cp g i m)).take (k+1)).length 3,.QF n],.c [.d (A1 l),.QF n],.lp r,.c [.QF g.to,.d (.by g.by_),.QG g.harmed],.gone,.c [.QF g.to,.d (.by (Cx g.by_ i m)),.QG g.harmed],.gone,.c [.QF g.to,.d (.by (Cx g.by_ i m)),.QG true]]) (BN hr rfl rfl rfl ?_) rfl rfl rfl rfl rfl ?_
    .refine AC Bq ?_;with_reducible repeat' first|constructor|intro hc
     refine zR ?_;refine HX Bq ?_ (C0 e1) (HY [14,0,1,13] (Mm g.to g.by_ g.harmed i m hi hb)) [] [6];with_reducible repeat' first|constructor|intro hc
     refine Ae (A3.freeze 13 (x:=.by (Cx g.by_ i m)) rfl) (by rw[Eg];exact Qn _) ?_;simp only[LO,Cn,A2.Db,AV.Db,AV.Ff,Iq,Nat.reduceEqDiff,Nat.reduceAdd,decide_true,decide_false,AI,E3,SG,SY,reduceCtorEq];refine B6 Bq ?_ (C0 e1);with_reducible repeat' first|constructor|intro hc
     refine⟨_,A3.refl _,Sv _,rfl,rfl,?_⟩;simp only[Al hx,A1,Sl,Ru,TJ,AF.C1,RH,Rh,Qz,RY,Rj,Rt]
    .refine AC DL ?_;with_reducible repeat' first|constructor|intro hc
     refine⟨k+1,hkl,om,Qn _,?_⟩;exact(have nC:=(Al hx);A3.cn rfl)
   .have e1:((k:Int)!=(a:Int))=true:=by rw[bne_iff_ne];omega
    have hx2:(l.set a (Cp g i m))[k]? =some x:=by rw[RG (Ne.symm hka)];exact hx
    have ix1:=hx;refine Ex DL ?_ (C0 (BU x hb));clear ix1;with_reducible repeat' first|constructor|intro hc
    refine Xy (x:=.QG true) (H':=[.c [.QF i],.c [.QH m],.c [.d (A1 l),.QF n],.c [.QF a],.c [.fn (.func 23) [] [.ptr 0 0 1,.ptr 1 0 1]],.c [.e0,.QF 0],.a (A1 ((l.set a (Cp g i m)).take (k+1))),.c [.sl 6 ((l.set a (Cp g i m)).take (k+1)).length 3,.QF n],.c [.d (A1 l),.QF n],.lp r,.c [.QF x.to,.d (.by x.by_),.QG x.harmed],.c [.QF x.to,.d (.by x.by_),.QG x.harmed]]) (BN hr rfl rfl rfl ?_) rfl rfl rfl rfl rfl ?_
    .refine AC Bq ?_;with_reducible repeat' first|constructor|intro hc
     refine zR ?_;refine B6 Bq ?_ (C0 e1);with_reducible repeat' first|constructor|intro hc
     refine⟨_,A3.refl _,Sv _,rfl,rfl,?_⟩;simp only[Al hx2,A1,Sl,Ru,TJ,AF.C1,RH,Rh,Qz,RY,Rj,Rt]
    .refine AC DL ?_;with_reducible repeat' first|constructor|intro hc
     refine⟨k+1,hkl,om,Qn _,?_⟩;exact(have nC:=(Al hx2);A3.cn rfl)
  .have e:k=l.length:=om
   subst e;refine AC DL ?_;with_reducible repeat' first|constructor|intro hc
   refine⟨_,A3.refl _,Qn _,_,_,rfl,rfl,?_⟩;simp only[List.take_of_length_le (Nat.le_of_eq (SS ..))]
 .rintro r hr x H' rfl;refine .inl ⟨rfl,?_⟩;refine AC Bq ?_;with_reducible repeat' first|constructor|intro hc
  exact wE
abbrev Dz:QQ:=[0,1,2,3,4,6,7,8,9,28,38]
abbrev F0:QQ:=[0,1,2,4,5,6,7,9,10,11,12,19]
def EK(x:AF)(i m:Int):Bool:=decide (0<=i)&&decide (i<x.by_.length)&& !x.harmed&& !(m==0)
def If(b:Av)(BO i m:Int):Av×Int:=if b.E9 BO&&EK (b.grams.getD BO.toNat De) i m then(⟨b.grams.set BO.toNat (Cp (b.grams.getD BO.toNat De) i.toNat m),b.lost⟩,0)else(b,2)
theorem KX(b:Av)(BO i m:Int)(hb:b.grams.length<=1000)(hbs:small b.grams):QK 11 [b.d,.QO BO,.QO i,.i .u8 m] (.tup [(If b BO i m).1.d,.QO (If b BO i m).2]):=by
 have hI:=Cy b BO;have hO:=I9 b hb hbs;refine zF A7 Try.func11 ?_;unfold If
 cases h:b.E9 BO with
 |true=>
  obtain⟨a,rfl,ha⟩:=CQ h;obtain⟨gs,n⟩:=b;replace ha:a<gs.length:=ha;obtain⟨x,hx⟩:=B1 ha;have hg:gs.getD a De=x:=by rw[Qy,hx];rfl
  simp only[SQ,hg,Bool.true_and]
  cases hk:EK x i m with
  |true=>
   simp only[EK,Qk,Qv,Bool.not_eq_true',beq_eq_false_iff_ne]at hk;obtain⟨⟨⟨h1,h2⟩,h3⟩,h4⟩:=hk;obtain⟨i',rfl⟩:∃k:Nat,i=k:=⟨i.toNat,om⟩;have e4:(m==0)=false:=by simp[h4]
   have ix1:=hx;refine K4 Dz ?_ (Na h h3 e4) (C0 @hI) (HY [1,2] (J6 gs n a x hx i' m om hb hbs));clear ix1;with_reducible repeat' first|constructor|intro hc
   all_goals first
    |(exfalso;omega)
    |(refine⟨_,_,rfl,rfl,?_⟩;simp[L1,AI,Af,AX,Av.d,A1];done)
  |false=>
   simp only[EK,Bool.and_eq_false_iff,decide_eq_false_iff_not,Bool.not_eq_false',beq_iff_eq]at hk
   cases h3:x.harmed with
   |true=>
    have ix1:=hx;refine D2 Dz ?_ (Fz h h3) (Fz @hI @hO);clear ix1;with_reducible repeat' first|constructor|intro hc
    all_goals(refine⟨_,_,rfl,rfl,?_⟩;simp[L1,AI,Af,AX,Av.d,A1])
   |false=>
    by_cases h4:m=0
    .subst h4;have ix1:=hx;refine D2 Dz ?_ (Fz h h3) (Fz @hI @hO);clear ix1;with_reducible repeat' first|constructor|intro hc
     all_goals(refine⟨_,_,rfl,rfl,?_⟩;simp[L1,AI,Af,AX,Av.d,A1])
    .have e4:(m==0)=false:=by simp[h4]
     have hk':¬0<=i\/¬i<x.by_.length:=by
      rcases hk with(hk|hk)|hk
      .exact hk
      .rw[h3]at hk;cases hk
      .exact absurd hk h4
     have ix1:=hx;refine D2 Dz ?_ (Na h h3 e4) (Fz @hI @hO);clear ix1;with_reducible repeat' first|constructor|intro hc
     all_goals first
      |(refine⟨_,_,rfl,rfl,?_⟩;simp[L1,AI,Af,AX,Av.d,A1];done)
      |(exfalso;omega)
 |false=>
  obtain⟨gs,n⟩:=b;refine D2 Dz ?_ (C0 h) (Fz @hI @hO);with_reducible repeat' first|constructor|intro hc
  exact L0 (RI @Av.d.eq_1 @A1.eq_1)
def GV(l:List AF)(to:Int)(k:Nat):QP:=((List.range k).filter fun j=>(l.getD j De).to==to).map Int.ofNat
theorem Mh(l:List AF)(to:Int)(k:Nat):(GV l to k).length<=k:=by
 unfold GV;rw[Rh];exact SC (List.length_filter_le ..) sm
variable {l:List AF}
theorem O1{to:Int}{k:Nat}{x:AF}(hx:l[k]? =some x)(h:x.to=to):GV l to (k+1)=GV l to k++[(k:Int)]:=by
 simp[GV,List.range_succ,List.filter_append,hx,h]
theorem Mi{to:Int}{k:Nat}{x:AF}(hx:l[k]? =some x)(h:x.to≠to):GV l to (k+1)=GV l to k:=by
 simp[GV,List.range_succ,List.filter_append,hx,h]
theorem Oy(b:Av)(to:Int)(hb:b.grams.length<=1000):QK 15 [b.d,.QO to] (.is (GV b.grams to b.grams.length)):=by
 obtain⟨l,n⟩:=b;replace hb:l.length<=1000:=hb;refine zF A7 Try.func15 ?_;refine AC F0 ?_;with_reducible repeat' first|constructor|intro hc
 refine Ae (A3.OQ 5 (.is []) rfl rfl rfl trivial) sm ?_;refine AT (fun k=>k<=l.length) (fun k:Nat=>⟨[(1,.QF to),(2,.ptr 0 0 2),(4,.e0),(5,.sl 1 (GV l to k).length 1),(9,.d (A1 l)),(10,.QF l.length),(11,.QF k)],[.c [.d (A1 l),.QF n],.a (.is (GV l to k))],26⟩) (fun k=>l.length-k) 0 (RN _) ?_ (Qn _) ?_
 .exact A3.ck rfl
 intro k hk;have hle:=Mh l to k
 by_cases hkl:k<l.length
 .obtain⟨x,hx⟩:=B1 hkl
  by_cases hT:x.to=to
  .have hn:=O1 hx hT;have e1:(x.to==to)=true:=by simp[hT]
   have ix1:=hx;refine B6 F0 ?_ (C0 e1);clear ix1;with_reducible repeat' first|constructor|intro hc
   refine⟨k+1,hkl,om,Qn _,?_⟩;exact(have nC:=hn;A3.cn rfl)
  .have hn:=Mi hx hT;have e1:(x.to==to)=false:=by simp[hT]
   have ix1:=hx;refine B6 F0 ?_ (C0 e1);clear ix1;with_reducible repeat' first|constructor|intro hc
   refine⟨k+1,hkl,om,Qn _,?_⟩;exact(have nC:=hn;A3.cn rfl)
 .have e:k=l.length:=om
  subst e;refine AC F0 ?_;with_reducible repeat' first|constructor|intro hc
  exact zE
def nil0:Av:=⟨[],0⟩
def gA:AF:=⟨3,[1,2],false⟩
def gB:AF:=⟨4,[],false⟩
def gC:AF:=⟨3,List.replicate 121 0,false⟩
def D8:Av:=⟨[gA,gB],1⟩
def MI:Av:=⟨[gA,gB,gA],1⟩
def gH:AF:=⟨3,[1,10],true⟩
def EU:Av:=⟨[gA,gB,gH],1⟩
theorem OW(h:(l.all fun g=>decide (g.by_.length<=100000))=true):small l:=fun g hg=>by
 rw[TA]at h;simpa using h g hg
theorem w1:QK 8 [.agg [.sl 3 [],.QO 0],.QO 0] (.tup [nil0.d,De.d,.b false]):=by
 have h:=Kz nil0 0 (by decide) (OW rfl);have e:takeB nil0 0=(nil0,De,false):=by decide
 rw[e]at h;exact h
theorem w2:QK 7 [.agg [.sl 3 [],.QO 0],A1 [gA,gB,gC]] D8.d:=by
 have h:=Kv nil0 [gA,gB,gC] (by decide) (OW rfl) (by decide) (OW (by decide));have e:Dt nil0 [gA,gB,gC]=D8:=by decide
 rw[e]at h;exact h
theorem w3:QK 10 [D8.d,.QO 0] (.tup [MI.d,.QO 0]):=by
 have h:=NO D8 0 (by decide) (OW rfl);have e:IG D8 0=(MI,0):=by decide
 rw[e]at h;exact h
theorem w4:QK 11 [MI.d,.QO 2,.QO 1,.i .u8 8] (.tup [EU.d,.QO 0]):=by
 have h:=KX MI 2 1 8 (by decide) (OW rfl);have e:If MI 2 1 8=(EU,0):=by decide
 rw[e]at h;exact h
theorem w5:QK 11 [EU.d,.QO 2,.QO 0,.i .u8 8] (.tup [EU.d,.QO 2]):=by
 have h:=KX EU 2 0 8 (by decide) (OW rfl);have e:If EU 2 0 8=(EU,2):=by decide
 rw[e]at h;exact h
theorem w6:QK 8 [EU.d,.QO 2] (.tup [D8.d,gH.d,.b true]):=by
 have h:=Kz EU 2 (by decide) (OW rfl);have e:takeB EU 2=(D8,gH,true):=by decide
 rw[e]at h;exact h
theorem w7:QK 9 [D8.d,.QO 1] (.tup [Av.d ⟨[gA],2⟩,.QO 0]):=by
 have h:=Nx D8 1 (by decide) (OW rfl);have e:KL D8 1=(⟨[gA],2⟩,0):=by decide
 rw[e]at h;exact h
theorem w8:QK 15 [EU.d,.QO 3] (.is [0,2]):=Oy EU 3 (by decide)
theorem w9:QK 13 [D8.d,D8.d] (.b true):=Iw D8 D8 (by decide)
theorem w10:QK 16 [D8.d,D8.d] (.b true):=Ku D8 D8 (by decide)
theorem w11:QK 16 [D8.d,EU.d] (.b false):=Ku D8 EU (by decide)
theorem NR:QK 5 [] (.b true):=by
 refine zF A7 Try.func5 ?_;have nS:=Rk
 repeat'(first|((with_reducible refine sg ?_);first|with_reducible rfl|((with_reducible refine CO ?_);first|kernel_rfl|rfl|(simp[B9,Bc,nS];done))|with_reducible refine CM ?_ ?_|with_reducible exact Ri _|with_reducible exact AP _|((with_reducible refine RQ ?_);first|omega|(simp only[BB,nS];omega))|decide|(simp[BB,slc,AJ,D.one,Ac,AV.one,nS];done)|(simp[BB,nS];omega))|((with_reducible refine Fg ?_);first|refine Xfu 27 rfl rfl rfl (by first|rfl|simp[AI]) ?_|refine Xfd 26 (.agg [.QO 4,.by [],.b false]) rfl rfl (by first|(simp[Gw,BY,Bg,Af,AI,AX];done)|(repeat'(first|rfl|trivial|refine⟨rfl,rfl,by simp[AX]⟩|refine⟨_,_,rfl,?_,?_⟩|refine⟨_,rfl,?_⟩))) rfl ?_|(refine AZ rfl ?_;refine Fa A7 rfl rfl rfl rfl ?_)|refine Xq A7 rfl rfl rfl rfl ?_ ?_|refine Xn [0,3,4,5,6,7,8,10,11,12,13,14,15,16,73] rfl ?_|refine XF (w3) rfl rfl rfl rfl ?_|refine XF (w4) rfl rfl rfl rfl ?_|refine XF (w5) rfl rfl rfl rfl ?_|refine XF (w6) rfl rfl rfl rfl ?_|refine XF (w7) rfl rfl rfl rfl ?_|refine XF (w8) rfl rfl rfl rfl ?_|refine XF (w9) rfl rfl rfl rfl ?_|refine XF (w10) rfl rfl rfl rfl ?_|refine XF (w11) rfl rfl rfl rfl ?_|refine Pl (w1) rfl rfl rfl rfl (by first|(simp[Gw,BY,Bg,Af,AI,AX];done)|(repeat'(first|rfl|trivial|refine⟨rfl,rfl,by simp[AX]⟩|refine⟨_,_,rfl,?_,?_⟩|refine⟨_,rfl,?_⟩))) ?_|refine Pl (w2) rfl rfl rfl rfl (by first|(simp[Gw,BY,Bg,Af,AI,AX];done)|(repeat'(first|rfl|trivial|refine⟨rfl,rfl,by simp[AX]⟩|refine⟨_,_,rfl,?_,?_⟩|refine⟨_,rfl,?_⟩))) ?_|refine Xa A7 rfl rfl rfl rfl rfl ?_ ?_|refine Xw A7 rfl rfl rfl rfl ?_ ?_|refine Xs rfl rfl rfl ?_|(refine D3 rfl rfl (fun hc=> ?_) (fun hc=> ?_)<;>(fail_if_success (with_reducible first|exact tF hc|exact fT hc))<;>(try simp only[CV]at hc)<;>(try(exfalso;omega))))|refine BD ?_|refine AQ ?_|refine Ao ?_|refine BC ?_|refine AY ?_|refine An ?_|refine AO rfl ?_|refine AN rfl ?_|(refine Aj rfl (fun hc=> ?_) (fun hc=> ?_)<;>(try simp only[CV]at hc)<;>(try(exfalso;omega))))
 exact zE
end Go.Proofs.Ytmlaifbbpdanmaa
