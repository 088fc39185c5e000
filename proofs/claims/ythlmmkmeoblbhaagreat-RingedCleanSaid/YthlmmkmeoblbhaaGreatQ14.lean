/- Part 14 of a proof. Conditions: those that its theorems state. -/
import Derived.Test.YthlmmkmeoblbhaaGreatQ13
import Derived.Shelf.Slices.In.SortNone
set_option linter.unusedSimpArgs false
set_option linter.unusedVariables false
set_option linter.unnecessarySimpa false
set_option maxHeartbeats 40000000
set_option maxRecDepth 4000
namespace Go.Proofs.YthlmmkmeoblbhaaGreat
namespace Nd
open Go.Gar
open Wi (AE BE Ay)
abbrev Jt:BK:=[0,1,4,5,10,14,25]
abbrev MN:BK:=[0,1,2,4,5,10,21]
theorem Fi(n:Int):yA 39 [.yE n] (.b (BE n)):=by
 refine zF AK Tryz.func39 ?_;refine A9 [0,2] ?_;repeat'(apply zB<;>intro hc)
 all_goals(refine⟨_,_,rfl,rfl,?_⟩;simp[D5,BE, *];try omega)
def Ps(l:Ao)(k:Nat):Bool:=BE (l.getD k 0)&&decide (k=0\/l.getD (k-1) 0<l.getD k 0)
def Hk(l:Ao):Bool:=DR l.length (Ps l)
theorem Pt(l:Ao)(hn:l.length<=9223372036854775807):yA 18 [.is l] (.b (Hk l)):=by
 refine zF AK Tryz.func18 ?_;have hT:Hk l=DR l.length (Ps l):=rfl;have c1:=Fi;refine A9 [0,2,3,7,31] ?_;refine BA (fun k=>k<=l.length/\DR k (Ps l)=true) (fun k:Nat=>[(3,.y5 k)]) (fun k=>l.length-k) 0 ⟨yx _,rfl⟩ (fun _=>rfl) ?_ ?_
 .exact A5.ck rfl
 rintro k ⟨hk,hpre⟩
 by_cases hkl:k<l.length
 .obtain⟨x,hx⟩:=AS hkl;have gx:=BQ hx;have c1:=Fi x;have hK:Ps l k=(BE x&&decide (k=0\/l.getD (k-1) 0<x)):=by unfold Ps;rw[gx]
  generalize BE x=ok at*
  by_cases h0:k=0
  .have f6:decide ((k:Int)>0)=false:=yY om;refine AD [0,2,3,7,31] ?_ (B1 gx f6) (AQ @c1);with_reducible repeat' first|constructor|intro hc
   all_goals clear c1
   all_goals first
    |(refine⟨k+1,⟨hkl,Cm hpre (by rw[hK];grind)⟩,om,yV _,?_⟩
      exact A5.ck rfl)
    |(refine⟨_,_,rfl,rfl,?_⟩;simp only[C4];rw[hT,EY hkl (by rw[hK];grind)])
  .have f6:decide ((k:Int)>0)=true:=yX om;have e1:(k:Int)-1=((k-1:Nat):Int):=om
   obtain⟨y,hy⟩:=AS (xs:=l) (k:=k-1) om;have gy:=BQ hy;rw[gy]at hK;refine AD [0,2,3,7,31] ?_ (Hc gx gy f6 e1) (AQ @c1);with_reducible repeat' first|constructor|intro hc
   all_goals clear c1
   all_goals first
    |(refine⟨k+1,⟨hkl,Cm hpre (by rw[hK];grind)⟩,om,yV _,?_⟩
      exact A5.ck rfl)
    |(refine⟨_,_,rfl,rfl,?_⟩;simp only[C4];rw[hT,EY hkl (by rw[hK];grind)])
 .have e:k=l.length:=om
  subst e;rw[hpre]at hT;refine A9 [0,2,3,7,31] ?_;with_reducible repeat' first|constructor|intro hc
  exact BO hT
theorem L5(l:Ao)(x:Int)(hn:l.length<=9223372036854775807):yA 46 [.is l,.yE x] (.b (decide (x∈l))):=by
 refine zF AK Tryz.func46 ?_;refine A9 [0,1,4,5,9,17] ?_;refine BA (fun k=>k<=l.length/\x∉l.take k) (fun k:Nat=>[(5,.y5 k)]) (fun k=>l.length-k) 0 ⟨yx _,sm⟩ (fun _=>rfl) ?_ ?_
 .exact A5.ck rfl
 rintro k ⟨hk,hpre⟩
 by_cases hkl:k<l.length
 .obtain⟨y,hy⟩:=AS hkl;have gy:=BQ hy
  by_cases h:y=x
  .have f1:=B6 h;refine Ae [0,1,4,5,9,17] ?_ (B1 gy f1);with_reducible repeat' first|constructor|intro hc
   refine⟨_,_,rfl,rfl,?_⟩;simp only[C4];rw[yX (h▸zM hy)]
  .have f1:=eq_false' h;have hn:x∉l.take (k+1):=by rw[AM hy,q04,q00];exact fun e=>e.elim hpre fun e=>h e.symm
   refine Ae [0,1,4,5,9,17] ?_ (B1 gy f1);with_reducible repeat' first|constructor|intro hc
   refine⟨k+1,⟨hkl,hn⟩,om,yV _,?_⟩;exact A5.ck rfl
 .have e:k=l.length:=om
  subst e;rw[zU]at hpre;refine A9 [0,1,4,5,9,17] ?_;with_reducible repeat' first|constructor|intro hc
  refine⟨_,_,rfl,rfl,?_⟩;simp only[C4];rw[yY hpre]
theorem pre_eq{a b:Ao}{k:Nat}{x y:Int}(hx:a[k]? =some x)(hy:b[k]? =some y)(hp:a.take k=b.take k):a.take (k+1)=b.take (k+1)↔x=y:=by
 rw[AM hx,AM hy,hp];simp
theorem iu(a b:Ao)(hn:a.length<=9223372036854775807):yA 44 [.is a,.is b] (.b (decide (a=b))):=by
 refine zF AK Tryz.func44 ?_
 by_cases hl:a.length=b.length
 .have f1:((a.length:Int)!=b.length)=false:=BJ om;refine Ae Jt ?_ (AQ f1);refine BA (fun k=>k<=a.length/\a.take k=b.take k) (fun k:Nat=>[(5,.y5 k)]) (fun k=>a.length-k) 0 ⟨yx _,rfl⟩ (fun _=>rfl) ?_ ?_
  .exact A5.ck rfl
  rintro k ⟨hk,hpre⟩
  by_cases hkl:k<a.length
  .obtain⟨x,hx⟩:=AS hkl;obtain⟨y,hy⟩:=AS (xs:=b) (k:=k) om;have gx:=BQ hx;have gy:=BQ hy;have hE:=pre_eq hx hy hpre
   by_cases h:x=y
   .have f2:=BJ h;refine Ae Jt ?_ (DO gx gy f2);with_reducible repeat' first|constructor|intro hc
    refine⟨k+1,⟨hkl,hE.2 h⟩,om,yV _,?_⟩;exact A5.ck rfl
   .have f2:=Bp h;have hN:a≠b:=by intro e;subst e;exact h (by rw[hx]at hy;exact Option.some.inj hy)
    refine Ae Jt ?_ (DO gx gy f2);with_reducible repeat' first|constructor|intro hc
    refine⟨_,_,rfl,rfl,?_⟩;simp only[C4];rw[yY hN]
  .have e:k=a.length:=om
   subst e;rw[zU,hl,zU]at hpre;refine A9 Jt ?_;with_reducible repeat' first|constructor|intro hc
   refine⟨_,_,rfl,rfl,?_⟩;simp only[C4];rw[yX hpre]
 .have f1:((a.length:Int)!=b.length)=true:=Bp om;have hN:a≠b:=fun e=>hl (by rw[e])
  refine Ae Jt ?_ (AQ f1);refine⟨_,_,rfl,rfl,?_⟩;simp only[C4];rw[yY hN]
def GZ(p:Int)(n:A6):Bool:=decide (n.A4.id=p)
def ids(l:List A6):Ao:=l.map fun n=>n.A4.id
theorem Tb(c:BF)(p:Int)(hn:c.nodes.length<=9223372036854775807):yA 45 [c.d,.yE p] (.yE (E3 (GZ p) c.nodes)):=by
 obtain⟨l,gone,A2,grams,lost⟩:=c;replace hn:l.length<=9223372036854775807:=hn;refine zF AK Tryz.func45 ?_;refine A9 MN ?_;refine BA (fun k=>k<=l.length/\(l.take k).any (GZ p)=false) (fun k:Nat=>[(5,.y5 k)]) (fun k=>l.length-k) 0 ⟨yx _,rfl⟩ (fun _=>rfl) ?_ ?_
 .exact A5.ck rfl
 rintro k ⟨hk,hpre⟩
 by_cases hkl:k<l.length
 .obtain⟨x,hx⟩:=AS hkl;have hA:=EB (p:=GZ p) hx;rw[hpre,q0N]at hA;have hE:GZ p x=decide (x.A4.id=p):=rfl
  by_cases h:x.A4.id=p
  .have f1:=B6 h;rw[yX h]at hE;have ix1:=hx;refine Ae MN ?_ (AQ f1);clear ix1;with_reducible repeat' first|constructor|intro hc
   refine⟨_,_,rfl,rfl,?_⟩;simp only[C4];rw[KA hx hE hpre]
  .have f1:=eq_false' h;rw[yY h]at hE;have ix1:=hx;refine Ae MN ?_ (AQ f1);clear ix1;with_reducible repeat' first|constructor|intro hc
   refine⟨k+1,⟨hkl,by rw[hA,hE]⟩,om,yV _,?_⟩;exact A5.ck rfl
 .have e:k=l.length:=om
  subst e;rw[zU]at hpre;refine A9 MN ?_;with_reducible repeat' first|constructor|intro hc
  refine⟨_,_,rfl,rfl,?_⟩;simp only[C4];rw[I0 hpre]
theorem fA(c:BF)(hn:c.nodes.length<=1048576):yA 42 [c.d] (.is (ids c.nodes)):=by
 obtain⟨l,gone,A2,grams,lost⟩:=c;replace hn:l.length<=1048576:=hn;refine zF AK Tryz.func42 ?_;refine A9 [0,1,2,3,4,9] ?_;refine Av (A5.EQ 3 (.is []) rfl rfl rfl trivial) sm ?_;refine CO (fun k=>k<=l.length) (fun k:Nat=>[(3,.sl 1 (ids (l.take k)).length 1),(4,.y5 k)]) (fun k=>[(1,.a (.is (ids (l.take k))))]) (fun k=>l.length-k) 0 (yx _) (fun _=>rfl) (fun _=>rfl) ?_ ?_
 .exact A5.ck rfl
 intro k hk;have htl:(ids (l.take k)).length<=k:=by unfold ids;rw[zY];exact q0Q _ _
 by_cases hkl:k<l.length
 .obtain⟨x,hx⟩:=AS hkl;have hn:ids (l.take (k+1))=ids (l.take k)++[x.A4.id]:=by unfold ids;rw[AM hx];simp
  have ix1:=hx;refine A9 [0,1,2,3,4,9] ?_;clear ix1;with_reducible repeat' first|constructor|intro hc
  refine⟨k+1,hkl,om,yV _,?_⟩;exact(have nC:=hn;A5.cn rfl)
 .have e:k=l.length:=om
  subst e;rw[zU];refine A9 [0,1,2,3,4,9] ?_;with_reducible repeat' first|constructor|intro hc
  exact zE
def By(l:List A6)(p:Int):Bool:=l.any (GZ p)
def Kh(c:BF)(n:A6):Bool:=Ch n&&decide (n.A4.A2=c.A2)
def Ui(c:BF)(k:Nat):Bool:=BE (c.gone.getD k 0)&&(!(By c.nodes (c.gone.getD k 0))&& !(decide (c.gone.getD k 0∈c.gone.take k)))
def Uk(c:BF):Bool:=decide (2<=c.A2.length)&&(decide (c.A2.length<=4)&&(Hk c.A2&&(decide (c.nodes.length<=12)&&(Hk (ids c.nodes)&&(decide (c.gone.length<=1000)&&decide (c.grams.length<=400))))))
def Bs(c:BF):Bool:=Uk c&&(c.nodes.all (Kh c)&&(c.A2.all (By c.nodes)&&DR c.gone.length (Ui c)))
structure Ve (c:BF):Prop where
 nl:c.nodes.length<=1048576
 nn:∀n∈c.nodes,P1 n
 gl:c.gone.length<=1048576
 bl:c.A2.length<=1048576
 ll:c.grams.length<=1048576
abbrev Kr:B5:=⟨0,0,⟨0,0,0,false,false,0⟩,AN,0,[],0⟩
abbrev D2:A6:=⟨zeroV,0,⟨0,0,[]⟩,[],0,0,Kr,Kr,Kr,0,[],[],0⟩
def nodeAt(l:List A6)(p:Int):A6:=match l.find? (GZ p)with
 |some n=>n
 |none=>D2
variable {l:List A6}{p:Int}
theorem gR{k:Nat}{x:A6}(hx:l[k]? =some x)(h:GZ p x=true)(hn:(l.take k).any (GZ p)=false):nodeAt l p=x:=by
 have e:l=l.take k++x::l.drop (k+1):=by
  have hk:=(yZ.1 hx).1;have hv:=(yZ.1 hx).2;rw[<-hv,<-q0V hk,q0J]
 unfold nodeAt;rw[e,List.find?_append]
 have:(l.take k).find? (GZ p)=none:=by
  rw[q0r];intro y hy;rw[q0O]at hn;simpa using hn y hy
 rw[this];simp[List.find?_cons,h]
theorem Ul(h:By l p=true):∃(k:Nat)(x:A6),E3 (GZ p) l=k/\l[k]? =some x/\GZ p x=true/\nodeAt l p=x:=by
 obtain⟨x,hx,hp⟩:=q1E.1 h
 cases hf:l.findIdx? (GZ p)with
 |none=>rw[List.findIdx?_eq_none_iff]at hf;rw[hf x hx]at hp;cases hp
 |some k=>
  obtain⟨hk,h1,h2⟩:=List.findIdx?_eq_some_iff_getElem.1 hf;refine⟨k,l[k],by unfold E3;rw[hf],yj hk,h1,gR (yj hk) h1 ?_⟩;rw[q0O];intro y hy;obtain⟨j,hj⟩:=q0e.1 hy;rw[q0T]at hj;split at hj
  .rename_i hjk;obtain⟨hj1,hj2⟩:=yZ.1 hj;rw[<-hj2];simpa using h2 j hjk
  .cases hj
theorem fy(h:By l p=false):E3 (GZ p) l= -1/\nodeAt l p=D2:=by
 refine⟨I0 h,?_⟩;unfold nodeAt
 have:l.find? (GZ p)=none:=by
  rw[q0r];intro y hy;have:=q0O.1 h y hy;simpa using this
 rw[this]
end Nd
end Go.Proofs.YthlmmkmeoblbhaaGreat
namespace Go.Proofs.YthlmmkmeoblbhaaGreat
namespace Nd
open Go.Gar
open Wi (AE BE Ay Ac)
theorem oE(lost:Int):yA 38 [.agg [.sl 3 [],.yE lost]] (.agg [.sl 3 [],.yE lost]):=by
 refine zF AK Tryz.func38 ?_;have un:No 1:=trivial;refine A9 [0,1,2,3,4,9] ?_;clear un;with_reducible repeat' first|constructor|intro hc
 exact zE
theorem nw(nodes:List A6)(gone A2:Ao)(lost:Int)(h:Ve ⟨nodes,gone,A2,[],lost⟩):yB 17 [.d (BF.d ⟨nodes,gone,A2,[],lost⟩)] [] (.ag [.sl 2 nodes.length 76,.yD gone,.yD A2,.d (.sl 3 []),.y5 lost]) [.gone,.c [.sl 2 nodes.length 76,.yD gone,.yD A2,.d (.sl 3 []),.y5 lost],.a (A7 nodes)]:=by
 have c1:=oE lost;obtain⟨hnl,hnn,hgl,hbl,-⟩:=h;simp only at *;refine zD AK Tryz.func17 ?_;unfold BF.d BF.A1;simp only;refine A9 [0,1,2,3,4,11] ?_;with_reducible repeat' first|constructor|intro hc
 refine Av (A5.PN 0 0 (.sl 76 []) rfl rfl rfl rfl (by simp[Aq])) sm ?_;refine CO (fun k=>k<=nodes.length) (fun k:Nat=>[(4,.y5 k)]) (fun k=>[(0,.c [.sl 2 (nodes.take k).length 76,.yD gone,.yD A2,.d (.sl 3 []),.y5 lost]),(2,.a (A7 (nodes.take k)))]) (fun k=>nodes.length-k) 0 (yx _) (fun _=>rfl) (fun _=>rfl) ?_ ?_
 .exact A5.ck rfl
 intro k hk;have htl:(nodes.take k).length<=k:=q0Q _ _
 by_cases hkl:k<nodes.length
 .obtain⟨x,hx⟩:=AS hkl;have c2:=EJ x (hnn x (zM hx));have hn:=AM hx;unfold A6.d A6.A1 AB.A1 Calls.A1 B5.A1 at c2;simp only[zA,zK]at c2;have ix1:=hx;refine AP [0,1,2,3,4,11] ?_ (AQ @c2) [(0,6),(1,6),(0,7),(1,7)];clear ix1;with_reducible repeat' first|constructor|intro hc
  refine⟨k+1,hkl,om,yV _,?_⟩;exact A5.cut rfl (by repeat'(first|exact zi|refine yg (by(first|rfl|((with_reducible_and_instances refine congrArg (fun z=>some (AV.d (D.i _ z))) ?_);omega)|(refine congrArg (fun z=>some (AV.d (D.i _ z))) (?_:(_:Int)=_);omega)|(refine congrArg some ?_;simp only[hn,A7,zS,zV,zh,A6.A1,AB.A1,Calls.A1,B5.A1,zA,zK,yw,yu,zI,zY];done)|(refine congrArg some ?_;simp[hn,A7,zS,zV,zh,A6.A1,AB.A1,Calls.A1,B5.A1,zA,zK,yw,yu,zI,zY];done))) ?_)) (by repeat'(first|exact zi|refine yg (q0D rfl) ?_|refine yg (q0w ⟨rfl,rfl⟩) ?_|refine yg (q0D (by simp only[hn,A7,zS,zV,zh,A6.A1,AB.A1,Calls.A1,B5.A1,zA,zK,yw,yu,zI,zY])) ?_|refine yg (q0D (by simp[hn,A7,zS,zV,zh,A6.A1,AB.A1,Calls.A1,B5.A1,zA,zK,yw,yu,zI,zY])) ?_)) (by first|rfl|(simp(decide:=true) [Ai,AF.ok,AV.oks,AV.ok,hk];done)) rfl
 .have e:k=nodes.length:=om
  subst e;rw[zU];refine AP [0,1,2,3,4,11] ?_ (AQ @c1);with_reducible repeat' first|constructor|intro hc
  exact wE
theorem Z6(nodes:List A6)(gone A2:Ao)(lost:Int)(h:Ve ⟨nodes,gone,A2,[],lost⟩):yB 17 [.d (BF.d ⟨nodes,gone,A2,[],lost⟩)] [] (.ag [.sl 2 nodes.length 76,.yD gone,.yD A2,.d (.sl 3 []),.y5 lost]) [.gone,.gone,.a (A7 nodes)]:=
 Bw.drop [.gone,.gone,.a (A7 nodes)] (nw nodes gone A2 lost h) ⟨.inl ⟨rfl,rfl⟩,.inl ⟨rfl,rfl⟩,.inr rfl,trivial⟩ rfl rfl rfl
theorem MB(nodes:List A6)(gone A2:Ao)(lost:Int)(h:Ve ⟨nodes,gone,A2,[],lost⟩):yA 17 [BF.d ⟨nodes,gone,A2,[],lost⟩] (BF.d ⟨nodes,gone,A2,[],lost⟩):=
 GE (Z6 nodes gone A2 lost h) (by simp[D5,Ea,BF.d,BF.A1,B3,Aq,A6.A1])
abbrev FG:BK:=[0,1,2,3,4,5,46,51,73,78,88,93,124]
theorem Ro{α:Type}{p:α->Bool}{l:List α}{k:Nat}{x:α}(hx:l[k]? =some x)(h:p x=false):l.all p=false:=by
 rw[List.all_eq_false];exact⟨x,zM hx,by rw[h];decide⟩
theorem Nm{α:Type}{p:α->Bool}{l:List α}{k:Nat}{x:α}(hx:l[k]? =some x)(hp:(l.take k).all p=true)(h:p x=true):(l.take (k+1)).all p=true:=by
 rw[AM hx,List.all_append,hp];simp[h]
theorem Y9(l:List A6)(p:Int):decide (E3 (GZ p) l<0)= !(By l p):=by
 have:=GM (GZ p) l;unfold By;rw[<-this]
 by_cases h:E3 (GZ p) l>=0
 .rw[yX h,yY om];rfl
 .rw[yY h,yX om];rfl
theorem TS(c:BF)(h:Ve c):yA 20 [c.d] (.b (Bs c)):=by
 have cp:=fA c h.nl;have cr:=Pt (ids c.nodes) (by unfold ids;rw[zY];have:=h.nl;omega);have cb:=Pt c.A2 (by have:=h.bl;omega);have cf:=fun p=>Tb c p (by have:=h.nl;omega)
 obtain⟨nodes,gone,A2,grams,lost⟩:=c;obtain⟨hnl,hnn,hgl,hbl,hll⟩:=h;simp only at *;refine zF AK Tryz.func20 ?_;unfold BF.d BF.A1 at *;simp only at *;have hH:Uk ⟨nodes,gone,A2,grams,lost⟩=(decide (2<=A2.length)&&(decide (A2.length<=4)&&(Hk A2&&(decide (nodes.length<=12)&&(Hk (ids nodes)&&(decide (gone.length<=1000)&&decide (grams.length<=400))))))):=rfl
 cases hh:Uk ⟨nodes,gone,A2,grams,lost⟩with
 |false=>
  have hT:Bs ⟨nodes,gone,A2,grams,lost⟩=false:=by unfold Bs;rw[hh];rfl
  rw[hh]at hH;rw[hT];clear hT hh cf hnn;generalize Hk A2=r1 at *;generalize Hk (ids nodes)=r2 at *;refine AP FG ?_ (DO @cb @cp @cr);repeat'(apply zB<;>intro hc)
  all_goals first
   |(refine⟨_,_,rfl,rfl,?_⟩;simp only[C4];done)
   |(exfalso;clear cb cp cr;grind)
 |true=>
 have hT:Bs ⟨nodes,gone,A2,grams,lost⟩=(nodes.all (Kh ⟨nodes,gone,A2,grams,lost⟩)&&(A2.all (By nodes)&&DR gone.length (Ui ⟨nodes,gone,A2,grams,lost⟩))):=by unfold Bs;rw[hh];rfl
 rw[hh]at hH;replace hH:=hH.symm;simp only[yU,yc]at hH;obtain⟨h1,h2,h3,h4,h5,h6,h7⟩:=hH;rw[h3]at cb;rw[h5]at cr;have f1:decide ((A2.length:Int)<2)=false:=yY om;have f2:decide ((A2.length:Int)>4)=false:=yY om;have f3:decide ((nodes.length:Int)>12)=false:=yY om;have f4:decide ((gone.length:Int)>1000)=false:=yY om;have f5:decide ((grams.length:Int)>400)=false:=yY om;clear hh;refine AD FG ?_ (Ll f1 f2 f3 f4 f5) (DO @cb @cp @cr);refine BA (fun k=>k<=nodes.length/\(nodes.take k).all (Kh ⟨nodes,gone,A2,grams,lost⟩)=true) (fun k:Nat=>[(3,.y5 k)]) (fun k=>nodes.length-k) 0 ⟨yx _,rfl⟩ (fun _=>rfl) ?_ ?_
 .exact A5.ck rfl
 rintro k ⟨hk,hpre⟩
 by_cases hkl:k<nodes.length
 .obtain⟨x,hx⟩:=AS hkl;have hxo:=hnn x (zM hx);have c1:=VQ x hxo;have c2:=iu x.A4.A2 A2 (by have:=hxo.vb;omega);have hK:Kh ⟨nodes,gone,A2,grams,lost⟩ x=(Ch x&&decide (x.A4.A2=A2)):=rfl;generalize Ch x=ok at *;generalize decide (x.A4.A2=A2)=eq at *;have ix1:=hx;refine AP FG ?_ (B1 @c1 @c2);clear ix1;with_reducible repeat' first|constructor|intro hc
  all_goals clear c1 c2 cb cp cr cf hnn
  all_goals first
   |(refine⟨k+1,⟨hkl,Nm hx hpre (by rw[hK];grind)⟩,om,yV _,?_⟩
     exact A5.ck rfl)
   |(refine⟨_,_,rfl,rfl,?_⟩;simp only[C4];rw[hT,Ro hx (by rw[hK];grind)];rfl)
 have e:k=nodes.length:=om
 subst e;rw[zU]at hpre;rw[hpre,zy]at hT;refine A9 FG ?_;with_reducible repeat' first|constructor|intro hc
 refine BA (fun k=>k<=A2.length/\(A2.take k).all (By nodes)=true) (fun k:Nat=>[(4,.y5 k)]) (fun k=>A2.length-k) 0 ⟨yx _,rfl⟩ (fun _=>rfl) ?_ ?_
 .exact A5.ck rfl
 rintro k ⟨hk,hpre⟩
 by_cases hkl:k<A2.length
 .obtain⟨x,hx⟩:=AS hkl;have gx:=BQ hx;have c1:=cf x;have f6:=Y9 nodes x;generalize E3 (GZ x) nodes=z at*
  cases hb:By nodes x with
  |true=>
   rw[hb]at f6;refine AD FG ?_ (B1 gx f6) (AQ @c1);with_reducible repeat' first|constructor|intro hc
   refine⟨k+1,⟨hkl,Nm hx hpre hb⟩,om,yV _,?_⟩;exact A5.ck rfl
  |false=>
   rw[hb]at f6;refine AD FG ?_ (B1 gx f6) (AQ @c1);with_reducible repeat' first|constructor|intro hc
   refine⟨_,_,rfl,rfl,?_⟩;simp only[C4];rw[hT,Ro hx hb];rfl
 have e:k=A2.length:=om
 subst e;rw[zU]at hpre;rw[hpre,zy]at hT;refine A9 FG ?_;with_reducible repeat' first|constructor|intro hc
 refine BA (fun k=>k<=gone.length/\DR k (Ui ⟨nodes,gone,A2,grams,lost⟩)=true) (fun k:Nat=>[(5,.y5 k)]) (fun k=>gone.length-k) 0 ⟨yx _,rfl⟩ (fun _=>rfl) ?_ ?_
 .exact A5.ck rfl
 rintro k ⟨hk,hpre⟩
 by_cases hkl:k<gone.length
 .obtain⟨x,hx⟩:=AS hkl;have gx:=BQ hx;have c1:=Fi x;have c2:=cf x;have c3:=L5 (gone.take k) x (by rw[q09];omega);have f6:decide (E3 (GZ x) nodes>=0)=By nodes x:=GM (GZ x) nodes
  have hK:Ui ⟨nodes,gone,A2,grams,lost⟩ k=(BE x&&(!(By nodes x)&& !(decide (x∈gone.take k)))):=by
   show(BE (gone.getD k 0)&&(!(By nodes (gone.getD k 0))&& !(decide (gone.getD k 0∈gone.take k))))=_;rw[gx]
  generalize E3 (GZ x) nodes=z at *;generalize BE x=p1 at *;generalize By nodes x=p2 at *;generalize decide (x∈gone.take k)=p3 at *;refine AD FG ?_ (B1 gx f6) (DO @c1 @c2 @c3);with_reducible repeat' first|constructor|intro hc
  all_goals clear c1 c2 c3 cb cp cr cf hnn
  all_goals first
   |(refine⟨k+1,⟨hkl,Cm hpre (by rw[hK];grind)⟩,om,yV _,?_⟩
     exact A5.ck rfl)
   |(refine⟨_,_,rfl,rfl,?_⟩;simp only[C4];rw[hT,EY hkl (by rw[hK];grind)])
 have e:k=gone.length:=om
 subst e;rw[hpre]at hT;refine A9 FG ?_;with_reducible repeat' first|constructor|intro hc
 exact BO hT
abbrev U5:BK:=[0,1,4,5,6,7,8,9,26]
def newC(id:Int):Calls×Int:=if Bc ⟨id,0,[]⟩then(⟨id,0,[]⟩,0)else(⟨0,0,[]⟩,2)
theorem oF(id:Int):yA 41 [.yE id] (.tup [(newC id).1.d,.yE (newC id).2]):=by
 have c1:=I8 ⟨id,0,[]⟩ (fun x hx=>by cases hx) (yx _);unfold newC;unfold Calls.d Calls.A1 at *;simp only at *;refine zF AK Tryz.func41 ?_
 cases h:Bc ⟨id,0,[]⟩with
 |true=>
  rw[h]at c1;have z1:=@c1;refine A9 [0,2,3,4,9] ?_;clear z1;with_reducible repeat' first|constructor|intro hc
  exact zE
 |false=>
  rw[h]at c1;have z1:=@c1;refine A9 [0,2,3,4,9] ?_;clear z1;with_reducible repeat' first|constructor|intro hc
  exact zE
def I3(id:Int)(A2:Ao):A6×Int:=if(newT id A2).2=0/\(newC id).2=0 then(⟨(newT id A2).1,0,(newC id).1,[],0,0,Kr,Kr,Kr,0,[],[],0⟩,0)else(D2,2)
theorem V3(id:Int)(A2:Ao)(hb:A2.length<=1000):(newT id A2).1.A2.length<=1000:=by
 unfold newT;split
 .exact hb
 .exact yx _
theorem V4(id:Int)(A2:Ao):(newT id A2).1.A8=[]:=by
 unfold newT;split<;>rfl
theorem dy(id:Int)(A2:Ao)(h:i64 id):i64 (newT id A2).1.id:=by
 unfold newT;split
 .exact h
 .show i64 0;unfold i64;omega
theorem dv(id:Int):(newC id).1.op=[]:=by
 unfold newC;split<;>rfl
theorem pC:P1 D2:=by
 constructor<;>first|(intro x hx;cases hx)|decide|(show i64 0;unfold i64;omega)
theorem Ti(id:Int)(A2:Ao)(hid:i64 id)(hb:A2.length<=1000):yA 19 [.yE id,.is A2] (.tup [(I3 id A2).1.d,.yE (I3 id A2).2]):=by
 have c1:=rz id A2 hid hb;have c2:=oF id;have e1:=V3 id A2 hb;have e2:=V4 id A2;have e3:=dy id A2 hid;have e4:=dv id;have hN:I3 id A2=if(newT id A2).2=0/\(newC id).2=0 then(⟨(newT id A2).1,0,(newC id).1,[],0,0,Kr,Kr,Kr,0,[],[],0⟩,0)else(D2,2):=rfl
 generalize I3 id A2=R at *;generalize newT id A2=nt at *;generalize newC id=nc at *;obtain⟨⟨vi,vb,vl,vp,vf⟩,ve⟩:=nt;obtain⟨⟨ci,cm,co⟩,ce⟩:=nc;simp only at *;subst e2;subst e4
 have hO:P1 ⟨⟨vi,vb,[],vp,vf⟩,0,⟨ci,cm,[]⟩,[],0,0,Kr,Kr,Kr,0,[],[],0⟩:=by
  constructor<;>first|exact e3|exact e1|(intro x hx;cases hx)|(show([]:Ao).length<=_;decide)|(simp only;exact yx _)|exact yx _
 have c3:=EJ _ hO;unfold A6.d A6.A1 AB.d AB.A1 Calls.d Calls.A1 B5.A1 at *;simp only[zA,zK]at c1 c2 c3;refine zF AK Tryz.func19 ?_
 by_cases hv:ve=0
 case neg=>
  rw[zO (fun h=>hv h.1)]at hN;subst hN;have z1:=@c2;refine AP U5 ?_ (AQ @c1);clear z1;with_reducible repeat' first|constructor|intro hc
  all_goals first
   |(exfalso;omega)
   |(refine⟨_,_,rfl,rfl,?_⟩;simp[E5,B3,B8,Aq,D2,zeroV,AN,AB.A1,Calls.A1,B5.A1])
 by_cases hc:ce=0
 case neg=>
  rw[zO (fun h=>hc h.2)]at hN;subst hN;subst hv;have z1:=@c2;refine AP U5 ?_ (AQ @c1);clear z1;with_reducible repeat' first|constructor|intro hc
  all_goals first
   |(exfalso;omega)
   |(refine⟨_,_,rfl,rfl,?_⟩;simp[E5,B3,B8,Aq,D2,zeroV,AN,AB.A1,Calls.A1,B5.A1])
 rw[zN ⟨hv,hc⟩]at hN;subst hN;subst hv;subst hc;have z1:=@c2;have z2:=@c3;refine AP U5 ?_ (AQ @c1);clear z2 z1;with_reducible repeat' first|constructor|intro hc
 exact zE
abbrev Lh:BK:=[0,1,2,4,5,6,8,9,10,31,55]
def K5(p:Int)(n:A6):Bool:=decide (n.A4.id<p)
def YB(c:BF)(p:Int):Bool:=BE p&&(!(By c.nodes p)&&(!(decide (p∈c.gone))&&decide (c.nodes.length<12)))
def Iy(c:BF)(p:Int):BF×Int:=if YB c p then(⟨c.nodes.takeWhile (K5 p)++[(I3 p c.A2).1]++c.nodes.dropWhile (K5 p),c.gone,c.A2,c.grams,c.lost⟩,0)else(c,2)
theorem X5{α:Type}{q:α->Bool}:∀{l:List α}{k:Nat},(l.take k).all q=true->(∀x,l[k]? =some x->q x=false)->l.takeWhile q=l.take k/\l.dropWhile q=l.drop k
 |[],k,_,_=>by cases k<;>exact⟨rfl,rfl⟩
 |a::r,0,_,h=>by
  have:=h a rfl;simp[List.takeWhile_cons,List.dropWhile_cons,this]
 |a::r,k+1,h1,h2=>by
  simp only[List.take_succ_cons,q0j,yU]at h1;have:=X5 h1.2 (fun x hx=>h2 x (by simpa using hx));simp[List.takeWhile_cons,List.dropWhile_cons,h1.1,this.1,this.2]
theorem oM(c:BF)(p:Int)(h:Ve c)(hp:i64 p)(hb:c.A2.length<=1000):yA 49 [c.d,.yE p] (.tup [(Iy c p).1.d,.yE (Iy c p).2]):=by
 have hnl:=h.nl;have c1:=Fi p;have c2:=Tb c p om;have c3:=L5 c.gone p (by have:=h.gl;omega);have hge:decide (E3 (GZ p) c.nodes>=0)=By c.nodes p:=GM (GZ p) c.nodes;have hT:Iy c p=if YB c p then(⟨c.nodes.takeWhile (K5 p)++[(I3 p c.A2).1]++c.nodes.dropWhile (K5 p),c.gone,c.A2,c.grams,c.lost⟩,0)else(c,2):=rfl
 have hJ:YB c p=(BE p&&(!(By c.nodes p)&&(!(decide (p∈c.gone))&&decide (c.nodes.length<12)))):=rfl;generalize Iy c p=R at *;obtain⟨nodes,gone,A2,grams,lost⟩:=c;simp only at *;refine zF AK Tryz.func49 ?_
 cases hq:YB ⟨nodes,gone,A2,grams,lost⟩ p with
 |false=>
  rw[hq]at hT hJ;replace hT:R=(⟨nodes,gone,A2,grams,lost⟩,2):=hT;subst hT;clear h;generalize E3 (GZ p) nodes=z at *;generalize By nodes p=b1 at *;generalize BE p=b2 at *;generalize decide (p∈gone)=b3 at *;unfold BF.d BF.A1 at *;simp only at *;refine AD Lh ?_ (AQ hge) (DO @c1 @c2 @c3);with_reducible repeat' first|constructor|intro hc
  all_goals first
   |(exfalso;clear c1 c2 c3 hge;grind)
   |(refine⟨_,_,rfl,rfl,?_⟩;simp[E5,B3,B8,Aq,BF.d,BF.A1])
 |true=>
 rw[hq]at hT hJ;replace hJ:=hJ.symm;simp only[yU,q0H,yc]at hJ;obtain⟨h1,h2,h3,h4⟩:=hJ;replace hT:R=(⟨nodes.takeWhile (K5 p)++[(I3 p A2).1]++nodes.dropWhile (K5 p),gone,A2,grams,lost⟩,0):=hT;subst hT;rw[h1]at c1;rw[h2]at hge;rw[h3]at c3;clear h;have c4:=Ti p A2 hp hb;have f1:decide ((nodes.length:Int)>=12)=false:=yY om;generalize I3 p A2=nn at *;obtain⟨n,e⟩:=nn;generalize E3 (GZ p) nodes=z at *;unfold A6.d at c4;have hnc:n.A1.length=76:=rfl;unfold BF.d BF.A1 at *;simp only at *;unfold A6.A1 AB.A1 Calls.A1 B5.A1 at c4;simp only[zA,zK]at c4;refine AD Lh ?_ (B1 hge f1) (Hc @c1 @c2 @c3 @c4);with_reducible repeat' first|constructor|intro hc
 refine Av (A5.EQ 8 (.sl 76 []) rfl rfl rfl (by simp[Aq])) sm ?_;refine CO (fun k=>k<=nodes.length/\(nodes.take k).all (K5 p)=true) (fun k:Nat=>[(8,.sl 3 (nodes.take k).length 76),(9,.y5 k)]) (fun k=>[(3,.a (A7 (nodes.take k)))]) (fun k=>nodes.length-k) 0 ⟨yx _,rfl⟩ (fun _=>rfl) (fun _=>rfl) ?_ ?_
 .exact A5.ck rfl
 rintro k ⟨hk,hpre⟩;have htl:(nodes.take k).length=k:=by rw[q09];omega
 by_cases hkl:k<nodes.length
 .obtain⟨x,hx⟩:=AS hkl
  by_cases hb:x.A4.id<p
  .have f2:decide (x.A4.id<p)=true:=yX hb;have hn:=AM hx;have ix1:=hx;refine Ae Lh ?_ (AQ f2);clear ix1;with_reducible repeat' first|constructor|intro hc
   refine⟨k+1,⟨hkl,Nm hx hpre f2⟩,om,yV _,?_⟩;exact A5.cut rfl (by repeat'(first|exact zi|refine yg (by(first|rfl|((with_reducible_and_instances refine congrArg (fun z=>some (AV.d (D.i _ z))) ?_);omega)|(refine congrArg (fun z=>some (AV.d (D.i _ z))) (?_:(_:Int)=_);omega)|(refine congrArg some ?_;simp only[hn,A7,zS,zV,zh,A6.A1,AB.A1,Calls.A1,B5.A1,zA,zK,yw,yu,zI,zY];done)|(refine congrArg some ?_;simp[hn,A7,zS,zV,zh,A6.A1,AB.A1,Calls.A1,B5.A1,zA,zK,yw,yu,zI,zY];done))) ?_)) (by repeat'(first|exact zi|refine yg (q0D rfl) ?_|refine yg (q0w ⟨rfl,rfl⟩) ?_|refine yg (q0D (by simp only[hn,A7,zS,zV,zh,A6.A1,AB.A1,Calls.A1,B5.A1,zA,zK,yw,yu,zI,zY])) ?_|refine yg (q0D (by simp[hn,A7,zS,zV,zh,A6.A1,AB.A1,Calls.A1,B5.A1,zA,zK,yw,yu,zI,zY])) ?_)) (by first|rfl|(simp(decide:=true) [Ai,AF.ok,AV.oks,AV.ok,hk];done)) rfl
  .have f2:decide (x.A4.id<p)=false:=yY hb;obtain⟨e1,e2⟩:=X5 hpre (fun y hy=>by rw[hx]at hy;cases hy;exact f2);rw[e1,e2];have ix1:=hx;refine Ae Lh ?_ (AQ f2);clear ix1;with_reducible repeat' first|constructor|intro hc
   refine⟨_,_,rfl,rfl,?_⟩;simp[E5,B3,B8,Aq,BF.d,BF.A1,JH,A7,htl,zS,zV,zh,A6.A1,AB.A1,Calls.A1,B5.A1,zA,zK,yw,yu,zI,zY,q09,q15,List.map_take,List.map_drop]
 .have e:k=nodes.length:=om
  obtain⟨e1,e2⟩:=X5 hpre (fun y hy=>by have:=(yZ.1 hy).1;omega);rw[e1,e2];refine A9 Lh ?_;with_reducible repeat' first|constructor|intro hc
  refine⟨_,_,rfl,rfl,?_⟩;simp[E5,B3,B8,Aq,BF.d,BF.A1,JH,A7,htl,zS,zV,zh,A6.A1,AB.A1,Calls.A1,B5.A1,zA,zK,yw,yu,zI,zY,q09,q15,List.map_take,List.map_drop]
theorem sB(c:BF)(p b k v r:Int)(ky bt:AT)(g:Bool)(h:Ve c)(hp:i64 p)(hb:c.A2.length<=1000):yA 21 [c.d,.agg [.i .u8 7,.yE p,.yE b,.yE k,.by bt,.s ky,.yE v,.yE r,.b g]] (.tup [(Iy c p).1.d,.yE (Iy c p).2]):=by
 have c1:=oM c p h hp hb;generalize Iy c p=R at *;obtain⟨⟨n1,g1,b1,l1,o1⟩,e⟩:=R;obtain⟨nodes,gone,A2,grams,lost⟩:=c;unfold BF.d BF.A1 at *;simp only at *;refine zF AK Tryz.func21 ?_;refine AP [0,1,2,3,4,5,6,8,9,18,26,34,42] ?_ (AQ @c1);with_reducible repeat' first|constructor|intro hc
 exact zE
theorem rp(c:BF)(p b k v r:Int)(ky bt:AT)(g:Bool)(h:Ve c)(hg:c.grams=[])(hp:i64 p)(hb:c.A2.length<=1000)(hR:Bs c=true):yA 15 [c.d,.agg [.i .u8 7,.yE p,.yE b,.yE k,.by bt,.s ky,.yE v,.yE r,.b g]] (.tup [(Iy c p).1.d,.yE (Iy c p).2]):=by
 have c1:=sB c p b k v r ky bt g h hp hb;have c2:=TS c h;rw[hR]at c2;generalize Iy c p=R at *;obtain⟨⟨n1,g1,b1,l1,o1⟩,e⟩:=R;obtain⟨nodes,gone,A2,grams,lost⟩:=c;replace hg:grams=[]:=hg;subst hg;have c3:=MB nodes gone A2 lost h;unfold BF.d BF.A1 at *;simp only at *;refine zF AK Tryz.func15 ?_;refine AP [0,1,2,3,4,5,10] ?_ (DO @c1 @c2 @c3);with_reducible repeat' first|constructor|intro hc
 exact zE
abbrev IC:BK:=[0,2,3,4,12,13,14,15,16,35]
abbrev Gz:BK:=[0,1,3,4,5,6,8,9,10,17]
abbrev MO:BK:=[0,1,3,5,6,7,15]
theorem QL(n:Int):yA 92 [.yE n] (.b (BE n)):=by
 refine zF AK Tryz.func92 ?_;refine A9 [0,2] ?_;repeat'(apply zB<;>intro hc)
 all_goals(refine⟨_,_,rfl,rfl,?_⟩;simp[D5,BE, *];try omega)
theorem UH(l:Ao)(hn:l.length<=9223372036854775807):yA 52 [.is l] (.b (decide (2<=l.length)&&(decide (l.length<=4)&&Hk l))):=by
 refine zF AK Tryz.func52 ?_
 by_cases h2:l.length<2
 .have f1:decide ((l.length:Int)<2)=true:=yX om;rw[yY (show ¬2<=l.length by omega),q0Z];refine Ae IC ?_ (AQ f1);exact zE
 have f1:decide ((l.length:Int)<2)=false:=yY om
 by_cases h4:l.length>4
 .have f2:decide ((l.length:Int)>4)=true:=yX om;rw[yY (show ¬l.length<=4 by omega),q0Z,q0W];refine Ae IC ?_ (B1 f1 f2);exact zE
 have f2:decide ((l.length:Int)>4)=false:=yY om;rw[yX (show 2<=l.length by omega),yX (show l.length<=4 by omega),zy,zy];have hT:Hk l=DR l.length (Ps l):=rfl;refine Ae IC ?_ (B1 f1 f2);refine BA (fun k=>k<=l.length/\DR k (Ps l)=true) (fun k:Nat=>[(15,.y5 k)]) (fun k=>l.length-k) 0 ⟨yx _,rfl⟩ (fun _=>rfl) ?_ ?_
 .exact A5.ck rfl
 rintro k ⟨hk,hpre⟩
 by_cases hkl:k<l.length
 .obtain⟨x,hx⟩:=AS hkl;have gx:=BQ hx;have c1:=QL x;have hK:Ps l k=(BE x&&decide (k=0\/l.getD (k-1) 0<x)):=by unfold Ps;rw[gx]
  generalize BE x=ok at*
  by_cases h0:k=0
  .have f6:decide ((k:Int)>0)=false:=yY om;refine AD IC ?_ (B1 gx f6) (AQ @c1);with_reducible repeat' first|constructor|intro hc
   all_goals clear c1
   all_goals first
    |(refine⟨k+1,⟨hkl,Cm hpre (by rw[hK];grind)⟩,om,yV _,?_⟩
      exact A5.ck rfl)
    |(refine⟨_,_,rfl,rfl,?_⟩;simp only[C4];rw[hT,EY hkl (by rw[hK];grind)])
  .have f6:decide ((k:Int)>0)=true:=yX om;have e1:(k:Int)-1=((k-1:Nat):Int):=om
   obtain⟨y,hy⟩:=AS (xs:=l) (k:=k-1) om;have gy:=BQ hy;rw[gy]at hK;refine AD IC ?_ (Hc gx gy f6 e1) (AQ @c1);with_reducible repeat' first|constructor|intro hc
   all_goals clear c1
   all_goals first
    |(refine⟨k+1,⟨hkl,Cm hpre (by rw[hK];grind)⟩,om,yV _,?_⟩
      exact A5.ck rfl)
    |(refine⟨_,_,rfl,rfl,?_⟩;simp only[C4];rw[hT,EY hkl (by rw[hK];grind)])
 .have e:k=l.length:=om
  subst e;rw[hpre]at hT;refine A9 IC ?_;with_reducible repeat' first|constructor|intro hc
  exact BO hT
theorem Xg(l:List A6):yB 53 [.d (A7 l)] [] (.fn (.func 93) [] [.ptr 0 0 1]) [.c [.d (A7 l)]]:=by
 refine zD AK Tryz.func53 ?_;refine A9 [0,1,2] ?_;exact wE
theorem Xz(l:List A6)(p:Int)(hn:l.length<=9223372036854775807):yA 56 [A7 l,.yE p] (.yE (E3 (GZ p) l)):=by
 refine zF AK Tryz.func56 ?_;refine Cd Gz ?_ (E8 [] (Xg l))
 refine zG (K:=fun r _ H'=>(l.any (GZ p)=false/\H'=[.c [.y5 p],.c [.y5 0],.c [.d (A7 l)],.lp r])\/
  (∃k:Nat,E3 (GZ p) l=k/\H'=[.c [.y5 p],.c [.y5 k],.c [.d (A7 l)],.lp (r.left .ret)])) ?_ ?_
 .intro r hr;refine zT AK Tryz.func93 ?_;refine A9 MO ?_;have hk:=hr.ok (k:=3) rfl;refine BA (fun k=>k<=l.length/\(l.take k).any (GZ p)=false) (fun k:Nat=>[(6,.y5 k)]) (fun k=>l.length-k) 0 ⟨yx _,rfl⟩ (fun _=>rfl) ?_ ?_
  .exact A5.ck rfl
  rintro k ⟨hkk,hpre⟩
  by_cases hkl:k<l.length
  .obtain⟨x,hx⟩:=AS hkl;have hA:=EB (p:=GZ p) hx;rw[hpre,q0N]at hA;have hE:GZ p x=decide (x.A4.id=p):=rfl
   by_cases h:x.A4.id=p
   .have f1:=B6 h;rw[yX h]at hE
    have hY:YT Tryz.prog 3 [.y5 k,.dp x.A1] [.c [.y5 p],.c [.y5 0],.c [.d (A7 l)],.lp r] fun v K=>v= .y7 false/\K=[.c [.y5 p],.c [.y5 k],.c [.d (A7 l)],.lp (r.left .ret)]:=by
     refine CE hr rfl rfl rfl ?_;refine A9 Gz ?_;refine zR ?_;refine Ae Gz ?_ (AQ f1);exact⟨⟨[],[.c [.y5 p],.c [.y5 k],.c [.d (A7 l)],.lp r.busy],_⟩,(A5.ck rfl),yV _,rfl,rfl,rfl⟩
    have ix1:=hx;have q1:=@hY;refine A9 MO ?_;clear q1 ix1;with_reducible repeat' first|constructor|intro hc
    exact⟨⟨[],[.c [.y5 p],.c [.y5 k],.c [.d (A7 l)],.lp (r.left .ret)],_⟩,(A5.ck rfl),yV _,_,_,rfl,rfl,.inr ⟨k,KA hx hE hpre,rfl⟩⟩
   .have f1:=eq_false' h;rw[yY h]at hE
    have hY:YT Tryz.prog 3 [.y5 k,.dp x.A1] [.c [.y5 p],.c [.y5 0],.c [.d (A7 l)],.lp r] fun v K=>v= .y7 true/\K=[.c [.y5 p],.c [.y5 0],.c [.d (A7 l)],.lp r]:=by
     refine CE hr rfl rfl rfl ?_;refine A9 Gz ?_;refine zR ?_;refine Ae Gz ?_ (AQ f1);exact⟨⟨[],[.c [.y5 p],.c [.y5 0],.c [.d (A7 l)],.lp r.busy],_⟩,(A5.ck rfl),yV _,rfl,rfl,rfl⟩
    have ix1:=hx;have q1:=@hY;refine A9 MO ?_;clear q1 ix1;with_reducible repeat' first|constructor|intro hc
    refine⟨k+1,⟨hkl,by rw[hA,hE]⟩,om,yV _,?_⟩;exact A5.ck rfl
  .have e:k=l.length:=om
   subst e;rw[zU]at hpre;refine A9 MO ?_;with_reducible repeat' first|constructor|intro hc
   exact⟨_,A5.refl _,yV _,_,_,rfl,rfl,.inl ⟨hpre,rfl⟩⟩
 .rintro r hr y H' (⟨h,rfl⟩|⟨k,h,rfl⟩)
  .refine .inl ⟨rfl,?_⟩;rw[I0 h];refine A9 Gz ?_;exact zE
  .refine .inr ⟨.ret,rfl,?_⟩;rw[h];refine A9 Gz ?_;exact zE
end Nd
end Go.Proofs.YthlmmkmeoblbhaaGreat
namespace Go.Proofs.YthlmmkmeoblbhaaGreat
namespace Nd
open Go.Gar Go.Shelf Go.Sort Go.RowKit Go.Lib
open Wi (AE BE Ay)
abbrev ID:BK:=[0,1,4,5,6,7,10,15,16,17,18,43]
def Mu(zs:Ao):Ao:=zs.mergeSort fun x y=>decide (x<=y)
theorem Ww(zs:Ao):(Mu zs).Pairwise (·<=·):=by
 have h:=List.pairwise_mergeSort (le:=fun x y:Int=>decide (x<=y)) (fun a b c h1 h2=>by simp only[yc]at *;omega) (fun a b=>by simp only[q0G,yc];omega) zs;exact h.imp fun h=>by simpa using h
theorem xC:cY (Value.int .i64) (fun l:Ao=>D.is l) (D.i .i64) where
 sl _:=rfl
 ok l:=by simp[D.is,Aq]
 c l:=by
  induction l with
  |nil=>rfl
  |cons a r ih=>simp only[D.is,slc,zV,q0U]at ih|-
 n l:=by simp[D.is,B3]
 z _:=rfl
 r m a v:=by simp only[RD]
 one _:=rfl
theorem jF(zs:Ao)(h:zs.length<=100000):yB 111 [.sl 0 zs.length 1] [.a (.is zs)] (.d (.tup [])) [.a (.is (Mu zs))]:=
 pN xC ⟨_,Tryz.func111,rfl,rfl⟩ (List.length_mergeSort ..)
  (fun b cap w hH hb hc hm=>calls_of_every_depth fun D=>AnyS.slices_Sort_int_alone Tryz.Uo D b 0 cap zs w hH hb om)
  (fun _ a w=>calls_of_every_depth fun D=>AnyS.slices_Sort_int_none_alone Tryz.Uo D a 0 w)
theorem Zd(l:Ao)(hl:l.length<=1048576):yB 110 [.yD l] [] (.sl 0 l.length 1) [.a (.is l)]:=by
 refine zD AK Tryz.func110 ?_;have nS:=zi
 repeat'(first|((with_reducible refine sg ?_);first|with_reducible rfl|((with_reducible refine UC ?_);first|kernel_rfl|rfl|(simp[Hi,Ku,nS];done))|with_reducible refine PD ?_ ?_|with_reducible exact q1L _|with_reducible exact FR _|((with_reducible refine yX ?_);first|omega|(simp only[Mm,nS];omega))|decide|(simp[Mm,slc,Do,D.one,GF,AV.one,nS];done)|(simp[Mm,nS];omega))|((with_reducible refine qS ?_);first|(refine Hx rfl ?_;refine pu AK rfl rfl rfl rfl ?_)|refine pq [7] AK rfl rfl rfl rfl rfl rfl ?_ ?_|refine XsnE AK rfl rfl rfl rfl rfl rfl (fun hnil=> ?_) ?_|refine XsnN AK rfl rfl rfl rfl rfl rfl (fun hnil=> ?_) ?_|refine Xq AK rfl rfl rfl rfl ?_ ?_|refine Xn [0,2,4] rfl ?_|refine Xw AK rfl rfl rfl rfl ?_ ?_)|refine Mo ?_|refine L3 ?_|refine JJ ?_|refine Mn ?_|refine H7 ?_|refine JI ?_|refine FQ rfl ?_|refine FP rfl ?_|(refine IJ rfl (fun hc=> ?_) (fun hc=> ?_)<;>(try simp only[Q3]at hc)<;>(try(exfalso;omega))))
 .have e:=is_nil hnil;subst e;refine A9 [0,2,4] ?_;exact⟨_,A5.EQ 2 (.is []) rfl rfl rfl trivial,yx _,_,_,rfl,rfl,rfl,rfl⟩
 .exact wE
variable {l:Ao}
theorem El{k:Nat}(h:k<l.length):l.getD k 0=l[k]:=by simp[h]
theorem TC:l.Nodup↔∀k,k<l.length->l.getD k 0∉l.take k:=by
 unfold List.Nodup;rw[q0L];constructor
 .intro h k hk hm;obtain⟨j,hj,e⟩:=q0d.1 hm;rw[q09]at hj;rw[List.getElem_take,El hk]at e;exact h j k om hk om e
 .intro h i j hi hj hij e;refine h j hj ?_;rw[El hj,q0d];exact⟨i,by rw[q09];omega,by rw[List.getElem_take];exact e⟩
theorem Wa(hs:l.Pairwise (·<=·)):l.Nodup↔∀k,k<l.length->k=0\/l.getD (k-1) 0≠l.getD k 0:=by
 unfold List.Nodup;rw[q0L]at hs|-;constructor
 .intro h k hk
  by_cases h0:k=0
  .exact .inl h0
  .rw[El hk,El (show k-1<l.length by omega)];exact .inr (h (k-1) k om hk om)
 .intro h i j hi hj hij;rcases h j hj with h0|h0
  .omega
  .rw[El hj,El (show j-1<l.length by omega)]at h0;have h2:=hs (j-1) j om hj om
   by_cases h3:i=j-1
   .subst h3;exact h0
   .have h1:=hs i (j-1) hi om om;omega
def sK(nodes:List A6)(zs:Ao)(k:Nat):Bool:=BE (zs.getD k 0)&&(decide (k=0\/zs.getD (k-1) 0≠zs.getD k 0)&& !(By nodes (zs.getD k 0)))
def O8(nodes:List A6)(gone:Ao)(k:Nat):Bool:=BE (gone.getD k 0)&&(!(By nodes (gone.getD k 0))&& !(decide (gone.getD k 0∈gone.take k)))
theorem XS{q:Int->Prop}:(∀k,k<l.length->q (l.getD k 0))↔∀x∈l,q x:=by
 constructor
 .intro h x hx;obtain⟨k,hk,e⟩:=q0d.1 hx;have:=h k hk;rwa [El hk,e]at this
 .intro h k hk;rw[El hk];exact h _ (q0a hk)
theorem qW(nodes:List A6)(gone:Ao):DR (Mu gone).length (sK nodes (Mu gone))=DR gone.length (O8 nodes gone):=by
 have hm:∀x,x∈Mu gone↔x∈gone:=fun x=>List.mem_mergeSort;have hp:(Mu gone).Perm gone:=List.mergeSort_perm _ _
 have hs:=Ww gone;generalize Mu gone=zs at *;rw[Bool.eq_iff_iff,Ex,Ex]
 have e1:(∀k,k<zs.length->sK nodes zs k=true)↔(∀x∈zs,BE x=true/\By nodes x=false)/\zs.Nodup:=by
  rw[Wa hs,<-XS (q:=fun x=>BE x=true/\By nodes x=false)];simp only[sK,yU,yc,q0H];exact⟨fun h=>⟨fun k hk=>⟨(h k hk).1,(h k hk).2.2⟩,fun k hk=>(h k hk).2.1⟩,fun h k hk=>⟨(h.1 k hk).1,h.2 k hk,(h.1 k hk).2⟩⟩
 have e2:(∀k,k<gone.length->O8 nodes gone k=true)↔(∀x∈gone,BE x=true/\By nodes x=false)/\gone.Nodup:=by
  rw[TC,<-XS (q:=fun x=>BE x=true/\By nodes x=false)];simp only[O8,yU,q0H,zn];exact⟨fun h=>⟨fun k hk=>⟨(h k hk).1,(h k hk).2.1⟩,fun k hk=>(h k hk).2.2⟩,fun h k hk=>⟨(h.1 k hk).1,(h.1 k hk).2,h.2 k hk⟩⟩
 rw[e1,e2,hp.nodup_iff];constructor
 .rintro⟨h1,h2⟩;exact⟨fun x hx=>h1 x ((hm x).2 hx),h2⟩
 .rintro⟨h1,h2⟩;exact⟨fun x hx=>h1 x ((hm x).1 hx),h2⟩
theorem Ws(nodes:List A6)(gone:Ao)(hn:nodes.length<=1048576)(hg:gone.length<=1048576):yA 57 [.is gone,A7 nodes] (.b (decide (gone.length<=1000)&&DR gone.length (O8 nodes gone))):=by
 refine zF AK Tryz.func57 ?_
 by_cases h1:gone.length>1000
 .have f1:decide ((gone.length:Int)>1000)=true:=yX om;rw[yY om];refine Ae ID ?_ (AQ f1);exact zE
 have f1:decide ((gone.length:Int)>1000)=false:=yY om;rw[yX (show gone.length<=1000 by omega),zy,<-qW];have d1:=Zd gone hg;have d2:=jF gone om;have hsl:(Mu gone).length=gone.length:=List.length_mergeSort ..;rw[<-hsl]at d1 d2;refine GW ID ?_ (AQ f1) (QZ [] d1 [0] d2) [] [5];refine Av (A5.lP 5 0 (x:=.is (Mu gone)) rfl rfl rfl) (by simp[Eg]) ?_;refine A9 ID ?_;generalize hzs:Mu gone=zs at *;have hzl:zs.length<=1000:=om
 clear d1 d2;refine BA (fun k=>k<=zs.length/\DR k (sK nodes zs)=true) (fun k:Nat=>[(17,.y5 k)]) (fun k=>zs.length-k) 0 ⟨yx _,rfl⟩ (fun _=>rfl) ?_ ?_
 .exact A5.ck rfl
 rintro k ⟨hk,hpre⟩
 by_cases hkl:k<zs.length
 .obtain⟨x,hx⟩:=AS hkl;have gx:=BQ hx;have c1:=QL x;have c2:=Xz nodes x om;have f6:decide (E3 (GZ x) nodes>=0)=By nodes x:=GM (GZ x) nodes;have hK:sK nodes zs k=(BE x&&(decide (k=0\/zs.getD (k-1) 0≠x)&& !(By nodes x))):=by unfold sK;rw[gx]
  generalize E3 (GZ x) nodes=z at *;generalize BE x=p1 at *;generalize By nodes x=p2 at*
  by_cases h0:k=0
  .have f7:decide ((k:Int)>0)=false:=yY om;refine AD ID ?_ (DO gx f6 f7) (B1 @c1 @c2);with_reducible repeat' first|constructor|intro hc
   all_goals clear c1 c2
   all_goals first
    |(refine⟨k+1,⟨hkl,Cm hpre (by rw[hK];grind)⟩,om,yV _,?_⟩
      exact A5.ck rfl)
    |(refine⟨_,_,rfl,rfl,?_⟩;simp only[C4];rw[EY hkl (by rw[hK];grind)])
  .have f7:decide ((k:Int)>0)=true:=yX om;have e1:(k:Int)-1=((k-1:Nat):Int):=om
   obtain⟨y,hy⟩:=AS (xs:=zs) (k:=k-1) om;have gy:=BQ hy;rw[gy]at hK;refine AD ID ?_ (Ll gx gy f6 f7 e1) (B1 @c1 @c2);with_reducible repeat' first|constructor|intro hc
   all_goals clear c1 c2
   all_goals first
    |(refine⟨k+1,⟨hkl,Cm hpre (by rw[hK];grind)⟩,om,yV _,?_⟩
      exact A5.ck rfl)
    |(refine⟨_,_,rfl,rfl,?_⟩;simp only[C4];rw[EY hkl (by rw[hK];grind)])
 have e:k=zs.length:=om
 subst e;rw[hpre];refine A9 ID ?_;with_reducible repeat' first|constructor|intro hc
 exact zE
end Nd
end Go.Proofs.YthlmmkmeoblbhaaGreat
namespace Go.Proofs.YthlmmkmeoblbhaaGreat
namespace Nd
open Go.Gar
open Wi (AE BE Ay)
abbrev MQ:BK:=[0,1,4,5,7,8,9,16]
abbrev Ju:BK:=[0,1,2,4,5,6,7,9,14,22,23,24,25,31]
theorem lJ(x:A6)(p:Int):yB 121 [.d x.d,.ptr 0 0 1] [.c [.y5 p]] (.y7 (GZ p x)) [.c [.y5 p]]:=by
 refine zD AK Tryz.func121 ?_;unfold A6.d;have hE:GZ p x=decide (x.A4.id=p):=rfl
 by_cases h1:x.A4.id=p
 .have f1:=B6 h1;rw[hE,yX h1];refine Ae [0,1,2,3] ?_ (AQ f1);with_reducible repeat' first|constructor|intro hc
  exact wE
 .have f1:=eq_false' h1;rw[hE,yY h1];refine Ae [0,1,2,3] ?_ (AQ f1);with_reducible repeat' first|constructor|intro hc
  exact wE
theorem aV(l:List A6)(p:Int)(hn:l.length<=9223372036854775807):yB 64 [.d (A7 l),.fn (.func 121) [] [.ptr 0 0 1]] [.c [.y5 p]] (.y5 (E3 (GZ p) l)) [.c [.y5 p]]:=by
 refine zD AK Tryz.func64 ?_;refine A9 MQ ?_;with_reducible repeat' first|constructor|intro hc
 refine BA (fun k=>k<=l.length/\(l.take k).any (GZ p)=false) (fun k:Nat=>[(8,.y5 k)]) (fun k=>l.length-k) 0 ⟨yx _,rfl⟩ (fun _=>rfl) ?_ ?_
 .exact A5.ck rfl
 rintro k ⟨hk,hpre⟩
 by_cases hkl:k<l.length
 .obtain⟨x,hx⟩:=AS hkl;have hA:=EB (p:=GZ p) hx;rw[hpre,q0N]at hA;have c1:=lJ x p;unfold A6.d at c1
  cases hb:GZ p x with
  |true=>
   rw[hb]at c1;have ix1:=hx;refine Cd MQ ?_ (E8 [0] c1);clear ix1;with_reducible repeat' first|constructor|intro hc
   rw[KA hx hb hpre];exact wE
  |false=>
   rw[hb]at c1;have ix1:=hx;refine Cd MQ ?_ (E8 [0] c1);clear ix1;with_reducible repeat' first|constructor|intro hc
   refine⟨k+1,⟨hkl,by rw[hA,hb]⟩,om,yV _,?_⟩;exact A5.ck rfl
 .have e:k=l.length:=om
  subst e;rw[zU]at hpre;refine A9 MQ ?_;with_reducible repeat' first|constructor|intro hc
  rw[I0 hpre];exact wE
theorem lN(c:BF)(p:Int)(hn:c.nodes.length<=9223372036854775807):yA 68 [c.d,.yE p] (.yE (E3 (GZ p) c.nodes)):=by
 obtain⟨l,gone,A2,grams,lost⟩:=c;have d1:=aV l p hn;refine zF AK Tryz.func68 ?_;simp only;generalize E3 (GZ p) l=z at *;unfold BF.d BF.A1;refine Cd [0,1,2,3,4] ?_ (E8 [1] d1);with_reducible repeat' first|constructor|intro hc
 exact zE
def QP(l:List A6)(v:AB):Int:=match v.A8.find? (By l)with
 |some q=>q
 |none=>XV v
def V9(l:List A6)(p:Int):Int×Bool:=if By l p then(QP l (nodeAt l p).A4,true)else(0,false)
variable {q:Int->Bool}{l:Ao}
theorem lK{k:Nat}{x:Int}(hx:l[k]? =some x)(h:q x=true)(hn:(l.take k).any q=false):l.find? q=some x:=by
 have e:l=l.take k++x::l.drop (k+1):=by
  have hk:=(yZ.1 hx).1;have hv:=(yZ.1 hx).2;rw[<-hv,<-q0V hk,q0J]
 rw[e,List.find?_append]
 have:(l.take k).find? q=none:=by
  rw[q0r];intro y hy;rw[q0O]at hn;simpa using hn y hy
 rw[this];simp[List.find?_cons,h]
theorem lL(hn:l.any q=false):l.find? q=none:=by
 rw[q0r];intro y hy;rw[q0O]at hn;simpa using hn y hy
theorem Qx(c:BF)(p:Int)(h:Ve c):yA 35 [c.d,.yE p] (.tup [.yE (V9 c.nodes p).1,.b (V9 c.nodes p).2]):=by
 have cf:=fun p=>lN c p (by have:=h.nl;omega);obtain⟨nodes,gone,A2,grams,lost⟩:=c
 obtain⟨hnl,hnn,hgl,hbl,hll⟩:=h;simp only at *;refine zF AK Tryz.func35 ?_;unfold BF.d BF.A1 at *;have c1:=cf p
 cases hb:By nodes p with
 |false=>
  rw[(fy hb).1]at c1;have hT:V9 nodes p=(0,false):=by unfold V9;rw[hb];rfl
  rw[hT];refine AP Ju ?_ (AQ @c1);with_reducible repeat' first|constructor|intro hc
  exact zE
 |true=>
 obtain⟨k,x,e1,e2,e3,e4⟩:=Ul hb;rw[e1]at c1;have hT:V9 nodes p=(QP nodes x.A4,true):=by unfold V9;rw[hb,e4];rfl
 rw[hT];have f1:decide ((k:Int)<0)=false:=yY om;have hxo:=hnn x (zM e2);have c2:=er x.A4 hxo.vb hxo.vl;have hll:x.A4.A8.length<=1000:=hxo.vl;unfold AB.d AB.A1 at c2;have ix1:=e2;refine AD Ju ?_ (AQ f1) (AQ @c1);clear ix1;with_reducible repeat' first|constructor|intro hc
 refine BA (fun k=>k<=x.A4.A8.length/\(x.A4.A8.take k).any (By nodes)=false) (fun k:Nat=>[(24,.y5 k)]) (fun k=>x.A4.A8.length-k) 0 ⟨yx _,rfl⟩ (fun _=>rfl) ?_ ?_
 .exact A5.ck rfl
 rintro j ⟨hj,hpre⟩
 by_cases hjl:j<x.A4.A8.length
 .obtain⟨y,hy⟩:=AS hjl;have gy:=BQ hy;have c3:=cf y;have f6:decide (E3 (GZ y) nodes>=0)=By nodes y:=GM (GZ y) nodes;generalize E3 (GZ y) nodes=z at *;have hA:=EB (p:=By nodes) hy;rw[hpre,q0N]at hA
  cases hb2:By nodes y with
  |true=>
   rw[hb2]at f6;have hV:QP nodes x.A4=y:=by unfold QP;rw[lK hy hb2 hpre]
   refine AD Ju ?_ (B1 gy f6) (AQ @c3);with_reducible repeat' first|constructor|intro hc
   rw[hV];exact zE
  |false=>
   rw[hb2]at f6;refine AD Ju ?_ (B1 gy f6) (AQ @c3);with_reducible repeat' first|constructor|intro hc
   refine⟨j+1,⟨hjl,by rw[hA,hb2]⟩,om,yV _,?_⟩;exact A5.ck rfl
 .have e:j=x.A4.A8.length:=om
  subst e;rw[zU]at hpre;have hV:QP nodes x.A4=XV x.A4:=by unfold QP;rw[lL hpre]
  refine AP Ju ?_ (AQ @c2);with_reducible repeat' first|constructor|intro hc
  rw[hV];exact zE
end Nd
end Go.Proofs.YthlmmkmeoblbhaaGreat
namespace Go.Proofs.YthlmmkmeoblbhaaGreat
namespace Nd
open Go.Gar
open Wi (AE BE Ay Ac)
abbrev Ot:BK:=[0,2,3,4,5,6,20,29]
abbrev X8:BF:=⟨[],[],[],[],0⟩
def OK(A2:Ao):BF×Int:=if(decide (2<=A2.length)&&(decide (A2.length<=4)&&Hk A2))then(⟨A2.map fun b=>(I3 b A2).1,[],A2,[],0⟩,0)else(X8,2)
theorem TX(A2:Ao)(hb:∀y∈A2,i64 y)(hl:A2.length<=1000):yA 7 [.is A2] (.tup [(OK A2).1.d,.yE (OK A2).2]):=by
 have c1:=Pt A2 om;have hT:OK A2=if(decide (2<=A2.length)&&(decide (A2.length<=4)&&Hk A2))then(⟨A2.map fun b=>(I3 b A2).1,[],A2,[],0⟩,0)else(X8,2):=rfl
 generalize OK A2=R at *;refine zF AK Tryz.func7 ?_
 cases hq:(decide (2<=A2.length)&&(decide (A2.length<=4)&&Hk A2))with
 |false=>
  rw[hq]at hT;replace hT:R=(X8,2):=hT;subst hT;generalize Hk A2=rb at *;refine AP Ot ?_ (AQ @c1);with_reducible repeat' first|constructor|intro hc
  all_goals first
   |(exfalso;clear c1;grind)
   |(refine⟨_,_,rfl,rfl,?_⟩;simp[E5,B3,B8,Aq,BF.d,BF.A1])
 |true=>
 rw[hq]at hT;simp only[yU,yc]at hq;obtain⟨h1,h2,h3⟩:=hq;replace hT:R=(⟨A2.map fun b=>(I3 b A2).1,[],A2,[],0⟩,0):=hT;subst hT;rw[h3]at c1;have f1:decide ((A2.length:Int)<2)=false:=yY om;have f2:decide ((A2.length:Int)>4)=false:=yY om;refine AD Ot ?_ (B1 f1 f2) (AQ @c1);with_reducible repeat' first|constructor|intro hc
 refine Av (A5.PN 1 0 (.sl 76 []) rfl rfl rfl rfl (by simp[Aq])) sm ?_;refine Av (A5.jW 1 1 (.is []) rfl rfl rfl rfl trivial) sm ?_;refine Av (A5.jW 1 3 (.sl 3 []) rfl rfl rfl rfl (by simp[Aq])) sm ?_;obtain⟨Lf,hLf⟩:∃Lf:Nat->List A6,Lf=fun k=>(A2.take k).map fun b=>(I3 b A2).1:=⟨_,rfl⟩
 have hL0:Lf 0=[]:=by rw[hLf];rfl
 have hLl:∀k,(Lf k).length<=k:=fun k=>by rw[hLf];simp only[zY];exact q0Q _ _
 have hLe:A2.map (fun b=>(I3 b A2).1)=Lf A2.length:=by rw[hLf];simp only[zU]
 have hLs:∀k x,A2[k]? =some x->Lf (k+1)=Lf k++[(I3 x A2).1]:=fun k x hx=>by rw[hLf];simp only[AM hx,zS,zV,zh]
 rw[hLe];clear hLf hLe;refine CO (fun k=>k<=A2.length) (fun k:Nat=>[(5,.y5 k)]) (fun k=>[(1,.c [.sl 2 (Lf k).length 76,.yD ([]),.yD A2,.d (.sl 3 []),.y5 0]),(2,.a (A7 (Lf k)))]) (fun k=>A2.length-k) 0 (yx _) (fun _=>rfl) (fun _=>rfl) ?_ ?_
 .rw[hL0];exact A5.ck rfl
 intro k hk;have htl:=hLl k
 by_cases hkl:k<A2.length
 .obtain⟨x,hx⟩:=AS hkl;have gx:=BQ hx;have c2:=Ti x A2 (hb x (zM hx)) hl;have hm:=hLs k x hx;generalize I3 x A2=nn at *;obtain⟨n,e⟩:=nn;unfold A6.d A6.A1 AB.A1 Calls.A1 B5.A1 at c2;simp only[zA,zK]at c2;simp only at hm;refine AD Ot ?_ (AQ gx) (AQ @c2);with_reducible repeat' first|constructor|intro hc
  refine⟨k+1,hkl,om,yV _,?_⟩;exact A5.cut rfl (by repeat'(first|exact zi|refine yg (by(first|rfl|((with_reducible_and_instances refine congrArg (fun z=>some (AV.d (D.i _ z))) ?_);omega)|(refine congrArg (fun z=>some (AV.d (D.i _ z))) (?_:(_:Int)=_);omega)|(refine congrArg some ?_;simp only[hm,A7,zS,zV,zh,A6.A1,AB.A1,Calls.A1,B5.A1,zA,zK,yw,yu,zI,zY];done)|(refine congrArg some ?_;simp[hm,A7,zS,zV,zh,A6.A1,AB.A1,Calls.A1,B5.A1,zA,zK,yw,yu,zI,zY];done))) ?_)) (by repeat'(first|exact zi|refine yg (q0D rfl) ?_|refine yg (q0w ⟨rfl,rfl⟩) ?_|refine yg (q0D (by simp only[hm,A7,zS,zV,zh,A6.A1,AB.A1,Calls.A1,B5.A1,zA,zK,yw,yu,zI,zY])) ?_|refine yg (q0D (by simp[hm,A7,zS,zV,zh,A6.A1,AB.A1,Calls.A1,B5.A1,zA,zK,yw,yu,zI,zY])) ?_)) (by first|rfl|(simp(decide:=true) [Ai,AF.ok,AV.oks,AV.ok,hk];done)) rfl
 .have e:k=A2.length:=om
  subst e;refine A9 Ot ?_;with_reducible repeat' first|constructor|intro hc
  refine⟨_,_,rfl,rfl,?_⟩;simp[E5,B3,B8,Aq,BF.d,BF.A1,JH]
end Nd
end Go.Proofs.YthlmmkmeoblbhaaGreat
