/- Part 25 of a proof. Conditions: those that its theorems state. -/
import Derived.Test.YthlmmkmeoblbhaaGreatQ19
import Derived.Test.YthlmmkmeoblbhaaGreatQ20
set_option linter.unusedSimpArgs false
set_option linter.unusedVariables false
set_option maxHeartbeats 40000000
set_option maxRecDepth 4000
namespace Go.Proofs.YthlmmkmeoblbhaaGreat
namespace Nd
open Go.Gar
open Wi (AE BE Ay AU C2)
abbrev Er:BK:=[0,1,2,3,4,6,7,8,9,10,11,12,13,22,27,48,50,73]
abbrev KU:BK:=[0,1,2,3,4,5,6,10,22,40,49,72,82]
abbrev KC(r:JC):D:=.tup [r.job.d,CF r.BW,.b r.own]
theorem Gs(j:B5)(e:Int):yA 255 [j.d,.yE e] (KC ⟨FU (F5 j e),[],false⟩):=by
 refine zF AK Tryz.func255 ?_;unfold KC B5.d B5.A1;dsimp only;refine A9 [0,1,2,4,5,6] ?_;with_reducible repeat' first|constructor|intro hc
 exact BO @CF.eq_1
theorem xK(a:Int)(l:Ao):Za (a::l) (min 3 (a::l).length)=FY (a::l):=by
 match l with
 |[]=>simp[Za,FY]
 |[b]=>by_cases h:b=a<;>simp[Za,FY,h]
 |b::c::r=>
  have e:min 3 (a::b::c::r).length=3:=by simp only[yu];omega
  rw[e]
  by_cases h:b=a<;>by_cases h2:c=a<;>by_cases h3:c=b<;>simp[Za,FY,h,h2,h3]<;>simp_all
theorem dt{l:Ao}:∀{k:Nat},k<=l.length->∀x,x∈Za l k↔x∈l.take k
 |0,_,x=>by simp[Za]
 |k+1,h,x=>by
  have ih:=dt (l:=l) (k:=k) om x;obtain⟨y,hy⟩:=AS (xs:=l) (k:=k) om;rw[AM hy,q04,q00];unfold Za;rw[BQ hy];split
  .rename_i hm;rw[ih];constructor
   .exact .inl
   .rintro(e|rfl)
    .exact e
    .exact hm
  .rw[q04,q00,ih]
theorem Z1(v:AB)(j:B5)(Ar:Int)(l:Ao)(hn:l.length<=1048576):yA 272 [v.d,j.d,.is (Ar::l)] (KC (Ky v.id j Ar l)):=by
 have hO:=xK Ar l;have hJ:Ky v.id j Ar l=⟨⟨j.AR,if xF v.id (FY (Ar::l))=[]then 5 else 3,j.Am,j.AC,j.Ar,xF v.id (FY (Ar::l)),j.Ab⟩,(xF v.id (FY (Ar::l))).map (N8 j.AC),decide (v.id∈FY (Ar::l))⟩:=rfl;rw[<-hO]at hJ;rw[hJ];clear hJ hO;generalize hL:Ar::l=L at *;have hLl:L.length<=1048577:=by rw[<-hL,yu];omega
 clear hL hn;obtain⟨F,hF⟩:∃F:Nat->Ao,∀k,F k=xF v.id (Za L k):=⟨_,fun _=>rfl⟩;have F0:F 0=[]:=by rw[hF];rfl
 have Fn:∀k,(F k).length<=k:=fun k=>by rw[hF];exact q0E (q0b _ _) (eC L k)
 have hs:∀k x,L[k]? =some x->F (k+1)=F k++(if x∈L.take k then[]else if x=v.id then[]else[x]):=fun k x hx=>by
  rw[hF,hF,show Za L (k+1)=if L.getD k 0∈L.take k then Za L k else Za L k++[L.getD k 0]from rfl,BQ hx]
  by_cases h1:x∈L.take k
  .rw[zN h1,zN h1,q07]
  .rw[zO h1,zO h1];unfold xF;rw[List.filter_append]
   by_cases h2:x=v.id
   .simp[h2]
   .simp[h2]
 have hW:∀k,k<=L.length->(decide (v.id∈Za L k))=decide (v.id∈L.take k):=fun k hk=>decide_eq_decide.2 (dt hk _);rw[hW _ (Nat.min_le_right _ _),<-hF]
 clear hF hW;refine zF AK Tryz.func272 ?_;unfold KC B5.d B5.A1 AB.d AB.A1;dsimp only;refine A9 Er ?_;with_reducible repeat' first|constructor|intro hc
 refine Av (A5.PN 1 13 (.is []) rfl rfl rfl rfl trivial) sm ?_;refine Av (A5.EQ 9 (.sl 15 []) rfl rfl rfl (by simp[Aq])) sm ?_;refine CO (fun k=>k<=L.length/\k<=3) (fun k:Nat=>[(9,.sl 4 (F k).length 15),(10,.y7 (decide (v.id∈L.take k))),(11,.y5 k)]) (fun k=>[(1,.c (KD j (.sl 3 (F k).length 1))),(3,.a (.is (F k))),(4,.a (CF ((F k).map (N8 j.AC))))]) (fun k=>L.length-k) 0 ⟨yx _,yx _⟩ (fun _=>rfl) (fun _=>rfl) ?_ ?_
 .exact A5.cut rfl (by repeat'(first|exact zi|refine yg (by(first|rfl|((with_reducible_and_instances refine congrArg (fun z=>some (AV.d (D.i _ z))) ?_);omega)|(refine congrArg (fun z=>some (AV.d (D.i _ z))) (?_:(_:Int)=_);omega)|(refine congrArg some ?_;simp only[F0,KD,CF,Bt,zh,zI,q1c,List.set_cons_succ,List.set_cons_zero,yu,Nat.reduceAdd];done)|(refine congrArg some ?_;simp[F0,KD,CF,Bt,zh,zI,q1c,List.set_cons_succ,List.set_cons_zero,yu,Nat.reduceAdd];done))) ?_)) (by repeat'(first|exact zi|refine yg (q0D rfl) ?_|refine yg (q0w ⟨rfl,rfl⟩) ?_|refine yg (q0D (by simp only[F0,KD,CF,Bt,zh,zI,q1c,List.set_cons_succ,List.set_cons_zero,yu,Nat.reduceAdd])) ?_|refine yg (q0D (by simp[F0,KD,CF,Bt,zh,zI,q1c,List.set_cons_succ,List.set_cons_zero,yu,Nat.reduceAdd])) ?_)) (by first|rfl|(simp(decide:=true) [Ai,AF.ok,AV.oks,AV.ok,hk];done)) rfl
 rintro k ⟨hk,hk3⟩;have hFk:=Fn k
 by_cases hc:k<L.length/\k<3
 .obtain⟨hkl,h3⟩:=hc;obtain⟨x,hx⟩:=AS hkl;have gx:=BQ hx;have hsk:=hs k x hx;have htk:=AM hx;have g1:decide ((k:Int)<(L.length:Int))=true:=yX om;have g2:decide ((k:Int)<3)=true:=yX om;unfold KD;refine Ae Er ?_ (B1 g1 g2);with_reducible repeat' first|constructor|intro hc
  refine BA (fun i=>i<=k) (fun i:Nat=>[(12,.y7 (decide (x∈L.take i))),(13,.y5 i)]) (fun i=>k-i) 0 (yx _) (fun _=>rfl) ?_ ?_
  .exact A5.cut rfl (by repeat'(first|exact zi|refine yg (by(first|rfl|((with_reducible_and_instances refine congrArg (fun z=>some (AV.d (D.i _ z))) ?_);omega)|(refine congrArg (fun z=>some (AV.d (D.i _ z))) (?_:(_:Int)=_);omega)|(refine congrArg some ?_;simp only[q1c];done)|(refine congrArg some ?_;simp[q1c];done))) ?_)) (by repeat'(first|exact zi|refine yg (q0D rfl) ?_|refine yg (q0w ⟨rfl,rfl⟩) ?_|refine yg (q0D (by simp only[q1c])) ?_|refine yg (q0D (by simp[q1c])) ?_)) (by first|rfl|(simp(decide:=true) [Ai,AF.ok,AV.oks,AV.ok,hk];done)) rfl
  intro i hi
  by_cases hik:i<k
  .obtain⟨y,hy⟩:=AS (xs:=L) (k:=i) om;have gy:=BQ hy;have hti:=AM hy;have g3:decide ((i:Int)<(k:Int))=true:=yX om
   by_cases hm:x∈L.take i
   .have e1:decide (x∈L.take (i+1))=true:=yX (by rw[hti,q04];exact .inl hm);rw[yX hm];refine Ae Er ?_ (AQ g3);with_reducible repeat' first|constructor|intro hc
    refine⟨i+1,hik,om,yV _,?_⟩;exact A5.cut rfl (by repeat'(first|exact zi|refine yg (by(first|rfl|((with_reducible_and_instances refine congrArg (fun z=>some (AV.d (D.i _ z))) ?_);omega)|(refine congrArg (fun z=>some (AV.d (D.i _ z))) (?_:(_:Int)=_);omega)|(refine congrArg some ?_;simp only[e1];done)|(refine congrArg some ?_;simp[e1];done))) ?_)) (by repeat'(first|exact zi|refine yg (q0D rfl) ?_|refine yg (q0w ⟨rfl,rfl⟩) ?_|refine yg (q0D (by simp only[e1])) ?_|refine yg (q0D (by simp[e1])) ?_)) (by first|rfl|(simp(decide:=true) [Ai,AF.ok,AV.oks,AV.ok,hk];done)) rfl
   .rw[yY hm]
    by_cases he:y=x
    .have f1:=B6 he;have e1:decide (x∈L.take (i+1))=true:=yX (by rw[hti,q04,he];exact .inr (q00.2 rfl));refine Ae Er ?_ (Hc g3 gx gy f1);with_reducible repeat' first|constructor|intro hc
     refine⟨i+1,hik,om,yV _,?_⟩;exact A5.cut rfl (by repeat'(first|exact zi|refine yg (by(first|rfl|((with_reducible_and_instances refine congrArg (fun z=>some (AV.d (D.i _ z))) ?_);omega)|(refine congrArg (fun z=>some (AV.d (D.i _ z))) (?_:(_:Int)=_);omega)|(refine congrArg some ?_;simp only[e1];done)|(refine congrArg some ?_;simp[e1];done))) ?_)) (by repeat'(first|exact zi|refine yg (q0D rfl) ?_|refine yg (q0w ⟨rfl,rfl⟩) ?_|refine yg (q0D (by simp only[e1])) ?_|refine yg (q0D (by simp[e1])) ?_)) (by first|rfl|(simp(decide:=true) [Ai,AF.ok,AV.oks,AV.ok,hk];done)) rfl
    .have f1:=eq_false' he;have e1:decide (x∈L.take (i+1))=false:=yY (by rw[hti,q04,q00];exact fun e=>e.elim hm fun e=>he e.symm);refine Ae Er ?_ (Hc g3 gx gy f1);with_reducible repeat' first|constructor|intro hc
     refine⟨i+1,hik,om,yV _,?_⟩;exact A5.cut rfl (by repeat'(first|exact zi|refine yg (by(first|rfl|((with_reducible_and_instances refine congrArg (fun z=>some (AV.d (D.i _ z))) ?_);omega)|(refine congrArg (fun z=>some (AV.d (D.i _ z))) (?_:(_:Int)=_);omega)|(refine congrArg some ?_;simp only[e1];done)|(refine congrArg some ?_;simp[e1];done))) ?_)) (by repeat'(first|exact zi|refine yg (q0D rfl) ?_|refine yg (q0w ⟨rfl,rfl⟩) ?_|refine yg (q0D (by simp only[e1])) ?_|refine yg (q0D (by simp[e1])) ?_)) (by first|rfl|(simp(decide:=true) [Ai,AF.ok,AV.oks,AV.ok,hk];done)) rfl
  .have e:i=k:=om
   subst e;have g3:decide ((i:Int)<(i:Int))=false:=yY om
   by_cases hid:x=v.id
   .have f1:=B6 hid;have e1:decide (v.id∈L.take (i+1))=true:=yX (by rw[htk,q04,hid];exact .inr (q00.2 rfl));have e2:F (i+1)=F i:=by rw[hsk,zN hid];split<;>simp
    refine Ae Er ?_ (DO g3 gx f1);with_reducible repeat' first|constructor|intro hc
    refine⟨i+1,⟨hkl,om⟩,om,yV _,?_⟩;exact A5.cut rfl (by repeat'(first|exact zi|refine yg (by(first|rfl|((with_reducible_and_instances refine congrArg (fun z=>some (AV.d (D.i _ z))) ?_);omega)|(refine congrArg (fun z=>some (AV.d (D.i _ z))) (?_:(_:Int)=_);omega)|(refine congrArg some ?_;simp only[e1,e2,KD];done)|(refine congrArg some ?_;simp[e1,e2,KD];done))) ?_)) (by repeat'(first|exact zi|refine yg (q0D rfl) ?_|refine yg (q0w ⟨rfl,rfl⟩) ?_|refine yg (q0D (by simp only[e1,e2,KD])) ?_|refine yg (q0D (by simp[e1,e2,KD])) ?_)) (by first|rfl|(simp(decide:=true) [Ai,AF.ok,AV.oks,AV.ok,hk];done)) rfl
   .have f1:=eq_false' hid;have e1:decide (v.id∈L.take (i+1))=decide (v.id∈L.take i):=decide_eq_decide.2 (by rw[htk,q04,q00];exact⟨fun e=>e.elim id fun e=>absurd e.symm hid,.inl⟩)
    by_cases hm:x∈L.take i
    .have e2:F (i+1)=F i:=by rw[hsk,zN hm,q07]
     rw[yX hm];refine Ae Er ?_ (DO g3 gx f1);with_reducible repeat' first|constructor|intro hc
     refine⟨i+1,⟨hkl,om⟩,om,yV _,?_⟩;exact A5.cut rfl (by repeat'(first|exact zi|refine yg (by(first|rfl|((with_reducible_and_instances refine congrArg (fun z=>some (AV.d (D.i _ z))) ?_);omega)|(refine congrArg (fun z=>some (AV.d (D.i _ z))) (?_:(_:Int)=_);omega)|(refine congrArg some ?_;simp only[e1,e2,KD];done)|(refine congrArg some ?_;simp[e1,e2,KD];done))) ?_)) (by repeat'(first|exact zi|refine yg (q0D rfl) ?_|refine yg (q0w ⟨rfl,rfl⟩) ?_|refine yg (q0D (by simp only[e1,e2,KD])) ?_|refine yg (q0D (by simp[e1,e2,KD])) ?_)) (by first|rfl|(simp(decide:=true) [Ai,AF.ok,AV.oks,AV.ok,hk];done)) rfl
    .have e2:F (i+1)=F i++[x]:=by rw[hsk,zO hm,zO hid]
     rw[yY hm];refine Ae Er ?_ (DO g3 gx f1);with_reducible repeat' first|constructor|intro hc
     refine⟨i+1,⟨hkl,om⟩,om,yV _,?_⟩;exact A5.cut rfl (by repeat'(first|exact zi|refine yg (by(first|rfl|((with_reducible_and_instances refine congrArg (fun z=>some (AV.d (D.i _ z))) ?_);omega)|(refine congrArg (fun z=>some (AV.d (D.i _ z))) (?_:(_:Int)=_);omega)|(refine congrArg some ?_;simp only[e1,e2,KD,CF,N8,Wi.AE.A1,AN,zS,zV,zh,yw,yu,zI];done)|(refine congrArg some ?_;simp[e1,e2,KD,CF,N8,Wi.AE.A1,AN,zS,zV,zh,yw,yu,zI];done))) ?_)) (by repeat'(first|exact zi|refine yg (q0D rfl) ?_|refine yg (q0w ⟨rfl,rfl⟩) ?_|refine yg (q0D (by simp only[e1,e2,KD,CF,N8,Wi.AE.A1,AN,zS,zV,zh,yw,yu,zI])) ?_|refine yg (q0D (by simp[e1,e2,KD,CF,N8,Wi.AE.A1,AN,zS,zV,zh,yw,yu,zI])) ?_)) (by first|rfl|(simp(decide:=true) [Ai,AF.ok,AV.oks,AV.ok,hk];done)) rfl
 .have e:k=min 3 L.length:=om
  have hg:(decide ((k:Int)<(L.length:Int))=false)\/(decide ((k:Int)<(L.length:Int))=true/\decide ((k:Int)<3)=false):=by
   by_cases h:k<L.length
   .exact .inr ⟨yX om,yY om⟩
   .exact .inl (yY om)
  rw[<-e];unfold KD
  by_cases h0:F k=[]
  .have f0':=B6 (show((F k).length:Int)=0 by rw[h0];rfl);rw[zN h0];have c1:=Gs ⟨j.AR,j.A3,j.Am,j.AC,j.Ar,F k,j.Ab⟩ j.Ab;unfold KC B5.d B5.A1 at c1;dsimp only at c1;rcases hg with g1|⟨g1,g2⟩
   .refine Ae Er ?_ (B1 g1 f0') [] [18];with_reducible repeat' first|constructor|intro hc
    refine Av (A5.freeze 3 (x:=.is (F k)) rfl) (by rw[Dq];exact yV _) ?_;simp only[NE,Eg,AF.FK,AV.FK,AV.F3,LO,Nat.reduceEqDiff,Nat.reduceAdd,decide_true,q1J,B3,zx,zo,reduceCtorEq];refine AP Er ?_ (AQ @c1) [(1,3)];with_reducible repeat' first|constructor|intro hc
    refine⟨_,_,rfl,rfl,?_⟩;simp[E5,B3,B8,Aq,h0,zh]
   .refine Ae Er ?_ (DO g1 g2 f0') [] [18];with_reducible repeat' first|constructor|intro hc
    refine Av (A5.freeze 3 (x:=.is (F k)) rfl) (by rw[Dq];exact yV _) ?_;simp only[NE,Eg,AF.FK,AV.FK,AV.F3,LO,Nat.reduceEqDiff,Nat.reduceAdd,decide_true,q1J,B3,zx,zo,reduceCtorEq];refine AP Er ?_ (AQ @c1) [(1,3)];with_reducible repeat' first|constructor|intro hc
    refine⟨_,_,rfl,rfl,?_⟩;simp[E5,B3,B8,Aq,h0,zh]
  .have f0':=eq_false' (show ¬((F k).length:Int)=0 by
    intro e;exact h0 (q1F.1 om))
   rw[zO h0];rcases hg with g1|⟨g1,g2⟩
   .refine Ae Er ?_ (B1 g1 f0') [(1,3),(2,3)];with_reducible repeat' first|constructor|intro hc
    exact zE
   .refine Ae Er ?_ (DO g1 g2 f0') [(1,3),(2,3)];with_reducible repeat' first|constructor|intro hc
    exact zE
theorem Pl{v:AB}(hv:AZ v=true)(j:B5)(hl:j.left.length<=1048576)(hL:j.Am.Ab=0->j.Am.Dz=false->Ec j.Am=true):yA 257 [v.d,j.d] (KC (ER v j)):=by
 have hll:=(Lb hv).n;clear hv;obtain⟨id,A2,A8,AO,f⟩:=v;obtain⟨AR,A3,⟨lk,la,lh,ls,lf,lc⟩,AC,Ar,left,Ab⟩:=j;dsimp only at*
 by_cases h1:lc=0
 case neg=>
  have c1:=Gs ⟨AR,A3,⟨lk,la,lh,ls,lf,lc⟩,AC,Ar,left,Ab⟩ lc;have hT:ER ⟨id,A2,A8,AO,f⟩ ⟨AR,A3,⟨lk,la,lh,ls,lf,lc⟩,AC,Ar,left,Ab⟩=⟨FU (F5 ⟨AR,A3,⟨lk,la,lh,ls,lf,lc⟩,AC,Ar,left,Ab⟩ lc),[],false⟩:=zN h1;have f1:=Bp h1;rw[hT];clear hT hL;refine zF AK Tryz.func257 ?_;unfold KC AB.d AB.A1 B5.d B5.A1 at *;dsimp only at *;refine AD KU ?_ (AQ f1) (AQ @c1);with_reducible repeat' first|constructor|intro hc
  exact zE
 subst h1
 cases lf with
 |false=>
  have hR:=hL rfl rfl;have hA:xG ⟨lk,la,lh,ls,false,0⟩=(Vn ⟨lk,la,lh,ls,false,0⟩,true):=by unfold xG;rw[hR];rfl
  have hT:ER ⟨id,A2,A8,AO,f⟩ ⟨AR,A3,⟨lk,la,lh,ls,false,0⟩,AC,Ar,left,Ab⟩=⟨⟨AR,1,⟨lk,la,lh,ls,false,0⟩,AC,Ar,left,Ab⟩,[Vn ⟨lk,la,lh,ls,false,0⟩],false⟩:=by
   unfold ER;rw[zO (fun e=>e rfl),zN rfl];dsimp only;rw[hA];rfl
  rw[hT];clear hT hA hR hL;refine zF AK Tryz.func257 ?_;unfold KC AB.d AB.A1 B5.d B5.A1;dsimp only;refine A9 KU ?_ [(1,12),(2,12),(3,12),(4,12),(5,12),(6,12),(7,12),(8,12),(9,12)];with_reducible repeat' first|constructor|intro hc
  exact BO (yg @CF.eq_1 (yg @Vn.eq_1 (yg @Wi.AE.A1.eq_1 @AN.eq_1)))
 |true=>
 have hjl:ER ⟨id,A2,A8,AO,f⟩ ⟨AR,A3,⟨lk,la,lh,ls,true,0⟩,AC,Ar,left,Ab⟩=(if AR=1 then⟨FU (F5 ⟨AR,A3,⟨lk,la,lh,ls,true,0⟩,AC,la,left,Ab⟩ 0),[],false⟩
  else if AR=2/\la=id then Ky id ⟨AR,A3,⟨lk,la,lh,ls,true,0⟩,AC,la,left,Ab⟩ la A8
  else if AR=2 then⟨⟨AR,2,⟨lk,la,lh,ls,true,0⟩,AC,la,left,Ab⟩,[IL la],false⟩
  else if la=id then⟨FU (F5 ⟨AR,A3,⟨lk,la,lh,ls,true,0⟩,AC,la,left,Ab⟩ 0),[],true⟩
  else⟨⟨AR,4,⟨lk,la,lh,ls,true,0⟩,AC,la,left,Ab⟩,[Vm la AC.AH],false⟩):=rfl
 clear hL;have c1:=Gs ⟨AR,A3,⟨lk,la,lh,ls,true,0⟩,AC,la,left,Ab⟩ 0;refine zF AK Tryz.func257 ?_
 by_cases h3:AR=1
 .rw[zN h3]at hjl;subst h3;rw[hjl];clear hjl;unfold KC AB.d AB.A1 B5.d B5.A1 at *;dsimp only at *;refine AP KU ?_ (AQ @c1);with_reducible repeat' first|constructor|intro hc
  exact zE
 rw[zO h3]at hjl;have f3:=eq_false' h3
 by_cases h4:AR=2
 .subst h4
  by_cases h5:la=id
  .subst h5;rw[zN ⟨rfl,rfl⟩]at hjl;have c2:=Z1 ⟨la,A2,A8,AO,f⟩ ⟨2,A3,⟨lk,la,lh,ls,true,0⟩,AC,la,left,Ab⟩ la A8 (q0E hll (by decide));have c3:=Fn.ww (args':=[.d (AB.d ⟨la,A2,A8,AO,f⟩),.d (B5.d ⟨2,A3,⟨lk,la,lh,ls,true,0⟩,AC,la,left,Ab⟩),.sl 0 (A8.length+1) 1]) (x:=.is (la::A8)) c2 (by simp[AV.F3,AV.FK,B3]);rw[hjl];clear hjl c2;dsimp only at *;generalize Ky la ⟨2,A3,⟨lk,la,lh,ls,true,0⟩,AC,la,left,Ab⟩ la A8=r at *;obtain⟨rj,ra,ro⟩:=r;have f5:=B6 (rfl:la=la);unfold KC AB.d AB.A1 B5.d B5.A1 at *;dsimp only at *;have ow:Lv [64]:=trivial;refine GW KU ?_ (AQ f5) (E8 [3] c3) [(0,4),(1,4),(5,4),(6,4),(0,7),(1,7)];clear ow;with_reducible repeat' first|constructor|intro hc
   exact zE
  .rw[zO (fun e=>h5 e.2),zN rfl]at hjl;have f5:=eq_false' h5;rw[hjl];clear hjl;unfold KC AB.d AB.A1 B5.d B5.A1 at *;dsimp only at *;refine Ae KU ?_ (AQ f5) [(1,5),(2,5)];with_reducible repeat' first|constructor|intro hc
   exact BO (yg @CF.eq_1 (yg @IL.eq_1 (yg @Wi.AE.A1.eq_1 @AN.eq_1)))
 rw[zO (fun e=>h4 e.1),zO h4]at hjl;have f4:=eq_false' h4
 by_cases h5:la=id
 .subst h5;have f5:=B6 (rfl:la=la);rw[zN rfl]at hjl;rw[hjl];clear hjl;unfold KC AB.d AB.A1 B5.d B5.A1 at *;dsimp only at *;refine AD KU ?_ (DO f3 f4 f5) (AQ @c1);with_reducible repeat' first|constructor|intro hc
  exact BO @CF.eq_1
 .rw[zO h5]at hjl;have f5:=eq_false' h5;rw[hjl];clear hjl;unfold KC AB.d AB.A1 B5.d B5.A1 at *;dsimp only at *;refine Ae KU ?_ (DO f3 f4 f5) [(1,9),(2,9),(3,9),(4,9),(5,9)];with_reducible repeat' first|constructor|intro hc
  exact BO (yg @CF.eq_1 (yg @Vm.eq_1 @Wi.AE.A1.eq_1))
end Nd
end Go.Proofs.YthlmmkmeoblbhaaGreat
