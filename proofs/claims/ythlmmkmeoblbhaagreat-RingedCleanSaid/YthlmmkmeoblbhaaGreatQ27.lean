/- Part 27 of a proof. Conditions: those that its theorems state. -/
import Derived.Test.YthlmmkmeoblbhaaGreatQ22
import Derived.Test.YthlmmkmeoblbhaaGreatQ26
set_option linter.unusedSimpArgs false
set_option linter.unusedVariables false
set_option linter.unnecessarySimpa false
set_option maxHeartbeats 40000000
set_option maxRecDepth 4000
namespace Go.Proofs.YthlmmkmeoblbhaaGreat
namespace Nd
open Go.Gar
open Wi (AE BE Ay AU C2 CG Ac)
set_option maxRecDepth 8000
abbrev MW:BK:=[0,1,2,4,5,6,7,8,9,10,15,20,43]
abbrev Bo(l:List Af):D:=.sl 3 (l.map Af.A1)
theorem KM{m:AE}(hr:m.right=true):yA 141 [m.d] (Af.d ⟨m.dst,(CG m).1,false⟩):=by
 have c1:=Wi.ny m (lm (DZ hr));refine zF AK Tryz.func141 ?_;generalize CG m=q at *;obtain⟨b,e⟩:=q;unfold Wi.AE.d Wi.AE.A1 at *;dsimp only at *;refine AP [0,1,2,3] ?_ (AQ @c1);with_reducible repeat' first|constructor|intro hc
 exact BO (yg @Af.d.eq_1 @Af.A1.eq_1)
theorem OQ(l:List (AE×Int))(n:A6)(g:List Af):Cb (n,g) l=((Cb (n,[]) l).1,g++(Cb (n,[]) l).2):=by
 have h:∀(l:List (AE×Int))(n:A6)(g a:List Af),Cb (n,g++a) l=((Cb (n,a) l).1,g++(Cb (n,a) l).2):=by
  intro l
  induction l with
  |nil=>intro n g a;rfl
  |cons x r ih=>
   intro n g a;show Cb (Gq (n,g++a) x) r=((Cb (Gq (n,a) x) r).1,g++(Cb (Gq (n,a) x) r).2);unfold Gq;dsimp only;split
   .rw[zu,ih]
   .rw[ih]
 have:=h l n g [];rwa [q07]at this
theorem gj{s:NS}{l:List (AE×Int)}{k:Nat}{x:AE×Int}(hx:l[k]? =some x):Cb s (l.take (k+1))=Gq (Cb s (l.take k)) x:=by
 rw[AM hx];unfold Cb;rw[q19];rfl
theorem gi{c:Calls}{m:AE}{BH ref now:Int}(h:Bc c=true)(he:(Bl c m BH ref now).2.2=0):(Bl c m BH ref now).2.1.right=true:=by
 obtain⟨_,_,_,q,_,hr,_,e⟩:=R0 h he;rw[e];exact hr
variable {n:A6}
theorem QR(h:NB n)(l:List (AE×Int))(hl:Mq l)(hn:l.length<=1000000):
  yB 138 [.d n.d,.d (Ey l)] [] (.tup [.d (Cb (n,[]) l).1.d,.sl 2 (Cb (n,[]) l).2.length 3]) [.gone,.gone,.a (Bo (Cb (n,[]) l).2)]:=by
 have c1:=EJ n h.P5;have c2:=Fa h;refine zC AK Tryz.func138 ?_;have hY:∀(s:NS)(x:AE×Int),NB s.1->x.1.A8=[]->True:=fun _ _ _ _=>trivial
 unfold A6.d A6.A1 AB.A1 Calls.A1 B5.A1 at *;simp only[zA,zK]at *;refine AP MW ?_ (B1 @c1 @c2);with_reducible repeat' first|constructor|intro hc
 clear c1 c2;refine Av (A5.EQ 6 (.sl 3 []) rfl rfl rfl (by simp[Aq])) sm ?_;refine CO (fun k=>k<=l.length) (fun k:Nat=>[(6,.sl 2 (Cb (n,[]) (l.take k)).2.length 3),(7,.y5 k)]) (fun k=>[(0,.c (vk (Cb (n,[]) (l.take k)).1)),(2,.a (Bo (Cb (n,[]) (l.take k)).2))]) (fun k=>l.length-k) 0 (yx _) (fun _=>rfl) (fun _=>rfl) ?_ ?_
 .exact A5.ck rfl
 intro k hk
 by_cases hkl:k<l.length
 .obtain⟨x,hx⟩:=AS hkl;have hT:=gj (s:=(n,[])) hx;have hb:NB (Cb (n,[]) (l.take k)).1:=(J3 (l.take k) (s:=(n,[])) h).nb;have hxb:=hl x (zM hx);have hz:=M4 (s:=(n,[])) h (l.take k);simp only[zI,q0M]at hz;generalize Cb (n,[]) (l.take k)=s at *;obtain⟨N,G⟩:=s;obtain⟨xm,xw⟩:=x;dsimp only at *;have c3:=iM N.AI xm xw N.AJ hb.cB.1 (by unfold Co;rw[hxb];exact yx _);have c4:=bK hb xw;have hT1:Gq (N,G) (xm,xw)=if(Bl N.AI xm xw 0 N.AJ).2.2=0 then({N with AI:=(Bl N.AI xm xw 0 N.AJ).1},G++Ir (Bl N.AI xm xw 0 N.AJ).2.1)else(ED N xw,G):=rfl;have hr:=gi (m:=xm) (BH:=xw) (ref:=0) (now:=N.AJ) hb.cB.1;rw[hT1]at hT;clear hT1 hb h hl;generalize Bl N.AI xm xw 0 N.AJ=q at *;obtain⟨q1,q2,q3⟩:=q;generalize ED N xw=B at *;dsimp only at *;unfold Calls.d Calls.A1 at c3;unfold A6.d A6.A1 AB.A1 Calls.A1 B5.A1 at c4;simp only[zA,zK]at c4
  by_cases hq:q3=0
  case' pos=>
   have f1:=BJ hq;have c5:=KM (hr hq);rw[zN hq,Cu (hr hq)]at hT
  case' neg=>
   have f1:=Bp hq;have c5:=trivial;rw[zO hq]at hT
  all_goals
   unfold Wi.AE.d Wi.AE.A1 at *;have ix1:=hx;refine A9 MW ?_ [] [8];clear ix1;with_reducible repeat' first|constructor|intro hc
   apply tg (E:=T.get) 19 20 3 4 mixed rfl (by simp(decide:=true) [Ai,AF.ok,AV.oks,AV.ok])
   case h1=>
    have ix1:=hx;refine AP MW ?_ (AQ @c3) [(0,19),(1,19),(12,19),(13,19),(0,20),(1,20),(12,20),(13,20)];clear ix1;exact⟨rfl,.inl rfl⟩
   case h2=>
    have ix1:=hx;refine AP MW ?_ (AQ @c3) [(0,19),(1,19),(12,19),(13,19),(0,20),(1,20),(12,20),(13,20)];clear ix1;exact⟨rfl,.inr rfl⟩
   case hab=>rfl
   case hQ=>
    have ix1:=hx;refine AD MW ?_ (AQ f1) (B1 @c4 @c5);clear ix1;with_reducible repeat' first|constructor|intro hc
    refine⟨k+1,hkl,om,yV _,?_⟩;exact A5.cut rfl (by repeat'(first|exact zi|refine yg (by(first|rfl|((with_reducible_and_instances refine congrArg (fun z=>some (AV.d (D.i _ z))) ?_);omega)|(refine congrArg (fun z=>some (AV.d (D.i _ z))) (?_:(_:Int)=_);omega)|(refine congrArg some ?_;simp only[hT,Bo,zS,zV,zh,Af.A1,yw,yu,zI];done)|(refine congrArg some ?_;simp[hT,Bo,zS,zV,zh,Af.A1,yw,yu,zI];done))) ?_)) (by repeat'(first|exact zi|refine yg (q0D rfl) ?_|refine yg (q0w ⟨rfl,rfl⟩) ?_|refine yg (q0D (by simp only[hT,Bo,zS,zV,zh,Af.A1,yw,yu,zI])) ?_|refine yg (q0D (by simp[hT,Bo,zS,zV,zh,Af.A1,yw,yu,zI])) ?_)) (by first|rfl|(simp(decide:=true) [Ai,AF.ok,AV.oks,AV.ok,hk];done)) rfl
 .have e:k=l.length:=om
  subst e;rw[zU];refine A9 MW ?_ [(1,2)];with_reducible repeat' first|constructor|intro hc
  exact EZ
abbrev Oz:BK:=[0,1,4,5,6,14,19,28]
abbrev MX:BK:=[0,1,2,3,4,5,6,7,8,10,11,12,45]
abbrev MY:BK:=[0,1,2,3,4,5,6,7,8,9,10,11,12,13,28,42]
theorem Gt(h:NB n)(l:List (AE×Int))(hl:Mq l)(hn:l.length<=1000000):
  yA 138 [n.d,Ey l] (.tup [(Cb (n,[]) l).1.d,Bo (Cb (n,[]) l).2]):=by
 refine GE (ds:=[n.d,Ey l]) (QR h l hl hn) ?_;simp only[D5,Ea];exact⟨_,rfl,_,_,rfl,rfl,_,_,rfl,⟨rfl,(zY _).symm⟩,rfl⟩
theorem iL(l:List AL)(AH:AT)(h:CK l=true):yA 194 [Bf l,.s AH] (.tup [(HT l AH).1.d,.b (HT l AH).2]):=by
 have h24:=(CI.1 h).1;have c1:=LY l om;rw[h]at c1;refine zF AK Tryz.func194 ?_
 by_cases h0:l.length=0
 .have e:l=[]:=q1F.1 h0;subst e;refine A9 Oz ?_;with_reducible repeat' first|constructor|intro hc
  exact BO (yg @HT.eq_1 (yg @AL.d.eq_1 (yg @AL.A1.eq_1 @AN.eq_1)))
 obtain⟨hle,hlt⟩:=nK (AH:=AH) h;have hS:=(CI.1 h).2.2;obtain⟨Ck,hat⟩:∃a,a=if hasK l AH then Cc l AH+1 else Cc l AH:=⟨_,rfl⟩
 have hN:HT l AH=(l.getD (if l.length<=Ck then 0 else Ck) AN,true):=by
  unfold HT;rw[h,yX (by omega:0<l.length),hat];rfl
 have hT:∀(k:Nat)(y:AL),l[k]? =some y->(!(Op.bytesLess y.AH AH||y.AH==AH))=decide (Ck<=k):=by
  intro k y hy;rw[hlt k y hy,hat]
  cases hh:hasK l AH with
  |true=>
   obtain⟨z,hz,hzk,_⟩:=Ix hh;rw[zN rfl]
   by_cases e:k=Cc l AH
   .subst e;rw[hz]at hy;cases hy;rw[hzk];simp
   .have:(y.AH==AH)=false:=by
     rw[q1Q];intro ek;have h1:¬y.AH<AH:=by rw[ek];exact q1d _
     have h2:¬(k<Cc l AH):=fun hk=>h1 ((nL hS hy).2 hk);have h3:Cc l AH<k:=om
     have:=q0L.1 hS _ _ (yZ.1 hz).1 (yZ.1 hy).1 h3;rw[(yZ.1 hz).2,(yZ.1 hy).2,hzk,ek]at this;exact q1d _ this
    rw[this,Bool.or_false,Bool.eq_iff_iff];simp only[q0H,zn,yc];omega
  |false=>
   have:(y.AH==AH)=false:=by
    rw[q1Q];rintro rfl;have:hasK l y.AH=true:=(OA hS).2 ⟨y,zM hy,rfl⟩;rw[hh]at this;cases this
   rw[this,Bool.or_false,Bool.eq_iff_iff];simp only[q0H,zn,yc,q0F,zo];omega
 rw[hN];clear hN hat hle hlt;have g0:((l.length:Int)==0)=false:=eq_false' om;refine AD Oz ?_ (AQ g0) (AQ @c1);with_reducible repeat' first|constructor|intro hc
 refine BA (fun k=>k<=l.length/\k<=Ck) (fun k:Nat=>[(6,.y5 k)]) (fun k=>l.length-k) 0 ⟨yx _,yx _⟩ (fun _=>rfl) ?_ ?_
 .exact A5.ck rfl
 rintro k ⟨hk,hka⟩
 by_cases hkl:k<l.length
 .obtain⟨y,hy⟩:=AS hkl;have f1:=hT k y hy;have g1:decide ((k:Int)<(l.length:Int))=true:=yX om
  by_cases e:Ck=k
  .subst e;rw[yX (yV _)]at f1;have hg:l.getD (if l.length<=Ck then 0 else Ck) AN=y:=by rw[zO om];exact getD_at hy
   rw[hg];have ix1:=hy;refine Ae Oz ?_ (B1 f1 g1);clear ix1;with_reducible repeat' first|constructor|intro hc
   exact BO (yg @AL.d.eq_1 @AL.A1.eq_1)
  .rw[yY om]at f1;have ix1:=hy;refine Ae Oz ?_ (B1 f1 g1);clear ix1;with_reducible repeat' first|constructor|intro hc
   refine⟨k+1,⟨hkl,om⟩,om,yV _,?_⟩;exact A5.ck rfl
 .have e:k=l.length:=om
  subst e;obtain⟨y,hy⟩:=AS (xs:=l) (k:=0) om;have g1:decide ((l.length:Int)<(l.length:Int))=false:=yY om;have hg:l.getD (if l.length<=Ck then 0 else Ck) AN=y:=by rw[zN hka];exact getD_at hy
  rw[hg];have ix1:=hy;refine Ae Oz ?_ (AQ g1);clear ix1;with_reducible repeat' first|constructor|intro hc
  exact BO (yg @AL.d.eq_1 @AL.A1.eq_1)
theorem TQ(j:B5):yA 136 [j.d] (.b (LF j)):=by
 obtain⟨R,hR⟩:∃R,R=LF j:=⟨_,rfl⟩;rw[<-hR];unfold LF at hR;refine zF AK Tryz.func136 ?_;unfold B5.d B5.A1;refine A9 [0,1,2] ?_;with_reducible repeat' first|constructor|intro hc
 all_goals(refine⟨_,_,rfl,rfl,?_⟩;simp only[E5];refine congrArg D.b ?_;rw[hR];clear hR;grind)
theorem then_eq(g:List Af)(r:A6×List (AE×Int)):EU g r=((Cb (r.1,[]) r.2).1,g++(Cb (r.1,[]) r.2).2):=OQ r.2 r.1 g
theorem Z2(h:NB n):yA 134 [n.d] (.tup [(Ep (DF (n,[]))).1.d,Bo (Ep (DF (n,[]))).2]):=by
 have c1:=bI h.rv h.st;have hb:=K4 h.rv h.st h.ph;have hN1:NB {n with A3:=(CX n.A4 n.A3 n.BN).1.1,BN:=(CX n.A4 n.A3 n.BN).1.2}:=h.tO hb.1 hb.2;have d1:=QR hN1 (CX n.A4 n.A3 n.BN).2 (q8 _ _ _) (q0E (fJ _ _ _) (by decide));have hs:NB (DF (n,[])).1:=(Od (s:=(n,[])) h).nb
 have hz:(DF (n,[])).2.length<=16:=by
  have:=(Od (s:=(n,[])) h).size;simpa using this
 have hR:DF (n,[])=Cb ({n with A3:=(CX n.A4 n.A3 n.BN).1.1,BN:=(CX n.A4 n.A3 n.BN).1.2},[]) (CX n.A4 n.A3 n.BN).2:=rfl;rw[<-hR]at d1;clear hR h hb hN1;generalize DF (n,[])=s at *;obtain⟨N,G⟩:=s;generalize CX n.A4 n.A3 n.BN=b at *;obtain⟨⟨bp,bo⟩,bl⟩:=b;dsimp only at *;have c2:=i9 hs.rv;have c3:=iC N.AI 4 hs.cB.1
 have hP:Ep (N,G)=if(LW N.A4).2&& !(SV N.AI 4).2 then(let t:=Cb (N,[]) [(⟨2,0,0,(LW N.A4).1,0,false,false,0,0,[],AN,0⟩,4)];(t.1,G++t.2))else(N,G):=by
  unfold Ep;dsimp only;split
  .exact OQ ..
  .rfl
 have c4:=Gt hs [(⟨2,0,0,(LW N.A4).1,0,false,false,0,0,[],AN,0⟩,4)] (by unfold Mq;simp) sm;have hz4:=M4 (s:=(N,[])) hs [(⟨2,0,0,(LW N.A4).1,0,false,false,0,0,[],AN,0⟩,4)];rw[hP];clear hP hs;generalize LW N.A4=ra at *;generalize SV N.AI 4=fc at *;obtain⟨r1,r2⟩:=ra;obtain⟨f1,f2⟩:=fc;dsimp only at *;generalize Cb (N,[]) [(⟨2,0,0,r1,0,false,false,0,0,[],AN,0⟩,4)]=t at *;obtain⟨N2,G2⟩:=t;simp only[zI,q0M]at hz4;dsimp only at *;simp only[Ey,zV,zh,Rr,Wi.AE.A1,AN,zA,zK]at c4;refine zF AK Tryz.func134 ?_;unfold A6.d A6.A1 AB.d AB.A1 Calls.d Calls.A1 B4.d B4.A1 B5.A1 at *;simp only[zA,zK]at*
 cases r2 with
 |false=>
  rw[q0Z,zO q1C];refine Fc MX ?_ (DO @c1 @c2 @c3) (E8 [] d1) [] [7];with_reducible repeat' first|constructor|intro hc
  refine A9 MX ?_ [(1,2)];with_reducible repeat' first|constructor|intro hc
  exact zE
 |true=>
  cases f2 with
  |true=>
   rw[q1Y,q0W,zO q1C];refine Fc MX ?_ (DO @c1 @c2 @c3) (E8 [] d1) [] [7];with_reducible repeat' first|constructor|intro hc
   refine A9 MX ?_ [(1,2)];with_reducible repeat' first|constructor|intro hc
   exact zE
  |false=>
   rw[Bool.not_false,Bool.and_true,zN rfl];refine Fc MX ?_ (Hc @c1 @c2 @c3 @c4) (E8 [] d1) [] [9];with_reducible repeat' first|constructor|intro hc
   refine A9 MX ?_ [(0,3)];with_reducible repeat' first|constructor|intro hc
   refine⟨_,_,rfl,rfl,?_⟩;simp[E5,B3,B8,Aq,zS]
theorem OI(n:A6):FW (n,[])=(C6 n.AI n.AJ).2.2.foldl (fun s x=>EU s.2 (Bu s.1 x)) ({n with AI:=(C6 n.AI n.AJ).1},(C6 n.AI n.AJ).2.1.flatMap Ir):=by
 unfold FW;dsimp only;rw[zK]
theorem Ug{l:List AE}(h:∀m∈l,m.right=true):∀k,((l.take k).flatMap Ir)=(l.take k).map fun m=>(⟨m.dst,(CG m).1,false⟩:Af):=by
 intro k
 have:∀q:List AE,(∀m∈q,m.right=true)->q.flatMap Ir=q.map fun m=>(⟨m.dst,(CG m).1,false⟩:Af):=by
  intro q
  induction q with
  |nil=>intro _;rfl
  |cons a r ih=>
   intro hq;rw[List.flatMap_cons,zV,ih fun m hm=>hq m (q05 _ hm),Cu (hq a (q02 ..))];rfl
 exact this _ fun m hm=>h m (List.mem_of_mem_take hm)
theorem Z3(h:NB n)(hJ:NJ n):yB 133 [.d n.d] [] (.tup [.d (FW (n,[])).1.d,.sl 3 (FW (n,[])).2.length 3]) [.gone,.gone,.gone,.a (Bo (FW (n,[])).2)]:=by
 have ht:EV n.AJ=true:=Ty.2 (by have:=(Al.1 h.r).1;exact this);have c1:=na n.AI n.AJ h.cB.1 ht;have hm:=(Lx (now:=n.AJ) h.cB.1).1;have hl:=Sw n.AI n.AJ h.cB.1;have hN:=h.late n.AJ;have hNJ:NJ {n with AI:=(C6 n.AI n.AJ).1}:=⟨hJ.f,hJ.m,hJ.c⟩;rw[OI];generalize C6 n.AI n.AJ=q at *;obtain⟨qc,again,over⟩:=q;dsimp only at *;have hfl:=Ug fun m hm'=>(hm m hm').1
 have hfl0:=hfl again.length;rw[zU]at hfl0;rw[hfl0];clear hfl hfl0 h hJ ht;refine zC AK Tryz.func133 ?_;unfold A6.d A6.A1 AB.A1 Calls.d Calls.A1 B5.A1 at *;simp only[zA,zK]at *;refine AP MY ?_ (AQ @c1);with_reducible repeat' first|constructor|intro hc
 clear c1;refine Av (A5.EQ 7 (.sl 3 []) rfl rfl rfl (by simp[Aq])) sm ?_;refine CO (fun k=>k<=again.length) (fun k:Nat=>[(7,.sl 3 (again.take k).length 3),(8,.y5 k)]) (fun k=>[(3,.a (Bo ((again.take k).map fun m=>(⟨m.dst,(CG m).1,false⟩:Af))))]) (fun k=>again.length-k) 0 (yx _) (fun _=>rfl) (fun _=>rfl) ?_ ?_
 .exact A5.ck rfl
 .intro k hk;have htl:(again.take k).length<=k:=q0Q _ _
  by_cases hkl:k<again.length
  .obtain⟨x,hx⟩:=AS hkl;have c2:=KM (hm x (zM hx)).1;have hn:=AM hx;unfold Wi.AE.d Wi.AE.A1 at c2;have ix1:=hx;refine AP MY ?_ (AQ @c2);clear ix1;with_reducible repeat' first|constructor|intro hc
   refine⟨k+1,hkl,om,yV _,?_⟩;exact A5.cut rfl (by repeat'(first|exact zi|refine yg (by(first|rfl|((with_reducible_and_instances refine congrArg (fun z=>some (AV.d (D.i _ z))) ?_);omega)|(refine congrArg (fun z=>some (AV.d (D.i _ z))) (?_:(_:Int)=_);omega)|(refine congrArg some ?_;simp only[hn,Bo,zS,zV,zh,Af.A1,yw,yu,zI];done)|(refine congrArg some ?_;simp[hn,Bo,zS,zV,zh,Af.A1,yw,yu,zI];done))) ?_)) (by repeat'(first|exact zi|refine yg (q0D rfl) ?_|refine yg (q0w ⟨rfl,rfl⟩) ?_|refine yg (q0D (by simp only[hn,Bo,zS,zV,zh,Af.A1,yw,yu,zI])) ?_|refine yg (q0D (by simp[hn,Bo,zS,zV,zh,Af.A1,yw,yu,zI])) ?_)) (by first|rfl|(simp(decide:=true) [Ai,AF.ok,AV.oks,AV.ok,hk];done)) rfl
  .have e:k=again.length:=om
   subst e;rw[zU];refine A9 MY ?_;with_reducible repeat' first|constructor|intro hc
   generalize hG0:(again.map fun m=>(⟨m.dst,(CG m).1,false⟩:Af))=G0 at *;have hG0l:G0.length=again.length:=by rw[<-hG0,zY]
   rw[<-hG0l];clear hG0;refine CO (fun k=>k<=over.length) (fun k:Nat=>[(7,.sl 3 ((over.take k).foldl (fun s x=>EU s.2 (Bu s.1 x)) (({n with AI:=qc},G0):NS)).2.length 3),(9,.y5 k)]) (fun k=>[(0,.c (vk ((over.take k).foldl (fun s x=>EU s.2 (Bu s.1 x)) (({n with AI:=qc},G0):NS)).1)),(3,.a (Bo ((over.take k).foldl (fun s x=>EU s.2 (Bu s.1 x)) (({n with AI:=qc},G0):NS)).2))]) (fun k=>over.length-k) 0 (yx _) (fun _=>rfl) (fun _=>rfl) ?_ ?_
   .exact A5.ck rfl
   .intro k hk
    by_cases hkl:k<over.length
    .obtain⟨x,hx⟩:=AS hkl
     have hst:(over.take (k+1)).foldl (fun s x=>EU s.2 (Bu s.1 x)) (({n with AI:=qc},G0):NS)=(fun s:NS=>EU s.2 (Bu s.1 x)) ((over.take k).foldl (fun s x=>EU s.2 (Bu s.1 x)) (({n with AI:=qc},G0):NS)):=by
      rw[AM hx,q19];rfl
     have hH:=Lz (over.take k) (s:=({n with AI:=qc},G0)) hN;have hz:=hH.size;have hb:=hH.nb;have hJ:=Sz (over.take k) (s:=({n with AI:=qc},G0)) hNJ;clear hH;generalize(over.take k).foldl (fun s x=>EU s.2 (Bu s.1 x)) (({n with AI:=qc},G0):NS)=s at *;obtain⟨N,G⟩:=s;dsimp only at *;rw[then_eq]at hst;have c2:=bN hb hJ x;have c3:=Gt (n:=(Bu N x).1) hb.lost (Bu N x).2 (ui _ _) (q0E (mT _ _) (by decide));have hz3:=M4 (s:=((Bu N x).1,[])) hb.lost (Bu N x).2;simp only[zI,q0M]at hz3;clear hb hJ;generalize Cb ((Bu N x).1,[]) (Bu N x).2=t at *;generalize Bu N x=r at *;obtain⟨r1,r2⟩:=r;obtain⟨N2,G2⟩:=t;dsimp only at *;unfold A6.d A6.A1 AB.A1 B4.d B4.A1 Calls.A1 B5.A1 at c2;unfold A6.d A6.A1 AB.A1 Calls.A1 B5.A1 at c3;simp only[zA,zK]at c2 c3;have ix1:=hx;refine AP MY ?_ (AQ @c2) [(0,9)] [12];clear ix1;with_reducible repeat' first|constructor|intro hc
     refine AP MY ?_ (AQ @c3);with_reducible repeat' first|constructor|intro hc
     refine⟨k+1,hkl,om,yV _,?_⟩;exact A5.cut rfl (by repeat'(first|exact zi|refine yg (by(first|rfl|((with_reducible_and_instances refine congrArg (fun z=>some (AV.d (D.i _ z))) ?_);omega)|(refine congrArg (fun z=>some (AV.d (D.i _ z))) (?_:(_:Int)=_);omega)|(refine congrArg some ?_;simp only[hst,Bo,zS,yw];done)|(refine congrArg some ?_;simp[hst,Bo,zS,yw];done))) ?_)) (by repeat'(first|exact zi|refine yg (q0D rfl) ?_|refine yg (q0w ⟨rfl,rfl⟩) ?_|refine yg (q0D (by simp only[hst,Bo,zS,yw])) ?_|refine yg (q0D (by simp[hst,Bo,zS,yw])) ?_)) (by first|rfl|(simp(decide:=true) [Ai,AF.ok,AV.oks,AV.ok,hk];done)) rfl
    .have e:k=over.length:=om
     subst e;rw[zU];refine A9 MY ?_ [(1,2)];with_reducible repeat' first|constructor|intro hc
     exact EZ
abbrev Fe:BK:=[0,1,2,3,4,5,6,7,8,9,10,11,12,13,14,15,16,17,18,21,36,67]
def jbE(k:Nat):yr:=[(1,.ptr 0 0 76),(2,.ptr 1 0 76),(4,.sl 2 k 3)]
def xD(s:NS):Nat->yz
 |0=>[.c (vk s.1),.c y3,.a (Bo s.2)]
 |1=>[.c (vk s.1),.c y3,.a (Bo s.2),.gone]
 |_=>[.c (vk s.1),.c y3,.a (Bo s.2),.gone,.gone,.gone]
theorem nW(h:NB n):yA 135 [n.d] (.tup [(Cr (C5 (n,[]))).1.d,Bo (Cr (C5 (n,[]))).2]):=by
 have c1:=TQ n.Ag;have c2:=oA h.rv n.next;have hF:=O0 (s:=(n,[])) h;have hz:=hF.size;have hb:=hF.nb;simp only[zI,q0M]at hz;clear hF;obtain⟨s,hs⟩:∃s,s=C5 (n,[]):=⟨_,rfl⟩;rw[<-hs]at hz hb|-;refine zF AK Tryz.func135 ?_;have hd:n.d=D.agg n.A1:=rfl;rw[hd];unfold A6.A1 AB.A1 Calls.A1 B5.A1;simp only[zA,zK];refine A9 Fe ?_ [] [2];with_reducible repeat' first|constructor|intro hc
 refine Av (A5.EQ 4 (.sl 3 []) rfl rfl rfl (by simp[Aq])) sm ?_;refine XN (α:=Nat) (fun k=>k=0\/k=1\/k=2) (fun k=>⟨jbE s.2.length,xD s k,Tryz.f135.ntmps⟩) ?_ ?_
 .unfold jbE xD;unfold C5 at hs;dsimp only at hs;unfold B5.d B5.A1 at c1;unfold AB.d AB.A1 at c2
  cases hf:LF n.Ag with
  |false=>
   rw[hf]at hs c1;replace hs:s=(n,[]):=hs;subst hs;clear c2;refine AP Fe ?_ (AQ @c1);with_reducible repeat' first|constructor|intro hc
   exact⟨0,.inl rfl,yV _,(A5.ck rfl)⟩
  |true=>
   rw[hf]at hs c1;rw[zN rfl]at hs;have hw:=RA h.rv n.next;have hN:=h.A4 hw.1 ⟨hw.2.2.1,hw.2.2.2⟩;generalize walkT n.A4 n.next=r at *;obtain⟨rv,rn,ra,rb⟩:=r;dsimp only at*
   cases rb with
   |false=>
    replace hs:s=({n with A4:=rv,next:=rn},[]):=hs;subst hs;clear h hN;refine AP Fe ?_ (B1 @c1 @c2) [] [4];with_reducible repeat' first|constructor|intro hc
    refine A9 Fe ?_;with_reducible repeat' first|constructor|intro hc
    exact⟨1,.inr (.inl rfl),yV _,(A5.ck rfl)⟩
   |true=>
    rw[zN rfl,then_eq]at hs;have c3:=LV hN (w:=5) ⟨by decide,by decide⟩ 1 ra AN (yx _);have hN2:=hN.start (w:=5) (AR:=1) (AY:=ra) (x:=AN) (yx _);have c4:=Gt hN2 _ (Wx {n with A4:=rv,next:=rn} 5 1 ra AN) (q0E (Pw {n with A4:=rv,next:=rn} 5 1 ra AN) (by decide));clear h hN hN2 hb;generalize CL {n with A4:=rv,next:=rn} 5 1 ra AN=r at *;generalize Cb (r.1,[]) r.2=t at *;obtain⟨r1,r2⟩:=r;obtain⟨N2,G2⟩:=t;dsimp only at *;rw[zK]at hs;subst hs;dsimp only at hz;unfold AL.d AL.A1 AN at c3;unfold A6.d A6.A1 AB.A1 Calls.A1 B5.A1 at c3 c4;simp only[zA,zK]at c3 c4;refine AP Fe ?_ (B1 @c1 @c2) [] [4];with_reducible repeat' first|constructor|intro hc
    refine AP Fe ?_ (B1 @c3 @c4);with_reducible repeat' first|constructor|intro hc
    exact⟨2,.inr (.inr rfl),yV _,(A5.ck rfl)⟩
 intro k hk3;clear c1 c2 h hs;obtain⟨N,G⟩:=s;unfold jbE;dsimp only at *;have c3:=iL N.keep N.last hb.kp;have c4:=TQ N.Ak;obtain⟨R,hR⟩:∃R,R=Cr (N,G):=⟨_,rfl⟩;rw[<-hR];unfold Cr at hR;dsimp only at hR;unfold AL.d AL.A1 at c3;unfold B5.d B5.A1 at c4
 cases hx:(HT N.keep N.last).2 with
 |false=>
  rw[hx,q0W,zO q1C]at hR;rw[hx]at c3;subst hR;generalize HT N.keep N.last=q at *;generalize LF N.Ak=b at *;rcases hk3 with rfl|rfl|rfl<;>cases b
  all_goals
   unfold xD;refine AP Fe ?_ (B1 @c3 @c4) [] [17];with_reducible repeat' first|constructor|intro hc
   refine A9 Fe ?_;with_reducible repeat' first|constructor|intro hc
   exact BO (yg @A6.d.eq_1 (yg @A6.A1.eq_1 (yg @AB.A1.eq_1 (yg @Calls.A1.eq_1 @B5.A1.eq_1))))
 |true=>
  rw[hx,Bool.and_true]at hR;rw[hx]at c3;have hk:=Qy hx;have hky:=OH hk.1 hk.2;generalize HT N.keep N.last=q at *;obtain⟨q1,q2⟩:=q;dsimp only at*
  cases hf:LF N.Ak with
  |false=>
   rw[hf,zO q1C]at hR;rw[hf]at c4;subst hR;rcases hk3 with rfl|rfl|rfl
   all_goals
    unfold xD;refine AP Fe ?_ (B1 @c3 @c4) [] [17];with_reducible repeat' first|constructor|intro hc
    refine A9 Fe ?_;with_reducible repeat' first|constructor|intro hc
    exact BO (yg @A6.d.eq_1 (yg @A6.A1.eq_1 (yg @AB.A1.eq_1 (yg @Calls.A1.eq_1 @B5.A1.eq_1))))
  |true=>
   rw[hf,zN rfl,then_eq]at hR;rw[hf]at c4;have hN:=hb.last q1.AH;have c5:=LV hN (w:=6) ⟨by decide,by decide⟩ 2 0 q1 om;have hN2:=hN.start (w:=6) (AR:=2) (AY:=0) (x:=q1) (q0E hky (by decide));have c6:=Gt hN2 _ (Wx {N with last:=q1.AH} 6 2 0 q1) (q0E (Pw {N with last:=q1.AH} 6 2 0 q1) (by decide));have hz6:=M4 (s:=((CL {N with last:=q1.AH} 6 2 0 q1).1,[])) hN2 (CL {N with last:=q1.AH} 6 2 0 q1).2;simp only[zI,q0M]at hz6;clear hb hN hN2;generalize CL {N with last:=q1.AH} 6 2 0 q1=r at *;generalize Cb (r.1,[]) r.2=t at *;obtain⟨r1,r2⟩:=r;obtain⟨N2,G2⟩:=t;dsimp only at *;subst hR;unfold AL.d AL.A1 at c5;unfold A6.d A6.A1 AB.A1 Calls.A1 B5.A1 at c5 c6;simp only[zA,zK]at c5 c6;rcases hk3 with rfl|rfl|rfl
   all_goals
    unfold xD;refine AP Fe ?_ (Hc @c3 @c4 @c5 @c6) [] [17];with_reducible repeat' first|constructor|intro hc
    refine A9 Fe ?_;with_reducible repeat' first|constructor|intro hc
    refine⟨_,_,rfl,rfl,?_⟩;simp[E5,B3,B8,Aq,A6.d,A6.A1,AB.A1,Calls.A1,B5.A1,zS,zA,zK]
theorem ii(n:A6)(g:List Af):DF (n,g)=((DF (n,[])).1,g++(DF (n,[])).2):=OQ ..
theorem Yo(n:A6)(g:List Af):Ep (n,g)=((Ep (n,[])).1,g++(Ep (n,[])).2):=by
 unfold Ep;dsimp only;split
 .exact OQ ..
 .simp
theorem aR(n:A6)(g:List Af):C5 (n,g)=((C5 (n,[])).1,g++(C5 (n,[])).2):=by
 unfold C5;dsimp only;split
 .split
  .rw[then_eq g,then_eq []];simp
  .simp
 .simp
theorem T2(n:A6)(g:List Af):Cr (n,g)=((Cr (n,[])).1,g++(Cr (n,[])).2):=by
 unfold Cr;dsimp only;split
 .rw[then_eq g,then_eq []];simp
 .simp
theorem mN(n:A6)(g:List Af):Ep (DF (n,g))=((Ep (DF (n,[]))).1,g++(Ep (DF (n,[]))).2):=by
 rw[ii n g,Yo,show DF (n,[])=((DF (n,[])).1,(DF (n,[])).2)from rfl,Yo _ (DF (n,[])).2,zu]
theorem mE(n:A6)(g:List Af):Cr (C5 (n,g))=((Cr (C5 (n,[]))).1,g++(Cr (C5 (n,[]))).2):=by
 rw[aR n g,T2,show C5 (n,[])=((C5 (n,[])).1,(C5 (n,[])).2)from rfl,T2 _ (C5 (n,[])).2,zu]
theorem bU(h:NB n)(hJ:NJ n):yA 83 [n.d] (.tup [(EW n).1.d,Bo (EW n).2]):=by
 have c1:=EJ n h.P5;have c2:=Fa h
 by_cases hc:n.AJ>=1099511627776
 .have hT:EW n=(n,[]):=by unfold EW;rw[zN (.inl hc)]
  have g1:decide (n.AJ>=1099511627776)=true:=yX hc;rw[hT];clear hT h hJ;refine zF AK Tryz.func83 ?_;unfold A6.d A6.A1 AB.A1 Calls.A1 B5.A1 at *;simp only[zA,zK]at *;refine AD [0,1,2,3,4,5,6,16] ?_ (AQ g1) (B1 @c1 @c2);with_reducible repeat' first|constructor|intro hc
  exact zE
 have g1:decide (n.AJ>=1099511627776)=false:=yY hc;have hN:=h.AJ (Int.not_le.1 hc);have hNJ:NJ {n with AJ:=n.AJ+1}:=⟨hJ.f,hJ.m,hJ.c⟩;have d1:=Z3 hN hNJ
 have hT:EW n=Cr (C5 (Ep (DF (FW ({n with AJ:=n.AJ+1},[]))))):=by
  unfold EW;rw[zO (by rw[h.r];simpa using hc)]
 have hcl:n.AJ+1<9223372036854775807:=om
 have hc0:0<=n.AJ:=(Al.1 h.r).1.1;have hL:=Lz (C6 n.AI (n.AJ+1)).2.2 (s:=({n with AJ:=n.AJ+1,AI:=(C6 n.AI (n.AJ+1)).1},(C6 n.AI (n.AJ+1)).2.1.flatMap Ir)) (hN.late (n.AJ+1));have e0:FW ({n with AJ:=n.AJ+1},[])=(C6 n.AI (n.AJ+1)).2.2.foldl (fun s x=>EU s.2 (Bu s.1 x)) ({n with AJ:=n.AJ+1,AI:=(C6 n.AI (n.AJ+1)).1},(C6 n.AI (n.AJ+1)).2.1.flatMap Ir):=OI {n with AJ:=n.AJ+1};rw[<-e0]at hL;have hb1:=hL.nb;clear hL e0
 have hz1:(FW ({n with AJ:=n.AJ+1},[])).2.length<=100:=by
  have h1:=Lz (C6 n.AI (n.AJ+1)).2.2 (s:=({n with AJ:=n.AJ+1,AI:=(C6 n.AI (n.AJ+1)).1},(C6 n.AI (n.AJ+1)).2.1.flatMap Ir)) (hN.late (n.AJ+1));have h2:=h1.size;have h3:=Sw n.AI (n.AJ+1) h.cB.1;have h4:=Ug (fun m hm=>((Lx (now:=n.AJ+1) h.cB.1).1 m hm).1) (C6 n.AI (n.AJ+1)).2.1.length;rw[zU]at h4;have h5:=congrArg List.length h4;rw[zY]at h5;rw[show FW ({n with AJ:=n.AJ+1},[])=_ from OI {n with AJ:=n.AJ+1}];dsimp only at h2 h3 h5|-;omega
 have hT2:EW n=(let s1:=FW ({n with AJ:=n.AJ+1},[]);let s2:=Ep (DF (s1.1,[]));let s3:=Cr (C5 (s2.1,[]));(s3.1,s1.2++s2.2++s3.2)):=by
  rw[hT];dsimp only;rw[show FW ({n with AJ:=n.AJ+1},[])=((FW ({n with AJ:=n.AJ+1},[])).1,(FW ({n with AJ:=n.AJ+1},[])).2)from rfl,mN,mE]
 rw[hT2];clear hT hT2;generalize FW ({n with AJ:=n.AJ+1},[])=s1 at *;obtain⟨N1,G1⟩:=s1;dsimp only at *;have c3:=Z2 hb1;have k1:=(Od (s:=(N1,[])) hb1);have k2:=k1.trans (bE k1.nb);have hb2:=k2.nb;have hz2:=k2.size;clear k1 k2;generalize Ep (DF (N1,[]))=s2 at *;obtain⟨N2,G2⟩:=s2;dsimp only at *;have c4:=nW hb2;have k1:=(O0 (s:=(N2,[])) hb2);have k2:=k1.trans (YW k1.nb);have hz3:=k2.size;have c5:=EJ _ k2.nb.P5;clear k1 k2;generalize Cr (C5 (N2,[]))=s3 at *;obtain⟨N3,G3⟩:=s3;simp only[zI,q0M]at hz2 hz3;dsimp only at *;clear h hJ hN hNJ hb1 hb2;refine zF AK Tryz.func83 ?_;unfold A6.d A6.A1 AB.A1 Calls.A1 B5.A1 at *;simp only[zA,zK]at *;refine EL [0,1,2,3,4,5,6,16] ?_ (AQ g1) (Hc @c1 @c2 @c3 @c4) (E8 [] d1) [] [8];with_reducible repeat' first|constructor|intro hc
 refine AP [0,1,2,3,4,5,6,16] ?_ (AQ @c5);with_reducible repeat' first|constructor|intro hc
 refine⟨_,_,rfl,rfl,?_⟩;simp[E5,B3,B8,Aq,zS]
abbrev MZ:BK:=[0,1,2,4,5,6,7,8,9,10,11,12,13,14,19,35,38,45,65]
abbrev KX:BK:=[0,1,2,3,5,6,7,8,9,10,11,12,13,14,47,52]
abbrev RO:BK:=[0,1,2,3,4,5,6,9,14,31]
theorem ZS{b:AT}(h:(Ac b).2=0):(Ac b).1.right=true:=by
 unfold Ac at h|-;split at h
 .rename_i h0;rw[zN h0];unfold Wi.Ed at h|-;split at h
  .cases h
  .rename_i h1;rw[zO h1];generalize(Wi.Bl b).1=p at h|-
   cases e1:Wi.GR AU p with
   |none=>rw[e1]at h;cases h
   |some q=>
    obtain⟨m,r⟩:=q;rw[e1]at h;dsimp only at h|-
    cases e2:Wi.Gc m r with
    |none=>rw[e2]at h;cases h
    |some q=>
     obtain⟨m',r'⟩:=q;rw[e2]at h;dsimp only at h|-;split at h
     .rename_i hr;rw[zN hr];exact hr.2
     .cases h
 .rename_i h0;exact absurd h h0
theorem bS(h:NB n)(hJ:NJ n)(b:AT)(hb:b.length<70368744177664):yA 87 [n.d,.by b] (.tup [(ET n b).1.d,Bo (ET n b).2]):=by
 have c1:=EJ n h.P5;have c2:=Fa h;have c3:=Wi.iR b hb
 have hT:ET n b=(if(Ac b).2≠0\/(Ac b).1.dst≠n.A4.id then({n with bad:=if n.bad<1099511627776 then n.bad+1 else n.bad},[])
  else if(Ac b).1.BW then((Bv n (Ac b).1).1,Ir (Bv n (Ac b).1).2)
  else if(Bi n.AI (Ac b).1).2.2 then EU [] (CQ {n with AI:=(Bi n.AI (Ac b).1).1} (Bi n.AI (Ac b).1).2.1 (Ac b).1)
  else(n,[])):=by unfold ET;rw[zN h.r]
 rw[hT];clear hT
 by_cases hbad:(Ac b).2≠0\/(Ac b).1.dst≠n.A4.id
 .rw[zN hbad];have hn:=(Al.1 h.r).2.1;generalize Ac b=t at *;obtain⟨m,e⟩:=t;dsimp only at*
  have hg:(e !=0)=true\/((e !=0)=false/\(m.dst !=n.A4.id)=true):=by
   by_cases h0:e=0
   .exact .inr ⟨BJ h0,Bp (hbad.resolve_left fun h=>h h0)⟩
   .exact .inl (Bp h0)
  clear h hJ hbad;refine zF AK Tryz.func87 ?_;unfold A6.d A6.A1 AB.A1 Calls.A1 B5.A1 Wi.AE.d Wi.AE.A1 at *;simp only[zA,zK]at*
  by_cases hB:n.bad<1099511627776
  case' pos=>
   have g1:decide (n.bad<1099511627776)=true:=yX hB;rw[zN hB]
  case' neg=>
   have g1:decide (n.bad<1099511627776)=false:=yY hB;rw[zO hB]
  all_goals
   rcases hg with f1|⟨f1,f2⟩
   .refine AD MZ ?_ (B1 f1 g1) (DO @c1 @c2 @c3);with_reducible repeat' first|constructor|intro hc
    exact zE
   .refine AD MZ ?_ (DO f1 f2 g1) (DO @c1 @c2 @c3);with_reducible repeat' first|constructor|intro hc
    exact zE
 rw[zO hbad];have he:(Ac b).2=0:=q1A fun h=>hbad (.inl h)
 have hd:(Ac b).1.dst=n.A4.id:=q1A fun h=>hbad (.inr h);have hr:=ZS he
 have hlg:=DZ hr;have c4:=Wi.IZ (Ac b).1;clear hbad;have f1:=BJ he;have f2:=BJ hd
 cases ha:(Ac b).1.BW with
 |true=>
  have hs:E7 n (Ac b).1=true:=Gu.2 ⟨ha,hr,hd,h.r⟩;have ht:=(Og h hs).2.2.2.2.2.2.2.2.1;have c5:=Z9 h hlg;have c6:=KM ht;rw[zN rfl,Cu ht];rw[ha]at c4;clear h hJ hs ht hr hlg ha;generalize Bv n (Ac b).1=r at *;generalize Ac b=t at *;obtain⟨m,e⟩:=t;obtain⟨r1,r2⟩:=r;dsimp only at *;refine zF AK Tryz.func87 ?_;unfold Af.d Af.A1 at c6;unfold A6.d A6.A1 AB.A1 Calls.A1 B5.A1 Wi.AE.d Wi.AE.A1 at *;simp only[zA,zK]at *;refine AD MZ ?_ (B1 f1 f2) (jS @c1 @c2 @c3 @c4 @c5 @c6) [] [11];with_reducible repeat' first|constructor|intro hc
  refine AP MZ ?_ (AQ @c6) [(1,4)];with_reducible repeat' first|constructor|intro hc
  exact BO @Af.A1.eq_1
 |false=>
 rw[zO q1C];rw[ha]at c4;have c5:=bL n.AI (Ac b).1 h.cB.1 (lm hlg)
 cases hc:(Bi n.AI (Ac b).1).2.2 with
 |false=>
  rw[zO q1C];rw[hc]at c5;clear h hJ hr hlg ha hc;generalize Bi n.AI (Ac b).1=q at *;generalize Ac b=t at *;obtain⟨m,e⟩:=t;obtain⟨q1,q2,q3⟩:=q;dsimp only at *;refine zF AK Tryz.func87 ?_;unfold Calls.d B4.d B4.A1 at c5;unfold A6.d A6.A1 AB.A1 Calls.A1 B5.A1 Wi.AE.d Wi.AE.A1 at *;simp only[zA,zK]at *;refine AD MZ ?_ (B1 f1 f2) (Ll @c1 @c2 @c3 @c4 @c5);with_reducible repeat' first|constructor|intro hc
  exact zE
 |true=>
  rw[zN rfl,then_eq,zK];rw[hc]at c5;have hn:=h.close (Ac b).1;have hnJ:NJ {n with AI:=(Bi n.AI (Ac b).1).1}:=⟨hJ.f,hJ.m,hJ.c⟩;have c6:=Z0 hn hnJ (Bi n.AI (Ac b).1).2.1 (Ac b).1 hlg;have hh:=hn.heard (c:=(Bi n.AI (Ac b).1).2.1) (m:=(Ac b).1) (q0E (MF hr) (by decide));have c7:=Gt hh _ (qf {n with AI:=(Bi n.AI (Ac b).1).1} (Bi n.AI (Ac b).1).2.1 (Ac b).1) (q0E (fx {n with AI:=(Bi n.AI (Ac b).1).1} (Bi n.AI (Ac b).1).2.1 (Ac b).1) (by decide));clear h hJ hr hlg ha hn hnJ hh hc;generalize CQ {n with AI:=(Bi n.AI (Ac b).1).1} (Bi n.AI (Ac b).1).2.1 (Ac b).1=r at *;generalize Bi n.AI (Ac b).1=q at *;generalize Ac b=t at *;generalize Cb (r.1,[]) r.2=o at *;obtain⟨m,e⟩:=t;obtain⟨q1,q2,q3⟩:=q;obtain⟨r1,r2⟩:=r;obtain⟨o1,o2⟩:=o;dsimp only at *;refine zF AK Tryz.func87 ?_;unfold B4.d B4.A1 at c5 c6;unfold Calls.d at c5;unfold A6.d A6.A1 AB.A1 Calls.A1 B5.A1 Wi.AE.d Wi.AE.A1 at *;simp only[zA,zK]at *;refine AD MZ ?_ (B1 f1 f2) (jT @c1 @c2 @c3 @c4 @c5 @c6 @c7);with_reducible repeat' first|constructor|intro hc
  exact zE
theorem VI(h:NB n)(AR:Int)(x:AL)(hx:x.AH.length<=big):yA 84 [n.d,.i .u8 AR,x.d] (.tup [(Gg n AR x).1.1.d,Bo (Gg n AR x).1.2,.yE (Gg n AR x).2]):=by
 have c1:=EJ n h.P5;have c2:=Fa h;have c3:=Wi.Jg x;have c4:=TQ n.Aj;have hxl:x.AH.length<=9223372036854775807:=q0E hx (by decide)
 have hT:Gg n AR x=if Rt AR x=true then(if LF n.Aj then(EU [] (CL n 7 AR 0 x),0)else((n,[]),100))else((n,[]),2):=by
  unfold Gg;rw[h.r,zy]
 rw[hT];clear hT
 have hA:Rt AR x=true↔(AR=2/\Ay x=true)\/(AR=3/\(x.AH.length:Int)>=1/\(x.AH.length:Int)<=20):=by
  unfold Rt Wi.C2;simp only[q0G,yU,yc]
 by_cases ha:Rt AR x=true
 case neg=>
  rw[zO ha];rw[hA]at ha;clear hA h c4;generalize Ay x=b at *;refine zF AK Tryz.func84 ?_;unfold A6.d A6.A1 AB.A1 Calls.A1 B5.A1 AL.d AL.A1 at *;simp only[zA,zK]at *;refine AP KX ?_ (DO @c1 @c2 @c3);with_reducible repeat' first|constructor|intro hc
  all_goals first
   |(exfalso;clear c1 c2 c3;grind)
   |(refine⟨_,_,rfl,rfl,?_⟩;simp[E5,B3,B8,Aq,zK])
 case pos=>
 rw[zN ha];rw[hA]at ha;clear hA
 have hcase:(∃b:Bool,AR=2/\Ay x=true)\/(AR=3/\(x.AH.length:Int)>=1/\(x.AH.length:Int)<=20):=by
  rcases ha with h|h
  .exact .inl ⟨true,h⟩
  .exact .inr h
 clear ha
 cases hf:LF n.Aj with
 |false=>
  rw[zO q1C];rw[hf]at c4;clear h;refine zF AK Tryz.func84 ?_;unfold A6.d A6.A1 AB.A1 Calls.A1 B5.d B5.A1 AL.d AL.A1 at *;simp only[zA,zK]at *;rcases hcase with⟨_,rfl,h1⟩|⟨rfl,h1,h2⟩
  .rw[h1]at c3;refine AP KX ?_ (Hc @c1 @c2 @c3 @c4);with_reducible repeat' first|constructor|intro hc
   all_goals
    exact zE
  .have g1:decide ((x.AH.length:Int)>=1)=true:=yX h1;have g2:decide ((x.AH.length:Int)<=20)=true:=yX h2;refine AD KX ?_ (B1 g1 g2) (Hc @c1 @c2 @c3 @c4);with_reducible repeat' first|constructor|intro hc
   all_goals
    exact zE
 |true=>
  rw[zN rfl,then_eq,zK];rw[hf]at c4;have c5:=LV h (w:=7) ⟨by decide,by decide⟩ AR 0 x hxl;have hN2:=h.start (w:=7) (AR:=AR) (AY:=0) (x:=x) hx;have c6:=Gt hN2 _ (Wx n 7 AR 0 x) (q0E (Pw n 7 AR 0 x) (by decide));clear h hN2;generalize CL n 7 AR 0 x=r at *;generalize Cb (r.1,[]) r.2=o at *;obtain⟨r1,r2⟩:=r;obtain⟨o1,o2⟩:=o;dsimp only at *;refine zF AK Tryz.func84 ?_;unfold A6.d A6.A1 AB.A1 Calls.A1 B5.A1 AL.d AL.A1 at *;unfold B5.d B5.A1 at c4;simp only[zA,zK]at *;rcases hcase with⟨_,rfl,h1⟩|⟨rfl,h1,h2⟩
  .rw[h1]at c3;refine AP KX ?_ (jS @c1 @c2 @c3 @c4 @c5 @c6) [] [10];with_reducible repeat' first|constructor|intro hc
   all_goals
    refine A9 KX ?_;with_reducible repeat' first|constructor|intro hc
    exact zE
  .have g1:decide ((x.AH.length:Int)>=1)=true:=yX h1;have g2:decide ((x.AH.length:Int)<=20)=true:=yX h2;refine AD KX ?_ (B1 g1 g2) (jS @c1 @c2 @c3 @c4 @c5 @c6) [] [10];with_reducible repeat' first|constructor|intro hc
   all_goals
    refine A9 KX ?_;with_reducible repeat' first|constructor|intro hc
    exact zE
theorem Z4(h:NB n):yA 88 [n.d] (Bo (GP n)):=by
 have c1:=Fa h;have c2:=Yy h.rv;obtain⟨hlen,hget⟩:=NM h n.keep 0 fun x hx=>hx
 have hT:GP n=IW n 0 n.keep:=by unfold GP;rw[zN h.r]
 have hm:=(Be.1 h.cB.1).1;have hp:BE n.A4.id=true:=by rw[<-CU];exact(Bz h.rv).1
 have hkl:=(CI.1 h.kp).1;rw[hT];generalize IW n 0 n.keep=L at *;clear hT h;refine zF AK Tryz.func88 ?_;unfold A6.d A6.A1 AB.d AB.A1 Calls.A1 B5.A1 at *;simp only[zA,zK]at *;refine AP RO ?_ (AQ @c1);with_reducible repeat' first|constructor|intro hc
 clear c1;refine Av (A5.EQ 3 (.sl 3 []) rfl rfl rfl (by simp[Aq])) sm ?_;refine CO (fun k=>k<=n.keep.length) (fun k:Nat=>[(3,.sl 1 (L.take k).length 3),(4,.y5 k)]) (fun k=>[(1,.a (Bo (L.take k)))]) (fun k=>n.keep.length-k) 0 (yx _) (fun _=>rfl) (fun _=>rfl) ?_ ?_
 .exact A5.ck rfl
 intro k hk;have htl:(L.take k).length<=k:=q0Q _ _
 by_cases hkl2:k<n.keep.length
 .obtain⟨x,hx⟩:=AS hkl2;have c3:=Yx n.A4.id (n.AI.Ah+1+k)
  by_cases hok:n.AI.Ah+1+k<=1048576
  .have e1:E0 n.A4.id (n.AI.Ah+1+k)=(n.A4.id*1048576+(n.AI.Ah+1+k),0):=by
    unfold E0;rw[zN ⟨hp,om,hok⟩]
   have hL:k<L.length:=by rw[hlen];omega
   obtain⟨g,hg⟩:=AS hL;have hn:=AM hg;obtain⟨y,hy,hr,hgy⟩:=hget k g hg;rw[hx]at hy;cases hy;rw[q0M]at hr hgy;have c4:=KM hr;rw[e1]at c3
   have hM:LM n k x=⟨5,n.A4.id*1048576+(n.AI.Ah+1+k),n.A4.id,FJ n.A4,0,false,false,0,0,[],x,0⟩:=by
    unfold LM;rw[e1]
   rw[hM]at c4 hgy;dsimp only at c4;generalize(CG ⟨5,n.A4.id*1048576+(n.AI.Ah+1+k),n.A4.id,FJ n.A4,0,false,false,0,0,[],x,0⟩).1=bs at *;generalize FJ n.A4=fi at *;clear hM hr hget hlen;have hi:=Wi.Fv hp;unfold Af.d Af.A1 Wi.AE.d Wi.AE.A1 at c4;simp only[zA,zK]at c4;have ix1:=hx;have z1:=@c4;refine AP RO ?_ (B1 @c2 @c3);clear z1 ix1;with_reducible repeat' first|constructor|intro hc
   refine⟨k+1,hkl2,om,yV _,?_⟩;exact A5.cut rfl (by repeat'(first|exact zi|refine yg (by(first|rfl|((with_reducible_and_instances refine congrArg (fun z=>some (AV.d (D.i _ z))) ?_);omega)|(refine congrArg (fun z=>some (AV.d (D.i _ z))) (?_:(_:Int)=_);omega)|(refine congrArg some ?_;simp only[hn,hgy,Bo,zS,zV,zh,Af.A1,yw,yu,zI];done)|(refine congrArg some ?_;simp[hn,hgy,Bo,zS,zV,zh,Af.A1,yw,yu,zI];done))) ?_)) (by repeat'(first|exact zi|refine yg (q0D rfl) ?_|refine yg (q0w ⟨rfl,rfl⟩) ?_|refine yg (q0D (by simp only[hn,hgy,Bo,zS,zV,zh,Af.A1,yw,yu,zI])) ?_|refine yg (q0D (by simp[hn,hgy,Bo,zS,zV,zh,Af.A1,yw,yu,zI])) ?_)) (by first|rfl|(simp(decide:=true) [Ai,AF.ok,AV.oks,AV.ok,hk];done)) rfl
  .have e1:E0 n.A4.id (n.AI.Ah+1+k)=(0,2):=by
    unfold E0;rw[zO (by rintro⟨_,_,h⟩;exact hok h)]
   have hL:L.length<=k:=by rw[hlen];omega
   have hn:L.take (k+1)=L.take k:=by rw[q17 hL,q17 om]
   rw[e1]at c3;refine AP RO ?_ (AQ @c3);with_reducible repeat' first|constructor|intro hc
   refine⟨k+1,hkl2,om,yV _,?_⟩;exact A5.cut rfl (by repeat'(first|exact zi|refine yg (by(first|rfl|((with_reducible_and_instances refine congrArg (fun z=>some (AV.d (D.i _ z))) ?_);omega)|(refine congrArg (fun z=>some (AV.d (D.i _ z))) (?_:(_:Int)=_);omega)|(refine congrArg some ?_;simp only[hn];done)|(refine congrArg some ?_;simp[hn];done))) ?_)) (by repeat'(first|exact zi|refine yg (q0D rfl) ?_|refine yg (q0w ⟨rfl,rfl⟩) ?_|refine yg (q0D (by simp only[hn])) ?_|refine yg (q0D (by simp[hn])) ?_)) (by first|rfl|(simp(decide:=true) [Ai,AF.ok,AV.oks,AV.ok,hk];done)) rfl
 .have e:k=n.keep.length:=om
  subst e;rw[q17 (by rw[hlen];omega)];refine A9 RO ?_;with_reducible repeat' first|constructor|intro hc
  exact zE
abbrev P0:BK:=[0,1,2,3,4,6,7,8,9,10,18,19,26,36,49]
theorem BB.sm'{b:Bg.Dr}(h:BB b):Bg.small b.grams:=fun g hg=>q0E (h.s g hg) (by decide)
theorem CW.len'{c:CS}(h:CW c):c.nodes.length<=12/\c.A2.length<=4/\c.gone.length<=1000/\c.bag.grams.length<=400:=by
 have hb:=h.n.b;unfold Ga at hb;simp only[yU,yc]at hb;exact⟨h.n.n,hb.2.1,h.n.gl,h.b.n⟩
theorem iN(c:CS)(h:CW c):yB 17 [.d c.c.d] [] (.ag (cX c 2 3)) [.gone,.gone,.a (A7 c.nodes),.a (.is c.gone)]:=by
 have hl:=h.len';have c1:=Bg.MB c.bag om h.b.sm';have hnn:∀x∈c.nodes,P1 x:=fun x hx=>(h.n.nb x hx).1.P5
 clear h;obtain⟨nodes,gone,A2,grams,lost⟩:=c;dsimp only at *;refine zC AK Tryz.func17 ?_;unfold CS.c BF.d BF.A1;unfold Bg.Dr.d at c1;dsimp only at *;refine A9 [0,1,2,3,4,11] ?_;with_reducible repeat' first|constructor|intro hc
 refine Av (A5.PN 0 0 (.sl 76 []) rfl rfl rfl rfl (by simp[Aq])) sm ?_;refine CO (fun k=>k<=nodes.length) (fun k:Nat=>[(4,.y5 k)]) (fun k=>[(0,.c [.sl 2 (nodes.take k).length 76,.yD gone,.yD A2,.d (.sl 3 (grams.map Af.A1)),.y5 lost]),(2,.a (A7 (nodes.take k)))]) (fun k=>nodes.length-k) 0 (yx _) (fun _=>rfl) (fun _=>rfl) ?_ ?_
 .exact A5.ck rfl
 intro k hk;have htl:(nodes.take k).length<=k:=q0Q _ _
 by_cases hkl:k<nodes.length
 .obtain⟨x,hx⟩:=AS hkl;have c2:=EJ x (hnn x (zM hx));have hn:=AM hx;unfold A6.d A6.A1 AB.A1 Calls.A1 B5.A1 at c2;simp only[zA,zK]at c2;have ix1:=hx;refine AP [0,1,2,3,4,11] ?_ (AQ @c2) [(0,6),(1,6),(0,7),(1,7)];clear ix1;with_reducible repeat' first|constructor|intro hc
  refine⟨k+1,hkl,om,yV _,?_⟩;exact A5.cut rfl (by repeat'(first|exact zi|refine yg (by(first|rfl|((with_reducible_and_instances refine congrArg (fun z=>some (AV.d (D.i _ z))) ?_);omega)|(refine congrArg (fun z=>some (AV.d (D.i _ z))) (?_:(_:Int)=_);omega)|(refine congrArg some ?_;simp only[hn,A7,zS,zV,zh,A6.A1,AB.A1,Calls.A1,B5.A1,zA,zK,yw,yu,zI,zY];done)|(refine congrArg some ?_;simp[hn,A7,zS,zV,zh,A6.A1,AB.A1,Calls.A1,B5.A1,zA,zK,yw,yu,zI,zY];done))) ?_)) (by repeat'(first|exact zi|refine yg (q0D rfl) ?_|refine yg (q0w ⟨rfl,rfl⟩) ?_|refine yg (q0D (by simp only[hn,A7,zS,zV,zh,A6.A1,AB.A1,Calls.A1,B5.A1,zA,zK,yw,yu,zI,zY])) ?_|refine yg (q0D (by simp[hn,A7,zS,zV,zh,A6.A1,AB.A1,Calls.A1,B5.A1,zA,zK,yw,yu,zI,zY])) ?_)) (by first|rfl|(simp(decide:=true) [Ai,AF.ok,AV.oks,AV.ok,hk];done)) rfl
 .have e:k=nodes.length:=om
  subst e;rw[zU];have ow:Lv [24,27]:=trivial;refine A9 [0,1,2,3,4,11] ?_ [(1,0),(2,0),(5,0),(6,0),(5,3),(6,3)] [8];clear ow;with_reducible repeat' first|constructor|intro hc
  refine AP [0,1,2,3,4,11] ?_ (AQ @c1);with_reducible repeat' first|constructor|intro hc
  exact EZ
variable {i:Nat}
theorem ba(c:CS)(s:Step)(h:CW c)(hi:DX c.nodes s.a=some i)(hk:s.AG=1)(hJ:∀n∈c.nodes,NJ n):
  yB 47 [.ag (cX c 0 1),.d s.d,.y5 i] [.a (A7 c.nodes),.a (.is c.gone)] (.tup [.ag (cX (J9 c s.a).1 0 1),.y5 ((J9 c s.a).2)]) [.a (A7 (J9 c s.a).1.nodes),.a (.is c.gone)]:=by
 have hl:=h.len';obtain⟨n,h1,h2,h3,_⟩:=h.node hi;have hlt:=(yZ.1 h1).1;have c1:=bU h3 (hJ n (zM h1));obtain⟨t1,_,_,_,_,t2,t3⟩:=X4 h3;unfold J9;rw[hi];dsimp only;rw[h2];generalize EW n=r at *;obtain⟨m,g⟩:=r;dsimp only at t1 t2 t3 c1|-;have c2:=Bg.Ia c.bag g om h.b.sm' om (IS t2);have hst:=Jm m i c.nodes hlt;have hsl:=Oj h1;unfold If oe;unfold Step.d Step.A1 Bg.Dr.d A6.d at *;rw[show n.A1=nX n from rfl]at hsl c1;rw[show m.A1=nX m from rfl]at c1;dsimp only[nX]at c1 hst hsl;generalize Bg.I4 c.bag g=bg at *;obtain⟨nodes,gone,A2,bag⟩:=c;obtain⟨k,a,b,e,y,it⟩:=s;dsimp only at *;subst hk;clear h hJ hi;refine zC AK Tryz.func47 ?_;unfold cX;dsimp only;rw[q0y];have ix1:=h1;refine AD P0 ?_ (B1 hsl hst) (B1 @c1 @c2);clear ix1;with_reducible repeat' first|constructor|intro hc
 exact EZ
theorem ie(c:CS)(s:Step)(h:CW c)(hi:DX c.nodes s.a=some i)(hk:s.AG=10)(hx:s.AC.AH.length<=big):
  yB 47 [.ag (cX c 0 1),.d s.d,.y5 i] [.a (A7 c.nodes),.a (.is c.gone)] (.tup [.ag (cX (IK c s.a 2 s.AC).1 0 1),.y5 ((IK c s.a 2 s.AC).2)]) [.a (A7 (IK c s.a 2 s.AC).1.nodes),.a (.is c.gone)]:=by
 have hl:=h.len';obtain⟨n,h1,h2,h3,_⟩:=h.node hi;have hlt:=(yZ.1 h1).1;have c1:=VI h3 2 s.AC hx;obtain⟨t1,_,t2,t3,t4⟩:=Zp h3 2 s.AC hx;unfold IK;rw[hi];dsimp only;rw[h2];generalize Gg n 2 s.AC=r at *;obtain⟨⟨m,g⟩,e⟩:=r;dsimp only at t1 t2 t3 t4 c1|-;have c2:=Bg.Ia c.bag g om h.b.sm' om (IS t2);have hst:=Jm m i c.nodes hlt;have hsl:=Oj h1;unfold If oe;unfold Step.d Step.A1 Bg.Dr.d A6.d AL.d AL.A1 at *;rw[show n.A1=nX n from rfl]at hsl c1;rw[show m.A1=nX m from rfl]at c1;dsimp only[nX]at c1 hst hsl;generalize Bg.I4 c.bag g=bg at *;obtain⟨nodes,gone,A2,bag⟩:=c;obtain⟨k,a,b,e1,y,it⟩:=s;dsimp only at *;subst hk;clear h hi t1 t4;refine zC AK Tryz.func47 ?_
 by_cases he:e=0
 .have f1:=BJ he;subst he;rw[zN rfl];unfold cX;dsimp only;rw[q0y];have ix1:=h1;refine AD P0 ?_ (DO hsl f1 hst) (B1 @c1 @c2);clear ix1;with_reducible repeat' first|constructor|intro hc
  exact EZ
 .have f1:=Bp he;rw[zO he];unfold cX;dsimp only;have ix1:=h1;refine AD P0 ?_ (B1 hsl f1) (AQ @c1);clear ix1;with_reducible repeat' first|constructor|intro hc
  exact EZ
theorem ic(c:CS)(s:Step)(h:CW c)(hi:DX c.nodes s.a=some i)(hk:s.AG=11)(hx:s.AC.AH.length<=big):
  yB 47 [.ag (cX c 0 1),.d s.d,.y5 i] [.a (A7 c.nodes),.a (.is c.gone)] (.tup [.ag (cX (IK c s.a 3 ⟨s.AC.AH,0,0,false⟩).1 0 1),.y5 ((IK c s.a 3 ⟨s.AC.AH,0,0,false⟩).2)]) [.a (A7 (IK c s.a 3 ⟨s.AC.AH,0,0,false⟩).1.nodes),.a (.is c.gone)]:=by
 have hl:=h.len';obtain⟨n,h1,h2,h3,_⟩:=h.node hi;have hlt:=(yZ.1 h1).1;have c1:=VI h3 3 ⟨s.AC.AH,0,0,false⟩ hx;obtain⟨t1,_,t2,t3,t4⟩:=Zp h3 3 ⟨s.AC.AH,0,0,false⟩ hx;unfold IK;rw[hi];dsimp only;rw[h2];generalize Gg n 3 ⟨s.AC.AH,0,0,false⟩=r at *;obtain⟨⟨m,g⟩,e⟩:=r;dsimp only at t1 t2 t3 t4 c1|-;have c2:=Bg.Ia c.bag g om h.b.sm' om (IS t2);have hst:=Jm m i c.nodes hlt;have hsl:=Oj h1;unfold If oe;unfold Step.d Step.A1 Bg.Dr.d A6.d AL.d AL.A1 at *;rw[show n.A1=nX n from rfl]at hsl c1;rw[show m.A1=nX m from rfl]at c1;dsimp only[nX]at c1 hst hsl;generalize Bg.I4 c.bag g=bg at *;obtain⟨nodes,gone,A2,bag⟩:=c;obtain⟨k,a,b,e1,y,it⟩:=s;dsimp only at *;subst hk;clear h hi t1 t4;refine zC AK Tryz.func47 ?_
 by_cases he:e=0
 .have f1:=BJ he;subst he;rw[zN rfl];unfold cX;dsimp only;rw[q0y];have ix1:=h1;refine AD P0 ?_ (DO hsl f1 hst) (B1 @c1 @c2);clear ix1;with_reducible repeat' first|constructor|intro hc
  exact EZ
 .have f1:=Bp he;rw[zO he];unfold cX;dsimp only;have ix1:=h1;refine AD P0 ?_ (B1 hsl f1) (AQ @c1);clear ix1;with_reducible repeat' first|constructor|intro hc
  exact EZ
abbrev RP:BK:=[0,1,2,4,5,6,7,8,9,10,11,21,30]
abbrev HI:BK:=[0,1,2,3,4,5,6,7,10,22,34,61]
theorem JX(c:CS)(p:Int)(h:c.nodes.length<=12):yB 45 [.ag (cX c 0 1),.y5 p] [.a (A7 c.nodes),.a (.is c.gone)] (.y5 (E3 (GZ p) c.nodes)) [.a (A7 c.nodes),.a (.is c.gone)]:=by
 refine Fn.read (Tb c.c p (by show c.nodes.length<=_;omega)) rfl ?_;simp only[Ea,D5];refine⟨_,_,rfl,⟨_,rfl,?_⟩,_,_,rfl,rfl,rfl⟩;unfold CS.c BF.A1;exact⟨_,_,rfl,⟨rfl,(zY _).symm⟩,_,_,rfl,⟨rfl,rfl⟩,_,_,rfl,rfl,_,_,rfl,rfl,_,_,rfl,rfl,rfl⟩
theorem Wn(c:CS)(a:Int)(h:CW c)(hJ:∀n∈c.nodes,NJ n):
  yB 48 [.ag (cX c 0 1),.y5 a] [.a (A7 c.nodes),.a (.is c.gone)] (.tup [.ag (cX (DU c a).1 0 1),.y5 ((DU c a).2)]) [.a (A7 (DU c a).1.nodes),.a (.is c.gone)]:=by
 have hl:=h.len';have c1:=Bg.ZC c.bag a om h.b.sm';unfold Bg.takeB at c1;unfold DU
 cases ha:c.bag.OD a with
 |false=>
  rw[ha]at c1;simp only[q0F,zo]at c1|-;clear h hJ ha;refine zC AK Tryz.func48 ?_;unfold cX;unfold Bg.Dr.d Af.d Af.A1 Bg.Fx at c1;refine AP RP ?_ (AQ @c1);with_reducible repeat' first|constructor|intro hc
  exact EZ
 |true=>
 rw[ha]at c1;simp only[zx]at c1|-;have hbb:=SI h.b a.toNat c.bag.lost
 have hg:(c.bag.grams.getD a.toNat Bg.Fx).by_.length<=120:=by
  obtain⟨k,e,hk⟩:=Bg.HO ha;obtain⟨x,hx⟩:=AS hk;rw[e,q0m,zJ,hx];exact h.b.s x (zM hx)
 generalize c.bag.grams.getD a.toNat Bg.Fx=g at *;generalize hb:(⟨c.bag.grams.eraseIdx a.toNat,c.bag.lost⟩:Bg.Dr)=b at *;obtain⟨gt,gb,gh⟩:=g;dsimp only at hg;have d1:=JX ⟨c.nodes,c.gone,c.A2,b⟩ gt hl.1;dsimp only at d1;rw[M3]at d1;unfold Uh;unfold Bg.Dr.d Af.d Af.A1 at c1;dsimp only at c1|-;clear hb ha
 cases hi:DX c.nodes gt with
 |none=>
  rw[hi]at d1;dsimp only at d1|-;clear h hJ;refine zC AK Tryz.func48 ?_;unfold cX at *;dsimp only at *;have wr:Lv [34]:=trivial;refine Fc RP ?_ (AQ @c1) (E8 [0,1] d1);clear wr;with_reducible repeat' first|constructor|intro hc
  exact EZ
 |some i=>
  rw[hi]at d1;obtain⟨n,h1,h2,h3,_⟩:=h.node hi;have hlt:=(yZ.1 h1).1;have c3:=bS h3 (hJ n (zM h1)) gb om;obtain⟨t1,_,_,_,t2,t3⟩:=X1 h3 gb;dsimp only at d1|-;rw[h2];generalize ET n gb=r at *;obtain⟨m,g⟩:=r;dsimp only at c3 t1 t2 t3|-;have c2:=Bg.Ia b g (by have:=hbb.n;omega) hbb.sm' om (IS t2);have hst:=Jm m i c.nodes hlt;have f1:decide ((i:Int)<0)=false:=yY om;have hsl:=Oj h1;unfold If;unfold Bg.Dr.d A6.d at *;rw[<-hsl,show m.A1=nX m from rfl]at c3;dsimp only[nX]at c3 hst;generalize Bg.I4 b g=bg at *;clear h hJ hi;refine zC AK Tryz.func48 ?_;unfold cX at *;dsimp only at *;rw[q0y];refine EL RP ?_ (AQ f1) (AQ @c1) (E8 [0,1] d1) [] [9];with_reducible repeat' first|constructor|intro hc
  have nS:=zi
  repeat'(first|((with_reducible refine sg ?_);first|with_reducible rfl|((with_reducible refine UC ?_);first|kernel_rfl|rfl|(simp[Hi,Ku,nS];done))|with_reducible refine PD ?_ ?_|with_reducible exact q1L _|with_reducible exact FR _|((with_reducible refine yX ?_);first|omega|(simp only[Mm,nS];omega))|decide|(simp[Mm,slc,Do,D.one,GF,AV.one,nS];done)|(simp[Mm,nS];omega))|((with_reducible refine qS ?_);first|(refine Hx rfl ?_;refine pu AK rfl rfl rfl rfl ?_)|(refine cw rfl ?_;refine vX AK rfl rfl rfl rfl rfl (q0s _) (Hj h1) ?_)|refine Xq AK rfl rfl rfl rfl ?_ ?_|refine Xn [0,1,2,4,5,6,7,8,9,10,11,21,30] rfl ?_|refine XF (c3) rfl rfl rfl rfl ?_|refine Xa AK rfl rfl rfl rfl rfl ?_ ?_|refine Xw AK rfl rfl rfl rfl ?_ ?_)|((with_reducible refine vg ?_);first|(refine Lm rfl ?_;refine vZ AK rfl rfl (fun _=>rfl) rfl rfl ?_)|(refine pg rfl ?_;refine wk AK rfl rfl (fun _=>rfl) rfl rfl rfl (q0s _) (Hj h1) ?_)|refine Yp AK rfl rfl (fun _=>rfl) rfl rfl ?_ ?_|refine Yq rfl rfl rfl rfl rfl ?_ ?_|refine Ys rfl rfl rfl rfl ?_|refine YF (c3) rfl rfl rfl rfl rfl ?_|refine Ya AK rfl rfl rfl rfl rfl rfl ?_ ?_|refine Yw AK rfl rfl rfl rfl rfl ?_ ?_|refine Yn [0,1,2,4,5,6,7,8,9,10,11,21,30] [(0,11),(1,11),(3,11),(4,11),(5,11),(6,11)] mixed AK (by kernel_rfl) (by simp only[EE];repeat'(first|exact zi|refine yg ?_ ?_|exact⟨_,rfl,rfl⟩|(refine⟨_,rfl,?_⟩;simp[Mm,B3,Bt];omega)|rfl)) rfl ?_)|refine Mo ?_|refine JP [10] rfl ?_|refine Ri [10] T.get rfl ?_|refine JJ ?_|refine Mn ?_|refine H7 ?_|refine JI ?_|refine FQ rfl ?_|refine FP rfl ?_|(refine IJ rfl (fun hc=> ?_) (fun hc=> ?_)<;>(try simp only[Q3]at hc)<;>(try(exfalso;omega))))
  have ix1:=h1;refine AD RP ?_ (AQ hst) (AQ @c2);clear ix1;with_reducible repeat' first|constructor|intro hc
  exact EZ
theorem Vr(c:CS){r:Bg.Dr×Int}(h:r.2≠0->r.1=c.bag):Nn c r=(⟨c.nodes,c.gone,c.A2,r.1⟩,r.2):=by
 unfold Nn;split
 .rename_i e;rw[e]
 .rename_i e;rw[h e]
theorem qI(b:Bg.Dr)(p:Int):(Bg.Ke b p).2≠0->(Bg.Ke b p).1=b:=by
 unfold Bg.Ke;split
 .intro h;exact absurd rfl h
 .intro _;rfl
theorem p7(b:Bg.Dr)(p:Int):(Bg.Hn b p).2≠0->(Bg.Hn b p).1=b:=by
 unfold Bg.Hn;split
 .intro h;exact absurd rfl h
 .intro _;rfl
theorem qZ(b:Bg.Dr)(p i m:Int):(Bg.LI b p i m).2≠0->(Bg.LI b p i m).1=b:=by
 unfold Bg.LI;split
 .intro h;exact absurd rfl h
 .intro _;rfl
theorem iA(c:CS)(s:Step)(h:CW c)(hk:s.AG≠1/\s.AG≠2/\s.AG≠7/\s.AG≠8/\s.AG≠9/\s.AG≠10/\s.AG≠11):
  yB 51 [.ag (cX c 0 1),.d s.d] [.a (A7 c.nodes),.a (.is c.gone)] (.tup [.ag (cX (stepS c s).1 0 1),.y5 ((stepS c s).2)]) [.a (A7 (stepS c s).1.nodes),.a (.is (stepS c s).1.gone)]:=by
 have hl:=h.len';obtain⟨k1,k2,k7,k8,k9,k10,k11⟩:=hk
 have hT:stepS c s=if s.AG=3 then Nn c (Bg.Ke c.bag s.a)else if s.AG=4 then Nn c (Bg.Hn c.bag s.a)else if s.AG=5 then Sj c s else if s.AG=6 then m5 c s else(c,2):=by
  unfold stepS;rw[zO k1,zO k2,zO k7,zO k8,zO k9,zO k10,zO k11]
 rw[hT];clear hT k1 k2 k7 k8 k9 k10 k11;refine zC AK Tryz.func51 ?_
 by_cases h3:s.AG=3
 .rw[zN h3,Vr c (qI _ _)];have c1:=Bg.TP c.bag s.a om h.b.sm';clear h;generalize Bg.Ke c.bag s.a=p at *;obtain⟨b,e⟩:=p;obtain⟨k,a,sb,sc,y,it⟩:=s;dsimp only at *;subst h3;unfold Bg.Dr.d at c1;unfold cX Step.d Step.A1;refine AP HI ?_ (AQ @c1) [(1,2)];with_reducible repeat' first|constructor|intro hc
  exact EZ
 rw[zO h3];have f3:=eq_false' h3
 by_cases h4:s.AG=4
 .rw[zN h4,Vr c (p7 _ _)];have c1:=Bg.iT c.bag s.a om h.b.sm';clear h f3;generalize Bg.Hn c.bag s.a=p at *;obtain⟨b,e⟩:=p;obtain⟨k,a,sb,sc,y,it⟩:=s;dsimp only at *;subst h4;unfold Bg.Dr.d at c1;unfold cX Step.d Step.A1;refine AP HI ?_ (AQ @c1) [(1,2)];with_reducible repeat' first|constructor|intro hc
  exact EZ
 rw[zO h4];have f4:=eq_false' h4
 by_cases h5:s.AG=5
 .rw[zN h5];unfold Sj
  by_cases hc:0<=s.c/\s.c<=255
  .rw[zN hc,Vr c (qZ _ _ _ _)];have c1:=Bg.nU c.bag s.a s.b s.c om h.b.sm';clear h f3 f4;generalize Bg.LI c.bag s.a s.b s.c=p at *;obtain⟨b,e⟩:=p;obtain⟨k,a,sb,sc,y,it⟩:=s;dsimp only at *;subst h5;have g1:decide (sc>=0)=true:=yX hc.1;have g2:decide (sc<=255)=true:=yX hc.2;have g3:sc%256=sc:=om
   unfold Bg.Dr.d at c1;unfold cX Step.d Step.A1;refine AD HI ?_ (DO g1 g2 g3) (AQ @c1) [(1,2)];with_reducible repeat' first|constructor|intro hc
   exact EZ
  .rw[zO hc];clear h f3 f4;obtain⟨k,a,sb,sc,y,it⟩:=s;dsimp only at *;subst h5;unfold cX Step.d Step.A1
   by_cases h0:sc<0
   .have g1:decide (sc>=0)=false:=yY om;refine Ae HI ?_ (AQ g1) [(1,2)];with_reducible repeat' first|constructor|intro hc
    exact EZ
   .have g1:decide (sc>=0)=true:=yX om;have g2:decide (sc<=255)=false:=yY om;refine Ae HI ?_ (B1 g1 g2) [(1,2)];with_reducible repeat' first|constructor|intro hc
    exact EZ
 rw[zO h5];have f5:=eq_false' h5;have c1:=Fi s.a
 by_cases h6:s.AG=6
 .rw[zN h6];unfold m5
  by_cases hc:BE s.a=true/\s.bytes.length<=120
  .rw[zN hc];have c2:=Bg.Ia c.bag [⟨s.a,s.bytes,false⟩] om h.b.sm' sm (fun g hg=>by rw[q00.1 hg];exact q0E hc.2 (by decide));rw[hc.1]at c1;clear h f3 f4 f5;unfold If;generalize Bg.I4 c.bag [⟨s.a,s.bytes,false⟩]=b at *;obtain⟨k,a,sb,sc,y,it⟩:=s;dsimp only at *;subst h6;have g1:decide ((y.length:Int)<=120)=true:=yX om;unfold Bg.Dr.d at c2;simp only[Bg.Ba,zV,zh,Af.A1]at c2;unfold cX Step.d Step.A1;refine AD HI ?_ (AQ g1) (B1 @c1 @c2) [] [10];with_reducible repeat' first|constructor|intro hc
   refine A9 HI ?_ [(1,2)];with_reducible repeat' first|constructor|intro hc
   exact EZ
  .rw[zO hc];clear h f3 f4 f5;obtain⟨k,a,sb,sc,y,it⟩:=s;dsimp only at *;subst h6;unfold cX Step.d Step.A1
   cases hp:BE a with
   |false=>
    rw[hp]at c1;refine AP HI ?_ (AQ @c1) [(1,2)];with_reducible repeat' first|constructor|intro hc
    exact EZ
   |true=>
    rw[hp]at c1 hc;have g1:decide ((y.length:Int)<=120)=false:=yY (fun e=>hc ⟨rfl,om⟩);refine AD HI ?_ (AQ g1) (AQ @c1) [(1,2)];with_reducible repeat' first|constructor|intro hc
    exact EZ
 .rw[zO h6];have f6:=eq_false' h6;clear h;obtain⟨k,a,sb,sc,y,it⟩:=s;dsimp only at *;unfold cX Step.d Step.A1;refine Ae HI ?_ (Hc f3 f4 f5 f6) [(1,2)];with_reducible repeat' first|constructor|intro hc
  exact EZ
end Nd
end Go.Proofs.YthlmmkmeoblbhaaGreat
namespace Go.Proofs.YthlmmkmeoblbhaaGreat
namespace Nd
open Go.Gar
open Wi (AE BE Ay AU C2 CG Ac)
theorem U2:∀l:List Bool,List.zipWith (· ^^ ·) l l=List.replicate l.length false
 |[]=>rfl
 |a::r=>by
  show(a ^^ a)::List.zipWith (· ^^ ·) r r=false::List.replicate r.length false;rw[U2 r,Bool.xor_self]
theorem qG{p q:AT}(hp:p.length<=112)(hq:q.length<=112){i:Nat}{b':UInt8}(hi:i<(Wi.CY p).1.length)(e:(Wi.CY q).1=(Wi.CY p).1.set i b'):b'=(Wi.CY p).1.getD i 0:=by
 have h1:=Wi.Sa hp;have h2:=Wi.Sa hq;rw[e]at h2;generalize(Wi.CY p).1=y at *;have h3:=Wi.SD (Wi.CP y) (Wi.CP (y.set i b')) Wi.ones Wi.ones (by rw[Wi.EC,Wi.EC,q0y]);rw[h1,h2,BitVec.xor_self,BitVec.xor_self]at h3;have hb:y.getD i 0=y[i]:=by rw[zJ,yj hi];rfl
 have ey:y=y.take i++([y[i]]++y.drop (i+1)):=by
  rw[List.singleton_append,<-q0V hi,q0J]
 have es:y.set i b'=y.take i++([b']++y.drop (i+1)):=by
  rw[List.set_eq_take_append_cons_drop,zN hi,List.singleton_append]
 have hz:List.zipWith (· ^^ ·) (Wi.CP y) (Wi.CP (y.set i b'))=List.replicate (8*i) false++List.zipWith (· ^^ ·) (Wi.CP [y[i]]) (Wi.CP [b'])++List.replicate (8*(y.length-(i+1))) false:=by
  rw[es]
  conv=>lhs;arg 2;rw[ey]
  rw[Wi.JQ,Wi.JQ,Wi.JQ,Wi.JQ,List.zipWith_append (by rfl),List.zipWith_append (by rw[Wi.EC,Wi.EC];rfl),U2,U2,Wi.EC,Wi.EC,q09,q15,Nat.min_eq_left (Nat.le_of_lt hi),zu]
 rw[hz]at h3;have h4:=Wi.Zt _ _ _ (by rw[List.length_zipWith,Wi.EC,Wi.EC];exact q0E (Nat.min_le_left _ _) y9) h3;rw[hb];apply UInt8.toNat.inj;apply Nat.eq_of_testBit_eq;intro k;rcases q0A k 8 with hk|hk
 .have g1:=Wi.Lo [y[i]] (7-k) (by simp;omega);have g2:=Wi.Lo [b'] (7-k) (by simp;omega)
  have g3:(List.zipWith (· ^^ ·) (Wi.CP [y[i]]) (Wi.CP [b']))[7-k]? =some (Wi.Rw [y[i]] (7-k) ^^ Wi.Rw [b'] (7-k)):=by
   rw[List.getElem?_zipWith,g1,g2]
  have g4:=h4 _ (zM g3);unfold Wi.Rw at g4;rw[show(7-k)/8=0 by omega,show 7-(7-k)%8=k by omega]at g4;simp only[q0u]at g4;cases h5:y[i].toNat.testBit k<;>cases h6:b'.toNat.testBit k<;>simp[h5,h6]at g4|-
 .rw[Nat.testBit_lt_two_pow,Nat.testBit_lt_two_pow]
  .exact q0p (UInt8.toNat_lt _) (q1N (by decide) hk:2^8<=2^k)
  .exact q0p (UInt8.toNat_lt _) (q1N (by decide) hk:2^8<=2^k)
def tI(id:Int)(g:Af):Prop:=∃m:AE,m.right=true/\m.BW=true/\m.Ax=id/\g=⟨m.dst,(CG m).1,false⟩
structure SA (id:Int) (S:List Past) (s:NS):Prop where
 nb:NB s.1
 pl:s.1.A4.id=id
 BL:s.1.BL=S
 g:∀x∈s.2,tI id x
variable {id:Int}{S:List Past}{s:NS}
theorem mw(h:SA id S s)(a:AE×Int):SA id S (Gq s a):=by
 have o:=TF h.nb a;refine⟨o.nb,o.A4.id.trans h.pl,o.BL.trans h.BL,?_⟩;unfold Gq;split
 .rename_i he;obtain⟨_,_,_,q,hq,h4,h5,e⟩:=R0 h.nb.cB.1 he;rw[e];intro x hx;rcases q04.1 hx with hx|hx
  .exact h.g x hx
  .rw[Cu h4,q00]at hx;exact⟨q,h4,h5,by rw[hq];exact h.nb.cB.2.trans h.pl,hx⟩
 .exact h.g
theorem R1{id:Int}{S:List Past}:∀(l:List (AE×Int)){s:NS},SA id S s->SA id S (Cb s l)
 |[],_,h=>h
 |a::r,_,h=>R1 r (mw h a)
variable {n:A6}
theorem Om{g:List Af}{r:A6×List (AE×Int)}(h:SA id S (n,g))(s:jU n r.1)(hb:NB r.1):SA id S (EU g r):=
 R1 r.2 (s:=(r.1,g)) ⟨hb,s.A4.id.trans h.pl,s.BL.trans h.BL,h.g⟩
theorem YM{id:Int}{S:List Past}:∀(l:List B4){s:NS},SA id S s->SA id S (l.foldl (fun s x=>EU s.2 (Bu s.1 x)) s)
 |[],_,h=>h
 |x::r,s,h=>YM r (Om (n:=s.1) (g:=s.2) h (Qu ..) h.nb.lost)
theorem r9(h:SA id S (n,[])):SA id S (FW (n,[])):=by
 rw[OI];refine YM _ ⟨h.nb.late _,h.pl,h.BL,fun x hx=> ?_⟩;obtain⟨m,hm,hx⟩:=List.mem_flatMap.1 hx;obtain⟨m1,m2,m3⟩:=(Lx (now:=n.AJ) h.nb.cB.1).1 m hm;rw[Cu m1,q00]at hx;exact⟨m,m1,m2,m3.trans (h.nb.cB.2.trans h.pl),hx⟩
theorem oR(h:SA id S s):SA id S (DF s):=by
 have hb:=K4 h.nb.rv h.nb.st h.nb.ph;exact R1 _ (s:=({s.1 with A3:=(CX s.1.A4 s.1.A3 s.1.BN).1.1,BN:=(CX s.1.A4 s.1.A3 s.1.BN).1.2},s.2)) ⟨h.nb.tO hb.1 hb.2,h.pl,h.BL,h.g⟩
theorem rh(h:SA id S s):SA id S (Ep s):=by
 unfold Ep;split
 .exact R1 _ h
 .exact h
theorem fu(h:SA id S s):SA id S (C5 s):=by
 unfold C5;split
 .have hw:=RA h.nb.rv s.1.next;have hn:=h.nb.A4 hw.1 ⟨hw.2.2.1,hw.2.2.2⟩;have h1:SA id S ({s.1 with A4:=(walkT s.1.A4 s.1.next).1,next:=(walkT s.1.A4 s.1.next).2.1},s.2):=⟨hn,hw.1.id.trans h.pl,h.BL,h.g⟩;dsimp only;split
  .exact Om h1 (Ih ..).1 (hn.start (yx _))
  .exact h1
 .exact h
theorem gM(h:SA id S s):SA id S (Cr s):=by
 unfold Cr;split
 .rename_i hc;rw[yU]at hc;have hk:=Qy hc.2;have hky:=OH hk.1 hk.2;have hn:=h.nb.last (HT s.1.keep s.1.last).1.AH;exact Om (n:={s.1 with last:=(HT s.1.keep s.1.last).1.AH}) (g:=s.2) ⟨hn,h.pl,h.BL,h.g⟩ (Ih ..).1 (hn.start (q0E hky (by decide)))
 .exact h
theorem si(h:NB n):SA n.A4.id n.BL (EW n):=by
 unfold EW;split
 .exact⟨h,rfl,rfl,fun x hx=>(by cases hx)⟩
 .rename_i hc;have hlt:n.AJ<1099511627776:=Int.not_le.1 fun e=>hc (.inl e)
  exact gM (fu (rh (oR (r9 ⟨h.AJ hlt,rfl,rfl,fun x hx=>(by cases hx)⟩))))
theorem uH(h:NB n)(AR:Int){x:AL}(hx:x.AH.length<=big):SA n.A4.id n.BL (Gg n AR x).1:=by
 have h0:SA n.A4.id n.BL (n,[]):=⟨h,rfl,rfl,fun x hx=>(by cases hx)⟩;unfold Gg;split
 .split
  .exact Om h0 (Ih ..).1 (h.start hx)
  .exact h0
 .exact h0
end Nd
end Go.Proofs.YthlmmkmeoblbhaaGreat
