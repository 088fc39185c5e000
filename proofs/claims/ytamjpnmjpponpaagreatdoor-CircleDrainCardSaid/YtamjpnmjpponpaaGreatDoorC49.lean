/- Part 49 of a proof. Conditions: those that its theorems state. -/
import Derived.Test.YtamjpnmjpponpaaGreatDoorC47
import Derived.Test.YtamjpnmjpponpaaGreatDoorC48
set_option linter.unusedSimpArgs false
set_option linter.unusedVariables false
set_option maxHeartbeats 40000000
set_option maxRecDepth 4000
namespace Go.Proofs.YtamjpnmjpponpaaGreatDoor
namespace Nd
open Go.Gar
theorem st1(c:CS)(p:Int):stepS c (mkS 1 p)=KW c p:=by simp[stepS]
theorem st2(c:CS)(p:Int):stepS c (mkS 2 p)=Co c p:=by simp[stepS]
theorem st7(c:CS)(p:Int):stepS c (mkS 7 p)=JK c p:=by simp[stepS]
theorem st8(c:CS)(p:Int):stepS c (mkS 8 p)=FT c p false:=by simp[stepS]
theorem pB{α β:Type}{f:α->β}{l:List α}{x y:β}(h:l.map f=[x,y]):∃a b,l=[a,b]/\f a=x/\f b=y:=by
 match l,h with
 |[a,b],h=>simp at h;exact⟨a,b,rfl,h.1,h.2⟩
theorem oi{α β:Type}{f:α->β}{l:List α}{x y z:β}(h:l.map f=[x,y,z]):∃a b c,l=[a,b,c]/\f a=x/\f b=y/\f c=z:=by
 match l,h with
 |[a,b,c],h=>simp at h;exact⟨a,b,c,rfl,h.1,h.2.1,h.2.2⟩
theorem wf1:(newS [9,40]).2=0:=by decide +kernel
theorem wf2:(stepS wC (mkS 1 9)).2=0/\wD.bag.grams.map (·.to)=[40,40]/\wD.nodes.map (·.Am)=[1,0]/\wD.gone=[]/\wD.A6=[9,40]:=by decide +kernel
theorem wf3:wO.gone=[20]/\wO.bag.lost=0/\(stepS tV (mkS 8 20)).2=0/\(stepS tU (mkS 1 20)).2=0/\(stepS wC (mkS 7 20)).2=0/\KR wC 20=true:=by decide +kernel
theorem wf4:stepS wO (mkS 7 20)=(wO,2):=by
 rw[st7];exact zx (by decide +kernel)
theorem wf5:stepS wC (mkS 8 9)=(wC,2):=by
 rw[st8];rcases Js wC 9 false with⟨_,_,h,_⟩|⟨_,h⟩
 .exact absurd (show(9:Int)∈wC.A6 by decide +kernel) h
 .exact h
theorem wf6:(stepS wO wS).2=0/\wP.bag.grams.map (·.to)=[40,40,20]/\wP.bag.lost=0/\wP.gone=[20]:=by decide +kernel
theorem wf7:newS [9]=(⟨[],[],[],⟨[],0⟩⟩,2):=zx (by decide +kernel)
theorem wf8:(nodeAt wC.nodes 40).A7.id=40/\Es wC.nodes 40=true:=by decide +kernel
theorem wf9:(stepS wP (mkS 2 2)).1.bag.lost=1:=by decide +kernel
theorem yB:wP.nodes=wO.nodes/\wP.A6=wO.A6:=by
 have:stepS wO wS=Ta wO wS:=by simp[stepS]
 show(stepS wO wS).1.nodes=_/\(stepS wO wS).1.A6=_;rw[this];unfold Ta;split<;>exact⟨rfl,rfl⟩
theorem hb0:Fj [9,40]=true:=by decide +kernel
theorem wfC:wC.gone=[]/\wC.A6=[9,40]/\wC.bag.grams=[]/\wC.bag.lost=0:=by
 have e:newS [9,40]=(⟨[9,40].map fun p=>(EA p [9,40]).1,[],[9,40],⟨[],0⟩⟩,0):=zn hb0;show(newS [9,40]).1.gone=_/\(newS [9,40]).1.A6=_/\(newS [9,40]).1.bag.grams=_/\(newS [9,40]).1.bag.lost=_;rw[e];exact⟨rfl,rfl,rfl,rfl⟩
theorem Ws(c:CS):c.c.d=dC c.nodes c.gone c.A6 c.bag.grams c.bag.lost:=rfl
theorem eC:wC.c.d=dC wC.nodes [] [9,40] [] 0:=by
 obtain⟨h1,h2,h3,h4⟩:=wfC;rw[Ws,h1,h2,h3,h4]
theorem eO:wO.c.d=dC wO.nodes [20] wO.A6 wO.bag.grams 0:=by rw[Ws,wf3.1,wf3.2.1]
theorem wN:wC.nodes=[nN 9,nN 40]:=by kernel_rfl
theorem nil0:([]:AL).length<=big:=by decide
theorem uZ:CW wC:=aR hb0
theorem xP:CW tU:=(HR uZ (s:=mkS 7 20) nil0).w
theorem xQ:CW tV:=(HR xP (s:=mkS 1 20) nil0).w
theorem yF:CW wO:=(HR xQ (s:=mkS 8 20) nil0).w
theorem cwP:CW wP:=(HR yF (s:=wS) nil0).w
theorem yA:yS 13 [wC.c.d,stepsD [mkS 7 20,mkS 1 20,mkS 8 20]] wO.c.d:=by
 obtain⟨_,_,h8,h1,_,hj⟩:=wf3;have d3:yT 46 [.d (mkS 7 20).d,.ptr 4 0 1] (cB wC++cK) (.yO 0) (mH (JK wC 20).1):=MO wC (mkS 7 20) uZ rfl hj;rw[<-st7]at d3;have d4:yT 46 [.d (mkS 1 20).d,.ptr 4 0 1] (cB tU++cK) (.yO ((KW tU 20).2)) (cB (KW tU 20).1++cK):=MQ tU (mkS 1 20) xP rfl;rw[<-st1,h1]at d4;rcases Js tV 20 false with⟨i,e1,e2,e3,_⟩|⟨_,e⟩
 .have d5:yT 46 [.d (mkS 8 20).d,.ptr 4 0 1] (cB tV++cK) (.yO 0) (mH (FT tV 20 false).1):=MP tV (mkS 8 20) i xQ rfl e1 e2 e3;rw[<-st8]at d5;exact kR wC tU tV wO (mkS 7 20) (mkS 1 20) (mkS 8 20) uZ d3 d4 d5 rfl rfl rfl
 .rw[st8,e]at h8;cases h8
theorem y9:yS 13 [wP.c.d,stepsD [mkS 2 2]] (stepS wP (mkS 2 2)).1.c.d:=by
 have d3:yT 46 [.d (mkS 2 2).d,.ptr 4 0 1] (cB wP++cK) (.yO ((Co wP 2).2)) (cB (Co wP 2).1++cK):=GG wP (mkS 2 2) cwP rfl;rw[<-st2]at d3;exact kP wP _ (mkS 2 2) _ cwP d3
theorem VI{g:B0}{p:Int}(h:g.to=p):g=⟨p,g.by_,g.harmed⟩:=by cases g;cases h;rfl
theorem rk{n:AA}{k:Int}(h:n.A7.id=k):n=⟨⟨k,n.A7.A6,n.A7.AB,n.A7.AH,n.A7.f⟩,n.Am,n.Ac,n.BZ,n.A5,n.BH,n.AQ,n.AX,n.AW,n.next,n.last,n.keep,n.bad⟩:=by
 obtain⟨⟨_,_,_,_,_⟩,_,_,_,_,_,_,_,_,_,_,_,_⟩:=n;cases h;rfl
theorem Yo:yS 6 [] (.b true):=by
 obtain⟨a1,a2,a3,a4,a5⟩:=wf2;obtain⟨g1,g2,hg,t1,t2⟩:=pB a2;obtain⟨n1,n2,hn,k1,_⟩:=pB a3;obtain⟨b1,b2,b3,b4⟩:=wf6;obtain⟨p1,p2,p3,hp,_,_,q3⟩:=oi b2;rw[VI t1,VI t2]at hg;rw[VI q3]at hp;have eD:wD.c.d=dC wD.nodes [] [9,40] [⟨40,g1.by_,g1.harmed⟩,⟨40,g2.by_,g2.harmed⟩] wD.bag.lost:=by rw[Ws,a4,a5,hg]
 have eP:wP.c.d=dC wO.nodes [20] wO.A6 [⟨p1.to,p1.by_,p1.harmed⟩,⟨p2.to,p2.by_,p2.harmed⟩,⟨20,p3.by_,p3.harmed⟩] 0:=by rw[Ws,yB.1,yB.2,b4,b3,hp]
 have eQ:(stepS wP (mkS 2 2)).1.c.d=dC (stepS wP (mkS 2 2)).1.nodes (stepS wP (mkS 2 2)).1.gone (stepS wP (mkS 2 2)).1.A6 (stepS wP (mkS 2 2)).1.bag.grams 1:=by rw[Ws,wf9]
 have c1:=Jm [9,40] (by decide);rw[wf1,eC]at c1;have c2:=Md wC (mkS 1 9) uZ nil0;rw[a1,eC,eD]at c2;have c3:=yA;rw[eC,eO]at c3;have c4:=Md wO (mkS 7 20) yF nil0;rw[wf4,eO]at c4;have c5:=Md wC (mkS 8 9) uZ nil0;rw[wf5,eC]at c5;have c6:=Md wO wS yF nil0;rw[b1,eO,eP]at c6;have c7:=Jm [9] (by decide);rw[wf7]at c7;have c8:=kT wC 40 uZ;rw[wf8.2,rk wf8.1,eC]at c8;have c9:=ZP wC.nodes [] [9,40] (by rw[wN];decide);rw[show ids wC.nodes=[9,40]by rw[wN];rfl]at c9;have c10:=y9;rw[eP,eQ]at c10;have c11:=Hr wO yF;rw[eO]at c11;have d12:=J7 wC uZ
 have c13:=fP wC.nodes [] [9,40] (by rw[wN];decide) (by decide) (by decide) fun x hx=>by
  rw[wN]at hx;rcases q0O.1 hx with rfl|hx
  .exact tX 9
  .rw[q0e.1 hx];exact tX 40
 have c14:=fO (nN 9) n1 [nN 40] [n2] [] [9,40] [] wD.bag.grams 0 wD.bag.lost rfl sm (by decide) (by decide) (yC 9 n1 k1);rw[<-wN,<-hn,hg]at c14;rw[eC]at d12;obtain⟨h1,h2,h3,h4⟩:=wfC;unfold cX at d12;rw[h1,h2,h3,h4]at d12;exact pE (v:=((nodeAt wC.nodes 40).A7.A6,(nodeAt wC.nodes 40).A7.AB,(nodeAt wC.nodes 40).A7.AH,(nodeAt wC.nodes 40).A7.f)) (by rw[<-q08 (f:=AA.A4)];decide +kernel) c1 c2 c3 c4 c5 c6 c7 c8 c9 c10 c11 d12 c13 c14
abbrev En:BF:=[0,1,4,5,6,7,8,9,10,11,13,20,28,43,84,95,107,112,145]
def uG(c:CS)(l:List Step):CS:=l.foldl (fun c s=>(stepS c s).1) c
theorem gD{c:CS}(h:CW c){p:Int}(hp:p∈c.gone):Es c.nodes p=false:=by
 cases hq:Es c.nodes p with
 |false=>rfl
 |true=>exact absurd (Ib.2 hq) (h.n.gp p hp).2
theorem Rb(A6:Ai)(l:List Step)(hb:A6.length<=9223372036854775807)(hl:l.length<=9223372036854775807):yS 3 [.is A6,stepsD l] (.b true):=by
 have c1:=IC l hl;have c2:=Yo;refine zF AE Tryz.func3 ?_;unfold stepsD at*
 cases hs:KD l with
 |true=>
  rw[hs]at c1;refine AO En ?_ (Au @c1 @c2);exact zE
 |false=>
 rw[hs]at c1;unfold KD at hs;rw[Bool.or_eq_false_iff,q0c,q0s]at hs;obtain⟨hs1,hs2⟩:=hs
 have hky:∀s∈l,s.AC.AI.length<=big:=fun s hs=>by
  have:=hs1 s hs;unfold bigS at this;simp only[q0j,zW,not_or]at this;have:s.AC.AI.length<=300:=om
  exact q0L this (by decide)
 by_cases h9:A6.length>9
 .have f1:decide ((A6.length:Int)>9)=true:=zU om;refine AJ En ?_ (AK f1) (Au @c1 @c2);exact zE
 have f1:decide ((A6.length:Int)>9)=false:=zQ om;have c3:=Jm A6 om
 cases hq:Fj A6 with
 |false=>
  have hT:newS A6=(⟨[],[],[],⟨[],0⟩⟩,2):=zx (by rw[hq];exact Bool.false_ne_true);rw[hT]at c3;unfold D3.d D3.A4 CS.c Ak at c3;dsimp only[List.map_nil]at c3;refine AJ En ?_ (AK f1) (CP @c1 @c2 @c3);exact zE
 |true=>
 have hT:(newS A6).2=0:=by rw[show newS A6=_ from zn hq]
 have hB:(newS A6).1.A6=A6:=by rw[show newS A6=_ from zn hq]
 have hw:=aR hq;rw[hT]at c3;generalize newS A6=r0 at *;obtain⟨c0,e0⟩:=r0;dsimp only at *;clear hT;unfold D3.d D3.A4 CS.c at c3;dsimp only at c3
 obtain⟨Cf,hC0,hCs⟩:∃Cf:Nat->CS,Cf 0=c0/\∀k x,l[k]? =some x->Cf (k+1)=(stepS (Cf k) x).1:=⟨fun k=>uG c0 (l.take k),by unfold uG;rfl,fun k x hx=>by
  unfold uG;dsimp only;rw[AY hx,q0o]
  rfl⟩
 have hW:∀k,k<=l.length->CW (Cf k)/\(Cf k).A6=A6:=by
  intro k
  induction k with
  |zero=>intro _;rw[hC0];exact⟨hw,hB⟩
  |succ k ih=>
   intro hk;obtain⟨h1,h2⟩:=ih om;obtain⟨x,hx⟩:=Ah (show k<l.length by omega);have h3:=HR h1 (hky x (q00 hx));rw[hCs k x hx];exact⟨h3.w,h3.A6.trans h2⟩
 refine AJ En ?_ (AK f1) (Au @c1 @c3);refine CM (fun k=>k<=l.length) (fun k:Nat=>[(7,.yO k)]) (fun k=>[(0,.c [.d (Ak (Cf k).nodes),.yV ((Cf k).gone),.yV ((Cf k).A6),.d (.sl 3 ((Cf k).bag.grams.map B0.A4)),.yO ((Cf k).bag.lost)])]) (fun k=>l.length-k) 0 (zi _) (fun _=>rfl) (fun _=>rfl) ?_ ?_
 .rw[hC0];exact A8.ck rfl
 intro k hk;obtain⟨hwc,hbc⟩:=hW k hk
 by_cases hkl:k<l.length
 .obtain⟨x,hx⟩:=Ah hkl;have hn:=hCs k x hx;have hst:=HR hwc (hky x (q00 hx));have c4:=Md (Cf k) x hwc (hky x (q00 hx));generalize hr:stepS (Cf k) x=r at *;obtain⟨o,e⟩:=r;obtain⟨hwo,hbo,⟨tl,hgo⟩,hno⟩:=hst;dsimp only at *;have c5:=Vx (Cf k) hwc;have c6:=ny o hwo;clear hCs hC0 hW hky hr hs1;generalize Cf k=c at *;have hlc:=hwc.len;have hlo:=hwo.len;rw[hbc]at hbo;have f2:=DC (A6.length:Int);have f3:decide ((o.gone.length:Int)<c.gone.length)=false:=zQ (by rw[hgo,q04];omega)
  have c7:∀p,p∈o.gone->yS 11 [o.c.d,.yX p] (.tup [(nodeAt o.nodes p).d,.b false]):=fun p hp=>by
   have:=kT o p hwo;rwa [gD hwo hp]at this
  unfold Step.d at c4;unfold D3.d D3.A4 CS.c at *;dsimp only at*
  have hmid:e=0\/(e≠0/\yS 9 [.agg [Ak o.nodes,.is o.gone,.is o.A6,.sl 3 (o.bag.grams.map B0.A4),.yX o.bag.lost],.agg [Ak c.nodes,.is c.gone,.is c.A6,.sl 3 (c.bag.grams.map B0.A4),.yX c.bag.lost]] (.b true)):=by
   by_cases he:e=0
   .exact .inl he
   .refine .inr ⟨he,?_⟩;rw[hno he];exact c5
  clear c5 hno;rw[hbo]at c4 c6 c7;rw[hbc]at c4;rw[hbo,hbc]at hmid;rw[hbc];rcases hmid with rfl|⟨he,c5⟩
  case' inl=>
   have ix1:=hx;refine AJ En ?_ (Au f2 f3) (Au @c4 @c6) [(0,9)];clear ix1;with_reducible repeat' first|constructor|intro hc
  case' inr=>
   have f4:=eq_false' he;have ix1:=hx;refine AJ En ?_ (CP f2 f3 f4) (CP @c4 @c5 @c6) [(0,9)];clear ix1;with_reducible repeat' first|constructor|intro hc
  all_goals
   refine C4 (fun j=>j<=A6.length) (fun j:Nat=>[(10,.yO j)]) (fun j=>A6.length-j) 0 (zi _) (fun _=>rfl) ?_ ?_
   .exact A8.ck rfl
   intro j hj
   by_cases hjl:j<A6.length
   .obtain⟨y,hy⟩:=Ah hjl;have gy:=C5 hy;have f5:=DC y;refine Aj En ?_ (Au gy f5);with_reducible repeat' first|constructor|intro hc
    refine⟨j+1,hjl,om,zN _,?_⟩;exact A8.ck rfl
   have ej:j=A6.length:=om
   subst ej;refine A9 En ?_;with_reducible repeat' first|constructor|intro hc
   refine C4 (fun j=>j<=c.gone.length) (fun j:Nat=>[(11,.yO j)]) (fun j=>c.gone.length-j) 0 (zi _) (fun _=>rfl) ?_ ?_
   .exact A8.ck rfl
   intro j hj
   by_cases hjl:j<c.gone.length
   .obtain⟨y,hy⟩:=Ah hjl;have gy:=C5 hy;have hy2:o.gone[j]? =some y:=by rw[hgo,zy hjl];exact hy
    have gz:=C5 hy2;have hjo:j<o.gone.length:=(zS.1 hy2).1;have f5:=DC y;have f6:decide ((j:Int)>=o.gone.length)=false:=zQ (by rw[hgo,q04];omega);have c8:=c7 y (q00 hy2);generalize nodeAt o.nodes y=n at c8;unfold AA.d at c8;rw[show n.A4=nX n from rfl]at c8;dsimp only[nX]at c8;refine AJ En ?_ (ME gy gz f5 f6) (AK @c8) [(0,10),(1,10),(2,10)];with_reducible repeat' first|constructor|intro hc
    refine⟨j+1,hjl,om,zN _,?_⟩;exact A8.ck rfl
   have ej:j=c.gone.length:=om
   subst ej;refine A9 En ?_;with_reducible repeat' first|constructor|intro hc
   refine⟨k+1,hkl,om,zN _,?_⟩;exact(have nC:=zh hn hbo;A8.cn rfl)
 .have e:k=l.length:=om
  subst e;have c4:=Hr (Cf l.length) hwc;unfold D3.d D3.A4 CS.c at c4;dsimp only at c4;refine AO En ?_ (Au @c4 @c2);with_reducible repeat' first|constructor|intro hc
  exact zE
end Nd
end Go.Proofs.YtamjpnmjpponpaaGreatDoor
namespace Go.Proofs.YtamjpnmjpponpaaGreatDoor
open Go Go.Gar Go.RowKit
set_option maxRecDepth 100000 in
theorem Mh(os:Os)(started:os.Started)(H:Type)(enc:TypeId×Value->H):
  ReturnsInHanded {} Tryz.checked os 3 .any (fun w args=>(Rows.circleRightSpec.pre enc Tryz.prog Tryz.f3 [] false w args/\laidMetH Tryz.prog L1 w)/\sizedMet enc Tryz.prog Tryz.f3 (OpenSpec.ofChange Rows.circleRightSpec) false w args) (Rows.circleRightSpec.post enc Tryz.prog Tryz.f3 false true false false):=by
 refine returnsInHanded_of_change_and (C:=Tryz.checked) (X:=fun w _=>laidMetH Tryz.prog L1 w) (fun _ _ _ hh h=>h.of_heap hh) own started (by kernel_rfl) Tryz.func3
  (ChangeSpec.witness_shaped (enc:=enc) (C:=Tryz.checked) (os:=os) (X:=fun w _=>laidMetH Tryz.prog L1 w) false (World.doorLaid Tryz.prog 27 os) #[.slice none 0 0,.slice none 0 0] 8 rfl (World.shaped_of_RefB (by kernel_rfl) (by kernel_rfl)) (by kernel_rfl) (by kernel_rfl) (by kernel_rfl) (door_met os _)) ?_
 intro W A6 args ds gs before hval hW _ _ hL _;refine UD (P:=Tryz.prog) (tb:=4) AE laidOut (by kernel_rfl) (by kernel_rfl) (by kernel_rfl) Tryz.underlying4 rfl ?_ ?_ hval hW (TK hL)
 .intro H ds h
  match ds,h with
  |[d0,d1],_=>rfl
 .intro xs h;obtain⟨x0,r,rfl,h0,h⟩:=h;obtain⟨x1,r,rfl,h1,h⟩:=h;cases h;obtain⟨n0,rfl,k0⟩:=tM h0;obtain⟨n1,rfl,k1⟩:=YH h1;exact Nd.Rb n0 n1 k0 k1
set_option maxRecDepth 100000 in
theorem Mg:joinedFacts Tryz.pinned.checked.prog 3 Tryz.f3 Rows.circleRightSpec Rows.circleRightRow=true:=by
 unfold joinedFacts
 repeat'(with_reducible refine jt ?_ ?_)
 all_goals(as_aux_lemma=>kernel_rfl)
theorem IU:Tryz.prog.funcNamed "garland/garlandlaw25.CircleRight" =some 3:=by kernel_rfl
theorem QD:Rows.CircleRightSaid:=
 OpenClaim.holds_of_wide 3 Tryz.f3 rfl rfl rfl rfl rfl rfl rfl ⟨rfl,rfl,rfl,rfl,rfl⟩ rfl rfl rfl rfl rfl IU Tryz.func3 Mg
  (of_decide_eq_true (by kernel_rfl)) (by unfold Func.isWrapper;first|(rw[zn (by decide +kernel)];kernel_rfl)|(rw[zx (by decide +kernel)];exact⟨rfl,rfl⟩))
  (fun os started H enc _=>Mh os started H enc)
end Go.Proofs.YtamjpnmjpponpaaGreatDoor
namespace Go.Proofs.YtamjpnmjpponpaaGreatDoor
namespace Nd
open Go.Gar
abbrev EL:BF:=[0,1,2,6,7,8,9,10,11,12,13,14,15,16,17,18,33,41,47,60,68,78,86]
theorem xT{c:CS}(h:CW c)(k:Nat):Ko c (k+1)=(stepS (Ko c k) (mkS 2 0)).1:=rfl
theorem Ra(A6:Ai)(l:List Step)(most:Int)(hb:A6.length<=9223372036854775807)(hl:l.length<=9223372036854775807):yS 4 [.is A6,stepsD l,.yX most] (.b true):=by
 have c1:=IC l hl;have c2:=Yo;refine zF AE Tryz.func4 ?_;unfold stepsD at*
 cases hs:KD l with
 |true=>
  rw[hs]at c1;refine AO EL ?_ (Au @c1 @c2);with_reducible repeat' first|constructor|intro hc
  exact zE
 |false=>
 rw[hs]at c1;unfold KD at hs;rw[Bool.or_eq_false_iff,q0c,q0s]at hs;obtain⟨hs1,hs2⟩:=hs
 have hky:∀s∈l,s.AC.AI.length<=big:=fun s hs=>by
  have:=hs1 s hs;unfold bigS at this;simp only[q0j,zW,not_or]at this;have:s.AC.AI.length<=300:=om
  exact q0L this (by decide)
 by_cases h9:A6.length>9
 .have f1:decide ((A6.length:Int)>9)=true:=zU om;refine AJ EL ?_ (AK f1) (Au @c1 @c2);with_reducible repeat' first|constructor|intro hc
  exact zE
 have f1:decide ((A6.length:Int)>9)=false:=zQ om
 by_cases hm0:most<0
 .have f2:decide (most<0)=true:=zU hm0;refine AJ EL ?_ (Au f1 f2) (Au @c1 @c2);with_reducible repeat' first|constructor|intro hc
  exact zE
 have f2:decide (most<0)=false:=zQ hm0
 by_cases hm1:most>12
 .have f3:decide (most>12)=true:=zU hm1;refine AJ EL ?_ (CP f1 f2 f3) (Au @c1 @c2);with_reducible repeat' first|constructor|intro hc
  exact zE
 have f3:decide (most>12)=false:=zQ hm1;have c3:=Jm A6 om
 cases hq:Fj A6 with
 |false=>
  have hT:newS A6=(⟨[],[],[],⟨[],0⟩⟩,2):=zx (by rw[hq];exact Bool.false_ne_true);rw[hT]at c3;unfold D3.d D3.A4 CS.c Ak at c3;dsimp only[List.map_nil]at c3;refine AJ EL ?_ (CP f1 f2 f3) (CP @c1 @c2 @c3);with_reducible repeat' first|constructor|intro hc
  exact zE
 |true=>
 have hT:(newS A6).2=0:=by rw[show newS A6=_ from zn hq]
 have hw:=aR hq;rw[hT]at c3;generalize newS A6=r0 at *;obtain⟨c0,e0⟩:=r0;dsimp only at *;clear hT;obtain⟨m,rfl⟩:∃m:Nat,most=m:=⟨most.toNat,om⟩
 obtain⟨Cf,hC0,hCs⟩:∃Cf:Nat->CS,Cf 0=c0/\∀k x,l[k]? =some x->Cf (k+1)=(stepS (Cf k) x).1:=⟨fun k=>allT c0 (l.take k),by unfold allT;rfl,fun k x hx=>by
  unfold allT;dsimp only;rw[AY hx,q0o]
  rfl⟩
 have hW:∀k,k<=l.length->CW (Cf k)/\Cf k=allT c0 (l.take k):=by
  intro k
  induction k with
  |zero=>intro _;rw[hC0];exact⟨hw,rfl⟩
  |succ k ih=>
   intro hk;obtain⟨h1,h2⟩:=ih om;obtain⟨x,hx⟩:=Ah (show k<l.length by omega);have h3:=HR h1 (hky x (q00 hx));rw[hCs k x hx];refine⟨h3.w,?_⟩;rw[h2,AY hx];unfold allT;rw[q0o];rfl
 obtain⟨hwl,hel⟩:=hW l.length (zN _);have c4:=qS c0 l hw om hky;rw[q06]at hel;rw[<-hel]at c4;have c5:=Vx (Cf l.length) hwl;have c6:=fM (Cf l.length) m hwl om;have hdw:=ZT hwl;have c7:=fun k=>Vx (Ko (Cf l.length) k) (hdw k)
 unfold stepsD at c4;unfold D3.d D3.A4 CS.c at *;dsimp only at *;refine AJ EL ?_ (CP f1 f2 f3) (Au @c1 @c3);with_reducible repeat' first|constructor|intro hc
 refine CM (fun k=>k<=l.length) (fun k:Nat=>[(10,.yO k)]) (fun k=>[(1,.c [.d (Ak (Cf k).nodes),.yV ((Cf k).gone),.yV ((Cf k).A6),.d (.sl 3 ((Cf k).bag.grams.map B0.A4)),.yO ((Cf k).bag.lost)])]) (fun k=>l.length-k) 0 (zi _) (fun _=>rfl) (fun _=>rfl) ?_ ?_
 .rw[hC0];exact A8.ck rfl
 intro k hk;obtain⟨hwc,_⟩:=hW k hk
 by_cases hkl:k<l.length
 .obtain⟨x,hx⟩:=Ah hkl;have hn:=hCs k x hx;have hst:=HR hwc (hky x (q00 hx));have c8:=Md (Cf k) x hwc (hky x (q00 hx));generalize hr:stepS (Cf k) x=r at *;obtain⟨o,e⟩:=r;have hno:=hst.4;dsimp only at hn hno;unfold Step.d D3.d D3.A4 CS.c at c8;dsimp only at c8
  by_cases he:e=0
  .subst he;have ix1:=hx;refine AO EL ?_ (AK @c8) [(0,9)];clear ix1;with_reducible repeat' first|constructor|intro hc
   refine⟨k+1,hkl,om,zN _,?_⟩;exact(have nC:=hn;A8.cn rfl)
  .have f4:=eq_false' he;rw[hno he]at hn c8;have ix1:=hx;refine AJ EL ?_ (AK f4) (AK @c8) [(0,9)];clear ix1;with_reducible repeat' first|constructor|intro hc
   refine⟨k+1,hkl,om,zN _,?_⟩;exact(have nC:=hn;A8.cn rfl)
 obtain rfl:k=l.length:=om
 generalize Cf l.length=C at *;refine AO EL ?_ (Au @c4 @c5);with_reducible repeat' first|constructor|intro hc
 obtain⟨R,hR⟩:∃R,pP C m=R:=⟨_,rfl⟩;rw[hR]at c6;refine CM (fun n:Nat=>n<=m/\R=n+pP (Ko C n) (m-n)) (fun n:Nat=>[(14,.yO n)]) (fun n=>[(1,.c [.d (Ak (Ko C n).nodes),.yV ((Ko C n).gone),.yV ((Ko C n).A6),.d (.sl 3 ((Ko C n).bag.grams.map B0.A4)),.yO ((Ko C n).bag.lost)])]) (fun n=>m-n) 0 ⟨zi _,by rw[<-hR];simp[Ko]⟩ (fun _=>rfl) (fun _=>rfl) ?_ ?_
 .exact A8.ck rfl
 rintro n ⟨hn,hRn⟩;have hwn:=hdw n
 have hend:(n=m\/(Ko C n).bag.grams.length=0)->R=n:=fun h=>by
  rw[ZU (h.imp (fun e=>om) id)]at hRn;omega
 by_cases hnm:n<m
 .have f4:decide ((n:Int)<m)=true:=zU om
  by_cases hg:(Ko C n).bag.grams.length=0
  .have f5:decide (((Ko C n).bag.grams.length:Int)>0)=false:=zQ om;obtain rfl:=hend (.inr hg);have f6:=DC (R:Int);have f7:=AT (show((Ko C R).bag.grams.length:Int)=0 by omega);have c9:=c7 R;refine AJ EL ?_ (ME f4 f5 f6 f7) (CP @c6 @c2 @c9);with_reducible repeat' first|constructor|intro hc
   all_goals(exact zE)
  .have f5:decide (((Ko C n).bag.grams.length:Int)>0)=true:=zU om;have c9:=Md (Ko C n) (mkS 2 0) hwn (zi _);have e1:(stepS (Ko C n) (mkS 2 0)).2=0:=kx hg;rw[<-xT hwl n,e1]at c9;rw[bu hnm hg]at hRn;unfold Step.d Step.A4 D3.d D3.A4 CS.c at c9;dsimp only at c9;have z1:=@c9;refine Aj EL ?_ (Au f4 f5);clear z1;with_reducible repeat' first|constructor|intro hc
   refine⟨n+1,⟨hnm,om⟩,om,zN _,?_⟩;exact A8.ck rfl
 .obtain rfl:n=m:=om
  obtain rfl:=hend (.inl rfl);have f4:decide ((R:Int)<R)=false:=zQ om;have f6:=DC (R:Int);have c9:=c7 R;refine AJ EL ?_ (Au f4 f6) (CP @c6 @c2 @c9);with_reducible repeat' first|constructor|intro hc
  all_goals(exact zE)
end Nd
end Go.Proofs.YtamjpnmjpponpaaGreatDoor
namespace Go.Proofs.YtamjpnmjpponpaaGreatDoor
open Go Go.Gar Go.RowKit
set_option maxRecDepth 100000 in
theorem Mf(os:Os)(started:os.Started)(H:Type)(enc:TypeId×Value->H):
  ReturnsInHanded {} Tryz.checked os 4 .any (fun w args=>(Rows.circleDrainSpec.pre enc Tryz.prog Tryz.f4 [] false w args/\laidMetH Tryz.prog L1 w)/\sizedMet enc Tryz.prog Tryz.f4 (OpenSpec.ofChange Rows.circleDrainSpec) false w args) (Rows.circleDrainSpec.post enc Tryz.prog Tryz.f4 false true false false):=by
 refine returnsInHanded_of_change_and (C:=Tryz.checked) (X:=fun w _=>laidMetH Tryz.prog L1 w) (fun _ _ _ hh h=>h.of_heap hh) own started (by kernel_rfl) Tryz.func4
  (ChangeSpec.witness_shaped (enc:=enc) (C:=Tryz.checked) (os:=os) (X:=fun w _=>laidMetH Tryz.prog L1 w) false (World.doorLaid Tryz.prog 27 os) #[.slice none 0 0,.slice none 0 0,.int .i64 0] 8 rfl (World.shaped_of_RefB (by kernel_rfl) (by kernel_rfl)) (by kernel_rfl) (by kernel_rfl) (by kernel_rfl) (door_met os _)) ?_
 intro W A6 args ds gs before hval hW _ _ hL _;refine UD (P:=Tryz.prog) (tb:=4) AE laidOut (by kernel_rfl) (by kernel_rfl) (by kernel_rfl) Tryz.underlying4 rfl ?_ ?_ hval hW (TK hL)
 .intro H ds h
  match ds,h with
  |[d0,d1,d2],_=>rfl
 .intro xs h;obtain⟨x0,r,rfl,h0,h⟩:=h;obtain⟨x1,r,rfl,h1,h⟩:=h;obtain⟨x2,r,rfl,h2,h⟩:=h;cases h;obtain⟨n0,rfl,k0⟩:=tM h0;obtain⟨n1,rfl,k1⟩:=YH h1;obtain⟨n2,rfl⟩:=vE h2;exact Nd.Ra n0 n1 n2 k0 k1
set_option maxRecDepth 100000 in
theorem Me:joinedFacts Tryz.pinned.checked.prog 4 Tryz.f4 Rows.circleDrainSpec Rows.circleDrainRow=true:=by
 unfold joinedFacts
 repeat'(with_reducible refine jt ?_ ?_)
 all_goals(as_aux_lemma=>kernel_rfl)
theorem IT:Tryz.prog.funcNamed "garland/garlandlaw25.CircleDrain" =some 4:=by kernel_rfl
theorem QC:Rows.CircleDrainSaid:=
 OpenClaim.holds_of_wide 4 Tryz.f4 rfl rfl rfl rfl rfl rfl rfl ⟨rfl,rfl,rfl,rfl,rfl⟩ rfl rfl rfl rfl rfl IT Tryz.func4 Me
  (of_decide_eq_true (by kernel_rfl)) (by unfold Func.isWrapper;first|(rw[zn (by decide +kernel)];kernel_rfl)|(rw[zx (by decide +kernel)];exact⟨rfl,rfl⟩))
  (fun os started H enc _=>Mf os started H enc)
end Go.Proofs.YtamjpnmjpponpaaGreatDoor
