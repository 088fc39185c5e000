/- Part 38 of a proof. Conditions: those that its theorems state. -/
import Derived.Test.YtamjpnmjpponpaaGreatDoorC37
set_option linter.unusedSimpArgs false
set_option linter.unusedVariables false
set_option linter.unnecessarySimpa false
set_option maxHeartbeats 40000000
set_option maxRecDepth 4000
namespace Go.Proofs.YtamjpnmjpponpaaGreatDoor
namespace Nd
open Go.Gar
open Wi (AF BV B7 AU Bp mC Cp Bc)
abbrev KJ:BF:=[0,1,2,4,5,6,7,9,10,31]
abbrev Ab(l:List B0):D:=.sl 3 (l.map B0.A4)
abbrev nH(n:AA)(g:List B0):z6:=[.c (hC n (.sl 1 g.length 3)),.a (Ab g)]
abbrev aC(a:AF×Int):yr:=[.yQ a.1.AN,.yO a.1.Ae,.yO a.1.B8,.yO a.1.dst,.yO a.1.AI,.yP a.1.BA,.yP a.1.done,.yO a.1.AP,.yO a.1.AH,.yV a.1.AB,.yU a.1.AC.AI,.yO a.1.AC.B4,.yO a.1.AC.AZ,.yP a.1.AC.gone,.yO a.1.Aa,.yQ a.2]
theorem nT(l:List (AF×Int)):yT 269 [.d (BS l)] [] (.fn (.func 317) [] [.ptr 0 0 1]) [.c [.d (BS l)]]:=by
 refine zC AE Tryz.func269 ?_;refine A9 [0,1,2] ?_;exact Bh
theorem KB(n:AA)(g:List B0)(m:AF)(hm:m.AB.length<9223372036854775807)(hg:g.length<=1048576):yT 172 [.ptr 0 0 77,.d m.d] (nH n g) (.tup []) (nH n (g++GO m)):=by
 have c1:=Wi.tc m hm;refine zC AE Tryz.func172 ?_;unfold Wi.AF.d Wi.AF.A4 at *;have hT:GO m=if(Cp m).2=0 then[⟨m.dst,(Cp m).1,false⟩]else[]:=rfl
 generalize Cp m=p at *;obtain⟨pb,pe⟩:=p;dsimp only at c1 hT;rw[hT]
 by_cases h:pe=0
 .have f1:=AT h;rw[zn h];unfold nH hC;refine AJ [0,1,3,4,5,12] ?_ (AK f1) (AK @c1) [(0,9),(1,9),(2,9),(3,9),(4,9),(0,10)]
  (have nC:=zh @Ab.eq_1 @B0.A4.eq_1;exact xO)
 .have f1:=eq_false' h;rw[zx h,q1U];unfold nH hC;refine AJ [0,1,3,4,5,12] ?_ (AK f1) (AK @c1);exact Bh
theorem aW(c:Calls)(m:AF)(Bd ref now:Int)(h:m.AB=[]):(CX c m Bd ref now).2.1.AB=[]:=by
 unfold CX;split
 .split
  .rfl
  .dsimp only;split
   .exact h
   .rfl
 .rfl
abbrev oH(s:NS)(l:List (AF×Int)):z6:=[.c (hC s.1 (.sl 1 s.2.length 3)),.a (Ab s.2),.c [.ptr 0 0 77],.c [.d (BS l)]]
theorem Vm(n:AA)(g:List B0)(l:List (AF×Int))(h:NB n)(hl:MN l)(hn:l.length<=1000000)(hg:g.length<=1000000):yT 223 [.ptr 0 0 77,.d (BS l)] (nH n g) (.tup []) (nH (FB (n,g) l).1 (FB (n,g) l).2):=by
 have c1:=nT l;refine zC AE Tryz.func223 ?_;unfold nH;refine Ax KJ ?_ (BJ [] c1);refine zG (K:=fun r _ H'=>H'=oH (FB (n,g) l) l++[.lp r]) ?_ ?_
 .intro r hr;have hk:=hr.ok (k:=4) rfl
  have hY:∀(s:NS)(x:AF×Int),NB s.1->x.1.AB=[]->s.2.length<=1000100->YT Tryz.prog 4 [.d (.agg (HG x))] (oH s l++[.lp r,.c (aC x)]) fun v K=>v= .yP true/\K=oH (PN s x) l++[.lp r,.c (aC x)]:=by
   rintro⟨N,G⟩ x hN hx hG;dsimp only at hN hG;have hb:=hN.hok;have c2:=fN N.Ac x.1 x.2 0 N.Am hb.ok.cl hb.ok.cn (by unfold Ay;rw[hx];exact zi _);have c3:=qy N hb x.2;have hT:PN (N,G) x=if(CX N.Ac x.1 x.2 0 N.Am).2.2=0 then({N with Ac:=(CX N.Ac x.1 x.2 0 N.Am).1},G++GO (CX N.Ac x.1 x.2 0 N.Am).2.1)else(GA N x.2,G):=rfl;rw[hT];have hml:=aW N.Ac x.1 x.2 0 N.Am hx;clear hT;generalize CX N.Ac x.1 x.2 0 N.Am=q at *;obtain⟨q1,q2,q3⟩:=q;generalize GA N x.2=B at *;dsimp only at *;refine Ar hr rfl rfl rfl ?_;unfold Calls.d Calls.A4 Wi.AF.d Wi.AF.A4 at c2;unfold AA.d AA.A4 AG.A4 Calls.A4 B9.A4 at c3;have c4:=KB {N with Ac:=q1} G q2 (by rw[hml];exact yR) om;unfold Wi.AF.d Wi.AF.A4 at c4;unfold nH at c4
   by_cases hq:q3=0
   case' pos=>have f1:=AT hq;rw[zn hq]
   case' neg=>have f1:=eq_false' hq;rw[zx hq]
   all_goals
    unfold hC aC HG at *;refine A9 KJ ?_;refine zR ?_;refine A9 KJ ?_ [] [3];apply Uh (E:=T.get) 19 20 7 8 mixed rfl (by simp(decide:=true) [Bj,AM.ok,AV.oks,AV.ok,hk])
    case h1=>
     refine AO KJ ?_ (AK @c2) [(0,19),(1,19),(2,19),(3,19),(4,19),(5,19),(6,19),(7,19),(8,19),(9,19),(10,19),(11,19),(12,19),(13,19),(0,20),(1,20),(2,20),(3,20),(4,20),(5,20),(6,20),(7,20),(8,20),(9,20),(10,20),(11,20),(12,20),(13,20)];exact⟨rfl,.inl rfl⟩
    case h2=>
     refine AO KJ ?_ (AK @c2) [(0,19),(1,19),(2,19),(3,19),(4,19),(5,19),(6,19),(7,19),(8,19),(9,19),(10,19),(11,19),(12,19),(13,19),(0,20),(1,20),(2,20),(3,20),(4,20),(5,20),(6,20),(7,20),(8,20),(9,20),(10,20),(11,20),(12,20),(13,20)];have e:L6 (sw 7 8) r.env=r.env:=by rw[hr.2.2.2.1];rfl
     refine⟨rfl,.inr ?_⟩;show(⟨_,[_,_,_,_,.lp {r.busy with env:=L6 (sw 7 8) r.env},_,_,_,_],_⟩:St)=_;rw[e];rfl
    case hab=>rfl
    case hQ=>
     refine By KJ ?_ (AK f1) (AK @c3) (BJ [0,1] c4);with_reducible repeat' first|constructor|intro hc
     exact pJ rfl (A8.ck rfl)
  refine zT AE Tryz.func317 ?_;refine A9 [0,1,4,5,6,7,8,14] ?_;refine CM (fun j:Nat=>j<=l.length) (fun j:Nat=>[(7,.yO j)]) (fun j=>[(0,.c (hC (FB (n,g) (l.take j)).1 (.sl 1 (FB (n,g) (l.take j)).2.length 3))),(1,.a (Ab (FB (n,g) (l.take j)).2))]) (fun j=>l.length-j) 0 (zi _) (fun _=>rfl) (fun _=>rfl) ?_ ?_
  .exact A8.ck rfl
  intro j hj
  by_cases hjl:j<l.length
  .obtain⟨x,hx⟩:=Ah hjl;have hz:=gw (s:=(n,g)) h (l.take j);have hy:=hY (FB (n,g) (l.take j)) x (LZ (l.take j) (s:=(n,g)) h).nb (hl x (q00 hx)) (by dsimp only at hz;omega)
   have e1:PN (FB (n,g) (l.take j)) x=FB (n,g) (l.take (j+1)):=by
    rw[AY hx];unfold FB;rw[q0o];rfl
   rw[e1]at hy;unfold oH HG aC at hy;simp only[zY,zZ]at hy;have ix1:=hx;have q1:=@hy;refine A9 [0,1,4,5,6,7,8,14] ?_;clear q1 ix1;with_reducible repeat' first|constructor|intro hc
   refine⟨j+1,hjl,om,zN _,?_⟩;exact A8.ck rfl
  .have e:j=l.length:=om
   subst e;rw[q06];refine A9 [0,1,4,5,6,7,8,14] ?_;with_reducible repeat' first|constructor|intro hc
   exact⟨_,A8.refl _,zN _,_,_,rfl,rfl,rfl⟩
 .rintro r hr x H' rfl;refine .inl ⟨rfl,?_⟩;refine A9 KJ ?_;exact Bh
theorem OA(n n':AA)(g:List B0)(l:List (AF×Int))(h:NB n')(hl:MN l)(hn:l.length<=1000000)(hg:g.length<=1000000):yT 164 [.ptr 0 0 77,.d n'.d,.d (BS l)] (nH n g) (.tup []) (nH (Em g (n',l)).1 (Em g (n',l)).2):=by
 have c1:=Vm n' g l h hl hn hg;have hT:Em g (n',l)=FB (n',g) l:=rfl;rw[hT];generalize FB (n',g) l=q at *;refine zC AE Tryz.func164 ?_;unfold nH at *;unfold AA.d AA.A4 AG.A4 Calls.A4 B9.A4;refine Ax [0,1,2,4] ?_ (BJ [0,1] c1);exact Bh
abbrev Oa:BF:=[0,2,3,4,6,8,29,30,31,32,39,40,41,42]
theorem SE(n:AA)(w:Int)(e:Bool)(c:JC)(h:c.BY.length<=3):(B5 n w e c).2.length<=3:=by
 unfold B5;dsimp only;rw[q08];exact h
theorem Pd(n:AA)(w AR AP:Int)(x:AS):(Bq n w AR AP x).2.length<=3:=by
 unfold Bq;split
 .exact SE _ _ _ _ (aF ..).1
 .exact zi _
theorem On(p o:Int):(G9 p o).length<=3:=by
 unfold G9;split
 .simp
 split<;>simp
theorem gE(n:AA)(c:Al)(m:AF):(D4 n c m).2.length<=3:=by
 unfold D4;split
 .split
  .dsimp only;unfold Dm;split
   .split
    .exact zi _
    .dsimp only;split
     .dsimp only;exact On _ _
     .dsimp only;exact On _ _
   .exact zi _
  split
  .exact SE _ _ _ _ (Nr _ _ _ ((Gr n c.Bd).AC.AI.length+m.AC.AI.length) (Nat.le_add_right ..) (Nat.le_add_left ..)).1
  .exact zi _
 .exact zi _
theorem nD(n:AA)(c:Al):(Dz n c).2.length<=3:=by
 unfold Dz;split
 .dsimp only;split
  .exact zi _
  split
  .exact SE _ _ _ _ (Nq _ _ _).1
  .exact zi _
 .exact zi _
theorem fC(v:AG)(p o:Int):(Cm v p o).2.length<=3:=by
 unfold Cm;split
 .dsimp only;exact On _ _
 .exact zi _
def Ij(g:List B0)(l:List AF):List B0:=l.foldl (fun g m=>g++GO m) g
theorem Yc:∀(l:List AF)(g:List B0),Ij g l=g++l.flatMap GO
 |[],g=>by simp[Ij]
 |m::r,g=>by
  have:=Yc r (g++GO m);unfold Ij at *;rw[q0p,this,List.flatMap_cons,q0Z]
theorem Lh:∀(l:List AF)(g:List B0),(Ij g l).length<=g.length+l.length
 |[],g=>zN _
 |m::r,g=>by
  have h1:=Lh r (g++GO m);have h2:(GO m).length<=1:=by unfold GO;split<;>simp
  unfold Ij at *;rw[q0p,q02];rw[q04]at h1;omega
def I4(s:NS)(l:List Al):NS:=l.foldl (fun s x=>Em s.2 (Dz s.1 x)) s
theorem dL(n:AA)(g:List B0):Q0 (n,g)=I4 ({n with Ac:=(Ch n.Ac n.Am).1},Ij g (Ch n.Ac n.Am).2.1) (Ch n.Ac n.Am).2.2:=by
 rw[Yc];rfl
theorem SQ{n:AA}(h:NB n):(∀m∈(Ch n.Ac n.Am).2.1,m.AB.length<9223372036854775807)/\(Ch n.Ac n.Am).2.1.length<=16/\(Ch n.Ac n.Am).2.2.length<=16:=by
 have h16:=h.xl;unfold Ch;split
 .dsimp only;have h1:=q0b (DX n.Am) n.Ac.op;have h2:=q0b (fun x=> !DX n.Am x) n.Ac.op;have h3:=q0b (MG n.Am) (n.Ac.op.filter fun x=> !DX n.Am x);refine⟨fun m hm=> ?_,by rw[q08];omega,om⟩;simp only[q1L,List.mem_filter]at hm;obtain⟨x,⟨⟨hx,_⟩,_⟩,rfl⟩:=hm;have:=h.FG.cl x hx;unfold Ay at this;omega
 .exact⟨fun m hm=>(by cases hm),zi _,zi _⟩
theorem Sa{s:NS}(h:NB s.1)(l:List Al):NB (I4 s l).1/\(I4 s l).2.length<=s.2.length+16:=⟨(Qi l h).nb,(Qi l h).size⟩
theorem rS(n:AA)(g:List B0)(h:NB n)(hg:g.length<=900000):yT 229 [.ptr 0 0 77] (nH n g) (.tup []) (nH (Q0 (n,g)).1 (Q0 (n,g)).2):=by
 have c1:=kV n.Ac n.Am h.FG.cl h.FG.cn;have hN:=h.late n.Am;obtain⟨hA,hB1,hB2⟩:=SQ h;rw[dL];generalize Ch n.Ac n.Am=q at *;obtain⟨q1,ag,ov⟩:=q;dsimp only at *;refine zC AE Tryz.func229 ?_;unfold Calls.d Calls.A4 at c1;unfold nH hC;refine AO Oa ?_ (AK @c1) [(0,15),(1,15),(2,15),(3,15),(4,15),(5,15),(6,15),(7,15),(8,15),(9,15)];obtain⟨N,hNe⟩:∃N:AA,N={n with Ac:=q1}:=⟨_,rfl⟩;rw[<-hNe]at hN|-;refine CM (fun j:Nat=>j<=ag.length) (fun j:Nat=>[(31,.yO j)]) (fun j=>[(0,.c (hC N (.sl 1 (Ij g (ag.take j)).length 3))),(1,.a (Ab (Ij g (ag.take j))))]) (fun j=>ag.length-j) 0 (zi _) (fun _=>rfl) (fun _=>rfl) ?_ ?_
 .subst hNe;exact A8.ck rfl
 intro j hj
 by_cases hjl:j<ag.length
 .obtain⟨x,hx⟩:=Ah hjl;have hz:=Lh (ag.take j) g;have hz2:(ag.take j).length<=ag.length:=by rw[q0D];omega
  have c2:=KB N (Ij g (ag.take j)) x (hA x (q00 hx)) om
  have e1:Ij g (ag.take j)++GO x=Ij g (ag.take (j+1)):=by
   rw[AY hx];unfold Ij;rw[q0o];rfl
  rw[e1]at c2;unfold nH at c2;unfold Wi.AF.d Wi.AF.A4 at c2;have ix1:=hx;refine Ax Oa ?_ (BJ [0,1] c2);clear ix1;with_reducible repeat' first|constructor|intro hc
  refine⟨j+1,hjl,om,zN _,?_⟩;exact A8.ck rfl
 .have e:j=ag.length:=om
  subst e;rw[q06];have hz:=Lh ag g;generalize Ij g ag=G at *;refine A9 Oa ?_;with_reducible repeat' first|constructor|intro hc
  refine CM (fun j:Nat=>j<=ov.length) (fun j:Nat=>[(41,.yO j)]) (fun j=>[(0,.c (hC (I4 (N,G) (ov.take j)).1 (.sl 1 (I4 (N,G) (ov.take j)).2.length 3))),(1,.a (Ab (I4 (N,G) (ov.take j)).2))]) (fun j=>ov.length-j) 0 (zi _) (fun _=>rfl) (fun _=>rfl) ?_ ?_
  .exact A8.ck rfl
  intro j hj
  by_cases hjl:j<ov.length
  .obtain⟨x,hx⟩:=Ah hjl;obtain⟨k1,k2⟩:=Sa (s:=(N,G)) hN (ov.take j)
   have e1:Em (I4 (N,G) (ov.take j)).2 (Dz (I4 (N,G) (ov.take j)).1 x)=I4 (N,G) (ov.take (j+1)):=by
    rw[AY hx];unfold I4;rw[q0o];rfl
   generalize I4 (N,G) (ov.take j)=s at *;obtain⟨M,K⟩:=s;dsimp only at *;have c2:=qz M k1.hok x;have c3:=OA M (Dz M x).1 K (Dz M x).2 k1.lost (v6 M x) (by have:=nD M x;omega) om;rw[show((Dz M x).1,(Dz M x).2)=Dz M x from rfl,e1]at c3;generalize Dz M x=t at *;obtain⟨t1,t2⟩:=t;dsimp only at c2 c3;unfold nH at c3;unfold AA.d AA.A4 AG.A4 Calls.A4 B9.A4 at c2 c3;unfold Al.d Al.A4 at c2;have ix1:=hx;refine B6 Oa ?_ (AK @c2) (BJ [0,1] c3);clear ix1;with_reducible repeat' first|constructor|intro hc
   refine⟨j+1,hjl,om,zN _,?_⟩;exact A8.ck rfl
  .have e:j=ov.length:=om
   subst e;rw[q06];refine A9 Oa ?_;with_reducible repeat' first|constructor|intro hc
   exact Bh
end Nd
end Go.Proofs.YtamjpnmjpponpaaGreatDoor
namespace Go.Proofs.YtamjpnmjpponpaaGreatDoor
namespace Bg
open Go.Gar
open Nd (B0)
abbrev OG:BF:=[0,1,4,5,10,14,26]
theorem mixed:Tryz.prog.follows .mixedOrders=true:=by kernel_rfl
abbrev Ab(l:List B0):D:=.sl 3 (l.map Nd.B0.A4)
structure Du where
 grams:List B0
 lost:Int
 deriving DecidableEq
def Du.d(b:Du):D:=.agg [.sl 3 (b.grams.map Nd.B0.A4),.yX b.lost]
def IF:B0:=⟨0,[],false⟩
theorem Dp{α:Type}[BEq α][LawfulBEq α][DecidableEq α](a b:α):(a==b)=decide (a=b):=by
 by_cases h:a=b<;>simp[h]
variable {k:Nat}
theorem Ah{α:Type}{xs:List α}(h:k<xs.length):∃x,xs[k]? =some x:=⟨xs[k],zV h⟩
theorem cu(x y:B0):yS 127 [x.d,y.d] (.b (decide (x=y))):=by
 obtain⟨n1,l1,c1⟩:=x;obtain⟨n2,l2,c2⟩:=y;refine zF AE Tryz.func127 ?_;refine A9 [0,1,2,3,4] ?_;repeat'(apply zB<;>intro hc)
 all_goals(refine⟨_,_,rfl,rfl,?_⟩;simp_all[Cw])
 exact(Dp _ _).symm
theorem Ek(g:B0)(h:g.by_.length<=100000):yS 222 [g.d] g.d:=by
 obtain⟨n,l,c⟩:=g;replace h:l.length<=100000:=h;refine zF AE Tryz.func222 ?_;refine A9 [0,1,2] ?_;exact BW (zh @Nd.B0.d.eq_1 @Nd.B0.A4.eq_1)
theorem Y9(n:Int)(l:AL)(c:Bool)(h:l.length<=100000):yT 222 [.d (Nd.B0.d ⟨n,l,c⟩)] [] (.ag [.yO n,.sl 2 l.length 1,.yP c]) [.gone,.c [.yO n,.sl 2 l.length 1,.yP c],.a (.by l)]:=by
 refine zD AE Tryz.func222 ?_;have ow:Lv [5]:=trivial;refine A9 [0,1,2] ?_;clear ow;exact wE
def Du.Kz(b:Du)(CF:Int):Bool:=decide (CF>=0)&&decide (CF<b.grams.length)
theorem Qe(b:Du)(CF:Int):yS 168 [b.d,.yX CF] (.b (b.Kz CF)):=by
 obtain⟨l,n⟩:=b;refine zF AE Tryz.func168 ?_;refine A9 [0,1,2,4] ?_;repeat'(apply zB<;>intro hc)
 all_goals(refine⟨_,_,rfl,rfl,?_⟩;simp_all[Cw,Du.Kz]<;>omega)
theorem mK(xs ys:List B0)(hl:xs.length<1000000):yS 47 [Ab xs,Ab ys] (.b (decide (xs=ys))):=by
 refine zF AE Tryz.func47 ?_
 by_cases heq:xs.length=ys.length
 .have e1:((xs.length:Int)!=(ys.length:Int))=false:=by rw[bne_eq_false_iff_eq];omega
  refine Aj OG ?_ (AK e1);refine BX (fun k=>k<=xs.length/\xs.take k=ys.take k) (fun k:Nat=>⟨[(0,.d (Ab xs)),(1,.d (Ab ys)),(4,.yP false),(5,.yO k)],[],27⟩) (fun k=>xs.length-k) 0 ⟨zi _,sm⟩ ?_ (zN _) ?_
  .exact A8.ck rfl
  rintro k ⟨hk,hpre⟩
  by_cases hkl:k<xs.length
  .obtain⟨x,hx⟩:=Ah hkl;obtain⟨y,hy⟩:=Ah (xs:=ys) (k:=k) om
   by_cases hxy:x=y
   .have ix1:=hx;have ix2:=hy;refine AJ OG ?_ (AK (zU hxy)) (AK (cu x y));clear ix2 ix1;with_reducible repeat' first|constructor|intro hc
    refine⟨k+1,⟨hkl,by rw[q1S,q1S,hpre,hx,hy,hxy]⟩,om,zN _,?_⟩;exact A8.ck rfl
   .have hne:¬xs=ys:=fun e=>by subst e;rw[hx]at hy;cases hy;exact hxy rfl
    have ix1:=hx;have ix2:=hy;refine AJ OG ?_ (AK (zQ hxy)) (AK (cu x y));clear ix2 ix1;with_reducible repeat' first|constructor|intro hc
    exact BW hne
  .have e:k=xs.length:=om
   subst e;have hE:xs=ys:=by rw[q06,heq,q06]at hpre;exact hpre
   refine A9 OG ?_;with_reducible repeat' first|constructor|intro hc
   exact BW hE
 .have e1:((xs.length:Int)!=(ys.length:Int))=true:=by rw[bne_iff_ne];omega
  have hne:¬xs=ys:=fun e=>heq (by rw[e]);refine Aj OG ?_ (AK e1)
  exact BW hne
theorem Nz(a b:Du)(hl:a.grams.length<1000000):yS 23 [a.d,b.d] (.b (decide (a=b))):=by
 obtain⟨xs,n⟩:=a;obtain⟨ys,m⟩:=b;refine zF AE Tryz.func23 ?_;refine AO [0,1,2,3,4] ?_ (AK (mK xs ys hl));repeat'(apply zB<;>intro hc)
 all_goals(refine⟨_,_,rfl,rfl,?_⟩;simp_all[Cw])
abbrev CV:BF:=[0,1,2,3,4,5,6,7,8,9,18,19,20,27]
abbrev Dr:BF:=[0,1,3,4,6,7,8,9,18]
theorem Ju(l:List B0)(n:Int):yT 162 [.d (Du.d ⟨l,n⟩)] [] (.fn (.func 221) [] [.ptr 0 0 2]) [.c [.d (Ab l),.yO n]]:=by
 refine zD AE Tryz.func162 ?_;refine A9 [0,1,2] ?_;exact wE
theorem l8(cs:yr):yT 175 [.ptr 0 0 3] [.c cs] (.yP false) [.c cs]:=by
 refine zD AE Tryz.func175 ?_;refine A9 [2] ?_;exact⟨_,A8.refl _,zN _,_,_,rfl,rfl,rfl,rfl⟩
theorem oZ(t:Int)(y:AL)(h:Bool):yT 169 [.ptr 0 0 3,.ptr 1 0 3] [.c [.yO t,.d (.by y),.yP h],.c [.yO 0,.e0,.yP false]] (.yP false) [.c [.yO t,.d (.by y),.yP h],.c [.yO t,.d (.by y),.yP h]]:=by
 refine zD AE Tryz.func169 ?_;refine A9 [0,1,3] ?_;exact wE
def tkc(g:B0)(a k:Nat):yr:=if a<k then[.yO g.to,.d (.by g.by_),.yP g.harmed]else[.yO 0,.e0,.yP false]
theorem vZ(g:B0)(a k m:Nat):AV.oks m (tkc g a k)=true:=by
 unfold tkc;split<;>rfl
variable {a:Nat}
theorem oz(g:B0)(h:¬a<k):tkc g a k=[.yO 0,.e0,.yP false]:=zx h
theorem oy(g:B0)(h:a<k):tkc g a k=[.yO g.to,.d (.by g.by_),.yP g.harmed]:=zn h
theorem vY(g:B0)(h:k≠a):tkc g a (k+1)=tkc g a k:=by
 unfold tkc
 by_cases h1:a<k
 .rw[zn h1,zn om]
 .rw[zx h1,zx om]
theorem Vo(l:List B0)(k:Nat){x:B0}(hx:l[k]? =some x):(l.take (k+1)).eraseIdx k=(l.take k).eraseIdx k:=by
 have hk:=(zS.1 hx).1;have hl:(l.take k).length=k:=by rw[q0D];omega
 rw[AY hx,List.eraseIdx_append_of_length_le om,hl,Nat.sub_self];show l.take k++[]=_;rw[q1U,List.eraseIdx_of_length_le om]
theorem Vp(l:List B0)(a k:Nat){x:B0}(hx:l[k]? =some x)(h:k≠a):(l.take (k+1)).eraseIdx a=(l.take k).eraseIdx a++[x]:=by
 have hk:=(zS.1 hx).1;rw[AY hx];rcases q0C a k with hlt|hge
 .rw[List.eraseIdx_append_of_lt_length (by simp;omega)]
 .rw[List.eraseIdx_of_length_le (by simp;omega),List.eraseIdx_of_length_le (by simp;omega)]
theorem bO(l:List B0)(n:Int)  (hl:l.length<=1000)(hs:small l):
  yT 99 [.d (Du.d ⟨l,n⟩),.yO (-1),.fn (.func 100) [] []] [] (.ag [.sl 4 (l).length 3,.yO n]) [.gone,.gone,.gone,.c [.sl 4 (l).length 3,.yO n],.a (Ab (l))]:=by
 refine zD AE Tryz.func99 ?_;refine A9 CV ?_ [] [1];refine Hn T.get 5 7 4 5 ⟨[(0,.d (Du.d ⟨l,n⟩)),(1,.yO (-1)),(2,.fn (.func 100) [] []),(3,.ptr 0 0 2),(4,.ptr 1 0 1),(5,.ptr 2 0 1),(6,.ptr 3 0 2),(7,.ptr 5 0 2)],[.c [.d (Ab l),.yO n],.c [.yO (-1)],.c [.fn (.func 100) [] []],.c [.e0,.yO 0],.a (Ab []),.c [.sl 4 0 3,.yO n]],35⟩ mixed rfl rfl rfl ?_ ?_ ?_
 .refine A9 CV ?_ [(0,5),(1,5),(0,7),(1,7)];exact⟨rfl,.inl rfl⟩
 .refine A9 CV ?_ [(0,5),(1,5),(2,5),(3,5),(0,6),(1,6)];exact⟨rfl,.inr rfl⟩
 refine Ax CV ?_ (BJ [] (Ju l n));refine zG (K:=fun r _ H'=>H'=[.c [.d (Ab l),.yO n],.c [.yO (-1)],.c [.fn (.func 100) [] []],.c [.e0,.yO 0],.a (Ab (l)),.c [.sl 4 (l).length 3,.yO n],.c [.d (Ab l),.yO n],.lp r]) ?_ ?_
 .intro r hr;refine zT AE Tryz.func221 ?_;refine A9 Dr ?_;have hk:=hr.ok (k:=7) rfl;refine BX (fun k=>k<=l.length) (fun k:Nat=>⟨[(0,.yl 7),(1,.ptr 6 0 2),(6,.d (Ab l)),(7,.yO l.length),(8,.yO k)],[.c [.d (Ab l),.yO n],.c [.yO (-1)],.c [.fn (.func 100) [] []],.c [.e0,.yO 0],.a (Ab (l.take (k))),.c [.sl 4 (l.take (k)).length 3,.yO n],.c [.d (Ab l),.yO n],.lp r],20⟩) (fun k=>l.length-k) 0 (zi _) ?_ (zN _) ?_
  .exact(have nC:=trivial;A8.co rfl)
  intro k hkk;have htl:(l.take (k)).length<=1000:=by exact q0L (q1T _ _) om
  by_cases hkl:k<l.length
  .obtain⟨x,hx⟩:=Ah hkl;have hb:=Hc hs hx;have e1:((k:Int)!= -1)=true:=by rw[bne_iff_ne];omega
   have ix1:=hx;refine AO Dr ?_ (AK (Ek x hb));clear ix1;with_reducible repeat' first|constructor|intro hc
   refine Xy (x:=.yP true) (H':=[.c [.d (Ab l),.yO n],.c [.yO (-1)],.c [.fn (.func 100) [] []],.c [.e0,.yO 0],.a (Ab (l.take (k+1))),.c [.sl 4 (l.take (k+1)).length 3,.yO n],.c [.d (Ab l),.yO n],.lp r,.c [.yO x.to,.d (.by x.by_),.yP x.harmed],.c [.yO x.to,.d (.by x.by_),.yP x.harmed]]) (Ar hr rfl rfl rfl ?_) rfl rfl rfl rfl rfl ?_
   .refine A9 CV ?_;refine zR ?_;refine Aj CV ?_ (AK e1);refine⟨_,A8.refl _,Nat.le_succ _,rfl,rfl,?_⟩;simp only[AY hx,Ab,q0f,List.map_cons,List.map_nil,Nd.B0.A4,q04,q08,q02,q0B,q0u,q0t]
   .refine A9 Dr ?_;refine⟨k+1,hkl,om,zN _,?_⟩;exact(have nC:=(AY hx);A8.cn rfl)
  .have e:k=l.length:=om
   subst e;refine A9 Dr ?_;with_reducible repeat' first|constructor|intro hc
   refine⟨_,A8.refl _,zN _,_,_,rfl,rfl,?_⟩;simp only[q06]
 .rintro r hr x H' rfl;refine .inl ⟨rfl,?_⟩;refine A9 CV ?_;exact wE
theorem Yu(l:List B0)(n:Int)(a:Nat)(hl:l.length<=1000)(hs:small l):
  yT 99 [.d (Du.d ⟨l,n⟩),.yO a,.fn (.func 175) [] []] [] (.ag [.sl 4 (l.eraseIdx a).length 3,.yO n]) [.gone,.gone,.gone,.c [.sl 4 (l.eraseIdx a).length 3,.yO n],.a (Ab (l.eraseIdx a))]:=by
 refine zD AE Tryz.func99 ?_;refine A9 CV ?_ [] [1];refine Hn T.get 5 7 4 5 ⟨[(0,.d (Du.d ⟨l,n⟩)),(1,.yO a),(2,.fn (.func 175) [] []),(3,.ptr 0 0 2),(4,.ptr 1 0 1),(5,.ptr 2 0 1),(6,.ptr 3 0 2),(7,.ptr 5 0 2)],[.c [.d (Ab l),.yO n],.c [.yO a],.c [.fn (.func 175) [] []],.c [.e0,.yO 0],.a (Ab []),.c [.sl 4 0 3,.yO n]],35⟩ mixed rfl rfl rfl ?_ ?_ ?_
 .refine A9 CV ?_ [(0,5),(1,5),(0,7),(1,7)];exact⟨rfl,.inl rfl⟩
 .refine A9 CV ?_ [(0,5),(1,5),(2,5),(3,5),(0,6),(1,6)];exact⟨rfl,.inr rfl⟩
 refine Ax CV ?_ (BJ [] (Ju l n));refine zG (K:=fun r _ H'=>H'=[.c [.d (Ab l),.yO n],.c [.yO a],.c [.fn (.func 175) [] []],.c [.e0,.yO 0],.a (Ab (l.eraseIdx a)),.c [.sl 4 (l.eraseIdx a).length 3,.yO n],.c [.d (Ab l),.yO n],.lp r]) ?_ ?_
 .intro r hr;refine zT AE Tryz.func221 ?_;refine A9 Dr ?_;have hk:=hr.ok (k:=7) rfl;refine BX (fun k=>k<=l.length) (fun k:Nat=>⟨[(0,.yl 7),(1,.ptr 6 0 2),(6,.d (Ab l)),(7,.yO l.length),(8,.yO k)],[.c [.d (Ab l),.yO n],.c [.yO a],.c [.fn (.func 175) [] []],.c [.e0,.yO 0],.a (Ab ((l.take (k)).eraseIdx a)),.c [.sl 4 ((l.take (k)).eraseIdx a).length 3,.yO n],.c [.d (Ab l),.yO n],.lp r],20⟩) (fun k=>l.length-k) 0 (zi _) ?_ (zN _) ?_
  .exact(have nC:=trivial;A8.co rfl)
  intro k hkk;have htl:((l.take (k)).eraseIdx a).length<=1000:=by exact q0L (List.length_eraseIdx_le ..) (q0L (q1T _ _) om)
  by_cases hkl:k<l.length
  .obtain⟨x,hx⟩:=Ah hkl;have hb:=Hc hs hx
   by_cases hka:k=a
   .subst hka;have e1:((k:Int)!=(k:Int))=false:=bne_self_eq_false' _;have ix1:=hx;refine AO Dr ?_ (AK (Ek x hb));clear ix1;with_reducible repeat' first|constructor|intro hc
    refine Xy (x:=.yP true) (H':=[.c [.d (Ab l),.yO n],.c [.yO k],.c [.fn (.func 175) [] []],.c [.e0,.yO 0],.a (Ab ((l.take (k+1)).eraseIdx k)),.c [.sl 4 ((l.take (k+1)).eraseIdx k).length 3,.yO n],.c [.d (Ab l),.yO n],.lp r,.c [.yO x.to,.d (.by x.by_),.yP x.harmed],.c [.yO x.to,.d (.by x.by_),.yP x.harmed]]) (Ar hr rfl rfl rfl ?_) rfl rfl rfl rfl rfl ?_
    .refine A9 CV ?_;refine zR ?_;refine Cd CV ?_ (AK e1) (BJ [9] (l8 [.yO x.to,.d (.by x.by_),.yP x.harmed]));refine⟨_,A8.refl _,Nat.le_succ _,rfl,rfl,?_⟩;simp only[Vo l k hx,Ab,q0f,List.map_cons,List.map_nil,Nd.B0.A4,q04,q08,q02,q0B,q0u,q0t]
    .refine A9 Dr ?_;refine⟨k+1,hkl,om,zN _,?_⟩;exact(have nC:=(Vo l k hx);A8.cn rfl)
   .have e1:((k:Int)!=(a:Int))=true:=by rw[bne_iff_ne];omega
    have ix1:=hx;refine AO Dr ?_ (AK (Ek x hb));clear ix1;with_reducible repeat' first|constructor|intro hc
    refine Xy (x:=.yP true) (H':=[.c [.d (Ab l),.yO n],.c [.yO a],.c [.fn (.func 175) [] []],.c [.e0,.yO 0],.a (Ab ((l.take (k+1)).eraseIdx a)),.c [.sl 4 ((l.take (k+1)).eraseIdx a).length 3,.yO n],.c [.d (Ab l),.yO n],.lp r,.c [.yO x.to,.d (.by x.by_),.yP x.harmed],.c [.yO x.to,.d (.by x.by_),.yP x.harmed]]) (Ar hr rfl rfl rfl ?_) rfl rfl rfl rfl rfl ?_
    .refine A9 CV ?_;refine zR ?_;refine Aj CV ?_ (AK e1);refine⟨_,A8.refl _,Nat.le_succ _,rfl,rfl,?_⟩;simp only[Vp l a k hx hka,Ab,q0f,List.map_cons,List.map_nil,Nd.B0.A4,q04,q08,q02,q0B,q0u,q0t]
    .refine A9 Dr ?_;refine⟨k+1,hkl,om,zN _,?_⟩;exact(have nC:=(Vp l a k hx hka);A8.cn rfl)
  .have e:k=l.length:=om
   subst e;refine A9 Dr ?_;with_reducible repeat' first|constructor|intro hc
   refine⟨_,A8.refl _,zN _,_,_,rfl,rfl,?_⟩;simp only[q06]
 .rintro r hr x H' rfl;refine .inl ⟨rfl,?_⟩;refine A9 CV ?_;exact wE
theorem Yx(l:List B0)(n:Int)(a:Nat)(g:B0)(hg:l[a]? =some g)(hl:l.length<=1000)(hs:small l):
  yT 99 [.d (Du.d ⟨l,n⟩),.yO a,.fn (.func 169) [] [.ptr 0 0 3]] [.c [.yO 0,.e0,.yP false]] (.ag [.sl 5 (l.eraseIdx a).length 3,.yO n]) [.c [.yO g.to,.d (.by g.by_),.yP g.harmed],.gone,.gone,.gone,.c [.sl 5 (l.eraseIdx a).length 3,.yO n],.a (Ab (l.eraseIdx a))]:=by
 refine zD AE Tryz.func99 ?_;refine A9 CV ?_ [] [1];refine Hn T.get 5 7 5 6 ⟨[(0,.d (Du.d ⟨l,n⟩)),(1,.yO a),(2,.fn (.func 169) [] [.ptr 0 0 3]),(3,.ptr 1 0 2),(4,.ptr 2 0 1),(5,.ptr 3 0 1),(6,.ptr 4 0 2),(7,.ptr 6 0 2)],[.c [.yO 0,.e0,.yP false],.c [.d (Ab l),.yO n],.c [.yO a],.c [.fn (.func 169) [] [.ptr 0 0 3]],.c [.e0,.yO 0],.a (Ab []),.c [.sl 5 0 3,.yO n]],35⟩ mixed rfl rfl rfl ?_ ?_ ?_
 .refine A9 CV ?_ [(0,5),(1,5),(0,7),(1,7)];exact⟨rfl,.inl rfl⟩
 .refine A9 CV ?_ [(0,5),(1,5),(2,5),(3,5),(0,6),(1,6)];exact⟨rfl,.inr rfl⟩
 refine Ax CV ?_ (BJ [] (Ju l n));refine zG (K:=fun r _ H'=>H'=[.c [.yO g.to,.d (.by g.by_),.yP g.harmed],.c [.d (Ab l),.yO n],.c [.yO a],.c [.fn (.func 169) [] [.ptr 0 0 3]],.c [.e0,.yO 0],.a (Ab (l.eraseIdx a)),.c [.sl 5 (l.eraseIdx a).length 3,.yO n],.c [.d (Ab l),.yO n],.lp r]) ?_ ?_
 .intro r hr;refine zT AE Tryz.func221 ?_;refine A9 Dr ?_;have hk:=zh (hr.ok (k:=8) rfl) (fun m k=>vZ g a k m);refine BX (fun k=>k<=l.length) (fun k:Nat=>⟨[(0,.yl 8),(1,.ptr 7 0 2),(6,.d (Ab l)),(7,.yO l.length),(8,.yO k)],[.c (tkc g a (k)),.c [.d (Ab l),.yO n],.c [.yO a],.c [.fn (.func 169) [] [.ptr 0 0 3]],.c [.e0,.yO 0],.a (Ab ((l.take (k)).eraseIdx a)),.c [.sl 5 ((l.take (k)).eraseIdx a).length 3,.yO n],.c [.d (Ab l),.yO n],.lp r],20⟩) (fun k=>l.length-k) 0 (zi _) ?_ (zN _) ?_
  .exact(have nC:=(oz g (Nat.not_lt_zero a));A8.co rfl)
  intro k hkk;have htl:((l.take (k)).eraseIdx a).length<=1000:=by exact q0L (List.length_eraseIdx_le ..) (q0L (q1T _ _) om)
  by_cases hkl:k<l.length
  .obtain⟨x,hx⟩:=Ah hkl;have hb:=Hc hs hx
   by_cases hka:k=a
   .subst hka;rw[hg]at hx;cases hx;have e1:((k:Int)!=(k:Int))=false:=bne_self_eq_false' _;rw[oz g (Nat.lt_irrefl k)];have ix1:=hg;refine AO Dr ?_ (AK (Ek g hb));clear ix1;with_reducible repeat' first|constructor|intro hc
    refine Xy (x:=.yP true) (H':=[.c [.yO g.to,.d (.by g.by_),.yP g.harmed],.c [.d (Ab l),.yO n],.c [.yO k],.c [.fn (.func 169) [] [.ptr 0 0 3]],.c [.e0,.yO 0],.a (Ab ((l.take (k+1)).eraseIdx k)),.c [.sl 5 ((l.take (k+1)).eraseIdx k).length 3,.yO n],.c [.d (Ab l),.yO n],.lp r,.c [.yO g.to,.d (.by g.by_),.yP g.harmed],.c [.yO g.to,.d (.by g.by_),.yP g.harmed]]) (Ar hr rfl rfl rfl ?_) rfl rfl rfl rfl rfl ?_
    .refine A9 CV ?_;refine zR ?_;refine Cd CV ?_ (AK e1) (BJ [10,0] (oZ g.to g.by_ g.harmed));refine⟨_,A8.refl _,Nat.le_succ _,rfl,rfl,?_⟩;simp only[Vo l k hg,Ab,q0f,List.map_cons,List.map_nil,Nd.B0.A4,q04,q08,q02,q0B,q0u,q0t]
    .refine A9 Dr ?_;refine⟨k+1,hkl,om,zN _,?_⟩;exact(have nC:=zh (Vo l k hg) (oy g (Nat.lt_succ_self k));A8.cn rfl)
   .have e1:((k:Int)!=(a:Int))=true:=by rw[bne_iff_ne];omega
    have ix1:=hx;refine AO Dr ?_ (AK (Ek x hb));clear ix1;with_reducible repeat' first|constructor|intro hc
    refine Xy (x:=.yP true) (H':=[.c (tkc g a k),.c [.d (Ab l),.yO n],.c [.yO a],.c [.fn (.func 169) [] [.ptr 0 0 3]],.c [.e0,.yO 0],.a (Ab ((l.take (k+1)).eraseIdx a)),.c [.sl 5 ((l.take (k+1)).eraseIdx a).length 3,.yO n],.c [.d (Ab l),.yO n],.lp r,.c [.yO x.to,.d (.by x.by_),.yP x.harmed],.c [.yO x.to,.d (.by x.by_),.yP x.harmed]]) (Ar hr rfl rfl rfl ?_) rfl rfl rfl rfl rfl ?_
    .refine A9 CV ?_;refine zR ?_;refine Aj CV ?_ (AK e1);refine⟨_,A8.refl _,Nat.le_succ _,rfl,rfl,?_⟩;simp only[Vp l a k hx hka,Ab,q0f,List.map_cons,List.map_nil,Nd.B0.A4,q04,q08,q02,q0B,q0u,q0t]
    .refine A9 Dr ?_;refine⟨k+1,hkl,om,zN _,?_⟩;exact(have nC:=zh (Vp l a k hx hka) (vY g hka);A8.cn rfl)
  .have e:k=l.length:=om
   subst e;refine A9 Dr ?_;with_reducible repeat' first|constructor|intro hc
   refine⟨_,A8.refl _,zN _,_,_,rfl,rfl,?_⟩;simp only[q06,oy g (zS.1 hg).1]
 .rintro r hr x H' rfl;refine .inl ⟨rfl,?_⟩;refine A9 CV ?_;exact wE
abbrev Gf:BF:=[0,1,2,3,4,5,6,7,8,9,18,19,20,27]
abbrev Lk:BF:=[0,1,3,4,6,7,8,9,18]
def pI(u:UInt8)(m:Int):Int:=DK .xor .u8 (u.toNat:Int) m
theorem sd(u:UInt8)(m:Int):0<=pI u m/\pI u m<256:=by
 unfold pI DK;simp only[Xg];omega
def Nj(y:AL)(i:Nat)(m:Int):AL:=y.set i (UInt8.ofNat (pI (y.getD i 0) m).toNat)
theorem mO(t:Int)(y:AL)(h:Bool)(i:Nat)(m:Int)(hi:i<y.length)(hl:y.length<=100000):yT 176 [.ptr 0 0 3,.ptr 1 0 1,.ptr 2 0 1] [.c [.yO t,.sl 3 y.length 1,.yP h],.c [.yO i],.c [.yQ m],.a (.by y)] (.yP true)
  [.c [.yO t,.sl 3 y.length 1,.yP true],.c [.yO i],.c [.yQ m],.a (.by (Nj y i m))]:=by
 have hx:=sd (y.getD i 0) m;unfold pI at hx;refine zD AE Tryz.func176 ?_
 have e1:(slc (D.by y)).getD (i*1) D.np=D.i .u8 ((y.getD i 0).toNat:Int):=by
  rw[Nat.mul_one];simp only[slc,zo,q0G,zV hi,Option.map_some,q1e]
 have sb:No 2:=trivial;refine Aj [0,1,2,4] ?_ (AK e1);clear sb;exact wE
def I1(g:B0)(i:Nat)(m:Int):B0:=⟨g.to,Nj g.by_ i m,true⟩
theorem U9(y:AL)(i:Nat)(m:Int):(Nj y i m).length=y.length:=by simp[Nj]
theorem Yv(l:List B0)(n:Int)(a:Nat)(g:B0)(hg:l[a]? =some g)(i:Nat)(m:Int)(hi:i<g.by_.length)(hl:l.length<=1000)(hs:small l):
  yT 99 [.d (Du.d ⟨l,n⟩),.yO a,.fn (.func 176) [] [.ptr 0 0 1,.ptr 1 0 1]] [.c [.yO i],.c [.yQ m]] (.ag [.sl 6 (l.set a (I1 g i m)).length 3,.yO n]) [.c [.yO i],.c [.yQ m],.gone,.gone,.gone,.c [.sl 6 (l.set a (I1 g i m)).length 3,.yO n],.a (Ab (l.set a (I1 g i m)))]:=by
 refine zD AE Tryz.func99 ?_;refine A9 Gf ?_ [] [1];refine Hn T.get 5 7 6 7 ⟨[(0,.d (Du.d ⟨l,n⟩)),(1,.yO a),(2,.fn (.func 176) [] [.ptr 0 0 1,.ptr 1 0 1]),(3,.ptr 2 0 2),(4,.ptr 3 0 1),(5,.ptr 4 0 1),(6,.ptr 5 0 2),(7,.ptr 7 0 2)],[.c [.yO i],.c [.yQ m],.c [.d (Ab l),.yO n],.c [.yO a],.c [.fn (.func 176) [] [.ptr 0 0 1,.ptr 1 0 1]],.c [.e0,.yO 0],.a (Ab []),.c [.sl 6 0 3,.yO n]],35⟩ mixed rfl rfl rfl ?_ ?_ ?_
 .refine A9 Gf ?_ [(0,5),(1,5),(0,7),(1,7)];exact⟨rfl,.inl rfl⟩
 .refine A9 Gf ?_ [(0,5),(1,5),(2,5),(3,5),(0,6),(1,6)];exact⟨rfl,.inr rfl⟩
 refine Ax Gf ?_ (BJ [] (Ju l n));refine zG (K:=fun r _ H'=>H'=[.c [.yO i],.c [.yQ m],.c [.d (Ab l),.yO n],.c [.yO a],.c [.fn (.func 176) [] [.ptr 0 0 1,.ptr 1 0 1]],.c [.e0,.yO 0],.a (Ab (l.set a (I1 g i m))),.c [.sl 6 (l.set a (I1 g i m)).length 3,.yO n],.c [.d (Ab l),.yO n],.lp r]) ?_ ?_
 .intro r hr;refine zT AE Tryz.func221 ?_;refine A9 Lk ?_;have hk:=hr.ok (k:=9) rfl;refine BX (fun k=>k<=l.length) (fun k:Nat=>⟨[(0,.yl 9),(1,.ptr 8 0 2),(6,.d (Ab l)),(7,.yO l.length),(8,.yO k)],[.c [.yO i],.c [.yQ m],.c [.d (Ab l),.yO n],.c [.yO a],.c [.fn (.func 176) [] [.ptr 0 0 1,.ptr 1 0 1]],.c [.e0,.yO 0],.a (Ab ((l.set a (I1 g i m)).take (k))),.c [.sl 6 ((l.set a (I1 g i m)).take (k)).length 3,.yO n],.c [.d (Ab l),.yO n],.lp r],20⟩) (fun k=>l.length-k) 0 (zi _) ?_ (zN _) ?_
  .exact(have nC:=trivial;A8.co rfl)
  intro k hkk;have htl:((l.set a (I1 g i m)).take (k)).length<=1000:=by exact q0L (q1T _ _) om
  by_cases hkl:k<l.length
  .obtain⟨x,hx⟩:=Ah hkl;have hb:=Hc hs hx
   by_cases hka:k=a
   .subst hka;rw[hg]at hx;cases hx;have hx:(l.set k (I1 g i m))[k]? =some ⟨g.to,Nj g.by_ i m,true⟩:=by rw[q0H hkl];rfl
    have e1:((k:Int)!=(k:Int))=false:=bne_self_eq_false' _;have ix1:=hg;refine Ax Lk ?_ (BJ [] (Y9 g.to g.by_ g.harmed hb));clear ix1;with_reducible repeat' first|constructor|intro hc
    refine Xy (x:=.yP true) (H':=[.c [.yO i],.c [.yQ m],.c [.d (Ab l),.yO n],.c [.yO k],.c [.fn (.func 176) [] [.ptr 0 0 1,.ptr 1 0 1]],.c [.e0,.yO 0],.a (Ab ((l.set k (I1 g i m)).take (k+1))),.c [.sl 6 ((l.set k (I1 g i m)).take (k+1)).length 3,.yO n],.c [.d (Ab l),.yO n],.lp r,.c [.yO g.to,.d (.by g.by_),.yP g.harmed],.gone,.c [.yO g.to,.d (.by (Nj g.by_ i m)),.yP g.harmed],.gone,.c [.yO g.to,.d (.by (Nj g.by_ i m)),.yP true]]) (Ar hr rfl rfl rfl ?_) rfl rfl rfl rfl rfl ?_
    .refine A9 Gf ?_;refine zR ?_;refine Cd Gf ?_ (AK e1) (BJ [14,0,1,13] (mO g.to g.by_ g.harmed i m hi hb)) [] [6];refine BG (A8.freeze 13 (x:=.by (Nj g.by_ i m)) rfl) (by rw[Fs];exact zN _) ?_;simp only[S8,F8,AM.G8,AV.G8,AV.IM,PM,Nat.reduceEqDiff,Nat.reduceAdd,decide_true,decide_false,BP,U9,q0X,q0U,reduceCtorEq];refine Aj Gf ?_ (AK e1);refine⟨_,A8.refl _,Nat.le_succ _,rfl,rfl,?_⟩;simp only[AY hx,Ab,q0f,List.map_cons,List.map_nil,Nd.B0.A4,q04,q08,q02,q0B,q0u,q0t]
    .refine A9 Lk ?_;refine⟨k+1,hkl,om,zN _,?_⟩;exact(have nC:=(AY hx);A8.cn rfl)
   .have e1:((k:Int)!=(a:Int))=true:=by rw[bne_iff_ne];omega
    have hx2:(l.set a (I1 g i m))[k]? =some x:=by rw[q0I (Ne.symm hka)];exact hx
    have ix1:=hx;refine AO Lk ?_ (AK (Ek x hb));clear ix1;with_reducible repeat' first|constructor|intro hc
    refine Xy (x:=.yP true) (H':=[.c [.yO i],.c [.yQ m],.c [.d (Ab l),.yO n],.c [.yO a],.c [.fn (.func 176) [] [.ptr 0 0 1,.ptr 1 0 1]],.c [.e0,.yO 0],.a (Ab ((l.set a (I1 g i m)).take (k+1))),.c [.sl 6 ((l.set a (I1 g i m)).take (k+1)).length 3,.yO n],.c [.d (Ab l),.yO n],.lp r,.c [.yO x.to,.d (.by x.by_),.yP x.harmed],.c [.yO x.to,.d (.by x.by_),.yP x.harmed]]) (Ar hr rfl rfl rfl ?_) rfl rfl rfl rfl rfl ?_
    .refine A9 Gf ?_;refine zR ?_;refine Aj Gf ?_ (AK e1);refine⟨_,A8.refl _,Nat.le_succ _,rfl,rfl,?_⟩;simp only[AY hx2,Ab,q0f,List.map_cons,List.map_nil,Nd.B0.A4,q04,q08,q02,q0B,q0u,q0t]
    .refine A9 Lk ?_;refine⟨k+1,hkl,om,zN _,?_⟩;exact(have nC:=(AY hx2);A8.cn rfl)
  .have e:k=l.length:=om
   subst e;refine A9 Lk ?_;with_reducible repeat' first|constructor|intro hc
   refine⟨_,A8.refl _,zN _,_,_,rfl,rfl,?_⟩;simp only[q1V (Nat.le_of_eq (List.length_set ..))]
 .rintro r hr x H' rfl;refine .inl ⟨rfl,?_⟩;refine A9 Gf ?_;exact wE
end Bg
end Go.Proofs.YtamjpnmjpponpaaGreatDoor
namespace Go.Proofs.YtamjpnmjpponpaaGreatDoor
namespace Nd
open Go.Gar
open Wi (AF BV B7 AU Bp mC Cp Bc)
theorem XB{α:Type}(p:α->Bool):∀l:List α,(l.findIdx? p=none/\l.find? p=none)\/∃k x,l.findIdx? p=some k/\l[k]? =some x/\l.find? p=some x
 |[]=> .inl ⟨rfl,rfl⟩
 |a::r=>by
  cases h:p a with
  |true=>exact .inr ⟨0,a,by rw[List.findIdx?_cons,h];rfl,rfl,by rw[q1k,h]⟩
  |false=>
   rcases XB p r with⟨h1,h2⟩|⟨k,x,h1,h2,h3⟩
   .exact .inl ⟨by rw[List.findIdx?_cons,h,h1];rfl,by rw[q1k,h];exact h2⟩
   .exact .inr ⟨k+1,x,by rw[List.findIdx?_cons,h,h1];rfl,by simpa using h2,by rw[q1k,h];exact h3⟩
theorem YZ(l:List Past)(s c:Int):(MH l s c= -1/\Cr l s c=(AU,false))\/∃(k:Nat)(x:Past),MH l s c=k/\l[k]? =some x/\Cr l s c=(x.AD,true):=by
 have e:LX s c=fun p=>decide (p.B8=s)&&decide (p.Ae=c):=rfl;rcases XB (LX s c) l with⟨h1,h2⟩|⟨k,x,h1,h2,h3⟩
 .refine .inl ⟨by unfold MH;rw[h1],?_⟩;rw[e]at h2;unfold Cr;rw[h2]
 .refine .inr ⟨k,x,by unfold MH;rw[h1],h2,?_⟩;rw[e]at h3;unfold Cr;rw[h3]
theorem I8(l:List Past)(s c:Int)(hl:∀x∈l,Ay x.AD)(hn:l.length<=1048576):yS 242 [Az l,.yX s,.yX c] (.tup [(Cr l s c).1.d,.b (Cr l s c).2]):=by
 have c1:=p7 s c;have c2:=Rz l s c om;rcases YZ l s c with⟨h1,h2⟩|⟨k,x,h1,h2,h3⟩
 .rw[h1]at c2;rw[h2];refine zF AE Tryz.func242 ?_;refine Ax [0,1,2,6,7,8,15] ?_ (H0 [] c1 [1,2] c2);exact BW (zh @Wi.AF.d.eq_1 (zh @Wi.AF.A4.eq_1 (zh @AU.eq_1 @An.eq_1)))
 .rw[h1]at c2;rw[h3];have c3:=EG x.AD (hl x (q00 h2));have f1:decide ((k:Int)<0)=false:=zQ om;refine zF AE Tryz.func242 ?_;unfold Wi.AF.d Wi.AF.A4 at *;have ix1:=h2;refine By [0,1,2,6,7,8,15] ?_ (AK f1) (AK @c3) (H0 [] c1 [1,2] c2);clear ix1;exact zE
theorem vU(m:AF)(hm:Ay m):yS 304 [m.d] (.tup [(if m.right&& !m.BY then Past.d ⟨m.dst,m.Ae,m⟩else Q9.d),.yX (if m.right&& !m.BY then 0 else 2)]):=by
 have c1:=Wi.Ct m (lm hm);have c2:=Wi.Gs m;have c3:=EG m hm;refine zF AE Tryz.func304 ?_;unfold Wi.AF.d Wi.AF.A4 Past.d Past.A4 at*
 cases hr:m.right with
 |false=>
  rw[hr]at c1;refine AO [0,1,2,3,10] ?_ (AK @c1);exact BW (zh @AU.eq_1 @An.eq_1)
 |true=>
 rw[hr]at c1
 cases ha:m.BY with
 |true=>
  rw[ha]at c2;refine AO [0,1,2,3,10] ?_ (Au @c1 @c2);exact BW (zh @AU.eq_1 @An.eq_1)
 |false=>
  rw[ha]at c2;refine AO [0,1,2,3,10] ?_ (CP @c1 @c2 @c3);exact zE
abbrev OZ:BF:=[0,1,4,5,7,8,9,12,13,14,15,34,41]
theorem Aw.own{P:Program}{f:FuncId}{args args':yr}{H:z6}{r x:D}(h:Aw P f args H (.d r) H)(hr:flat r=true)(hH:∀blk∈H,∃cs:yp,blk= .c (cs.map .d)/\∀d∈cs,flat d=true)
  (ha:AV.IM H.length x args'=args) (hf:F8 H.length x 0 (H++[.a x])=H++[.gone]) (ho:Bj H.length H=true) (hk:AV.oks H.length args=true):Aw P f args' (H++[.a x]) (.d r) (H++[.a x]):=by
 have hF:=LN.frame (L:=[.gone]) h ho hk (fun r' H' e=>by rw[e.2]);refine⟨h.1,fun G w vs hG hR hv=> ?_⟩;have hid:G.H[H.length]? =some (.a x):=by rw[hG];simp
 have h1:=(Jr hR hid).1;have hv2:=Bf.G8 hR hid hv;rw[ha]at hv2;refine(hF.2 (G.freeze w H.length x) w vs (by rw[<-hf,<-hG];rfl) h1 hv2).mono ?_;rintro e w' ⟨v,q,G',rfl,⟨H',⟨rfl,hH'⟩,hG'⟩,hq,hR',hfr⟩;rw[hH']at hG';have hmle:∀b k v,G.m b k=some v->G'.m b k=some v:=fun b k v hm=>hfr.gle.mem b k v ((Dl hR hid).mem b k v hm)
 have hno:∀b,Own (G.freeze w H.length x) b->Own G b:=fun b hb=>(K7 hR hid hb).1;have hnx:∀b N,G.ρ H.length=some (b,N)->¬Own (G.freeze w H.length x) b:=fun b N hb ho=>(K7 hR hid ho).2 N hb
 refine⟨v,.d r,G,rfl,⟨rfl,hG⟩,by simp only[RV]at hq|-;exact VE hr hq,⟨fun id blk hb=> ?_,hR.inj,fun b k v hm=>hR'.mem b k v (hmle b k v hm),hR.sep,hR.st,hR.mny⟩,⟨hfr.os,hfr.tape,hfr.output,hfr.size,fun b hb ho=>⟨(hfr.keep b hb (fun hq=>ho (hno b hq))).1,ho⟩,fun _ _ _ hm=> .inl hm,IJ.refl G⟩⟩;have hb0:=hb;rw[hG,List.getElem?_append]at hb;split at hb
 .rename_i hlt;obtain⟨cs,rfl,hc⟩:=hH blk (q00 hb);have hb':G'.H[id]? =some (.c (cs.map .d)):=by rw[hG',zy hlt];exact hb
  have hbf:(G.freeze w H.length x).H[id]? =some (.c (cs.map .d)):=by
   show(F8 H.length x 0 G.H)[id]? =_;rw[hG,hf,zy hlt];exact hb
  obtain⟨b',hb'',hs⟩:=hfr.gle.blk id _ hbf;rw[hb']at hb'';cases hb'';obtain⟨b,N,vs',T,k1,k2,k3,k4,k5⟩:=hR'.blk id _ hb';simp only[Av]at hs;refine⟨b,N,vs',T,(hs.2.symm.trans k1:G.ρ id=some (b,N)),k2,k3,k4,fun k y hy=> ?_⟩;obtain⟨u,hu,hru⟩:=k5 k y hy;rw[q0G,q0F]at hy;obtain⟨d,hd,rfl⟩:=hy;refine⟨u,hu,?_⟩;simp only[RV]at hru|-;exact VE (hc d (q00 hd)) hru
 .rename_i hge
  have hi:id=H.length:=by
   have:=(zS.1 hb).1;simp only[q02,q0B]at this;omega
  subst hi;have hB:=hR.blk H.length blk hb0;refine hB.P4 (IJ.refl G) (fun b N hl hρ=> ?_) rfl (fun rs e=>by subst e;rw[hid]at hb0;cases hb0);have hlt:=Bt hR (.inl ⟨H.length,N,blk,hb0,hl,hρ⟩);exact(hfr.keep b hlt (hnx b N hρ)).1
theorem Lg(l:List Past)(m:AF)(hl:∀x∈l,Ay x.AD)(hn:l.length<=40)(hm:Ay m):yS 244 [Az l,.sl 15 [m.A4]] (Az (EB l m)):=by
 have c1:=Q5 l hl om;have c2:=vU m hm;have c3:=p7 m.dst m.Ae
 have c4:yT 154 [.sl 2 l.length 17,.fn (.func 209) [] [.ptr 0 0 1,.ptr 1 0 1]] ([.c [.yO m.dst],.c [.yO m.Ae]]++[.a (Az l)]) (.yO (MH l m.dst m.Ae)) ([.c [.yO m.dst],.c [.yO m.Ae]]++[.a (Az l)]):=
  Aw.own (Rz l m.dst m.Ae om) rfl (fun blk hb=>by
   simp only[q0O,List.not_mem_nil,or_false]at hb;rcases hb with rfl|rfl
   .exact⟨[.yX m.dst],rfl,by simp[flat]⟩
   .exact⟨[.yX m.Ae],rfl,by simp[flat]⟩) (by simp[AV.IM,AV.G8,BP]) rfl rfl rfl
 simp only[zY,zZ]at c4
 cases ho:m.right&& !m.BY with
 |false=>
  have hT:EB l m=l:=by unfold EB;rw[ho];rfl
  rw[ho]at c2;simp only[q0E,q0U]at c2;rw[hT];refine zF AE Tryz.func244 ?_;unfold Wi.AF.d Past.d Q9 Past.A4 at c2;unfold Wi.AF.A4 at *;have un:No 2:=trivial;refine B6 OZ ?_ (AK @c2) (BJ [] c1);clear un;exact zE
 |true=>
 rw[ho]at c2;simp only[q0X]at c2;rcases YZ l m.dst m.Ae with⟨h1,h2⟩|⟨k,x,h1,h2,h3⟩
 .rw[h1]at c4;have hT:EB l m=(l++[(⟨m.dst,m.Ae,m⟩:Past)]).drop ((l.length+1)-40):=by unfold EB;rw[ho,h2];rfl
  rw[hT];refine zF AE Tryz.func244 ?_;unfold Wi.AF.d Past.d Past.A4 at c2;unfold Wi.AF.A4 at *;have fL:∀a b:List (yp),(a++b).length=a.length+b.length:=fun _ _=>q04
  by_cases h40:l.length=40
  .have f1:decide ((l.length:Int)+1>40)=true:=zU om;have f3:decide (((l.length+1:Nat):Int)>40)=true:=zU om;have f2:decide ((l.length:Int)>40)=false:=zQ om;rw[show l.length+1-40=1 by omega];have un:No 2:=trivial;have ow:Lv [37]:=trivial;refine By OZ ?_ (ME fL f1 f2 f3) (AK @c2) (WA [] c1 [] c3 [5,6,2] c4) [] [9];clear ow un;refine BG (A8.qt 5 2 rfl rfl (by simp[BP])) (by simp[F8]) ?_;have fD:∀(a:List (yp))(n:Nat),(a.drop n).length=a.length-n:=fun _ _=>q1H
   have f4:decide (((l.length+1-1:Nat):Int)>40)=false:=zQ om;have un:No 2:=trivial;refine Aj OZ ?_ (ME fL f2 fD f4);clear un;refine⟨_,_,rfl,rfl,?_⟩;simp[LL,BP,Bl,BM,Az,q0f,List.map_cons,List.map_nil,Past.A4]
  .have f1:decide ((l.length:Int)+1>40)=false:=zQ om;have f3:decide (((l.length+1:Nat):Int)>40)=false:=zQ om;rw[show l.length+1-40=0 by omega,List.drop_zero];have un:No 2:=trivial;have ow:Lv [37]:=trivial;refine By OZ ?_ (CP fL f1 f3) (AK @c2) (WA [] c1 [] c3 [5,6,2] c4);clear ow un;refine⟨_,_,rfl,rfl,?_⟩;simp[LL,BP,Bl,BM,Az,q0f,List.map_cons,List.map_nil,Past.A4]
 .rw[h1]at c4;have f1:decide ((k:Int)>=0)=true:=zU om;have hT:EB l m=l:=by unfold EB;rw[ho,h3];rfl
  rw[hT];refine zF AE Tryz.func244 ?_;unfold Wi.AF.d Past.d Past.A4 at c2;unfold Wi.AF.A4 at *;have un:No 2:=trivial;refine By OZ ?_ (AK f1) (AK @c2) (WA [] c1 [] c3 [5,6,2] c4);clear un;exact zE
end Nd
end Go.Proofs.YtamjpnmjpponpaaGreatDoor
