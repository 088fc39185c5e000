/- Part 43 of a proof. Conditions: those that its theorems state. -/
import Derived.Test.YtamjpnmjpponpaaGreatDoorC42
set_option linter.unusedSimpArgs false
set_option linter.unusedVariables false
set_option maxHeartbeats 40000000
set_option maxRecDepth 4000
namespace Go.Proofs.YtamjpnmjpponpaaGreatDoor
namespace Nd
open Go.Gar
open Wi (AF BV B7)
abbrev He:BF:=[0,2,3,4,5,7,11,44,56]
theorem oC(l:List Past)(hl:∀x∈l,Ay x.AD)(hn:l.length<=9223372036854775807):yS 55 [Az l] (.b (FX l)):=by
 refine zF AE Tryz.func55 ?_;have hT:FX l=(decide (l.length<=40)&&FK l.length (FC l)):=rfl;refine A9 He ?_;refine C4 (fun k=>k<=l.length/\FK k (FC l)=true) (fun k:Nat=>[(3,.yO k)]) (fun k=>l.length-k) 0 ⟨zi _,rfl⟩ (fun _=>rfl) ?_ ?_
 .exact A8.ck rfl
 rintro k ⟨hk,hpre⟩
 by_cases hkl:k<l.length
 .obtain⟨x,hx⟩:=Ah hkl;have gx:l.getD k Q9=x:=getD_at hx;have hlx:=hl x (q00 hx);have hK:FC l k=(Mp x&& !((l.take k).any (LX x.B8 x.Ae))):=by unfold FC;rw[gx]
  have c1:=vS x.AD hlx;have hO:Mp x=(x.AD.right&&(!x.AD.BY&&(decide (x.AD.dst=x.B8)&&decide (x.AD.Ae=x.Ae)))):=rfl;have c2:=iD (l.take k) x.AD.dst x.AD.Ae (fun y hy=>hl y (List.mem_of_mem_take hy)) (by rw[q0D];omega);unfold Past.d Past.A4 at c1;unfold AF.d AF.A4 at c1 c2;have e1:List.take k (List.map Past.A4 l)=List.map Past.A4 (List.take k l):=(List.map_take ..).symm;generalize U7 (l.take k) x.AD.dst x.AD.Ae=fm at*
  cases hb:x.AD.right&& !x.AD.BY with
  |false=>
   rw[hb]at c1;simp only[q0E,q0U]at c1;have hN:FC l k=false:=by rw[hK,hO];revert hb;cases x.AD.right<;>cases x.AD.BY<;>simp
   have ix1:=hx;refine AO He ?_ (AK @c1);clear ix1;with_reducible repeat' first|constructor|intro hc
   all_goals(clear c1 c2;refine⟨_,_,rfl,rfl,?_⟩;simp only[C7];rw[hT,FL hkl hN,q0v])
  |true=>
   rw[hb]at c1;simp only[q0X]at c1;rw[zO]at hb;rw[hb.1,hb.2,q0A,q0A]at hO
   by_cases h1:x.AD.dst=x.B8
   .by_cases h2:x.AD.Ae=x.Ae
    .have f1:(x.AD.dst !=x.B8)=false:=C8 h1;have f2:(x.AD.Ae !=x.Ae)=false:=C8 h2;have hN:FC l k= !((l.take k).any (LX x.AD.dst x.AD.Ae)):=by rw[hK,hO,h1,h2];simp
     generalize(l.take k).any (LX x.AD.dst x.AD.Ae)=tw at *;have ix1:=hx;refine AJ He ?_ (CP f1 f2 e1) (Au @c1 @c2) [(3,11),(4,11),(5,11),(6,11)];clear ix1;with_reducible repeat' first|constructor|intro hc
     all_goals clear c1 c2
     all_goals first
      |(refine⟨k+1,⟨hkl,DZ hpre (by rw[hN];grind)⟩,om,zN _,?_⟩
        exact A8.ck rfl)
      |(refine⟨_,_,rfl,rfl,?_⟩;simp only[C7];rw[hT,FL hkl (by rw[hN];grind),q0v])
    .have f1:(x.AD.dst !=x.B8)=false:=C8 h1;have f2:(x.AD.Ae !=x.Ae)=true:=CI h2;have hN:FC l k=false:=by rw[hK,hO];simp[h2]
     have ix1:=hx;refine AJ He ?_ (Au f1 f2) (AK @c1);clear ix1;with_reducible repeat' first|constructor|intro hc
     all_goals(clear c1 c2;refine⟨_,_,rfl,rfl,?_⟩;simp only[C7];rw[hT,FL hkl hN,q0v])
   .have f1:(x.AD.dst !=x.B8)=true:=CI h1;have hN:FC l k=false:=by rw[hK,hO];simp[h1]
    have ix1:=hx;refine AJ He ?_ (AK f1) (AK @c1);clear ix1;with_reducible repeat' first|constructor|intro hc
    all_goals(clear c1 c2;refine⟨_,_,rfl,rfl,?_⟩;simp only[C7];rw[hT,FL hkl hN,q0v])
 .have e:k=l.length:=om
  subst e;rw[hpre]at hT;refine A9 He ?_;with_reducible repeat' first|constructor|intro hc
  all_goals(refine⟨_,_,rfl,rfl,?_⟩;simp only[C7];rw[hT];simp;try omega)
theorem s9(n:AA)(h:Hm n):yS 52 [n.d] (.b (PP n)):=by
 refine zF AE Tryz.func52 ?_;have hn:n.BZ.length<=1048576:=h.sn;have hT:PP n= !(n.BZ.any fun p=>decide (p.AD.B8≠n.A7.id)):=rfl;generalize hq:(fun p:Past=>decide (p.AD.B8≠n.A7.id))=q at *;have hq':∀x:Past,(x.AD.B8 !=n.A7.id)=q x:=fun x=>by rw[<-hq];by_cases e:x.AD.B8=n.A7.id<;>simp[e]
 refine A9 [0,1,2,3,8,21] ?_;refine C4 (fun k=>k<=n.BZ.length/\(n.BZ.take k).any q=false) (fun k:Nat=>[(3,.yO k)]) (fun k=>n.BZ.length-k) 0 ⟨zi _,rfl⟩ (fun _=>rfl) ?_ ?_
 .exact A8.ck rfl
 rintro k ⟨hk,hpre⟩
 by_cases hkl:k<n.BZ.length
 .obtain⟨x,hx⟩:=Ah hkl;have hA:=Hq (p:=q) hx;rw[hpre,q0k]at hA;have f1:=hq' x
  cases hb:q x with
  |true=>
   rw[hb]at f1;have ix1:=hx;refine Aj [0,1,2,3,8,21] ?_ (AK f1);clear ix1;with_reducible repeat' first|constructor|intro hc
   refine⟨_,_,rfl,rfl,?_⟩;simp only[C7];rw[hT,bk hx hb];rfl
  |false=>
   rw[hb]at f1;have ix1:=hx;refine Aj [0,1,2,3,8,21] ?_ (AK f1);clear ix1;with_reducible repeat' first|constructor|intro hc
   refine⟨k+1,⟨hkl,by rw[hA,hb]⟩,om,zN _,?_⟩;exact A8.ck rfl
 .have e:k=n.BZ.length:=om
  subst e;rw[q06]at hpre;refine A9 [0,1,2,3,8,21] ?_;with_reducible repeat' first|constructor|intro hc
  refine⟨_,_,rfl,rfl,?_⟩;simp only[C7];rw[hT,hpre];rfl
theorem iL(n:AA)(h:Hm n):yS 27 [n.d] (.b (BL n)):=by
 have c1:=s9 n h;have c2:=YS n.A7 h.id h.li (by have:=h.vb;omega) (by have:=h.vl;omega);have c3:=iH n.Ac h.cl (by have:=h.cn;omega);have c4:=oC n.BZ h.sl (by have:=h.sn;omega);have c5:=oD n.A5 n.BH;have c6:=oA n.keep (by have:=h.kn;omega);have hT:BL n=((decide (0<=n.Am)&&decide (n.Am<=1099511627776))&&(decide (0<=n.bad)&&((decide (0<=n.next)&&decide (n.next<16))&&(Aq n.A7&&((decide (n.Ac.id=n.A7.id)&&Bw n.Ac)&&(Cl n.A5 n.BH&&(Cg n.keep&&(FX n.BZ&&PP n)))))))):=rfl;unfold AG.d AG.A4 at c2;unfold Calls.d Calls.A4 at c3;refine zF AE Tryz.func27 ?_;generalize BL n=R at *;generalize PP n=g1 at *;generalize Aq n.A7=g2 at *;generalize Bw n.Ac=g3 at *;generalize FX n.BZ=g4 at *;generalize Cl n.A5 n.BH=g5 at *;generalize Cg n.keep=g6 at *;clear h;refine AO [0,1,2] ?_ (zq6 @c1 @c2 @c3 @c4 @c5 @c6);repeat'(apply zB<;>intro hc)
 all_goals(clear c1 c2 c3 c4 c5 c6;refine⟨_,_,rfl,rfl,?_⟩;simp only[C7];refine congrArg D.b ?_;rw[hT];clear hT;grind)
abbrev Ja:BF:=[0,1,4,5,6,7,10,15,16,17,18,43]
abbrev H5:BF:=[0,1,2,3,4,6,23,26,27,28,64,66,67,68,69,76]
abbrev IG:BF:=[0,1,2,3,4,5,46,51,73,78,88,93,124]
theorem YO(nodes:List AA)(gone:Ai)(hn:nodes.length<=1000)(hg:gone.length<=1000)(hp:∀p∈gone,BV p=true/\Es nodes p=false)(hd:gone.Nodup):yS 36 [.is gone,Ak nodes] (.b true):=by
 refine zF AE Tryz.func36 ?_;have f1:decide ((gone.length:Int)>1000)=false:=zQ om;have d1:=R6 gone om;have d2:=iX gone om;have hsl:(Uc gone).length=gone.length:=List.length_mergeSort ..;rw[<-hsl]at d1 d2;have hm:∀x∈Uc gone,BV x=true/\Es nodes x=false:=fun x hx=>hp x (List.mem_mergeSort.1 hx)
 have hq:=(Vi (W2 gone)).1 ((List.mergeSort_perm gone _).nodup_iff.2 hd);refine Cd Ja ?_ (AK f1) (H0 [] d1 [0] d2) [] [5];refine BG (A8.qt 5 0 (x:=.is (Uc gone)) rfl rfl rfl) (by simp[F8]) ?_;refine A9 Ja ?_;generalize Uc gone=zs at *;clear d1 d2 hp hd;refine C4 (fun k=>k<=zs.length) (fun k:Nat=>[(17,.yO k)]) (fun k=>zs.length-k) 0 (zi _) (fun _=>rfl) ?_ ?_
 .exact A8.ck rfl
 intro k hk
 by_cases hkl:k<zs.length
 .obtain⟨x,hx⟩:=Ah hkl;have gx:=C5 hx;obtain⟨m1,m2⟩:=hm x (q00 hx);have c1:=Gq x;have c2:=NZ nodes x om;rw[m1]at c1;rw[(P7 m2).1]at c2;rcases hq k hkl with h0|h0
  .have f7:decide ((k:Int)>0)=false:=zQ om;refine AJ Ja ?_ (Au gx f7) (Au @c1 @c2);with_reducible repeat' first|constructor|intro hc
   refine⟨k+1,hkl,om,zN _,?_⟩;exact A8.ck rfl
  .by_cases hz:k=0
   .have f7:decide ((k:Int)>0)=false:=zQ om;refine AJ Ja ?_ (Au gx f7) (Au @c1 @c2);with_reducible repeat' first|constructor|intro hc
    refine⟨k+1,hkl,om,zN _,?_⟩;exact A8.ck rfl
   have f7:decide ((k:Int)>0)=true:=zU om;have e1:(k:Int)-1=((k-1:Nat):Int):=om
   obtain⟨y,hy⟩:=Ah (xs:=zs) (k:=k-1) om;have gy:=C5 hy;rw[gx,gy]at h0;have f8:=eq_false' h0;refine AJ Ja ?_ (TT gx gy f7 e1 f8) (Au @c1 @c2);with_reducible repeat' first|constructor|intro hc
   refine⟨k+1,hkl,om,zN _,?_⟩;exact A8.ck rfl
 have e:k=zs.length:=om
 subst e;refine A9 Ja ?_;with_reducible repeat' first|constructor|intro hc
 exact zE
theorem Hr(c:CS)(h:CW c):yS 12 [c.c.d] (.b true):=by
 have hb:=h.n.b;unfold Fj at hb;have hbb:=hb;simp only[zO,zW]at hb;have h12:=h.n.n;have h40:=h.b.n;have hgl:=h.n.gl;have cb:=MV c.A6 om;rw[hbb]at cb;have cf:=fun p=>NZ c.nodes p om
 have cg:=YO c.nodes c.gone om hgl (fun p hp=>⟨(h.n.gp p hp).1,by
  cases hq:Es c.nodes p with
  |false=>rfl
  |true=>exact absurd (Ib.2 hq) (h.n.gp p hp).2⟩) h.n.gd
 have hnb:=h.n.nb;have hup:=h.n.r;have hbn:=h.n.bn;obtain⟨nodes,gone,A6,⟨grams,lost⟩⟩:=c;dsimp only at *;clear h hbb;refine zF AE Tryz.func12 ?_;unfold CS.c D3.d D3.A4;dsimp only;obtain⟨gr,hgr⟩:∃gr,gr=grams.map B0.A4:=⟨_,rfl⟩;rw[<-hgr];have hgl2:gr.length<=400:=by rw[hgr,q08];exact h40
 clear hgr;have f1:decide ((nodes.length:Int)>12)=false:=zQ om;have f2:decide ((gr.length:Int)>400)=false:=zQ om;refine By H5 ?_ (Au f1 f2) (AK @cb) (BJ [] (J9 nodes));refine zG (K:=fun r _ H'=>H'=[.c [.d (Ak nodes),.yV gone,.yV A6,.d (.sl 3 gr),.yO lost],.c [.yP false],.c [.d (Ak nodes)],.lp r]) ?_ ?_
 .intro r hr;refine zT AE Tryz.func63 ?_;refine A9 [0,1,3,5,6,7,15] ?_;have hk:=hr.ok (k:=3) rfl;refine C4 (fun k=>k<=nodes.length) (fun k:Nat=>[(6,.yO k)]) (fun k=>nodes.length-k) 0 (zi _) (fun _=>rfl) ?_ ?_
  .exact A8.ck rfl
  intro k hkk
  by_cases hkl:k<nodes.length
  .obtain⟨x,hx⟩:=Ah hkl;obtain⟨b1,b2⟩:=hnb x (q00 hx);have c1:=BO x b1.FG;rw[b1.r]at c1;have c2:=Wi.GH x.A7.A6 A6 (by rw[b2];omega);rw[zU b2]at c2
   have hY:YT Tryz.prog 3 [.yO k,.dp x.A4] [.c [.d (Ak nodes),.yV gone,.yV A6,.d (.sl 3 gr),.yO lost],.c [.yP false],.c [.d (Ak nodes)],.lp r] fun v K'=>v= .yP true/\K'=[.c [.d (Ak nodes),.yV gone,.yV A6,.d (.sl 3 gr),.yO lost],.c [.yP false],.c [.d (Ak nodes)],.lp r]:=by
    refine Ar hr rfl rfl rfl ?_;unfold AA.d at c1
    by_cases h0:k=0
    .have f6:decide ((k:Int)>0)=false:=zQ om;refine A9 H5 ?_;refine zR ?_;refine AJ H5 ?_ (AK f6) (Au @c1 @c2);exact⟨⟨[],[.c [.d (Ak nodes),.yV gone,.yV A6,.d (.sl 3 gr),.yO lost],.c [.yP false],.c [.d (Ak nodes)],.lp r.busy],_⟩,(A8.ck rfl),zN _,rfl,rfl,rfl⟩
    .have f6:decide ((k:Int)>0)=true:=zU om;have e1:(k:Int)-1=((k-1:Nat):Int):=om
     obtain⟨y,hy⟩:=Ah (xs:=nodes) (k:=k-1) om;have hlt:=W8 hup (Qd hy) (Qd hx) om;have f7:decide (y.A7.id>=x.A7.id)=false:=zQ om;refine A9 H5 ?_;refine zR ?_;have ix1:=hy;refine AJ H5 ?_ (CP f6 e1 f7) (Au @c1 @c2);clear ix1;exact⟨⟨[],[.c [.d (Ak nodes),.yV gone,.yV A6,.d (.sl 3 gr),.yO lost],.c [.yP false],.c [.d (Ak nodes)],.lp r.busy],_⟩,(A8.ck rfl),zN _,rfl,rfl,rfl⟩
   have ix1:=hx;have q1:=@hY;refine A9 [0,1,3,5,6,7,15] ?_;clear q1 ix1;with_reducible repeat' first|constructor|intro hc
   refine⟨k+1,hkl,om,zN _,?_⟩;exact A8.ck rfl
  .have e:k=nodes.length:=om
   subst e;refine A9 [0,1,3,5,6,7,15] ?_;with_reducible repeat' first|constructor|intro hc
   exact⟨_,A8.refl _,zN _,_,_,rfl,rfl,rfl⟩
 .rintro r hr y H' rfl;refine .inl ⟨rfl,?_⟩;refine A9 H5 ?_;have hk:=hr.ok (k:=3) rfl;refine C4 (fun k=>k<=A6.length) (fun k:Nat=>[(68,.yO k)]) (fun k=>A6.length-k) 0 (zi _) (fun _=>rfl) ?_ ?_
  .exact A8.ck rfl
  intro k hkk
  by_cases hkl:k<A6.length
  .obtain⟨x,hx⟩:=Ah hkl;have gx:=C5 hx;have c1:=cf x;have f6:=XW nodes x;rw[Ib.1 (hbn x (q00 hx))]at f6;generalize JI (NJ x) nodes=z at *;refine AJ H5 ?_ (Au gx f6) (AK @c1);with_reducible repeat' first|constructor|intro hc
   refine⟨k+1,hkl,om,zN _,?_⟩;exact A8.ck rfl
  .have e:k=A6.length:=om
   subst e;refine AO H5 ?_ (AK @cg);with_reducible repeat' first|constructor|intro hc
   exact zE
theorem ny(c:CS)(h:CW c):yS 10 [c.c.d] (.b true):=by
 have hb:=h.n.b;unfold Fj at hb;simp only[zO,zW]at hb;obtain⟨h1,h2,h3⟩:=hb;have h12:=h.n.n;have h40:=h.b.n;have hgl:=h.n.gl;have cp:=ee c.c (by show c.nodes.length<=_;omega);have cr:=UT (ids c.nodes) (by unfold ids;rw[q08];omega);rw[O2.2 ⟨h.n.pl,h.n.r⟩]at cr;have cb:=UT c.A6 om;rw[h3]at cb;have cf:=fun p=>o8 c.c p (by show c.nodes.length<=_;omega)
 have hnb:=h.n.nb;have hbn:=h.n.bn
 have hgp:=fun p hp=>(show BV p=true/\Es c.nodes p=false from⟨(h.n.gp p hp).1,by
  cases hq:Es c.nodes p with
  |false=>rfl
  |true=>exact absurd (Ib.2 hq) (h.n.gp p hp).2⟩)
 have hgd:=So.1 h.n.gd;obtain⟨nodes,gone,A6,⟨grams,lost⟩⟩:=c;unfold CS.c D3.d D3.A4 at *;dsimp only at *;clear h h3;obtain⟨gr,hgr⟩:∃gr,gr=grams.map B0.A4:=⟨_,rfl⟩;rw[<-hgr]at cp cf|-;have hgl2:gr.length<=400:=by rw[hgr,q08];exact h40
 clear hgr;refine zF AE Tryz.func10 ?_;have f1:decide ((A6.length:Int)<2)=false:=zQ om;have f2:decide ((A6.length:Int)>4)=false:=zQ om;have f3:decide ((nodes.length:Int)>12)=false:=zQ om;have f4:decide ((gone.length:Int)>1000)=false:=zQ om;have f5:decide ((gr.length:Int)>400)=false:=zQ om;refine AJ IG ?_ (TT f1 f2 f3 f4 f5) (CP @cb @cp @cr);refine C4 (fun k=>k<=nodes.length) (fun k:Nat=>[(3,.yO k)]) (fun k=>nodes.length-k) 0 (zi _) (fun _=>rfl) ?_ ?_
 .exact A8.ck rfl
 intro k hk
 by_cases hkl:k<nodes.length
 .obtain⟨x,hx⟩:=Ah hkl;obtain⟨b1,b2⟩:=hnb x (q00 hx);have c1:=iL x b1.FG;rw[b1.r]at c1;have c2:=Pa x.A7.A6 A6 (by rw[b2];omega);rw[zU b2]at c2;have ix1:=hx;refine AO IG ?_ (Au @c1 @c2);clear ix1;with_reducible repeat' first|constructor|intro hc
  refine⟨k+1,hkl,om,zN _,?_⟩;exact A8.ck rfl
 have e:k=nodes.length:=om
 subst e;refine A9 IG ?_;with_reducible repeat' first|constructor|intro hc
 refine C4 (fun k=>k<=A6.length) (fun k:Nat=>[(4,.yO k)]) (fun k=>A6.length-k) 0 (zi _) (fun _=>rfl) ?_ ?_
 .exact A8.ck rfl
 intro k hk
 by_cases hkl:k<A6.length
 .obtain⟨x,hx⟩:=Ah hkl;have gx:=C5 hx;have c1:=cf x;have f6:=XW nodes x;rw[Ib.1 (hbn x (q00 hx))]at f6;generalize JI (NJ x) nodes=z at *;refine AJ IG ?_ (Au gx f6) (AK @c1);with_reducible repeat' first|constructor|intro hc
  refine⟨k+1,hkl,om,zN _,?_⟩;exact A8.ck rfl
 have e:k=A6.length:=om
 subst e;refine A9 IG ?_;with_reducible repeat' first|constructor|intro hc
 refine C4 (fun k=>k<=gone.length) (fun k:Nat=>[(5,.yO k)]) (fun k=>gone.length-k) 0 (zi _) (fun _=>rfl) ?_ ?_
 .exact A8.ck rfl
 intro k hk
 by_cases hkl:k<gone.length
 .obtain⟨x,hx⟩:=Ah hkl;have gx:=C5 hx;obtain⟨m1,m2⟩:=hgp x (q00 hx);have c1:=Ms x;have c2:=cf x;have c3:=jr (gone.take k) x (by rw[q0D];omega);have hno:=hgd k hkl;rw[gx]at hno;rw[m1]at c1;rw[(P7 m2).1]at c2;rw[zQ hno]at c3;refine AJ IG ?_ (AK gx) (CP @c1 @c2 @c3);with_reducible repeat' first|constructor|intro hc
  refine⟨k+1,hkl,om,zN _,?_⟩;exact A8.ck rfl
 have e:k=gone.length:=om
 subst e;refine A9 IG ?_;with_reducible repeat' first|constructor|intro hc
 exact zE
end Nd
end Go.Proofs.YtamjpnmjpponpaaGreatDoor
