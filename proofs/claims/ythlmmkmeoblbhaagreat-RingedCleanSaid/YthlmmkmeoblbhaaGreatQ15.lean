/- Part 15 of a proof. Conditions: those that its theorems state. -/
import Derived.Test.YthlmmkmeoblbhaaGreatQ14
set_option linter.unusedSimpArgs false
set_option linter.unusedVariables false
set_option linter.unnecessarySimpa false
set_option maxHeartbeats 40000000
set_option maxRecDepth 4000
namespace Go.Proofs.YthlmmkmeoblbhaaGreat
namespace Nd
open Go.Gar
open Wi (AE BE Ay)
abbrev DN:BK:=[0,1,2,3,4,6,23,26,27,28,64,66,67,68,69,76]
abbrev MP:BK:=[0,1,3,5,6,7,15]
def LQ(c:BF)(k:Nat):Bool:=decide (k=0\/(c.nodes.getD (k-1) D2).A4.id<(c.nodes.getD k D2).A4.id)&&Kh c (c.nodes.getD k D2)
def Wt(c:BF):Bool:=(decide (2<=c.A2.length)&&(decide (c.A2.length<=4)&&Hk c.A2))&&(decide (c.nodes.length<=12)&&(decide (c.grams.length<=400)&&(DR c.nodes.length (LQ c)&&(c.A2.all (By c.nodes)&&(decide (c.gone.length<=1000)&&DR c.gone.length (O8 c.nodes c.gone))))))
theorem iY{n:A6}(h:Ch n=true):BE n.A4.id=true:=by
 simp only[Ch,yU]at h;have:=(Bz h.2.2.2.1).1;have:=Cq this;exact Wi.OS.2 this
theorem mm(c:BF):DR c.nodes.length (LQ c)=(c.nodes.all (Kh c)&&Hk (ids c.nodes)):=by
 rw[Bool.eq_iff_iff,yU,Ex,q0I,Hk,Ex];have hl:(ids c.nodes).length=c.nodes.length:=zY _
 have hg:∀k,k<c.nodes.length->(ids c.nodes).getD k 0=(c.nodes.getD k D2).A4.id:=fun k hk=>by
  obtain⟨x,hx⟩:=AS hk;rw[getD_at hx,getD_at (x:=x.A4.id) (by unfold ids;rw[q03,hx];rfl)]
 constructor
 .intro h
  have hN:∀x∈c.nodes,Kh c x=true:=fun x hx=>by
   obtain⟨k,hk⟩:=q0e.1 hx;have hk':=(yZ.1 hk).1;have:=h k hk';simp only[LQ,yU]at this;rw[getD_at hk]at this;exact this.2
  refine⟨hN,fun k hk=> ?_⟩;rw[hl]at hk;have h1:=h k hk;obtain⟨x,hx⟩:=AS hk;have h2:=hN x (zM hx);simp only[Kh,yU]at h2;have h3:=iY h2.1;simp only[LQ,yU,yc]at h1;simp only[Ps,yU,yc];rw[hg k hk,getD_at hx];refine⟨h3,?_⟩;rcases h1.1 with h4|h4
  .exact .inl h4
  .by_cases h0:k=0
   .exact .inl h0
   .rw[hg (k-1) om];rw[getD_at hx]at h4;exact .inr h4
 .rintro⟨h1,h2⟩ k hk;have h3:=h2 k (by rw[hl];exact hk);obtain⟨x,hx⟩:=AS hk;simp only[Ps,yU,yc]at h3;simp only[LQ,yU,yc];rw[getD_at hx];refine⟨?_,h1 x (zM hx)⟩;rcases h3.2 with h4|h4
  .exact .inl h4
  .by_cases h0:k=0
   .exact .inl h0
   .rw[hg k hk,hg (k-1) om,getD_at hx]at h4;exact .inr h4
theorem right_eq(c:BF):Wt c=Bs c:=by
 unfold Wt Bs Uk;rw[mm,show Ui c=O8 c.nodes c.gone from rfl];generalize Hk c.A2=a1;generalize Hk (ids c.nodes)=a2;generalize c.nodes.all (Kh c)=a3;generalize c.A2.all (By c.nodes)=a4;generalize DR c.gone.length (O8 c.nodes c.gone)=a5;rw[Bool.eq_iff_iff];simp only[yU,yc];constructor
 .rintro⟨⟨h1,h2,h3⟩,h4,h5,⟨h6,h7⟩,h8,h9,h10⟩;exact⟨⟨h1,h2,h3,h4,h7,h9,h5⟩,h6,h8,h10⟩
 .rintro⟨⟨h1,h2,h3,h4,h7,h9,h5⟩,h6,h8,h10⟩;exact⟨⟨h1,h2,h3⟩,h4,h5,⟨h6,h7⟩,h8,h9,h10⟩
theorem Jj(c:BF)(h:Ve c):yA 22 [c.d] (.b (Bs c)):=by
 rw[<-right_eq];have cb:=UH c.A2 (by have:=h.bl;omega);have cf:=fun p=>Xz c.nodes p (by have:=h.nl;omega)
 have cg:=Ws c.nodes c.gone h.nl h.gl;obtain⟨nodes,gone,A2,grams,lost⟩:=c;obtain⟨hnl,hnn,hgl,hbl,hll⟩:=h;simp only at *;refine zF AK Tryz.func22 ?_;unfold BF.d BF.A1;have hT:Wt ⟨nodes,gone,A2,grams,lost⟩=((decide (2<=A2.length)&&(decide (A2.length<=4)&&Hk A2))&&(decide (nodes.length<=12)&&(decide (grams.length<=400)&&(DR nodes.length (LQ ⟨nodes,gone,A2,grams,lost⟩)&&(A2.all (By nodes)&&(decide (gone.length<=1000)&&DR gone.length (O8 nodes gone))))))):=rfl;generalize(decide (2<=A2.length)&&(decide (A2.length<=4)&&Hk A2))=B at *;generalize(decide (gone.length<=1000)&&DR gone.length (O8 nodes gone))=G at *;generalize Wt ⟨nodes,gone,A2,grams,lost⟩=R at*
 cases B with
 |false=>
  rw[q0Z]at hT;subst hT;refine AP DN ?_ (AQ @cb);exact zE
 |true=>
 rw[zy]at hT
 by_cases h12:nodes.length>12
 .have f1:decide ((nodes.length:Int)>12)=true:=yX om;rw[yY (show ¬nodes.length<=12 by omega),q0Z]at hT;subst hT;refine AD DN ?_ (AQ f1) (AQ @cb);exact zE
 have f1:decide ((nodes.length:Int)>12)=false:=yY om;rw[yX (show nodes.length<=12 by omega),zy]at hT
 by_cases h400:grams.length>400
 .have f2:decide ((grams.length:Int)>400)=true:=yX om;rw[yY (show ¬grams.length<=400 by omega),q0Z]at hT;subst hT;refine AD DN ?_ (B1 f1 f2) (AQ @cb);exact zE
 have f2:decide ((grams.length:Int)>400)=false:=yY om;rw[yX (show grams.length<=400 by omega),zy]at hT;refine EL DN ?_ (B1 f1 f2) (AQ @cb) (E8 [] (Xg nodes))
 refine zG (K:=fun r _ H'=>(DR nodes.length (LQ ⟨nodes,gone,A2,grams,lost⟩)=true/\H'=[.c [.d (A7 nodes),.yD gone,.yD A2,.d (.sl 3 grams),.y5 lost],.c [.y7 false],.c [.d (A7 nodes)],.lp r])\/
  (DR nodes.length (LQ ⟨nodes,gone,A2,grams,lost⟩)=false/\H'=[.c [.d (A7 nodes),.yD gone,.yD A2,.d (.sl 3 grams),.y5 lost],.c [.y7 false],.c [.d (A7 nodes)],.lp (r.left .ret)])) ?_ ?_
 .intro r hr;refine zT AK Tryz.func93 ?_;refine A9 MP ?_;have hk:=hr.ok (k:=3) rfl;refine BA (fun k=>k<=nodes.length/\DR k (LQ ⟨nodes,gone,A2,grams,lost⟩)=true) (fun k:Nat=>[(6,.y5 k)]) (fun k=>nodes.length-k) 0 ⟨yx _,rfl⟩ (fun _=>rfl) ?_ ?_
  .exact A5.ck rfl
  rintro k ⟨hkk,hpre⟩
  by_cases hkl:k<nodes.length
  .obtain⟨x,hx⟩:=AS hkl;have gx:nodes.getD k D2=x:=getD_at hx;have hxo:=hnn x (zM hx);have c1:=oL x hxo;have c2:=Wi.Uc x.A4.A2 A2 (by have:=hxo.vb;omega)
   have hK:LQ ⟨nodes,gone,A2,grams,lost⟩ k=(decide (k=0\/(nodes.getD (k-1) D2).A4.id<x.A4.id)&&(Ch x&&decide (x.A4.A2=A2))):=by
    show(decide (k=0\/(nodes.getD (k-1) D2).A4.id<(nodes.getD k D2).A4.id)&&Kh _ (nodes.getD k D2))=_;rw[gx];rfl
   generalize hKd:LQ ⟨nodes,gone,A2,grams,lost⟩ k=K at hK
   have hY:YT Tryz.prog 3 [.y5 k,.dp x.A1] [.c [.d (A7 nodes),.yD gone,.yD A2,.d (.sl 3 grams),.y5 lost],.c [.y7 false],.c [.d (A7 nodes)],.lp r] fun v K'=>v= .y7 K/\K'=if K then[.c [.d (A7 nodes),.yD gone,.yD A2,.d (.sl 3 grams),.y5 lost],.c [.y7 false],.c [.d (A7 nodes)],.lp r]else[.c [.d (A7 nodes),.yD gone,.yD A2,.d (.sl 3 grams),.y5 lost],.c [.y7 false],.c [.d (A7 nodes)],.lp (r.left .ret)]:=by
    refine CE hr rfl rfl rfl ?_;clear cb cf cg hnn hT hKd hpre;generalize Ch x=rn at *;generalize decide (x.A4.A2=A2)=eb at *;unfold A6.d at c1
    by_cases h0:k=0
    .have f6:decide ((k:Int)>0)=false:=yY om;rw[yX (.inl h0)]at hK;refine A9 DN ?_;refine zR ?_;refine AD DN ?_ (AQ f6) (B1 @c1 @c2);repeat'(apply zB<;>intro hc)
     all_goals clear c1 c2
     all_goals first
      |(rw[show K=true by grind];exact⟨⟨[],[.c [.d (A7 nodes),.d (.is gone),.d (.is A2),.d (.sl 3 grams),.d (.i .i64 lost)],.c [.d (.b false)],.c [.d (A7 nodes)],.lp r.busy],_⟩,(A5.ck rfl),yV _,rfl,rfl,rfl⟩)
      |(rw[show K=false by grind];exact⟨⟨[],[.c [.d (A7 nodes),.d (.is gone),.d (.is A2),.d (.sl 3 grams),.d (.i .i64 lost)],.c [.d (.b false)],.c [.d (A7 nodes)],.lp r.busy],_⟩,(A5.ck rfl),yV _,rfl,rfl,rfl⟩)
    .have f6:decide ((k:Int)>0)=true:=yX om;have e1:(k:Int)-1=((k-1:Nat):Int):=om
     obtain⟨y,hy⟩:=AS (xs:=nodes) (k:=k-1) om;have gy:nodes.getD (k-1) D2=y:=getD_at hy;rw[gy]at hK;refine A9 DN ?_;refine zR ?_;have ix1:=hy;refine AD DN ?_ (B1 f6 e1) (B1 @c1 @c2);clear ix1;repeat'(apply zB<;>intro hc)
     all_goals clear c1 c2
     all_goals first
      |(rw[show K=true by grind];exact⟨⟨[],[.c [.d (A7 nodes),.d (.is gone),.d (.is A2),.d (.sl 3 grams),.d (.i .i64 lost)],.c [.d (.b false)],.c [.d (A7 nodes)],.lp r.busy],_⟩,(A5.ck rfl),yV _,rfl,rfl,rfl⟩)
      |(rw[show K=false by grind];exact⟨⟨[],[.c [.d (A7 nodes),.d (.is gone),.d (.is A2),.d (.sl 3 grams),.d (.i .i64 lost)],.c [.d (.b false)],.c [.d (A7 nodes)],.lp r.busy],_⟩,(A5.ck rfl),yV _,rfl,rfl,rfl⟩)
   cases hb:K with
   |true=>
    rw[hb]at hY;have ix1:=hx;have q1:=@hY;refine A9 MP ?_;clear q1 ix1;with_reducible repeat' first|constructor|intro hc
    refine⟨k+1,⟨hkl,Cm hpre (hKd.trans hb)⟩,om,yV _,?_⟩;exact A5.ck rfl
   |false=>
    rw[hb]at hY;have ix1:=hx;have q1:=@hY;refine A9 MP ?_;clear q1 ix1;with_reducible repeat' first|constructor|intro hc
    exact⟨⟨[],[.c [.d (A7 nodes),.yD gone,.yD A2,.d (.sl 3 grams),.y5 lost],.c [.y7 false],.c [.d (A7 nodes)],.lp (r.left .ret)],_⟩,(A5.ck rfl),yV _,_,_,rfl,rfl,.inr ⟨EY hkl (hKd.trans hb),rfl⟩⟩
  .have e:k=nodes.length:=om
   subst e;refine A9 MP ?_;with_reducible repeat' first|constructor|intro hc
   exact⟨_,A5.refl _,yV _,_,_,rfl,rfl,.inl ⟨hpre,rfl⟩⟩
 .rintro r hr y H' (⟨h,rfl⟩|⟨h,rfl⟩)
  .refine .inl ⟨rfl,?_⟩;rw[h,zy]at hT;refine A9 DN ?_;have hk:=hr.ok (k:=3) rfl;refine BA (fun k=>k<=A2.length/\(A2.take k).all (By nodes)=true) (fun k:Nat=>[(68,.y5 k)]) (fun k=>A2.length-k) 0 ⟨yx _,rfl⟩ (fun _=>rfl) ?_ ?_
   .exact A5.ck rfl
   rintro k ⟨hkk,hpre⟩
   by_cases hkl:k<A2.length
   .obtain⟨x,hx⟩:=AS hkl;have gx:=BQ hx;have c1:=cf x;have f6:=Y9 nodes x;generalize E3 (GZ x) nodes=z at*
    cases hb:By nodes x with
    |true=>
     rw[hb]at f6;refine AD DN ?_ (B1 gx f6) (AQ @c1);with_reducible repeat' first|constructor|intro hc
     refine⟨k+1,⟨hkl,Nm hx hpre hb⟩,om,yV _,?_⟩;exact A5.ck rfl
    |false=>
     rw[hb]at f6;refine AD DN ?_ (B1 gx f6) (AQ @c1);with_reducible repeat' first|constructor|intro hc
     refine⟨_,_,rfl,rfl,?_⟩;simp only[C4];rw[hT,Ro hx hb];rfl
   have e:k=A2.length:=om
   subst e;rw[zU]at hpre;rw[hpre,zy]at hT;subst hT;refine AP DN ?_ (AQ @cg);with_reducible repeat' first|constructor|intro hc
   exact zE
  .refine .inr ⟨.ret,rfl,?_⟩;rw[h,q0Z]at hT;subst hT;refine A9 DN ?_;exact zE
def XI(c:BF)(p:Int):Int×Bool:=if Bs c then V9 c.nodes p else(0,false)
theorem cL(c:BF)(p:Int)(h:Ve c):yA 13 [c.d,.yE p] (.tup [.yE (XI c p).1,.b (XI c p).2]):=by
 have c1:=Jj c h;have c2:=Qx c p h;have hT:XI c p=if Bs c then V9 c.nodes p else(0,false):=rfl
 generalize Bs c=R at *;obtain⟨nodes,gone,A2,grams,lost⟩:=c;refine zF AK Tryz.func13 ?_;unfold BF.d BF.A1 at *;generalize V9 (BF.mk nodes gone A2 grams lost).nodes p=nx at *;rw[hT];cases R
 .refine AP [0,1,2,4,5,8] ?_ (AQ @c1);with_reducible repeat' first|constructor|intro hc
  exact zE
 .refine AP [0,1,2,4,5,8] ?_ (B1 @c1 @c2);with_reducible repeat' first|constructor|intro hc
  exact zE
abbrev G7:BK:=[0,1,2,3,6,7,8,9,10,13,19,20,21,24]
abbrev MR:BK:=[0,1,2,4,5,6,7,23]
def Mk(l:List A6)(p:Int):Nat->Int
 |0=>p
 |k+1=>(V9 l (Mk l p k)).1
def wl(l:List A6)(p:Int)(k:Nat):Ao:=(List.range k).map (Mk l p)
theorem cH(l:List A6)(p:Int)(k:Nat):(wl l p k).length=k:=by simp[wl]
theorem el(l:List A6)(p:Int)(k:Nat):wl l p (k+1)=wl l p k++[Mk l p k]:=by simp[wl,List.range_succ]
theorem XW(id:Int):∀(l:Ao)(b:Int),l.foldl (Hg id) b=b\/l.foldl (Hg id) b∈l
 |[],b=> .inl rfl
 |x::r,b=>by
  rw[q0c];rcases XW id r (Hg id b x)with h|h
  .rw[h];unfold Hg;split
   .exact .inr (q02 ..)
   .exact .inl rfl
  .exact .inr (q05 _ h)
variable {c:BF}
theorem bZ(h:Bs c=true){n:A6}(hn:n∈c.nodes):Ch n=true/\n.A4.A2=c.A2:=by
 simp only[Bs,yU,q0I]at h;have:=h.2.1 n hn;simpa[Kh]using this
variable {p:Int}
theorem Td(h:Bs c=true)(hp:p∈c.A2):By c.nodes p=true:=by
 simp only[Bs,yU,q0I]at h;exact h.2.2.1 p hp
theorem Pr(h:Bs c=true):c.nodes.length<=12/\2<=c.A2.length/\c.A2.length<=4:=by
 simp only[Bs,Uk,yU,yc]at h;exact⟨h.1.2.2.2.1,h.1.1,h.1.2.1⟩
theorem mg(h:Bs c=true)(hp:By c.nodes p=true):By c.nodes (V9 c.nodes p).1=true:=by
 obtain⟨k,x,e1,e2,e3,e4⟩:=Ul hp;have hx:=zM e2;obtain⟨hR,hB⟩:=bZ h hx;have e:(V9 c.nodes p).1=QP c.nodes x.A4:=by unfold V9;rw[hp,e4];rfl
 rw[e];unfold QP;split
 .rename_i q hq;exact List.find?_some hq
 .have hv:AZ x.A4=true:=by
   simp only[Ch,yU]at hR;exact hR.2.2.2.1
  have e5:XV x.A4=GG x.A4.id x.A4.A2:=zN hv;rw[e5];obtain⟨h1,h2,h3,h4,h5⟩:=Bz hv;have h6:=L6 h1 h2;have h7:=Cq h6.2.1;refine Td h ?_;rw[<-hB];rcases XW x.A4.id x.A4.A2 (-1)with h8|h8
  .exfalso;have:GG x.A4.id x.A4.A2= -1:=h8;omega
  .exact h8
theorem RB{c:BF}(h:Bs c=true){p:Int}(hp:By c.nodes p=true):∀k,By c.nodes (Mk c.nodes p k)=true
 |0=>hp
 |k+1=>mg h (RB h hp k)
theorem T9{l:List A6}(h:By l p=true):(V9 l p).2=true:=by unfold V9;rw[h];rfl
theorem Yb{l:List A6}(h:By l p=false):V9 l p=(0,false):=by unfold V9;rw[h];rfl
def most(steps:Int):Nat:=(if 40<(if steps<0 then 0 else steps)then 40 else if steps<0 then 0 else steps).toNat
theorem rM(steps:Int):(if 40<(if steps<0 then 0 else steps)then 40 else if steps<0 then 0 else steps)=(most steps:Int):=by unfold most;split<;>split<;>omega
theorem rN(steps:Int):most steps<=40:=by unfold most;split<;>split<;>omega
def cu(c:BF)(p steps:Int):Ao:=if Bs c&&By c.nodes p then wl c.nodes p (most steps+1)else[]
theorem X7(c:BF)(p:Int):yB 33 [.d c.d,.y5 p] [] (.fn (.func 66) [] [.ptr 1 0 1,.ptr 0 0 5]) [.c [.d (A7 c.nodes),.yD c.gone,.yD c.A2,.d (.sl 3 c.grams),.y5 c.lost],.c [.y5 p]]:=by
 refine zD AK Tryz.func33 ?_;unfold BF.d BF.A1;refine A9 [0,1,2,3,4] ?_;with_reducible repeat' first|constructor|intro hc
 exact wE
theorem pe(c:BF)(p steps:Int)(h:Ve c):yA 16 [c.d,.yE p,.yE steps] (.is (cu c p steps)):=by
 have c1:=Jj c h;have hT:cu c p steps=if Bs c&&By c.nodes p then wl c.nodes p (most steps+1)else[]:=rfl
 have cn:=fun q=>Qx c q h;have dw:=X7 c p
 have hm:=rM steps;have hmle:=rN steps;have hhas:=fun hR:Bs c=true=>fun hp:By c.nodes p=true=>RB hR hp
 generalize cu c p steps=res at *;generalize most steps=m at *;generalize Bs c=R at *;obtain⟨nodes,gone,A2,grams,lost⟩:=c;simp only at *;refine zF AK Tryz.func16 ?_;unfold BF.d BF.A1 at *;simp only at*
 cases R with
 |false=>
  rw[q0Z]at hT;subst hT;refine AP G7 ?_ (AQ @c1);with_reducible repeat' first|constructor|intro hc
  exact zE
 |true=>
 refine EL G7 ?_ (AQ hm) (AQ @c1) (E8 [] dw);with_reducible repeat' first|constructor|intro hc
 refine Av (A5.PN 2 0 (.is []) rfl rfl rfl rfl trivial) sm ?_
 refine zG (K:=fun r _ H'=>(By nodes p=false/\H'=[.c [.d (A7 nodes),.yD gone,.yD A2,.d (.sl 3 grams),.y5 lost],.c [.y5 m],.c [.sl 5 (wl nodes p 0).length 1],.c [.d (A7 nodes),.yD gone,.yD A2,.d (.sl 3 grams),.y5 lost],.c [.y5 p],.a (.is (wl nodes p 0)),.lp r])\/
  (By nodes p=true/\H'=[.c [.d (A7 nodes),.yD gone,.yD A2,.d (.sl 3 grams),.y5 lost],.c [.y5 m],.c [.sl 5 (wl nodes p (m+1)).length 1],.c [.d (A7 nodes),.yD gone,.yD A2,.d (.sl 3 grams),.y5 lost],.c [.y5 p],.a (.is (wl nodes p (m+1))),.lp (r.left (.exit 0))])) ?_ ?_
 .intro r hr;refine zT AK Tryz.func66 ?_;have hk:=hr.ok (k:=6) rfl
  cases hb:By nodes p with
  |false=>
   have c2:=cn p;rw[Yb hb]at c2;have un:No 1:=trivial;refine AP MR ?_ (AQ @c2);clear un;with_reducible repeat' first|constructor|intro hc
   exact⟨⟨[],[.c [.d (A7 nodes),.yD gone,.yD A2,.d (.sl 3 grams),.y5 lost],.c [.y5 m],.c [.sl 5 (wl nodes p 0).length 1],.c [.d (A7 nodes),.yD gone,.yD A2,.d (.sl 3 grams),.y5 lost],.c [.y5 p],.a (.is (wl nodes p 0)),.lp r],_⟩,(A5.ck rfl),yV _,_,_,rfl,rfl,.inl ⟨rfl,rfl⟩⟩
  |true=>
   refine A9 MR ?_;with_reducible repeat' first|constructor|intro hc
   refine CO (fun k=>k<=m+1) (fun k:Nat=>[(4,.y5 k),(5,.y5 (Mk nodes p k))]) (fun k=>[(2,.c [.sl 5 (wl nodes p k).length 1]),(5,.a (.is (wl nodes p k)))]) (fun k=>m+2-k) 0 (yx _) (fun _=>rfl) (fun _=>rfl) ?_ ?_
   .exact A5.ck rfl
   rintro k hkm;have c2:=cn (Mk nodes p k);rw[T9 (hhas rfl hb k)]at c2;have hw:(V9 nodes (Mk nodes p k)).1=Mk nodes p (k+1):=rfl;rw[hw]at c2;have hl:=cH nodes p k;have hs:=el nodes p k
   by_cases hlt:k<=m
   .have f1:decide ((k:Int)>m)=false:=yY om
    have hY:YT Tryz.prog 6 [.y5 k,.y5 (Mk nodes p k)] [.c [.d (A7 nodes),.yD gone,.yD A2,.d (.sl 3 grams),.y5 lost],.c [.y5 m],.c [.sl 5 (wl nodes p k).length 1],.c [.d (A7 nodes),.yD gone,.yD A2,.d (.sl 3 grams),.y5 lost],.c [.y5 p],.a (.is (wl nodes p k)),.lp r] fun v K=>v= .y7 true/\K=[.c [.d (A7 nodes),.yD gone,.yD A2,.d (.sl 3 grams),.y5 lost],.c [.y5 m],.c [.sl 5 (wl nodes p (k+1)).length 1],.c [.d (A7 nodes),.yD gone,.yD A2,.d (.sl 3 grams),.y5 lost],.c [.y5 p],.a (.is (wl nodes p (k+1))),.lp r]:=by
     refine CE hr rfl rfl rfl ?_;refine A9 G7 ?_;with_reducible repeat' first|constructor|intro hc
     refine zR ?_;refine Ae G7 ?_ (AQ f1);with_reducible repeat' first|constructor|intro hc
     exact⟨⟨[],[.c [.d (A7 nodes),.yD gone,.yD A2,.d (.sl 3 grams),.y5 lost],.c [.y5 m],.c [.sl 5 (wl nodes p (k+1)).length 1],.c [.d (A7 nodes),.yD gone,.yD A2,.d (.sl 3 grams),.y5 lost],.c [.y5 p],.a (.is (wl nodes p (k+1))),.lp r.busy],_⟩,(have nC:=hs;A5.cn rfl),yV _,rfl,rfl,rfl⟩
    have q1:=@hY;refine AP MR ?_ (AQ @c2);clear q1;with_reducible repeat' first|constructor|intro hc
    refine⟨k+1,om,om,yV _,?_⟩;exact A5.ck rfl
   .have e:k=m+1:=om
    have f1:decide ((k:Int)>m)=true:=yX om
    have hY:YT Tryz.prog 6 [.y5 k,.y5 (Mk nodes p k)] [.c [.d (A7 nodes),.yD gone,.yD A2,.d (.sl 3 grams),.y5 lost],.c [.y5 m],.c [.sl 5 (wl nodes p k).length 1],.c [.d (A7 nodes),.yD gone,.yD A2,.d (.sl 3 grams),.y5 lost],.c [.y5 p],.a (.is (wl nodes p k)),.lp r] fun v K=>v= .y7 false/\K=[.c [.d (A7 nodes),.yD gone,.yD A2,.d (.sl 3 grams),.y5 lost],.c [.y5 m],.c [.sl 5 (wl nodes p k).length 1],.c [.d (A7 nodes),.yD gone,.yD A2,.d (.sl 3 grams),.y5 lost],.c [.y5 p],.a (.is (wl nodes p k)),.lp (r.left (.exit 0))]:=by
     refine CE hr rfl rfl rfl ?_;refine A9 G7 ?_;with_reducible repeat' first|constructor|intro hc
     refine zR ?_;refine Ae G7 ?_ (AQ f1);with_reducible repeat' first|constructor|intro hc
     exact⟨⟨[],[.c [.d (A7 nodes),.yD gone,.yD A2,.d (.sl 3 grams),.y5 lost],.c [.y5 m],.c [.sl 5 (wl nodes p k).length 1],.c [.d (A7 nodes),.yD gone,.yD A2,.d (.sl 3 grams),.y5 lost],.c [.y5 p],.a (.is (wl nodes p k)),.lp r.busy],_⟩,(A5.ck rfl),yV _,rfl,rfl,rfl⟩
    have q1:=@hY;refine AP MR ?_ (AQ @c2);clear q1;with_reducible repeat' first|constructor|intro hc
    subst e;exact⟨⟨[],[.c [.d (A7 nodes),.yD gone,.yD A2,.d (.sl 3 grams),.y5 lost],.c [.y5 m],.c [.sl 5 (wl nodes p (m+1)).length 1],.c [.d (A7 nodes),.yD gone,.yD A2,.d (.sl 3 grams),.y5 lost],.c [.y5 p],.a (.is (wl nodes p (m+1))),.lp (r.left (.exit 0))],_⟩,(A5.ck rfl),yV _,_,_,rfl,rfl,.inr ⟨rfl,rfl⟩⟩
 .rintro r hr y H' (⟨hb,rfl⟩|⟨hb,rfl⟩)
  .refine .inl ⟨rfl,?_⟩;rw[hb]at hT;replace hT:res=[]:=hT;subst hT;have hl:=cH nodes p 0;have hk:=hr.ok (k:=6) rfl;refine A9 G7 ?_;with_reducible repeat' first|constructor|intro hc
   exact BO @wl.eq_1
  .refine .inr ⟨.exit 0,rfl,?_⟩;rw[hb]at hT;replace hT:res=wl nodes p (m+1):=hT;subst hT;refine A9 G7 ?_;with_reducible repeat' first|constructor|intro hc
   exact zE
abbrev DC:BK:=[0,1,2,3,4,5,6,9,15,16,17,27,32]
abbrev G8:BK:=[0,1,2,4,5,6,7,23]
abbrev EM:BK:=[0,1,2,4,5,6,7,10,13,14,15,20,24]
def Xd(l:List A6)(b0:Int)(n:Nat):yW:=(List.range n).find? fun j=>decide (Mk l b0 (j+1)=b0)
def UN(c:BF):Ao×Bool:=if Bs c then match Xd c.nodes (c.A2.getD 0 0) c.nodes.length with
 |some j=>(wl c.nodes (c.A2.getD 0 0) (j+1),true)
 |none=>([],false)else([],false)
variable {q:Nat->Bool}
theorem UF{n k:Nat}(hk:k<n)(h:q k=true)(hn:∀j,j<k->q j=false):(List.range n).find? q=some k:=by
 rw[List.find?_range_eq_some];exact⟨h,by simpa using hk,fun j hj=>by rw[hn j hj];rfl⟩
theorem UG{n:Nat}(hn:∀j,j<n->q j=false):(List.range n).find? q=none:=by
 rw[q0r];intro x hx;rw[hn x (List.mem_range.1 hx)];decide
theorem cV(c:BF)(h:Ve c):yA 11 [c.d] (.tup [.is (UN c).1,.b (UN c).2]):=by
 have c1:=Jj c h
 have hT:UN c=if Bs c then match Xd c.nodes (c.A2.getD 0 0) c.nodes.length with
  |some j=>(wl c.nodes (c.A2.getD 0 0) (j+1),true)
  |none=>([],false)else([],false):=rfl
 have cn:=fun q=>Qx c q h
 have hhas:Bs c=true->∀k,By c.nodes (Mk c.nodes (c.A2.getD 0 0) k)=true:=fun hR=>RB hR (Td hR (by
  have:=(Pr hR).2.1
  rw[El (show 0<c.A2.length by omega)];exact q0a _))
 have hlen:=fun hR:Bs c=true=>Pr hR;have dw:=X7 c (c.A2.getD 0 0)
 generalize UN c=res at *;generalize Bs c=R at *;obtain⟨nodes,gone,A2,grams,lost⟩:=c;simp only at *;refine zF AK Tryz.func11 ?_;unfold BF.d BF.A1 at *;simp only at*
 cases R with
 |false=>
  replace hT:res=([],false):=hT;subst hT;refine AP DC ?_ (AQ @c1);with_reducible repeat' first|constructor|intro hc
  exact zE
 |true=>
 replace hhas:=hhas rfl;obtain⟨hl1,hl2,hl3⟩:=hlen rfl;simp only[zx]at hT;obtain⟨b,hb⟩:=AS (xs:=A2) (k:=0) om;have gb:A2.getD 0 0=b:=BQ hb;have f0:Um 0 A2.length=true:=Em.2 ⟨q0l _,om⟩;rw[gb]at hT hhas dw;refine EL DC ?_ (B1 gb f0) (AQ @c1) (E8 [] dw) [(0,5)];with_reducible repeat' first|constructor|intro hc
 refine Av (A5.PN 1 0 (.is []) rfl rfl rfl rfl trivial) sm ?_
 obtain⟨K0,lab,hK0,hgo,hst⟩:∃(K0:Nat)(lab:Nat),((lab=1/\res=(wl nodes b K0,true))\/(lab=0/\res=([],false)))/\(∀k,k<K0->(k=0\/Mk nodes b k≠b)/\k<nodes.length)/\((lab=1/\0<K0/\Mk nodes b K0=b)\/(lab=0/\(K0=0\/Mk nodes b K0≠b)/\K0=nodes.length)):=by
  cases hbk:Xd nodes b nodes.length with
  |some j=>
   rw[hbk]at hT;unfold Xd at hbk;rw[List.find?_range_eq_some]at hbk;obtain⟨h1,h2,h3⟩:=hbk;refine⟨j+1,1,.inl ⟨rfl,hT⟩,fun k hk=>⟨?_,?_⟩,.inl ⟨rfl,om,by simpa using h1⟩⟩
   .by_cases h0:k=0
    .exact .inl h0
    .right;have:=h3 (k-1) om;rw[show k-1+1=k by omega]at this;simpa using this
   .have:=List.mem_range.1 h2;omega
  |none=>
   rw[hbk]at hT;unfold Xd at hbk;rw[q0r]at hbk
   have hne:∀k,0<k->k<=nodes.length->Mk nodes b k≠b:=fun k hk hkl=>by
    have:=hbk (k-1) (List.mem_range.2 om);rw[show k-1+1=k by omega]at this;simpa using this
   refine⟨nodes.length,0,.inr ⟨rfl,hT⟩,fun k hk=>⟨?_,hk⟩,.inr ⟨rfl,?_,rfl⟩⟩
   .by_cases h0:k=0
    .exact .inl h0
    .exact .inr (hne k om om)
   .by_cases h0:nodes.length=0
    .exact .inl h0
    .exact .inr (hne _ om (yV _))
 clear hT;refine zG (K:=fun r _ H'=>H'=[.c [.d (A7 nodes),.yD gone,.yD A2,.d (.sl 3 grams),.y5 lost],.c [.sl 4 (wl nodes b K0).length 1],.c [.d (A7 nodes),.yD gone,.yD A2,.d (.sl 3 grams),.y5 lost],.c [.y5 b],.a (.is (wl nodes b K0)),.lp (r.left (.goto lab))]) ?_ ?_
 .intro r hr;refine zT AK Tryz.func66 ?_;have hk:=hr.ok (k:=5) rfl;refine A9 G8 ?_;with_reducible repeat' first|constructor|intro hc
  refine CO (fun k=>k<=K0) (fun k:Nat=>[(4,.y5 k),(5,.y5 (Mk nodes b k))]) (fun k=>[(1,.c [.sl 4 (wl nodes b k).length 1]),(4,.a (.is (wl nodes b k)))]) (fun k=>K0+1-k) 0 (yx _) (fun _=>rfl) (fun _=>rfl) ?_ ?_
  .exact A5.ck rfl
  rintro k hkm;have c2:=cn (Mk nodes b k);rw[T9 (hhas k)]at c2;have hw:(V9 nodes (Mk nodes b k)).1=Mk nodes b (k+1):=rfl;rw[hw]at c2;have hl:=cH nodes b k;have hs:=el nodes b k
  by_cases hlt:k<K0
  .obtain⟨g1,g2⟩:=hgo k hlt;have f8:decide ((k:Int)>=nodes.length)=false:=yY om
   have hY:YT Tryz.prog 5 [.y5 k,.y5 (Mk nodes b k)] [.c [.d (A7 nodes),.yD gone,.yD A2,.d (.sl 3 grams),.y5 lost],.c [.sl 4 (wl nodes b k).length 1],.c [.d (A7 nodes),.yD gone,.yD A2,.d (.sl 3 grams),.y5 lost],.c [.y5 b],.a (.is (wl nodes b k)),.lp r] fun v K=>v= .y7 true/\K=[.c [.d (A7 nodes),.yD gone,.yD A2,.d (.sl 3 grams),.y5 lost],.c [.sl 4 (wl nodes b (k+1)).length 1],.c [.d (A7 nodes),.yD gone,.yD A2,.d (.sl 3 grams),.y5 lost],.c [.y5 b],.a (.is (wl nodes b (k+1))),.lp r]:=by
    refine CE hr rfl rfl rfl ?_
    by_cases h0:k=0
    .have f6:decide ((k:Int)>0)=false:=yY om;refine A9 DC ?_;with_reducible repeat' first|constructor|intro hc
     refine zR ?_;refine Ae DC ?_ (B1 f6 f8);with_reducible repeat' first|constructor|intro hc
     exact⟨⟨[],[.c [.d (A7 nodes),.yD gone,.yD A2,.d (.sl 3 grams),.y5 lost],.c [.sl 4 (wl nodes b (k+1)).length 1],.c [.d (A7 nodes),.yD gone,.yD A2,.d (.sl 3 grams),.y5 lost],.c [.y5 b],.a (.is (wl nodes b (k+1))),.lp r.busy],_⟩,(have nC:=hs;A5.cn rfl),yV _,rfl,rfl,rfl⟩
    .have f6:decide ((k:Int)>0)=true:=yX om;have f7:=eq_false' (g1.resolve_left h0);refine A9 DC ?_;with_reducible repeat' first|constructor|intro hc
     refine zR ?_;refine Ae DC ?_ (Ll f6 f8 gb f0 f7);with_reducible repeat' first|constructor|intro hc
     exact⟨⟨[],[.c [.d (A7 nodes),.yD gone,.yD A2,.d (.sl 3 grams),.y5 lost],.c [.sl 4 (wl nodes b (k+1)).length 1],.c [.d (A7 nodes),.yD gone,.yD A2,.d (.sl 3 grams),.y5 lost],.c [.y5 b],.a (.is (wl nodes b (k+1))),.lp r.busy],_⟩,(have nC:=hs;A5.cn rfl),yV _,rfl,rfl,rfl⟩
   have q1:=@hY;refine AP G8 ?_ (AQ @c2);clear q1;with_reducible repeat' first|constructor|intro hc
   refine⟨k+1,om,om,yV _,?_⟩;exact A5.ck rfl
  .have e:k=K0:=om
   subst e
   have hY:YT Tryz.prog 5 [.y5 k,.y5 (Mk nodes b k)] [.c [.d (A7 nodes),.yD gone,.yD A2,.d (.sl 3 grams),.y5 lost],.c [.sl 4 (wl nodes b k).length 1],.c [.d (A7 nodes),.yD gone,.yD A2,.d (.sl 3 grams),.y5 lost],.c [.y5 b],.a (.is (wl nodes b k)),.lp r] fun v K=>v= .y7 false/\K=[.c [.d (A7 nodes),.yD gone,.yD A2,.d (.sl 3 grams),.y5 lost],.c [.sl 4 (wl nodes b k).length 1],.c [.d (A7 nodes),.yD gone,.yD A2,.d (.sl 3 grams),.y5 lost],.c [.y5 b],.a (.is (wl nodes b k)),.lp (r.left (.goto lab))]:=by
    refine CE hr rfl rfl rfl ?_;rcases hst with⟨rfl,g1,g2⟩|⟨rfl,g1,g2⟩
    .have f6:decide ((k:Int)>0)=true:=yX om;have f7:=B6 g2;refine A9 DC ?_;with_reducible repeat' first|constructor|intro hc
     refine zR ?_;refine Ae DC ?_ (Hc f6 gb f0 f7);with_reducible repeat' first|constructor|intro hc
     exact⟨⟨[],[.c [.d (A7 nodes),.yD gone,.yD A2,.d (.sl 3 grams),.y5 lost],.c [.sl 4 (wl nodes b k).length 1],.c [.d (A7 nodes),.yD gone,.yD A2,.d (.sl 3 grams),.y5 lost],.c [.y5 b],.a (.is (wl nodes b k)),.lp r.busy],_⟩,(A5.ck rfl),yV _,rfl,rfl,rfl⟩
    .have f8:decide ((k:Int)>=nodes.length)=true:=yX om
     by_cases h0:k=0
     .have f6:decide ((k:Int)>0)=false:=yY om;refine A9 DC ?_;with_reducible repeat' first|constructor|intro hc
      refine zR ?_;refine Ae DC ?_ (B1 f6 f8);with_reducible repeat' first|constructor|intro hc
      exact⟨⟨[],[.c [.d (A7 nodes),.yD gone,.yD A2,.d (.sl 3 grams),.y5 lost],.c [.sl 4 (wl nodes b k).length 1],.c [.d (A7 nodes),.yD gone,.yD A2,.d (.sl 3 grams),.y5 lost],.c [.y5 b],.a (.is (wl nodes b k)),.lp r.busy],_⟩,(A5.ck rfl),yV _,rfl,rfl,rfl⟩
     .have f6:decide ((k:Int)>0)=true:=yX om;have f7:=eq_false' (g1.resolve_left h0);refine A9 DC ?_;with_reducible repeat' first|constructor|intro hc
      refine zR ?_;refine Ae DC ?_ (Ll f6 f8 gb f0 f7);with_reducible repeat' first|constructor|intro hc
      exact⟨⟨[],[.c [.d (A7 nodes),.yD gone,.yD A2,.d (.sl 3 grams),.y5 lost],.c [.sl 4 (wl nodes b k).length 1],.c [.d (A7 nodes),.yD gone,.yD A2,.d (.sl 3 grams),.y5 lost],.c [.y5 b],.a (.is (wl nodes b k)),.lp r.busy],_⟩,(A5.ck rfl),yV _,rfl,rfl,rfl⟩
   have q1:=@hY;refine AP G8 ?_ (AQ @c2);clear q1;with_reducible repeat' first|constructor|intro hc
   exact⟨⟨[],[.c [.d (A7 nodes),.yD gone,.yD A2,.d (.sl 3 grams),.y5 lost],.c [.sl 4 (wl nodes b k).length 1],.c [.d (A7 nodes),.yD gone,.yD A2,.d (.sl 3 grams),.y5 lost],.c [.y5 b],.a (.is (wl nodes b k)),.lp (r.left (.goto lab))],_⟩,(A5.ck rfl),yV _,_,_,rfl,rfl,rfl⟩
 .rintro r hr y H' rfl;refine .inr ⟨.goto lab,rfl,?_⟩;rcases hK0 with⟨rfl,rfl⟩|⟨rfl,rfl⟩
  .refine A9 DC ?_;with_reducible repeat' first|constructor|intro hc
   exact zE
  .refine A9 DC ?_;with_reducible repeat' first|constructor|intro hc
   exact zE
def V2(l:List A6)(A2:Ao)(p:Int)(n:Nat):yW:=(List.range n).find? fun j=>decide (Mk l p j∈A2)
def Rf(c:BF)(p:Int):Int×Bool:=if Bs c&&By c.nodes p then match V2 c.nodes c.A2 p (c.nodes.length+1)with
 |some j=>((j:Int),true)
 |none=>(0,false)else(0,false)
theorem jg(c:BF)(p:Int)(h:Ve c):yA 14 [c.d,.yE p] (.tup [.yE (Rf c p).1,.b (Rf c p).2]):=by
 have c1:=Jj c h
 have hT:Rf c p=if Bs c&&By c.nodes p then match V2 c.nodes c.A2 p (c.nodes.length+1)with
  |some j=>((j:Int),true)
  |none=>(0,false)else(0,false):=rfl
 have cn:=fun q=>Qx c q h;have cc:=fun q=>Wi.QA c.A2 q (by have:=h.bl;omega)
 have hhas:=fun hR:Bs c=true=>fun hp:By c.nodes p=true=>RB hR hp;have dw:=X7 c p
 have hlen:=fun hR:Bs c=true=>Pr hR;generalize Rf c p=res at*
 generalize Bs c=R at *;obtain⟨nodes,gone,A2,grams,lost⟩:=c;simp only at *;refine zF AK Tryz.func14 ?_;unfold BF.d BF.A1 at *;simp only at*
 cases R with
 |false=>
  replace hT:res=(0,false):=hT;subst hT;refine AP EM ?_ (AQ @c1);with_reducible repeat' first|constructor|intro hc
  exact zE
 |true=>
 obtain⟨hl1,_,_⟩:=hlen rfl;rw[zy]at hT;refine Fc EM ?_ (AQ @c1) (E8 [] dw);with_reducible repeat' first|constructor|intro hc
 refine zG (K:=fun r _ H'=>((By nodes p=false\/V2 nodes A2 p (nodes.length+1)=none)/\(H'=[.c [.d (A7 nodes),.yD gone,.yD A2,.d (.sl 3 grams),.y5 lost],.c [.y5 0],.c [.y7 false],.c [.d (A7 nodes),.yD gone,.yD A2,.d (.sl 3 grams),.y5 lost],.c [.y5 p],.lp r]\/H'=[.c [.d (A7 nodes),.yD gone,.yD A2,.d (.sl 3 grams),.y5 lost],.c [.y5 0],.c [.y7 false],.c [.d (A7 nodes),.yD gone,.yD A2,.d (.sl 3 grams),.y5 lost],.c [.y5 p],.lp (r.left (.exit 0))]))\/
  (∃j:Nat,By nodes p=true/\V2 nodes A2 p (nodes.length+1)=some j/\H'=[.c [.d (A7 nodes),.yD gone,.yD A2,.d (.sl 3 grams),.y5 lost],.c [.y5 j],.c [.y7 true],.c [.d (A7 nodes),.yD gone,.yD A2,.d (.sl 3 grams),.y5 lost],.c [.y5 p],.lp (r.left .ret)])) ?_ ?_
 .intro r hr;refine zT AK Tryz.func66 ?_;have hk:=hr.ok (k:=5) rfl
  cases hb:By nodes p with
  |false=>
   have c2:=cn p;rw[Yb hb]at c2;have un:No 1:=trivial;refine AP G8 ?_ (AQ @c2);clear un;with_reducible repeat' first|constructor|intro hc
   exact⟨⟨[],[.c [.d (A7 nodes),.yD gone,.yD A2,.d (.sl 3 grams),.y5 lost],.c [.y5 0],.c [.y7 false],.c [.d (A7 nodes),.yD gone,.yD A2,.d (.sl 3 grams),.y5 lost],.c [.y5 p],.lp r],_⟩,(A5.ck rfl),yV _,_,_,rfl,rfl,.inl ⟨.inl rfl,.inl rfl⟩⟩
  |true=>
   refine A9 G8 ?_;with_reducible repeat' first|constructor|intro hc
   refine BA (fun k=>k<=nodes.length+1/\∀j,j<k->Mk nodes p j∉A2) (fun k:Nat=>[(4,.y5 k),(5,.y5 (Mk nodes p k))]) (fun k=>nodes.length+2-k) 0 ⟨yx _,fun j hj=>absurd hj (Nat.not_lt_zero _)⟩ (fun _=>rfl) ?_ ?_
   .exact A5.ck rfl
   rintro k ⟨hkm,hpre⟩;have c2:=cn (Mk nodes p k);rw[T9 (hhas rfl hb k)]at c2;have hw:(V9 nodes (Mk nodes p k)).1=Mk nodes p (k+1):=rfl;rw[hw]at c2
   by_cases hlt:k<=nodes.length
   .have f1:decide ((k:Int)>nodes.length)=false:=yY om;have c3:=cc (Mk nodes p k)
    by_cases hin:Mk nodes p k∈A2
    .rw[yX hin]at c3
     have hY:YT Tryz.prog 5 [.y5 k,.y5 (Mk nodes p k)] [.c [.d (A7 nodes),.yD gone,.yD A2,.d (.sl 3 grams),.y5 lost],.c [.y5 0],.c [.y7 false],.c [.d (A7 nodes),.yD gone,.yD A2,.d (.sl 3 grams),.y5 lost],.c [.y5 p],.lp r] fun v K=>v= .y7 false/\K=[.c [.d (A7 nodes),.yD gone,.yD A2,.d (.sl 3 grams),.y5 lost],.c [.y5 k],.c [.y7 true],.c [.d (A7 nodes),.yD gone,.yD A2,.d (.sl 3 grams),.y5 lost],.c [.y5 p],.lp (r.left .ret)]:=by
      refine CE hr rfl rfl rfl ?_;refine A9 EM ?_;with_reducible repeat' first|constructor|intro hc
      refine zR ?_;refine AD EM ?_ (AQ f1) (AQ @c3);with_reducible repeat' first|constructor|intro hc
      exact⟨⟨[],[.c [.d (A7 nodes),.yD gone,.yD A2,.d (.sl 3 grams),.y5 lost],.c [.y5 k],.c [.y7 true],.c [.d (A7 nodes),.yD gone,.yD A2,.d (.sl 3 grams),.y5 lost],.c [.y5 p],.lp r.busy],_⟩,(A5.ck rfl),yV _,rfl,rfl,rfl⟩
     have q1:=@hY;refine AP G8 ?_ (AQ @c2);clear q1;with_reducible repeat' first|constructor|intro hc
     have hn:V2 nodes A2 p (nodes.length+1)=some k:=UF om (yX hin) (fun j hj=>yY (hpre j hj));exact⟨⟨[],[.c [.d (A7 nodes),.yD gone,.yD A2,.d (.sl 3 grams),.y5 lost],.c [.y5 k],.c [.y7 true],.c [.d (A7 nodes),.yD gone,.yD A2,.d (.sl 3 grams),.y5 lost],.c [.y5 p],.lp (r.left .ret)],_⟩,(A5.ck rfl),yV _,_,_,rfl,rfl,.inr ⟨k,rfl,hn,rfl⟩⟩
    .rw[yY hin]at c3
     have hY:YT Tryz.prog 5 [.y5 k,.y5 (Mk nodes p k)] [.c [.d (A7 nodes),.yD gone,.yD A2,.d (.sl 3 grams),.y5 lost],.c [.y5 0],.c [.y7 false],.c [.d (A7 nodes),.yD gone,.yD A2,.d (.sl 3 grams),.y5 lost],.c [.y5 p],.lp r] fun v K=>v= .y7 true/\K=[.c [.d (A7 nodes),.yD gone,.yD A2,.d (.sl 3 grams),.y5 lost],.c [.y5 0],.c [.y7 false],.c [.d (A7 nodes),.yD gone,.yD A2,.d (.sl 3 grams),.y5 lost],.c [.y5 p],.lp r]:=by
      refine CE hr rfl rfl rfl ?_;refine A9 EM ?_;with_reducible repeat' first|constructor|intro hc
      refine zR ?_;refine AD EM ?_ (AQ f1) (AQ @c3);with_reducible repeat' first|constructor|intro hc
      exact⟨⟨[],[.c [.d (A7 nodes),.yD gone,.yD A2,.d (.sl 3 grams),.y5 lost],.c [.y5 0],.c [.y7 false],.c [.d (A7 nodes),.yD gone,.yD A2,.d (.sl 3 grams),.y5 lost],.c [.y5 p],.lp r.busy],_⟩,(A5.ck rfl),yV _,rfl,rfl,rfl⟩
     have q1:=@hY;refine AP G8 ?_ (AQ @c2);clear q1;with_reducible repeat' first|constructor|intro hc
     refine⟨k+1,⟨om,fun j hj=> ?_⟩,om,yV _,?_⟩
     .by_cases e:j=k
      .subst e;exact hin
      .exact hpre j om
     .exact A5.ck rfl
   .have f1:decide ((k:Int)>nodes.length)=true:=yX om;have e:k=nodes.length+1:=om
    have hY:YT Tryz.prog 5 [.y5 k,.y5 (Mk nodes p k)] [.c [.d (A7 nodes),.yD gone,.yD A2,.d (.sl 3 grams),.y5 lost],.c [.y5 0],.c [.y7 false],.c [.d (A7 nodes),.yD gone,.yD A2,.d (.sl 3 grams),.y5 lost],.c [.y5 p],.lp r] fun v K=>v= .y7 false/\K=[.c [.d (A7 nodes),.yD gone,.yD A2,.d (.sl 3 grams),.y5 lost],.c [.y5 0],.c [.y7 false],.c [.d (A7 nodes),.yD gone,.yD A2,.d (.sl 3 grams),.y5 lost],.c [.y5 p],.lp (r.left (.exit 0))]:=by
     refine CE hr rfl rfl rfl ?_;refine A9 EM ?_;with_reducible repeat' first|constructor|intro hc
     refine zR ?_;refine Ae EM ?_ (AQ f1);with_reducible repeat' first|constructor|intro hc
     exact⟨⟨[],[.c [.d (A7 nodes),.yD gone,.yD A2,.d (.sl 3 grams),.y5 lost],.c [.y5 0],.c [.y7 false],.c [.d (A7 nodes),.yD gone,.yD A2,.d (.sl 3 grams),.y5 lost],.c [.y5 p],.lp r.busy],_⟩,(A5.ck rfl),yV _,rfl,rfl,rfl⟩
    have q1:=@hY;refine AP G8 ?_ (AQ @c2);clear q1;with_reducible repeat' first|constructor|intro hc
    have hn:V2 nodes A2 p (nodes.length+1)=none:=UG (fun j hj=>yY (hpre j om));exact⟨⟨[],[.c [.d (A7 nodes),.yD gone,.yD A2,.d (.sl 3 grams),.y5 lost],.c [.y5 0],.c [.y7 false],.c [.d (A7 nodes),.yD gone,.yD A2,.d (.sl 3 grams),.y5 lost],.c [.y5 p],.lp (r.left (.exit 0))],_⟩,(A5.ck rfl),yV _,_,_,rfl,rfl,.inl ⟨.inr hn,.inr rfl⟩⟩
 .rintro r hr y H' (⟨hb,rfl|rfl⟩|⟨j,hb,hn,rfl⟩)
  .refine .inl ⟨rfl,?_⟩;have hk:=hr.ok (k:=5) rfl
   have hT':res=(0,false):=by
    rw[hT];rcases hb with hb|hb
    .rw[hb];rfl
    .rw[hb];split<;>rfl
   subst hT';refine A9 EM ?_;with_reducible repeat' first|constructor|intro hc
   exact zE
  .refine .inr ⟨.exit 0,rfl,?_⟩
   have hT':res=(0,false):=by
    rw[hT];rcases hb with hb|hb
    .rw[hb];rfl
    .rw[hb];split<;>rfl
   subst hT';refine A9 EM ?_;with_reducible repeat' first|constructor|intro hc
   exact zE
  .refine .inr ⟨.ret,rfl,?_⟩;have hT':res=((j:Int),true):=by rw[hT,hb,hn];rfl
   subst hT';refine A9 EM ?_;with_reducible repeat' first|constructor|intro hc
   exact zE
end Nd
end Go.Proofs.YthlmmkmeoblbhaaGreat
namespace Go.Proofs.YthlmmkmeoblbhaaGreat
namespace Nd
open Go.Gar
open Wi (AE BE Ay Ac)
abbrev Dl:BK:=[0,1,4,5,7,8,9,16]
abbrev IE:BK:=[0,1,2,3,4,12,33]
def Ej(A2:Ao)(m:AE):Bool:=decide (m.AG=7)&&FI m.Ax m.A8 A2
def Kl(A2:Ao)(p:Past):Bool:=Ej A2 p.AA
def GO(A2:Ao)(n:A6):Bool:=FI n.A4.id n.A4.A8 A2||(((decide (n.A3=1)||decide (n.A3=2))&&FI n.A4.id [n.BN] A2)||n.BL.any (Kl A2))
def Fg(A2:Ao)(g:Af):Bool:=decide ((Ac g.by_).2=0)&&Ej A2 (Ac g.by_).1
theorem jY(nodes:List A6)(gone A2:Ao)(grams:List (yo))(lost:Int)(x:Int)(l:Ao)(hn:l.length<=9223372036854775807)(hm:A2.length<=9223372036854775807):yB 23 [.y5 x,.yD l,.ptr 0 0 5] [.c [.d (A7 nodes),.yD gone,.yD A2,.d (.sl 3 grams),.y5 lost]] (.y7 (FI x l A2)) [.c [.d (A7 nodes),.yD gone,.yD A2,.d (.sl 3 grams),.y5 lost]]:=by
 have c1:=oi x l A2 hn hm;refine zD AK Tryz.func23 ?_;refine AP [0,1,2,5] ?_ (AQ @c1);with_reducible repeat' first|constructor|intro hc
 exact wE
theorem sr(nodes:List A6)(gone A2:Ao)(grams:List (yo))(lost:Int)(m:AE)(hn:m.A8.length<=9223372036854775807)(hm:A2.length<=9223372036854775807):yB 25 [.d m.d,.ptr 1 0 1] [.c [.d (A7 nodes),.yD gone,.yD A2,.d (.sl 3 grams),.y5 lost],.c [.fn (.func 23) [] [.ptr 0 0 5]]] (.y7 (Ej A2 m)) [.c [.d (A7 nodes),.yD gone,.yD A2,.d (.sl 3 grams),.y5 lost],.c [.fn (.func 23) [] [.ptr 0 0 5]]]:=by
 have c1:=jY nodes gone A2 grams lost m.Ax m.A8 hn hm;refine zD AK Tryz.func25 ?_;have hT:Ej A2 m=(decide (m.AG=7)&&FI m.Ax m.A8 A2):=rfl;generalize Ej A2 m=R at *;generalize FI m.Ax m.A8 A2=s at *;unfold AE.d AE.A1
 by_cases h1:m.AG=7
 .have f1:=B6 h1;rw[yX h1,zy]at hT;subst hT;refine GW [0,1,2,3] ?_ (AQ f1) (E8 [0] c1);with_reducible repeat' first|constructor|intro hc
  exact wE
 .have f1:=eq_false' h1;rw[yY h1,q0Z]at hT;subst hT;refine GW [0,1,2,3] ?_ (AQ f1) (E8 [0] c1);with_reducible repeat' first|constructor|intro hc
  exact wE
theorem tU(nodes:List A6)(gone A2:Ao)(grams:List (yo))(lost:Int)(p:Past)(hn:p.AA.A8.length<=9223372036854775807)(hm:A2.length<=9223372036854775807):yB 28 [.d p.d,.ptr 2 0 1] [.c [.d (A7 nodes),.yD gone,.yD A2,.d (.sl 3 grams),.y5 lost],.c [.fn (.func 23) [] [.ptr 0 0 5]],.c [.fn (.func 25) [] [.ptr 1 0 1]]] (.y7 (Kl A2 p)) [.c [.d (A7 nodes),.yD gone,.yD A2,.d (.sl 3 grams),.y5 lost],.c [.fn (.func 23) [] [.ptr 0 0 5]],.c [.fn (.func 25) [] [.ptr 1 0 1]]]:=by
 have c1:=sr nodes gone A2 grams lost p.AA hn hm;refine zD AK Tryz.func28 ?_;unfold Kl;generalize Ej A2 p.AA=R at *;unfold AE.d AE.A1 at c1;unfold Past.d Past.A1;refine Cd [0,1,2,3] ?_ (E8 [0,1] c1);with_reducible repeat' first|constructor|intro hc
 exact wE
theorem qm(nodes:List A6)(gone A2:Ao)(grams:List (yo))(lost:Int)(l:List Past)(hn:l.length<=9223372036854775807)(hc:∀x∈l,yB 28 [.d x.d,.ptr 2 0 1] [.c [.d (A7 nodes),.yD gone,.yD A2,.d (.sl 3 grams),.y5 lost],.c [.fn (.func 23) [] [.ptr 0 0 5]],.c [.fn (.func 25) [] [.ptr 1 0 1]]] (.y7 (Kl A2 x)) [.c [.d (A7 nodes),.yD gone,.yD A2,.d (.sl 3 grams),.y5 lost],.c [.fn (.func 23) [] [.ptr 0 0 5]],.c [.fn (.func 25) [] [.ptr 1 0 1]]]):yB 61 [.d (Aw l),.fn (.func 28) [] [.ptr 2 0 1]] [.c [.d (A7 nodes),.yD gone,.yD A2,.d (.sl 3 grams),.y5 lost],.c [.fn (.func 23) [] [.ptr 0 0 5]],.c [.fn (.func 25) [] [.ptr 1 0 1]]] (.y5 (E3 (Kl A2) l)) [.c [.d (A7 nodes),.yD gone,.yD A2,.d (.sl 3 grams),.y5 lost],.c [.fn (.func 23) [] [.ptr 0 0 5]],.c [.fn (.func 25) [] [.ptr 1 0 1]]]:=by
 refine zD AK Tryz.func61 ?_;obtain⟨q,hq⟩:∃q,q=Kl A2:=⟨_,rfl⟩;rw[<-hq];replace hc:∀x∈l,yB 28 [.d x.d,.ptr 2 0 1] [.c [.d (A7 nodes),.yD gone,.yD A2,.d (.sl 3 grams),.y5 lost],.c [.fn (.func 23) [] [.ptr 0 0 5]],.c [.fn (.func 25) [] [.ptr 1 0 1]]] (.y7 (q x)) [.c [.d (A7 nodes),.yD gone,.yD A2,.d (.sl 3 grams),.y5 lost],.c [.fn (.func 23) [] [.ptr 0 0 5]],.c [.fn (.func 25) [] [.ptr 1 0 1]]]:=fun x hx=>by rw[hq];exact hc x hx
 clear hq;refine A9 Dl ?_;with_reducible repeat' first|constructor|intro hc
 refine BA (fun k=>k<=l.length/\(l.take k).any q=false) (fun k:Nat=>[(8,.y5 k)]) (fun k=>l.length-k) 0 ⟨yx _,rfl⟩ (fun _=>rfl) ?_ ?_
 .exact A5.ck rfl
 rintro k ⟨hk,hpre⟩
 by_cases hkl:k<l.length
 .obtain⟨x,hx⟩:=AS hkl;have hA:=EB (p:=q) hx;rw[hpre,q0N]at hA;have c1:=hc x (zM hx);unfold Past.d Past.A1 at c1
  cases hb:q x with
  |true=>
   rw[hb]at c1;have ix1:=hx;refine Cd Dl ?_ (E8 [0,1,2] c1);clear ix1;with_reducible repeat' first|constructor|intro hc
   rw[KA hx hb hpre];exact wE
  |false=>
   rw[hb]at c1;have ix1:=hx;refine Cd Dl ?_ (E8 [0,1,2] c1);clear ix1;with_reducible repeat' first|constructor|intro hc
   refine⟨k+1,⟨hkl,by rw[hA,hb]⟩,om,yV _,?_⟩;exact A5.ck rfl
 .have e:k=l.length:=om
  subst e;rw[zU]at hpre;refine A9 Dl ?_;with_reducible repeat' first|constructor|intro hc
  rw[I0 hpre];exact wE
theorem qd(nodes:List A6)(gone A2:Ao)(grams:List (yo))(lost:Int)(l:List Past)(hn:l.length<=9223372036854775807)(hc:∀x∈l,yB 28 [.d x.d,.ptr 2 0 1] [.c [.d (A7 nodes),.yD gone,.yD A2,.d (.sl 3 grams),.y5 lost],.c [.fn (.func 23) [] [.ptr 0 0 5]],.c [.fn (.func 25) [] [.ptr 1 0 1]]] (.y7 (Kl A2 x)) [.c [.d (A7 nodes),.yD gone,.yD A2,.d (.sl 3 grams),.y5 lost],.c [.fn (.func 23) [] [.ptr 0 0 5]],.c [.fn (.func 25) [] [.ptr 1 0 1]]]):yB 27 [.d (Aw l),.fn (.func 28) [] [.ptr 2 0 1]] [.c [.d (A7 nodes),.yD gone,.yD A2,.d (.sl 3 grams),.y5 lost],.c [.fn (.func 23) [] [.ptr 0 0 5]],.c [.fn (.func 25) [] [.ptr 1 0 1]]] (.y7 (l.any (Kl A2))) [.c [.d (A7 nodes),.yD gone,.yD A2,.d (.sl 3 grams),.y5 lost],.c [.fn (.func 23) [] [.ptr 0 0 5]],.c [.fn (.func 25) [] [.ptr 1 0 1]]]:=by
 refine zD AK Tryz.func27 ?_;have c1:=qm nodes gone A2 grams lost l hn hc;rw[<-GM];generalize E3 (Kl A2) l=z at *;refine Cd [0,1,4] ?_ (E8 [0,1,2] c1);with_reducible repeat' first|constructor|intro hc
 exact wE
theorem vu(nodes:List A6)(gone A2:Ao)(grams:List (yo))(lost:Int)(n:A6)(h:P1 n)(hm:A2.length<=9223372036854775807):yB 26 [.d n.d,.ptr 1 0 1,.ptr 2 0 1] [.c [.d (A7 nodes),.yD gone,.yD A2,.d (.sl 3 grams),.y5 lost],.c [.fn (.func 23) [] [.ptr 0 0 5]],.c [.fn (.func 25) [] [.ptr 1 0 1]]] (.y7 (GO A2 n)) [.c [.d (A7 nodes),.yD gone,.yD A2,.d (.sl 3 grams),.y5 lost],.c [.fn (.func 23) [] [.ptr 0 0 5]],.c [.fn (.func 25) [] [.ptr 1 0 1]]]:=by
 have c1:=jY nodes gone A2 grams lost n.A4.id n.A4.A8 (by have:=h.vl;omega) hm;have c2:=jY nodes gone A2 grams lost n.A4.id [n.BN] sm hm;have c3:=qd nodes gone A2 grams lost n.BL (by have:=h.sn;omega) (fun p hp=>tU nodes gone A2 grams lost p (by have:=h.sl p hp;unfold Co at this;omega) hm);have hT:GO A2 n=(FI n.A4.id n.A4.A8 A2||(((decide (n.A3=1)||decide (n.A3=2))&&FI n.A4.id [n.BN] A2)||n.BL.any (Kl A2))):=rfl;refine zD AK Tryz.func26 ?_;generalize GO A2 n=R at *;generalize FI n.A4.id n.A4.A8 A2=s1 at *;generalize FI n.A4.id [n.BN] A2=s2 at *;generalize n.BL.any (Kl A2)=s3 at *;clear h
 cases s1 with
 |true=>
  rw[Bool.true_or]at hT;subst hT;refine Cd IE ?_ (E8 [0] c1);with_reducible repeat' first|constructor|intro hc
  exact wE
 |false=>
 rw[q0N]at hT
 by_cases h1:n.A3=1
 .have f1:=B6 h1
  cases s2 with
  |true=>
   rw[yX h1]at hT;replace hT:R=true:=hT;subst hT;refine GW IE ?_ (AQ f1) (QZ [0] c1 [0] c2);with_reducible repeat' first|constructor|intro hc
   exact wE
  |false=>
   rw[q0W,q0N]at hT;subst hT;refine GW IE ?_ (AQ f1) (vT [0] c1 [0] c2 [0,1,2] c3);with_reducible repeat' first|constructor|intro hc
   exact wE
 .have f1:=eq_false' h1
  by_cases h2:n.A3=2
  .have f2:=B6 h2
   cases s2 with
   |true=>
    rw[yX h2,Bool.or_true]at hT;replace hT:R=true:=hT;subst hT;refine GW IE ?_ (B1 f1 f2) (QZ [0] c1 [0] c2);with_reducible repeat' first|constructor|intro hc
    exact wE
   |false=>
    rw[q0W,q0N]at hT;subst hT;refine GW IE ?_ (B1 f1 f2) (vT [0] c1 [0] c2 [0,1,2] c3);with_reducible repeat' first|constructor|intro hc
    exact wE
  .have f2:=eq_false' h2;rw[yY h1,yY h2]at hT;simp only[Bool.or_false,q0Z,q0N]at hT;subst hT;refine GW IE ?_ (B1 f1 f2) (QZ [0] c1 [0,1,2] c3);with_reducible repeat' first|constructor|intro hc
   exact wE
theorem vw(nodes:List A6)(gone A2:Ao)(grams:List (yo))(lost:Int)(g:Af)(hg:g.by_.length<=1048576)(hm:A2.length<=9223372036854775807):yB 29 [.d g.d,.ptr 2 0 1] [.c [.d (A7 nodes),.yD gone,.yD A2,.d (.sl 3 grams),.y5 lost],.c [.fn (.func 23) [] [.ptr 0 0 5]],.c [.fn (.func 25) [] [.ptr 1 0 1]]] (.y7 (Fg A2 g)) [.c [.d (A7 nodes),.yD gone,.yD A2,.d (.sl 3 grams),.y5 lost],.c [.fn (.func 23) [] [.ptr 0 0 5]],.c [.fn (.func 25) [] [.ptr 1 0 1]]]:=by
 have c1:=Wi.Qi g.by_ om;have c2:=sr nodes gone A2 grams lost (Ac g.by_).1 (by have:=Wi.bz g.by_;omega) hm;have hT:Fg A2 g=(decide ((Ac g.by_).2=0)&&Ej A2 (Ac g.by_).1):=rfl;refine zD AK Tryz.func29 ?_;generalize Fg A2 g=R at *;generalize Ej A2 (Ac g.by_).1=s at *;generalize Ac g.by_=m at *;unfold AE.d AE.A1 at c1 c2;unfold Af.d Af.A1
 by_cases h1:m.2=0
 .have f1:=B6 h1;rw[yX h1,zy]at hT;subst hT;refine EL [0,1,2,3,4,5] ?_ (AQ f1) (AQ @c1) (E8 [0,1] c2);with_reducible repeat' first|constructor|intro hc
  exact wE
 .have f1:=eq_false' h1;rw[yY h1,q0Z]at hT;subst hT;refine AD [0,1,2,3,4,5] ?_ (AQ f1) (AQ @c1);with_reducible repeat' first|constructor|intro hc
  exact wE
theorem ql(nodes:List A6)(gone A2:Ao)(grams:List (yo))(lost:Int)(l:List A6)(hn:l.length<=9223372036854775807)(hc:∀x∈l,yB 26 [.d x.d,.ptr 1 0 1,.ptr 2 0 1] [.c [.d (A7 nodes),.yD gone,.yD A2,.d (.sl 3 grams),.y5 lost],.c [.fn (.func 23) [] [.ptr 0 0 5]],.c [.fn (.func 25) [] [.ptr 1 0 1]]] (.y7 (GO A2 x)) [.c [.d (A7 nodes),.yD gone,.yD A2,.d (.sl 3 grams),.y5 lost],.c [.fn (.func 23) [] [.ptr 0 0 5]],.c [.fn (.func 25) [] [.ptr 1 0 1]]]):yB 64 [.d (A7 l),.fn (.func 26) [] [.ptr 1 0 1,.ptr 2 0 1]] [.c [.d (A7 nodes),.yD gone,.yD A2,.d (.sl 3 grams),.y5 lost],.c [.fn (.func 23) [] [.ptr 0 0 5]],.c [.fn (.func 25) [] [.ptr 1 0 1]]] (.y5 (E3 (GO A2) l)) [.c [.d (A7 nodes),.yD gone,.yD A2,.d (.sl 3 grams),.y5 lost],.c [.fn (.func 23) [] [.ptr 0 0 5]],.c [.fn (.func 25) [] [.ptr 1 0 1]]]:=by
 refine zD AK Tryz.func64 ?_;obtain⟨q,hq⟩:∃q,q=GO A2:=⟨_,rfl⟩;rw[<-hq];replace hc:∀x∈l,yB 26 [.d x.d,.ptr 1 0 1,.ptr 2 0 1] [.c [.d (A7 nodes),.yD gone,.yD A2,.d (.sl 3 grams),.y5 lost],.c [.fn (.func 23) [] [.ptr 0 0 5]],.c [.fn (.func 25) [] [.ptr 1 0 1]]] (.y7 (q x)) [.c [.d (A7 nodes),.yD gone,.yD A2,.d (.sl 3 grams),.y5 lost],.c [.fn (.func 23) [] [.ptr 0 0 5]],.c [.fn (.func 25) [] [.ptr 1 0 1]]]:=fun x hx=>by rw[hq];exact hc x hx
 clear hq;refine A9 Dl ?_;with_reducible repeat' first|constructor|intro hc
 refine BA (fun k=>k<=l.length/\(l.take k).any q=false) (fun k:Nat=>[(8,.y5 k)]) (fun k=>l.length-k) 0 ⟨yx _,rfl⟩ (fun _=>rfl) ?_ ?_
 .exact A5.ck rfl
 rintro k ⟨hk,hpre⟩
 by_cases hkl:k<l.length
 .obtain⟨x,hx⟩:=AS hkl;have hA:=EB (p:=q) hx;rw[hpre,q0N]at hA;have c1:=hc x (zM hx);unfold A6.d at c1
  cases hb:q x with
  |true=>
   rw[hb]at c1;have ix1:=hx;refine Cd Dl ?_ (E8 [0,1,2] c1);clear ix1;with_reducible repeat' first|constructor|intro hc
   rw[KA hx hb hpre];exact wE
  |false=>
   rw[hb]at c1;have ix1:=hx;refine Cd Dl ?_ (E8 [0,1,2] c1);clear ix1;with_reducible repeat' first|constructor|intro hc
   refine⟨k+1,⟨hkl,by rw[hA,hb]⟩,om,yV _,?_⟩;exact A5.ck rfl
 .have e:k=l.length:=om
  subst e;rw[zU]at hpre;refine A9 Dl ?_;with_reducible repeat' first|constructor|intro hc
  rw[I0 hpre];exact wE
theorem qb(nodes:List A6)(gone A2:Ao)(grams:List (yo))(lost:Int)(l:List A6)(hn:l.length<=9223372036854775807)(hc:∀x∈l,yB 26 [.d x.d,.ptr 1 0 1,.ptr 2 0 1] [.c [.d (A7 nodes),.yD gone,.yD A2,.d (.sl 3 grams),.y5 lost],.c [.fn (.func 23) [] [.ptr 0 0 5]],.c [.fn (.func 25) [] [.ptr 1 0 1]]] (.y7 (GO A2 x)) [.c [.d (A7 nodes),.yD gone,.yD A2,.d (.sl 3 grams),.y5 lost],.c [.fn (.func 23) [] [.ptr 0 0 5]],.c [.fn (.func 25) [] [.ptr 1 0 1]]]):yB 31 [.d (A7 l),.fn (.func 26) [] [.ptr 1 0 1,.ptr 2 0 1]] [.c [.d (A7 nodes),.yD gone,.yD A2,.d (.sl 3 grams),.y5 lost],.c [.fn (.func 23) [] [.ptr 0 0 5]],.c [.fn (.func 25) [] [.ptr 1 0 1]]] (.y7 (l.any (GO A2))) [.c [.d (A7 nodes),.yD gone,.yD A2,.d (.sl 3 grams),.y5 lost],.c [.fn (.func 23) [] [.ptr 0 0 5]],.c [.fn (.func 25) [] [.ptr 1 0 1]]]:=by
 refine zD AK Tryz.func31 ?_;have c1:=ql nodes gone A2 grams lost l hn hc;rw[<-GM];generalize E3 (GO A2) l=z at *;refine Cd [0,1,4] ?_ (E8 [0,1,2] c1);with_reducible repeat' first|constructor|intro hc
 exact wE
theorem qk(nodes:List A6)(gone A2:Ao)(grams:List (yo))(lost:Int)(l:List Af)(hn:l.length<=9223372036854775807)(hc:∀x∈l,yB 29 [.d x.d,.ptr 2 0 1] [.c [.d (A7 nodes),.yD gone,.yD A2,.d (.sl 3 grams),.y5 lost],.c [.fn (.func 23) [] [.ptr 0 0 5]],.c [.fn (.func 25) [] [.ptr 1 0 1]]] (.y7 (Fg A2 x)) [.c [.d (A7 nodes),.yD gone,.yD A2,.d (.sl 3 grams),.y5 lost],.c [.fn (.func 23) [] [.ptr 0 0 5]],.c [.fn (.func 25) [] [.ptr 1 0 1]]]):yB 65 [.d (.sl 3 (l.map Af.A1)),.fn (.func 29) [] [.ptr 2 0 1]] [.c [.d (A7 nodes),.yD gone,.yD A2,.d (.sl 3 grams),.y5 lost],.c [.fn (.func 23) [] [.ptr 0 0 5]],.c [.fn (.func 25) [] [.ptr 1 0 1]]] (.y5 (E3 (Fg A2) l)) [.c [.d (A7 nodes),.yD gone,.yD A2,.d (.sl 3 grams),.y5 lost],.c [.fn (.func 23) [] [.ptr 0 0 5]],.c [.fn (.func 25) [] [.ptr 1 0 1]]]:=by
 refine zD AK Tryz.func65 ?_;obtain⟨q,hq⟩:∃q,q=Fg A2:=⟨_,rfl⟩;rw[<-hq];replace hc:∀x∈l,yB 29 [.d x.d,.ptr 2 0 1] [.c [.d (A7 nodes),.yD gone,.yD A2,.d (.sl 3 grams),.y5 lost],.c [.fn (.func 23) [] [.ptr 0 0 5]],.c [.fn (.func 25) [] [.ptr 1 0 1]]] (.y7 (q x)) [.c [.d (A7 nodes),.yD gone,.yD A2,.d (.sl 3 grams),.y5 lost],.c [.fn (.func 23) [] [.ptr 0 0 5]],.c [.fn (.func 25) [] [.ptr 1 0 1]]]:=fun x hx=>by rw[hq];exact hc x hx
 clear hq;refine A9 Dl ?_;with_reducible repeat' first|constructor|intro hc
 refine BA (fun k=>k<=l.length/\(l.take k).any q=false) (fun k:Nat=>[(8,.y5 k)]) (fun k=>l.length-k) 0 ⟨yx _,rfl⟩ (fun _=>rfl) ?_ ?_
 .exact A5.ck rfl
 rintro k ⟨hk,hpre⟩
 by_cases hkl:k<l.length
 .obtain⟨x,hx⟩:=AS hkl;have hA:=EB (p:=q) hx;rw[hpre,q0N]at hA;have c1:=hc x (zM hx);unfold Af.d at c1
  cases hb:q x with
  |true=>
   rw[hb]at c1;have ix1:=hx;refine Cd Dl ?_ (E8 [0,1,2] c1);clear ix1;with_reducible repeat' first|constructor|intro hc
   rw[KA hx hb hpre];exact wE
  |false=>
   rw[hb]at c1;have ix1:=hx;refine Cd Dl ?_ (E8 [0,1,2] c1);clear ix1;with_reducible repeat' first|constructor|intro hc
   refine⟨k+1,⟨hkl,by rw[hA,hb]⟩,om,yV _,?_⟩;exact A5.ck rfl
 .have e:k=l.length:=om
  subst e;rw[zU]at hpre;refine A9 Dl ?_;with_reducible repeat' first|constructor|intro hc
  rw[I0 hpre];exact wE
theorem qa(nodes:List A6)(gone A2:Ao)(grams:List (yo))(lost:Int)(l:List Af)(hn:l.length<=9223372036854775807)(hc:∀x∈l,yB 29 [.d x.d,.ptr 2 0 1] [.c [.d (A7 nodes),.yD gone,.yD A2,.d (.sl 3 grams),.y5 lost],.c [.fn (.func 23) [] [.ptr 0 0 5]],.c [.fn (.func 25) [] [.ptr 1 0 1]]] (.y7 (Fg A2 x)) [.c [.d (A7 nodes),.yD gone,.yD A2,.d (.sl 3 grams),.y5 lost],.c [.fn (.func 23) [] [.ptr 0 0 5]],.c [.fn (.func 25) [] [.ptr 1 0 1]]]):yB 32 [.d (.sl 3 (l.map Af.A1)),.fn (.func 29) [] [.ptr 2 0 1]] [.c [.d (A7 nodes),.yD gone,.yD A2,.d (.sl 3 grams),.y5 lost],.c [.fn (.func 23) [] [.ptr 0 0 5]],.c [.fn (.func 25) [] [.ptr 1 0 1]]] (.y7 (l.any (Fg A2))) [.c [.d (A7 nodes),.yD gone,.yD A2,.d (.sl 3 grams),.y5 lost],.c [.fn (.func 23) [] [.ptr 0 0 5]],.c [.fn (.func 25) [] [.ptr 1 0 1]]]:=by
 refine zD AK Tryz.func32 ?_;have c1:=qk nodes gone A2 grams lost l hn hc;rw[<-GM];generalize E3 (Fg A2) l=z at *;refine Cd [0,1,4] ?_ (E8 [0,1,2] c1);with_reducible repeat' first|constructor|intro hc
 exact wE
def NA(c:BF)(gs:List Af):Bool:=Bs c&&(!(c.nodes.any (GO c.A2))&& !(gs.any (Fg c.A2)))
theorem RU(c:BF)(gs:List Af)(h:Ve c)(hg:c.grams=gs.map Af.A1)(hgb:∀g∈gs,g.by_.length<=1048576):yA 10 [c.d] (.b (NA c gs)):=by
 have c1:=Jj c h;have hgl:gs.length<=1048576:=by have:=h.ll;rw[hg,zY]at this;exact this
 have hT:NA c gs=(Bs c&&(!(c.nodes.any (GO c.A2))&& !(gs.any (Fg c.A2)))):=rfl;generalize NA c gs=R at *;obtain⟨nodes,gone,A2,grams,lost⟩:=c;replace hg:grams=gs.map Af.A1:=hg;have hbl:A2.length<=9223372036854775807:=by have:=h.bl;simp only at this;omega
 have c2:=qb nodes gone A2 grams lost nodes (by have:=h.nl;simp only at this;omega) (fun n hn=>vu nodes gone A2 grams lost n (h.nn n hn) hbl);have c3:=qa nodes gone A2 grams lost gs om (fun g hq=>vw nodes gone A2 grams lost g (hgb g hq) hbl);rw[<-hg]at c3;generalize Bs (BF.mk nodes gone A2 grams lost)=RR at *;simp only at hT;generalize nodes.any (GO A2)=s1 at *;generalize gs.any (Fg A2)=s2 at *;clear h hgb;refine zF AK Tryz.func10 ?_;unfold BF.d BF.A1 at*
 cases RR with
 |false=>
  rw[q0Z]at hT;subst hT;refine AP [0,1,2,3,4,5,6,9] ?_ (AQ @c1);with_reducible repeat' first|constructor|intro hc
  exact zE
 |true=>
 rw[zy]at hT
 cases s1 with
 |true=>
  replace hT:R=false:=hT;subst hT;refine Fc [0,1,2,3,4,5,6,9] ?_ (AQ @c1) (E8 [0,1,2] c2);with_reducible repeat' first|constructor|intro hc
  exact zE
 |false=>
  replace hT:R= !s2:=hT;subst hT;refine Fc [0,1,2,3,4,5,6,9] ?_ (AQ @c1) (QZ [0,1,2] c2 [0,1,2] c3);with_reducible repeat' first|constructor|intro hc
  exact zE
theorem WY(id:Int)(A2:Ao)(hid:i64 id)(hb:A2.length<=1000):P1 (I3 id A2).1:=by
 unfold I3;split
 .have e1:=V3 id A2 hb;have e2:=V4 id A2;have e3:=dy id A2 hid;have e4:=dv id;constructor
  .exact e3
  .intro y hy;replace hy:y∈(newT id A2).1.A8:=hy;rw[e2]at hy;cases hy
  .exact e1
  .show(newT id A2).1.A8.length<=1000;rw[e2];exact yx _
  .intro x hx;replace hx:x∈(newC id).1.op:=hx;rw[e4]at hx;cases hx
  .show(newC id).1.op.length<=1048576;rw[e4];exact yx _
  .intro x hx;cases hx
  all_goals exact yx _
 .exact pC
def n9:A6:=(I3 9 [9,40]).1
def n20:A6:=(I3 20 [9,40]).1
def n40:A6:=(I3 40 [9,40]).1
def kI(n:A6):A6:=⟨⟨n.A4.id,n.A4.A2,[50],n.A4.AO,n.A4.f⟩,n.AJ,n.AI,n.BL,n.A3,n.BN,n.Ag,n.Ak,n.Aj,n.next,n.last,n.keep,n.bad⟩
theorem Gm(n:Int)(h:0<=n/\n<65536):i64 n:=by unfold i64;omega
theorem mc:P1 n9:=WY 9 [9,40] (Gm _ om) (by decide)
theorem uk:P1 n20:=WY 20 [9,40] (Gm _ om) (by decide)
theorem am:P1 n40:=WY 40 [9,40] (Gm _ om) (by decide)
theorem pz{n:A6}(h:P1 n):P1 (kI n):=by
 obtain⟨h1,h2,h3,h4,h5,h6,h7,h8,h9,h10,h11,h12⟩:=h;refine⟨h1,fun y hy=> ?_,h3,(by show([50]:Ao).length<=1000;decide),h5,h6,h7,h8,h9,h10,h11,h12⟩;replace hy:y∈[50]:=hy;rw[q00]at hy;subst hy;exact Gm _ om
theorem Zc{nodes:List A6}(h:∀n∈nodes,P1 n)(hn:nodes.length<=12):Ve ⟨nodes,[],[9,40],[],0⟩:=
 ⟨by show nodes.length<=1048576;omega,h,yx _,by show([9,40]:Ao).length<=_;decide,yx _⟩
theorem ok0:Ve ⟨[n9,n40],[],[9,40],[],0⟩:=Zc (by
 intro n hn;simp only[q0C,q1e,or_false]at hn;rcases hn with rfl|rfl
 .exact mc
 .exact am) (by decide)
theorem ok1:Ve ⟨[n9,n20,n40],[],[9,40],[],0⟩:=Zc (by
 intro n hn;simp only[q0C,q1e,or_false]at hn;rcases hn with rfl|rfl|rfl
 .exact mc
 .exact uk
 .exact am) (by decide)
theorem okb:Ve ⟨[kI n9,n40],[],[9,40],[],0⟩:=Zc (by
 intro n hn;simp only[q0C,q1e,or_false]at hn;rcases hn with rfl|rfl
 .exact pz mc
 .exact am) (by decide)
theorem new0:OK [9,40]=(⟨[n9,n40],[],[9,40],[],0⟩,0):=by
 unfold OK;rw[zN (by decide)];rfl
theorem xY:UN ⟨[n9,n40],[],[9,40],[],0⟩=([9,40],true):=by decide +kernel
theorem vI:Bs ⟨[n9,n40],[],[9,40],[],0⟩=true:=by decide +kernel
theorem xI:XI ⟨[n9,n40],[],[9,40],[],0⟩ 9=(40,true):=by decide +kernel
theorem nextn:XI ⟨[n9,n40],[],[9,40],[],0⟩ 10=(0,false):=by decide +kernel
theorem vH:Rf ⟨[n9,n20,n40],[],[9,40],[],0⟩ 20=(1,true):=by decide +kernel
theorem xZ:UN ⟨[n9,n20,n40],[],[9,40],[],0⟩=([9,40],true):=by decide +kernel
theorem xl:cu ⟨[n9,n20,n40],[],[9,40],[],0⟩ 20 2=[20,40,9]:=by decide +kernel
theorem uN:NA ⟨[n9,n20,n40],[],[9,40],[],0⟩ []=true:=by decide +kernel
theorem uO:NA ⟨[kI n9,n40],[],[9,40],[],0⟩ []=false:=by decide +kernel
theorem xE:Iy ⟨[n9,n40],[],[9,40],[],0⟩ 20=(⟨[n9,n20,n40],[],[9,40],[],0⟩,0):=by
 have e1:YB ⟨[n9,n40],[],[9,40],[],0⟩ 20=true:=by decide +kernel
 have e2:K5 20 n9=true:=by decide +kernel
 have e3:K5 20 n40=false:=by decide +kernel
 unfold Iy;rw[zN e1];simp only[List.takeWhile_cons,List.dropWhile_cons,e2,e3,zx,q0F,zo,List.takeWhile_nil,List.dropWhile_nil];rfl
abbrev U6:BK:=[0,1,3,4,5,6,8,9,10,11,12,13,14,15,16,75]
theorem cF:yA 6 [] (.b true):=by
 have cN:=TX [9,40] (fun y hy=>by
  simp only[q0C,q1e,or_false]at hy;rcases hy with rfl|rfl
  .exact Gm _ om
  .exact Gm _ om) (by decide)
 rw[new0]at cN;have cR:=cV _ ok0;rw[xY]at cR;have cP:=cL _ 9 ok0;rw[xI]at cP;have cQ:=cL _ 10 ok0;rw[nextn]at cQ;have cD:=rp _ 20 0 0 0 0 [] [] false ok0 rfl (Gm _ om) (by decide) vI;rw[xE]at cD;have cE:=jg _ 20 ok1;rw[vH]at cE;have cS:=cV _ ok1;rw[xZ]at cS;have cW:=pe _ 20 2 ok1;rw[xl]at cW;have cC:=RU _ [] ok1 rfl (fun g hg=>by cases hg);rw[uN]at cC;have cB:=RU _ [] okb rfl (fun g hg=>by cases hg);rw[uO]at cB;have cO:=Z6 _ _ _ _ ok0;have eb:∀a d:A6,setRows 2 [.is [50]] 0 [a.A1,d.A1]=[(kI a).A1,d.A1]:=fun a d=>rfl
 generalize n9=a at *;generalize n20=b at *;generalize n40=d at *;unfold BF.d BF.A1 at *;simp only[zV,zh,yu,zI,A7]at cN cR cP cQ cD cE cS cW cC cB cO;refine zF AK Tryz.func6 ?_;have z1:=@cD;refine Fc U6 ?_ (jT @cN @cR @cP @cQ @cE @cS @cW) (E8 [] cO) [] [10];clear z1;with_reducible repeat' first|constructor|intro hc
 refine A9 U6 ?_ [] [11];with_reducible repeat' first|constructor|intro hc
 refine Av (A5.freeze 4 (x:=.sl 76 [(kI a).A1,d.A1]) rfl) (by rw[Dq];exact yV _) ?_;simp only[NE,Eg,AF.FK,AV.FK,AV.F3,LO,Nat.reduceEqDiff,Nat.reduceAdd,decide_true,q1J,B3,yu,zI,zx,zo,reduceCtorEq];refine AP U6 ?_ (B1 @cC @cB);with_reducible repeat' first|constructor|intro hc
 exact zE
end Nd
end Go.Proofs.YthlmmkmeoblbhaaGreat
