/- Part 10 of a proof. Conditions: those that its theorems state. -/
import Derived.Test.YthlmmkmeoblbhaaGreatQ09
set_option linter.unusedSimpArgs false
set_option linter.unusedVariables false
set_option linter.unnecessarySimpa false
set_option maxHeartbeats 40000000
set_option maxRecDepth 4000
namespace Go.Proofs.YthlmmkmeoblbhaaGreat
namespace Wi
open Go.Gar
abbrev Me:BK:=[0,1,4,5,13,17]
def Dp(d:UInt8):List Bool:=(List.range 8).map fun k=>d.toNat.testBit (7-k)
def CP(l:AT):List Bool:=l.flatMap Dp
theorem qA:∀(d:Fin 256)(i:Fin 8),(Cx .and .u8 ((d.1:Int).fdiv (2^min ((i.1:Nat):Int).toNat IntKind.u8.bits)) 1==1)=d.1.testBit i.1:=by decide +kernel
theorem kM(d:UInt8)(i:Int)(h:0<=i)(h':i<=7):(Cx .and .u8 ((d.toNat:Int).fdiv (2^min i.toNat IntKind.u8.bits)) 1==1)=d.toNat.testBit i.toNat:=by
 obtain⟨n,rfl⟩:∃n:Nat,i=n:=⟨i.toNat,om⟩;exact qA ⟨d.toNat,d.toNat_lt⟩ ⟨n,om⟩
theorem Ry(d:UInt8)(k:Nat)(h:k<8):(Dp d).take (k+1)=(Dp d).take k++[d.toNat.testBit (7-k)]:=by
 rw[q0S (by simp[Dp];exact h)];simp[Dp]
def Ld(l:AT)(r:Lp)(s:BitVec 32):yz:=[.c [.d (u32 s)],.c [.d (.by l)],.lp r]
theorem Ii(d:UInt8)(l:AT)(r:Lp)(s:BitVec 32)(hk:F2 3 r.env=true)(hY:∀s b,YT Tryz.prog 2 [.y7 b] (Ld l r s) fun x K=>x= .y7 true/\K=Ld l r (Dc s b)):
  JO Tryz.prog 237 [.y8 d.toNat,.yl 2] (Ld l r s) fun x K=>x= .y7 true/\K=Ld l r (Cw s (Dp d)):=by
 refine zT AK Tryz.func237 ?_;unfold Ld at hY|-
 have hb:∀k:Nat,k<8->Dc (Cw s ((Dp d).take k)) (Cx .and .u8 ((d.toNat:Int).fdiv (2^min (7-(k:Int)).toNat IntKind.u8.bits)) 1==1)=Cw s ((Dp d).take (k+1)):=by
  intro k hk;rw[kM d (7-k) om om,Ry d k hk,F1,show(7-(k:Int)).toNat=7-k by omega];rfl
 refine A9 Me ?_ [] [] false;refine jq 0 _ (fun k:Nat=>1<=k/\k<8) (fun k:Nat=>⟨[(0,.y8 d.toNat),(1,.yl 2),(4,.y7 false),(5,.y5 (7-k))],[.c [.d (u32 (Cw s ((Dp d).take k)))],.c [.d (.by l)],.lp r],18⟩) (fun k=>8-k) 8 2 2 rfl ?_ ?_
 .have h0:Dc s (Cx .and .u8 ((d.toNat:Int).fdiv (2^min 7 8)) 1==1)=Cw s ((Dp d).take 1):=hb 0 om;have q1:=@hY;refine A9 Me ?_ [] [] false;clear q1;refine⟨1,⟨om,om⟩,(show 8-1<8 by omega),y9,?_⟩;exact(have nC:=h0;A5.cn rfl)
 .rintro k ⟨k1,k8⟩;have h0:=hb k k8;have e7:(7-(k:Int)).toNat=7-k:=om
  have h1:=h0;rw[e7,show IntKind.u8.bits=8 from rfl]at h1
  by_cases h:k+1<8
  .have q1:=@hY;refine A9 Me ?_ [] [] false;clear q1;with_reducible repeat' first|constructor|intro hc
   refine⟨k+1,⟨om,h⟩,(show 8-(k+1)<8-k by omega),y9,?_⟩;exact(have nC:=yg h0 h1;A5.cn rfl)
  .have hf:(Dp d).take (k+1)=Dp d:=q17 (by simp[Dp];omega);rw[hf]at h0 h1;have q1:=@hY;refine A9 Me ?_ [] [] false;clear q1;with_reducible repeat' first|constructor|intro hc
   refine⟨_,A5.refl _,yV _,_,_,rfl,rfl,rfl,?_⟩;simp only[e7,h1]
abbrev Jw:BK:=[0,1,4,5,6,7,8,14,16,17,20]
theorem XT{P:Program}{ro:yW}{ops:ya}{i:Nat}{rest:yb}{Q:Exit->St->Prop}{o:Oper}{en e:yr}{hp H':yz}{nt g:Nat}{xs:yq}{r:AV}(hT:Bw P g xs hp r H')(hg:AX ops en o=some true)(h:Cp en o.op=some (g,xs))(hd:Au o.dst nt=true)(he:BU o.dst r en=some e)
  (k:Wl P ro ops (i+1) rest ⟨e,H',nt⟩ Q):Wl P ro ops i (o::rest) ⟨en,hp,nt⟩ Q:=by
 rw[Az he]at k;exact pm hg h hd hT fun r K ⟨h1,h2⟩=>by subst h1;subst h2;exact k
theorem qC(l:AT):yB 160 [.d (.by l)] [] (.fn (.func 236) [] [.ptr 0 0 1]) [.c [.d (.by l)]]:=by
 refine zD AK Tryz.func160 ?_;refine A9 [0,1,2] ?_;exact wE
def ones:BitVec 32:=4294967295#32
def Le(l:AT):BitVec 32:=Cw ones (CP l++List.replicate 32 false)
theorem S5{l:AT}{k:Nat}{d:UInt8}(h:l[k]? =some d):CP (l.take (k+1))=CP (l.take k)++Dp d:=by
 rw[AM h];simp[CP]
theorem qB:Dp 0=List.replicate 8 false:=by decide
theorem te(l:AT)(hl:l.length<70368744177664):yA 115 [.by l] (u32 (Le l)):=by
 refine zF AK Tryz.func115 ?_;have hb:=qC l;refine Cd [0,2,3,4,6,7] ?_ (E8 [] hb);refine zG (K:=fun r _ H'=>H'=Ld l r (Le l)) ?_ ?_
 .intro r hr;have hk:=hr.ok (k:=3) rfl
  have hY:∀s b,YT Tryz.prog 2 [.y7 b] (Ld l r s) fun x K=>x= .y7 true/\K=Ld l r (Dc s b):=by
   intro s b;have hs:=pX s b;unfold Ld u32 at *;refine CE hr rfl rfl rfl ?_;refine A9 [0,2,3,4,6,7] ?_;refine zR ?_;refine AP [0,2,3,4,6,7] ?_ (AQ @hs);refine⟨_,A5.refl _,yV _,rfl,rfl,?_⟩;simp only[List.set_cons_succ,List.set_cons_zero]
  refine zT AK Tryz.func236 ?_;have hz:=hY;unfold Ld at hz|-;refine A9 Jw ?_;refine BY (fun k=>k<=l.length) (fun k:Nat=>⟨[(0,.yl 2),(5,.d (.by l)),(6,.y5 l.length),(7,.y5 k)],Ld l r (Cw ones (CP (l.take k))),22⟩) (fun k=>l.length-k) 0 (yx _) ?_ (yV _) ?_
  .unfold Ld;exact A5.ck rfl
  intro k hkl;unfold Ld
  by_cases hlt:k<l.length
  .obtain⟨d,hd⟩:=AS hlt;have hs:=Ii d l r (Cw ones (CP (l.take k))) (hk 3 rfl).1 hY;have e1:=S5 hd;have e2:Cw (Cw ones (CP (l.take k))) (Dp d)=Cw ones (CP (l.take (k+1))):=by rw[e1,F1]
   rw[e2]at hs;have gd:l.getD k 0=d:=by rw[zJ,hd];rfl
   have t1:=@hs;refine Ae Jw ?_ (AQ gd);clear t1;with_reducible repeat' first|constructor|intro hc
   refine⟨k+1,hlt,om,yV _,?_⟩;exact A5.ck rfl
  .have e:l.take k=l:=q17 om;rw[e];refine A9 Jw ?_;with_reducible repeat' first|constructor|intro hc
   refine BY (fun k=>k<=4) (fun k:Nat=>⟨[(0,.yl 2),(16,.y5 k)],Ld l r (Cw ones (CP l++List.replicate (8*k) false)),22⟩) (fun k=>4-k) 0 (yx _) ?_ (yV _) ?_
   .unfold Ld;simp only[Nat.mul_zero,List.replicate_zero,q07];exact A5.ck rfl
   intro j hj;unfold Ld
   by_cases hjl:j<4
   .have hs:=Ii 0 l r (Cw ones (CP l++List.replicate (8*j) false)) (hk 3 rfl).1 hY
    have e2:Cw (Cw ones (CP l++List.replicate (8*j) false)) (Dp 0)=Cw ones (CP l++List.replicate (8*(j+1)) false):=by
     rw[qB,<-F1,zu,List.replicate_append_replicate];rfl
    rw[e2]at hs;have t1:=@hs;refine A9 Jw ?_;clear t1;with_reducible repeat' first|constructor|intro hc
    refine⟨j+1,hjl,om,yV _,?_⟩;exact A5.ck rfl
   .have e4:j=4:=om
    subst e4;refine A9 Jw ?_;refine⟨_,A5.refl _,yV _,_,_,rfl,rfl,?_⟩;rfl
 .rintro r hr x H' rfl;refine .inl ⟨rfl,?_⟩;unfold Ld u32;refine A9 [0,2,3,4,6,7] ?_;exact zE
abbrev H4:BK:=[0,2,3,4,5,6,10,14,29]
theorem s6(l:AT)(hl:l.length<70368744177664):yA 292 [.by l] (u32 (Le l)):=by
 refine zF AK Tryz.func292 ?_;refine A9 H4 ?_;refine BY (fun k=>k<=l.length) (fun k:Nat=>⟨[(0,.d (.by l)),(2,.d (.i .u32 0)),(3,.d (u32 (Cw ones (CP (l.take k))))),(4,.y5 k)],[],35⟩) (fun k=>l.length-k) 0 (yx _) ?_ (yV _) ?_
 .exact A5.ck rfl
 intro k hkl
 by_cases hlt:k<l.length
 .obtain⟨d,hd⟩:=AS hlt;have gd:l.getD k 0=d:=by rw[zJ,hd];rfl
  refine A9 H4 ?_;with_reducible repeat' first|constructor|intro hc
  refine BY (fun j=>j<=8) (fun j:Nat=>⟨[(0,.d (.by l)),(2,.d (.i .u32 0)),(3,.d (u32 (Cw (Cw ones (CP (l.take k))) ((Dp d).take j)))),(4,.y5 k),(5,.y5 (7-j))],[],35⟩) (fun j=>8-j) 0 (yx _) ?_ (yV _) ?_
  .exact A5.ck rfl
  intro j hj
  by_cases hj8:j<8
  .have h0:Dc (Cw (Cw ones (CP (l.take k))) ((Dp d).take j)) (Cx .and .u8 ((d.toNat:Int).fdiv (2^min (7-(j:Int)).toNat IntKind.u8.bits)) 1==1)=Cw (Cw ones (CP (l.take k))) ((Dp d).take (j+1)):=by
    rw[kM d (7-j) om om,Ry d j hj8,F1,show(7-(j:Int)).toNat=7-j by omega];rfl
   have hw:(7-(j:Int))%18446744073709551616=7-j:=om
   have hs:=ZA (Cw (Cw ones (CP (l.take k))) ((Dp d).take j)) (Cx .and .u8 ((d.toNat:Int).fdiv (2^min (7-(j:Int)).toNat IntKind.u8.bits)) 1==1);rw[h0]at hs;refine AD H4 ?_ (B1 gd hw) (AQ @hs);with_reducible repeat' first|constructor|intro hc
   refine⟨j+1,hj8,om,yV _,?_⟩;exact A5.ck rfl
  .have hj8:j=8:=om
   subst hj8;have e:(Dp d).take 8=Dp d:=q17 (by simp[Dp]);have e2:Cw (Cw ones (CP (l.take k))) ((Dp d).take 8)=Cw ones (CP (l.take (k+1))):=by rw[e,S5 hd,F1]
   rw[e2];refine A9 H4 ?_;refine⟨k+1,hlt,om,yV _,?_⟩;exact A5.ck rfl
 .have e:l.take k=l:=q17 om;rw[e];refine A9 H4 ?_;with_reducible repeat' first|constructor|intro hc
  refine BY (fun k=>k<=32) (fun k:Nat=>⟨[(2,.d (.i .u32 0)),(3,.d (u32 (Cw ones (CP l++List.replicate k false)))),(6,.y5 k)],[],35⟩) (fun k=>32-k) 0 (yx _) ?_ (yV _) ?_
  .simp only[List.replicate_zero,q07];exact A5.ck rfl
  intro j hj
  by_cases hj8:j<32
  .have hs:=ZA (Cw ones (CP l++List.replicate j false)) false
   have h0:Dc (Cw ones (CP l++List.replicate j false)) false=Cw ones (CP l++List.replicate (j+1) false):=by
    rw[List.replicate_succ',<-zu,F1 _ (CP l++List.replicate j false) [false]];rfl
   rw[h0]at hs;refine AP H4 ?_ (AQ @hs);with_reducible repeat' first|constructor|intro hc
   refine⟨j+1,hj8,om,yV _,?_⟩;exact A5.ck rfl
  .have e4:j=32:=om
   subst e4;refine A9 H4 ?_;exact BO @Le.eq_1
def hdr(n:Int):AT:=[UInt8.ofNat (Int.toNat 71),UInt8.ofNat (Int.toNat 1),UInt8.ofNat (n/256%256).toNat,UInt8.ofNat (n%256).toNat]
def be4(s:BitVec 32):AT:=[UInt8.ofNat ((s.toNat:Int)/16777216%256).toNat,UInt8.ofNat ((s.toNat:Int)/65536%256).toNat,UInt8.ofNat ((s.toNat:Int)/256%256).toNat,UInt8.ofNat ((s.toNat:Int)%256).toNat]
def CY(p:AT):AT×Int:=if p.length>112 then([],2)else(hdr p.length++p++be4 (Le (hdr p.length++p)),0)
theorem fd24(n:Nat):(n:Int).fdiv (2^min 24 IntKind.u32.bits)=n/16777216:=by rw[q1I _ (by decide)];rfl
theorem fd16(n:Nat):(n:Int).fdiv (2^min 16 IntKind.u32.bits)=n/65536:=by rw[q1I _ (by decide)];rfl
theorem fd8(n:Nat):(n:Int).fdiv (2^min 8 IntKind.u32.bits)=n/256:=by rw[q1I _ (by decide)];rfl
theorem VK(p:AT):yA 259 [.by p] (.tup [.by (CY p).1,.yE (CY p).2]):=by
 have hz:=o4 (p.length:Int);refine zF AK Tryz.func259 ?_
 by_cases h:p.length>112
 .have e:CY p=([],2):=zN h;rw[zN om]at hz;refine AP [0,2,3,4,5,6,11] ?_ (AQ @hz);exact BO e
 .have e:CY p=(hdr p.length++p++be4 (Le (hdr p.length++p)),0):=zO h;rw[zO om]at hz;have hs:=s6 (hdr p.length++p) (by simp[hdr];omega);have f0:=eq_false' (show(p.length:Int)+8≠0 by omega);unfold hdr at hs;have nS:=f0
  repeat'(first|((with_reducible refine sg ?_);first|with_reducible rfl|((with_reducible refine UC ?_);first|kernel_rfl|rfl|(simp[Hi,Ku,nS];done))|with_reducible refine PD ?_ ?_|with_reducible exact q1L _|with_reducible exact FR _|((with_reducible refine yX ?_);first|omega|(simp only[Mm,nS];omega))|decide|(simp[Mm,slc,Do,D.one,GF,AV.one,nS];done)|(simp[Mm,nS];omega))|((with_reducible refine qS ?_);first|(refine Hx rfl ?_;refine pu AK rfl rfl rfl rfl ?_)|refine pq [17,35] AK rfl rfl rfl rfl rfl rfl ?_ ?_|refine Xq AK rfl rfl rfl rfl ?_ ?_|refine Xn [0,2,3,4,5,6,11] rfl ?_|refine XF (hz) rfl rfl rfl rfl ?_|refine Xw AK rfl rfl rfl rfl ?_ ?_)|refine Mo ?_|refine L3 ?_|(refine XT (Fn.read hs rfl (by simp[EA,Ev,JH,B3])) rfl rfl rfl rfl ?_)|refine JJ ?_|refine Mn ?_|refine H7 ?_|refine JI ?_|refine FQ rfl ?_|refine FP rfl ?_|(refine IJ rfl (fun hc=> ?_) (fun hc=> ?_)<;>(try simp only[Q3]at hc)<;>(try(exfalso;omega))))
  unfold u32;have ow:Lv [17,35]:=trivial;refine AD [0,2,3,4,5,6,11] ?_ (AQ f0) (AQ @hz);clear ow;exact BO (yg e (yg @hdr.eq_1 (yg @be4.eq_1 (yg fd24 (yg fd16 fd8)))))
abbrev H5:BK:=[0,2,3,4,5,6,9,24,39,45,46,61]
def Kf(b:AT):Nat:=(b.getD 2 0).toNat*256+(b.getD 3 0).toNat
def Bl(b:AT):AT×Int:=
 if b.length<8 then([],11)else
 if 120<b.length\/¬((b.getD 0 0).toNat:Int)=71\/¬((b.getD 1 0).toNat:Int)=1\/¬b.length=Kf b+8 then([],12)else
 if(List.range 4).all (fun i=>b.getD (4+Kf b+i) 0==(be4 (Le (b.take (4+Kf b)))).getD i 0)then((b.drop 4).take (Kf b),0)else([],12)
theorem uo:∀(d e:Fin 256),Cx .or .i64 (IntKind.wrap .i64 ((d.1:Int)*2^min 8 64)) e.1=(d.1*256+e.1:Nat):=by decide +kernel
theorem uJ(s:BitVec 32)(k:Nat)(hk:k<4):(s.toNat:Int).fdiv (2^min (24-8*(k:Int)).toNat IntKind.u32.bits)%256=(((be4 s).getD k 0).toNat:Int):=by
 have hs:=s.isLt
 have AH:∀n:Nat,((UInt8.ofNat ((n:Int)%256).toNat).toNat:Int)=n%256:=fun n=>by
  simp[q0o];omega
 have e:k=0\/k=1\/k=2\/k=3:=om
 rw[q1I _ (by exact Int.le_of_lt (Int.pow_pos (by decide)))];rcases e with rfl|rfl|rfl|rfl
 .have:=AH (s.toNat/16777216);simp[be4,IntKind.bits]at this|-;omega
 .have:=AH (s.toNat/65536);simp[be4,IntKind.bits]at this|-;omega
 .have:=AH (s.toNat/256);simp[be4,IntKind.bits]at this|-;omega
 .have:=AH (s.toNat);simp[be4,IntKind.bits]at this|-;omega
theorem pP(b:AT)(hb:b.length<70368744177664):yA 62 [.by b] (.tup [.by (Bl b).1,.yE (Bl b).2]):=by
 refine zF AK Tryz.func62 ?_;have hor:Cx .or .i64 (IntKind.wrap .i64 (((b.getD 2 0).toNat:Int)*2^min 8 64)) ((b.getD 3 0).toNat:Int)=(Kf b:Nat):=uo ⟨(b.getD 2 0).toNat,(b.getD 2 0).toNat_lt⟩ ⟨(b.getD 3 0).toNat,(b.getD 3 0).toNat_lt⟩;have hz:=pW (Kf b:Int)
 by_cases h8:b.length<8
 .have e:Bl b=([],11):=zN h8;refine A9 H5 ?_;with_reducible repeat' first|constructor|intro hc
  exact BO e
 by_cases h:120<b.length\/¬((b.getD 0 0).toNat:Int)=71\/¬((b.getD 1 0).toNat:Int)=1\/¬b.length=Kf b+8
 .have e:Bl b=([],12):=by
   unfold Bl;rw[zO h8,zN h]
  by_cases hq:Kf b<=112
  .rw[zO om]at hz;refine AD H5 ?_ (AQ hor) (AQ @hz);with_reducible repeat' first|constructor|intro hc
   all_goals try(exfalso;omega)
   all_goals(exact BO e )
  .rw[zN om]at hz;refine AD H5 ?_ (AQ hor) (AQ @hz);with_reducible repeat' first|constructor|intro hc
   all_goals try(exfalso;omega)
   all_goals(exact BO e )
 have hn:b.length=Kf b+8:=om
 have h0:((b.getD 0 0).toNat:Int)=71:=om
 have h1:((b.getD 1 0).toNat:Int)=1:=om
 have hl:b.length<=120:=om
 rw[zO om]at hz;have htk:(b.take (4+Kf b)).length=4+Kf b:=by rw[q09];omega
 have hs:=te (b.take (4+Kf b)) om;have e1:((4:Int)+(Kf b:Int)).toNat=4+Kf b:=om
 refine AD H5 ?_ (B1 hor e1) (B1 @hz @hs);with_reducible repeat' first|constructor|intro hc
 unfold u32;refine BY (fun k=>k<=4/\∀i,i<k->b.getD (4+Kf b+i) 0=(be4 (Le (b.take (4+Kf b)))).getD i 0) (fun k:Nat=>⟨[(0,.d (.by b)),(4,.y5 (Kf b)),(5,.d (u32 (Le (b.take (4+Kf b))))),(45,.y5 k)],[],68⟩) (fun k=>4-k) 0 ⟨yx _,fun i hi=>om⟩ ?_ (yV _) ?_
 .unfold u32;exact A5.ck rfl
 rintro k ⟨hk,hall⟩;unfold u32
 by_cases hk4:k<4
 .have e2:((4:Int)+(Kf b:Int)+(k:Int)).toNat=4+Kf b+k:=om
  have e3:=uJ (Le (b.take (4+Kf b))) k hk4
  by_cases hm:b.getD (4+Kf b+k) 0=(be4 (Le (b.take (4+Kf b)))).getD k 0
  .have e4:(((b.getD (4+Kf b+k) 0).toNat:Int)!=(((be4 (Le (b.take (4+Kf b)))).getD k 0).toNat:Int))=false:=by rw[hm];simp
   refine Ae H5 ?_ (DO e2 e3 e4);with_reducible repeat' first|constructor|intro hc
   refine⟨k+1,⟨hk4,fun i hi=> ?_⟩,om,yV _,?_⟩
   .rcases Nat.lt_or_eq_of_le (Nat.le_of_lt_succ hi)with h|h
    .exact hall i h
    .rw[h];exact hm
   exact A5.ck rfl
  .have e4:(((b.getD (4+Kf b+k) 0).toNat:Int)!=(((be4 (Le (b.take (4+Kf b)))).getD k 0).toNat:Int))=true:=by
    rw[bne_iff_ne];intro h;exact hm (q1X.1 om)
   have e:Bl b=([],12):=by
    unfold Bl;rw[zO h8,zO h,zO];intro ha;rw[q0I]at ha;exact hm (by simpa using ha k (List.mem_range.2 hk4))
   refine Ae H5 ?_ (DO e2 e3 e4);with_reducible repeat' first|constructor|intro hc
   exact BO e
 .have e:Bl b=((b.drop 4).take (Kf b),0):=by
   unfold Bl;rw[zO h8,zO h,zN];rw[q0I];intro i hi;simpa using hall i (by have:=List.mem_range.1 hi;omega)
  have e5:(b.take (4+Kf b)).drop 4=(b.drop 4).take (Kf b):=by rw[List.drop_take];congr 1;omega
  refine Ae H5 ?_ (AQ e1);with_reducible repeat' first|constructor|intro hc
  exact BO (yg e e5)
theorem Hz(n:Int):(hdr n).length=4:=rfl
theorem K3(s:BitVec 32):(be4 s).length=4:=rfl
theorem p8(n:Nat)(h:n<256):(UInt8.ofNat n).toNat=n:=by simp[q0o];omega
variable {p:AT}
theorem Gj(h:p.length<=112):CY p=(hdr p.length++p++be4 (Le (hdr p.length++p)),0):=zO om
theorem lW(n:Nat)(h:n<65536):hdr n=[71,1,UInt8.ofNat (n/256),UInt8.ofNat (n%256)]:=by
 have e1:((n:Int)/256%256).toNat=n/256:=om
 have e2:((n:Int)%256).toNat=n%256:=om
 unfold hdr;rw[e1,e2];rfl
theorem TH(h:p.length<=112):Bl (CY p).1=(p,0):=by
 rw[Gj h];generalize hs:be4 (Le (hdr p.length++p))=S;have hS:S.length=4:=by rw[<-hs];rfl
 have hb:hdr p.length++p++S=71::1::UInt8.ofNat (p.length/256)::UInt8.ofNat (p.length%256)::(p++S):=by
  rw[lW p.length om];rfl
 have hfr:Kf (hdr p.length++p++S)=p.length:=by
  rw[hb];unfold Kf;simp only[List.getD_cons_succ,q0u];rw[p8 _ om,p8 _ om];omega
 have htk:(hdr p.length++p++S).take (4+p.length)=hdr p.length++p:=by
  rw[List.take_append_of_le_length (by simp[Hz]),q17 (by simp[Hz])]
 unfold Bl;rw[hfr,htk,hs];rw[zO (by simp[Hz];omega),zO]
 .rw[zN]
  .rw[hb];simp
  .rw[q0I];intro i hi;have hi:=List.mem_range.1 hi;rw[beq_iff_eq,zJ,zJ,zl (by simp[Hz])]
   congr 2
   simp[Hz]
 .rw[hb];simp[hS];omega
theorem TI{b:AT}{e:Int}(h:Bl b=(p,e)):(e=0/\p.length<=112/\(CY p).1=b)\/(e=11/\b.length<8/\p=[])\/(e=12/\8<=b.length/\p=[]):=by
 unfold Bl at h;split at h
 .cases h;exact .inr (.inl ⟨rfl,by assumption,rfl⟩)
 rename_i h8;split at h
 .cases h;exact .inr (.inr ⟨rfl,om,rfl⟩)
 rename_i hc;split at h
 .rename_i hall;simp only[zL]at h;obtain⟨rfl,rfl⟩:=h;refine .inl ⟨rfl,by simp;omega,?_⟩;have hn:b.length=Kf b+8:=om
  have hpl:((b.drop 4).take (Kf b)).length=Kf b:=by simp;omega
  obtain⟨b0,b1,b2,b3,t,rfl⟩:∃b0 b1 b2 b3 t,b=b0::b1::b2::b3::t:=by
   rcases b with _|⟨b0,_|⟨b1,_|⟨b2,_|⟨b3,t⟩⟩⟩⟩<;>first|exact⟨_,_,_,_,_,rfl⟩|(simp at h8)
  have hfr:Kf (b0::b1::b2::b3::t)=b2.toNat*256+b3.toNat:=rfl;have l2:=b2.toNat_lt;have l3:=b3.toNat_lt
  have e0:b0=71:=q1X.1 (by have:((b0.toNat:Nat):Int)=71:=by simpa using Classical.not_not.1 (fun h=>hc (.inr (.inl h)))
                           have:(71:UInt8).toNat=71:=rfl
                           omega)
  have e1:b1=1:=q1X.1 (by have:((b1.toNat:Nat):Int)=1:=by simpa using Classical.not_not.1 (fun h=>hc (.inr (.inr (.inl h))))
                          have:(1:UInt8).toNat=1:=rfl
                          omega)
  rw[Gj (by rw[hpl];omega),hpl]
  have hh:hdr (Kf (b0::b1::b2::b3::t))=[b0,b1,b2,b3]:=by
   rw[lW _ om,hfr,e0,e1,show(b2.toNat*256+b3.toNat)/256=b2.toNat by omega,show(b2.toNat*256+b3.toNat)%256=b3.toNat by omega];simp
  generalize hN:Kf (b0::b1::b2::b3::t)=N at*
  have htk:(b0::b1::b2::b3::t).take (4+N)=hdr N++List.take N (List.drop 4 (b0::b1::b2::b3::t)):=by
   rw[hh,show 4+N=N+4 by omega];rfl
  have htl:(b0::b1::b2::b3::t).drop (4+N)=be4 (Le ((b0::b1::b2::b3::t).take (4+N))):=by
   apply List.ext_getElem?;intro i;rw[q0Y];rcases q0A i 4 with hi|hi
   .have:=q0I.1 hall i (List.mem_range.2 hi);rw[beq_iff_eq,zJ,zJ]at this;rw[yj om]at this|-;rw[yj (by rw[K3];exact hi)]at this|-;simpa using this
   .rw[q0R om,q0R (by rw[K3];exact hi)]
  rw[<-htk,<-htl];exact q0J _ _
 .cases h;exact .inr (.inr ⟨rfl,om,rfl⟩)
def CG(m:AE):AT×Int:=if m.right then CY (Ei m)else([],2)
def Ac(b:AT):AE×Int:=if(Bl b).2=0 then Ed (Bl b).1 else(AU,(Bl b).2)
theorem Wm{m:AE}(h:m.right=true):CG m=((CY (Ei m)).1,0):=by
 have:=LS h;unfold CG;rw[zN h,Gj om]
theorem Qi(b:AT)(hb:b.length<70368744177664):yA 30 [.by b] (.tup [(Ac b).1.d,.yE (Ac b).2]):=by
 have hO:=pP b hb;refine zF AK Tryz.func30 ?_
 by_cases h:(Bl b).2=0
 .have e:Ac b=Ed (Bl b).1:=zN h;have hR:=pU (Bl b).1;have f:=BJ h;unfold AE.d AE.A1 at *;refine AD [0,2,3,4,5,12] ?_ (AQ f) (B1 @hO @hR);exact BO e
 .have e:Ac b=(AU,(Bl b).2):=zO h;have f:=Bp h;unfold AE.d AE.A1;refine AD [0,2,3,4,5,12] ?_ (AQ f) (AQ @hO);exact BO (yg e (yg @AU.eq_1 @AN.eq_1))
theorem cJ:AU.right=false:=by decide +kernel
theorem ox{m:AE}(h:m.right=true):Ac (CY (Ei m)).1=(m,0):=by
 have:=LS h;unfold Ac;rw[TH om];simp only[zx,ZH h]
end Wi
end Go.Proofs.YthlmmkmeoblbhaaGreat
namespace Go.Proofs.YthlmmkmeoblbhaaGreat
open Go.Gar
abbrev G9:BK:=[0,1,4,5,9,44]
abbrev Ef:BK:=[0,1,2,4,5,6,9,14,15,16,28]
abbrev GA:BK:=[0,1,2,4,6,8,9,10,11,18]
def rT(x:Int):Int->Ao->Bool
 |_,[]=>true
 |f,p::r=>(BG p&&decide (An x p>f))&&rT x (An x p) r
def LK(x:Int):Int->Ao->Int
 |f,[]=>f
 |_,p::r=>LK x (An x p) r
theorem Wo(x p:Int):∀(l:Ao)(f:Int),rT x f (l++[p])=(rT x f l&&(BG p&&decide (An x p>LK x f l)))
 |[],f=>by simp[rT,LK]
 |a::r,f=>by
  show((BG a&&decide (An x a>f))&&rT x (An x a) (r++[p]))=(((BG a&&decide (An x a>f))&&rT x (An x a) r)&&(BG p&&decide (An x p>LK x (An x a) r)));rw[Wo x p r];exact(Bool.and_assoc _ _ _).symm
theorem Sv(x p:Int):∀(l:Ao)(f:Int),LK x f (l++[p])=An x p
 |[],f=>rfl
 |a::r,f=>by simp only[zA,LK];exact Sv x p r _
theorem o8(x:Int):∀(l m:Ao)(f:Int),rT x f l=false->rT x f (l++m)=false
 |[],m,f,h=>by cases h
 |a::r,m,f,h=>by
  simp only[zA,rT,q0f]at h|-;rcases h with h|h
  .exact .inl h
  .exact .inr (o8 x r m _ h)
variable {x:Int}{l:Ao}
theorem Wp{f:Int}{k:Nat}(h:rT x f (l.take k)=false):rT x f l=false:=by
 rw[<-q0J k l];exact o8 x _ _ f h
theorem NK{k:Nat}{p:Int}(hp:l[k]? =some p):LK x 0 (l.take (k+1))=An x p:=by
 rw[AM hp,Sv]
def CB(x:Int)(l:Ao):Bool:=decide (l.length<=3)&&rT x 0 l
theorem SS(x a b:Int)(hx:i64 x)(ha:i64 a)(hb:i64 b):yA 182 [.yE x,.yE a,.yE b] (.b (decide (An x b>An x a))):=by
 have c1:=J5 x b hx hb;have c2:=J5 x a hx ha;refine zF AK Tryz.func182 ?_;refine AP [0,1,2,6] ?_ (B1 @c1 @c2);exact zE
theorem lE{p:Int}(h:BG p=true):(p=C9 x)↔An x p=0:=by
 have:=Cq h;unfold C9 An;omega
theorem lD(x:Int):An x (C9 x)=0:=by unfold An C9;omega
theorem dT(x p:Int):An (C9 x) p=An x p:=by unfold An C9;omega
theorem TT(x:Int)(l:Ao)(hx:i64 x)(hl:∀y∈l,i64 y)(hn:l.length<=9223372036854775807):yA 125 [.yE x,.is l] (.b (CB x l)):=by
 refine zF AK Tryz.func125 ?_;refine A9 G9 ?_;refine BY (fun k=>k<=l.length/\rT x 0 (l.take k)=true) (fun k:Nat=>⟨[(0,.y5 x),(1,.yD l),(4,.y7 false),(5,.y5 k)],[],48⟩) (fun k=>l.length-k) 0 ⟨yx _,rfl⟩ ?_ (yV _) ?_
 .exact A5.ck rfl
 rintro k ⟨hk,hpre⟩
 by_cases hkl:k<l.length
 .obtain⟨p,hp⟩:=AS hkl;have gp:=BQ hp;have hs:=Wo x p (l.take k) 0;rw[<-AM hp,hpre,zy]at hs;have hbad:rT x 0 (l.take (k+1))=false->CB x l=false:=fun h=>by unfold CB;rw[Wp h,q0W]
  have c1:=NR p;have c2:=C1 x hx;have f0:=lE (x:=x) (p:=p);have hfl:=dS x p
  cases hpl:BG p with
  |false=>
   rw[hpl]at c1 hs;have hB:=hbad hs;refine AD G9 ?_ (AQ gp) (AQ @c1);with_reducible repeat' first|constructor|intro hc
   exact BO hB
  |true=>
   rw[hpl]at c1 hs;rw[zy]at hs
   by_cases he:p=C9 x
   .have hB:=hbad (by
     rw[hs,(f0 hpl).1 he];refine yY ?_
     have:0<=LK x 0 (l.take k):=by
      cases k with
      |zero=>exact q0l _
      |succ j=>
       obtain⟨q,hq⟩:=AS (xs:=l) (k:=j) om;rw[NK hq];exact(dS x q).1
     omega)
    have f1:=B6 he;refine AD G9 ?_ (B1 gp f1) (B1 @c1 @c2);with_reducible repeat' first|constructor|intro hc
    exact BO hB
   .have f1:=eq_false' he
    by_cases k0:k=0
    .subst k0
     have hok:rT x 0 (l.take 1)=true:=by
      rw[hs];refine yX ?_;have h1:An x p≠0:=fun h=>he ((f0 hpl).2 h)
      show An x p>0;omega
     refine AD G9 ?_ (B1 gp f1) (B1 @c1 @c2);with_reducible repeat' first|constructor|intro hc
     refine⟨1,⟨hkl,hok⟩,om,yV _,?_⟩;exact A5.ck rfl
    .obtain⟨q,hq⟩:=AS (xs:=l) (k:=k-1) om;have gq:=BQ hq
     have hlq:LK x 0 (l.take k)=An x q:=by
      have:=NK (x:=x) hq;rwa [show k-1+1=k by omega]at this
     have c3:=SS x q p hx (hl q (zM hq)) (hl p (zM hp));have f2:(k:Int)-1=((k-1:Nat):Int):=om
     have f3:decide ((k:Int)>0)=true:=yX om;rw[hlq]at hs
     cases hd:decide (An x p>An x q)with
     |true=>
      rw[hd]at hs c3;refine AD G9 ?_ (Ll gp gq f1 f2 f3) (DO @c1 @c2 @c3);with_reducible repeat' first|constructor|intro hc
      refine⟨k+1,⟨hkl,hs⟩,om,yV _,?_⟩;exact A5.ck rfl
     |false=>
      rw[hd]at hs c3;have hB:=hbad hs;refine AD G9 ?_ (Ll gp gq f1 f2 f3) (DO @c1 @c2 @c3);with_reducible repeat' first|constructor|intro hc
      exact BO hB
 .have e:k=l.length:=om
  subst e;rw[zU]at hpre;have hR:CB x l=decide (l.length<=3):=by unfold CB;rw[hpre,Bool.and_true]
  by_cases h3:l.length<=3
  .have f1:decide ((l.length:Int)<=3)=true:=yX om;have hT:CB x l=true:=by rw[hR];exact yX h3
   refine Ae G9 ?_ (AQ f1);with_reducible repeat' first|constructor|intro hc
   exact BO hT
  .have f1:decide ((l.length:Int)<=3)=false:=yY om;have hT:CB x l=false:=by rw[hR];exact yY h3
   refine Ae G9 ?_ (AQ f1);with_reducible repeat' first|constructor|intro hc
   exact BO hT
theorem EH(x:Int)(l:Ao)(hx:i64 x)(hl:∀y∈l,i64 y)(hn:l.length<=1000):yA 125 [.yE x,.is l] (.b (CB x l)):=TT x l hx hl (q0E hn (by decide))
theorem Ii(x:Int)(l:Ao):yB 58 [.y5 x,.yD l] [] (.fn (.func 112) [] [.ptr 0 0 1,.ptr 1 0 1]) [.c [.y5 x],.c [.yD l]]:=by
 refine zD AK Tryz.func58 ?_;refine A9 [0,1,2,3,4] ?_;exact wE
def ahead(x:Int)(l:Ao):Nat->Int
 |0=>x
 |k+1=>l.getD k 0
theorem fF(x:Int)(l:Ao)(k:Nat)(hk:k<=l.length):An x (ahead (C9 x) l k)=LK x 0 (l.take k):=by
 cases k with
 |zero=>exact lD x
 |succ j=>
  obtain⟨q,hq⟩:=AS (xs:=l) (k:=j) om;rw[NK hq];show An x (l.getD j 0)=_;rw[BQ hq]
theorem aZ(x:Int)(l:Ao)(hn:l.length<=9223372036854775807):yA 149 [.yE x,.is l] (.b (CB x l)):=by
 refine zF AK Tryz.func149 ?_
 by_cases h3:l.length>3
 .have f1:decide ((l.length:Int)>3)=true:=yX om;have hT:CB x l=false:=by unfold CB;rw[yY om];rfl
  refine Ae Ef ?_ (AQ f1);exact BO hT
 have f1:decide ((l.length:Int)>3)=false:=yY om;have hR:CB x l=rT x 0 l:=by unfold CB;rw[yX om];rfl
 have cx:=L1 x;refine EL Ef ?_ (AQ f1) (AQ @cx) (E8 [] (Ii (C9 x) l))
 refine zG (K:=fun r _ H'=>(rT x 0 l=true/\H'=[.c [.y5 (C9 x)],.c [.y7 false],.c [.y5 (C9 x)],.c [.yD l],.lp r])\/
  (rT x 0 l=false/\H'=[.c [.y5 (C9 x)],.c [.y7 false],.c [.y5 (C9 x)],.c [.yD l],.lp (r.left .ret)])) ?_ ?_
 .intro r hr;refine zT AK Tryz.func112 ?_;refine A9 GA ?_;have hk:=hr.ok (k:=4) rfl;refine BY (fun k=>k<=l.length/\rT x 0 (l.take k)=true) (fun k:Nat=>⟨[(0,.yl 4),(1,.ptr 2 0 1),(2,.ptr 3 0 1),(4,.y5 (ahead (C9 x) l k)),(8,.yD l),(9,.y5 l.length),(10,.y5 k)],[.c [.y5 (C9 x)],.c [.y7 false],.c [.y5 (C9 x)],.c [.yD l],.lp r],21⟩) (fun k=>l.length-k) 0 ⟨yx _,rfl⟩ ?_ (yV _) ?_
  .exact(have nC:=@ahead.eq_1;A5.cn rfl)
  rintro k ⟨hkk,hpre⟩
  by_cases hkl:k<l.length
  .obtain⟨p,hp⟩:=AS hkl;have gp:=BQ hp;have hs:=Wo x p (l.take k) 0;rw[<-AM hp,hpre,zy]at hs;have ha:=fF x l k hkk;have ga:ahead (C9 x) l (k+1)=p:=gp;have c1:=gC p;have c2:=P7 (C9 x) p;have c3:=P7 (C9 x) (ahead (C9 x) l k);rw[dT]at c2 c3;rw[ha]at c3;generalize LK x 0 (l.take k)=lf at *;generalize ahead (C9 x) l k=ak at*
   have hb:decide (An x p<=lf)= !decide (An x p>lf):=by
    by_cases h:An x p>lf
    .rw[yX h,yY om];rfl
    .rw[yY h,yX om];rfl
   cases hpl:BG p with
   |false=>
    rw[hpl]at c1 hs;refine Ae GA ?_ (AQ gp);with_reducible repeat' first|constructor|intro hc
    refine Xy (x:=.y7 false) (H':=[.c [.y5 (C9 x)],.c [.y7 false],.c [.y5 (C9 x)],.c [.yD l],.lp (r.left .ret)]) (CE hr rfl rfl rfl ?_) rfl rfl rfl rfl rfl ?_
    .refine A9 Ef ?_;refine zR ?_;refine AP Ef ?_ (AQ @c1);exact⟨_,A5.refl _,yV _,rfl,rfl,rfl⟩
    .refine A9 GA ?_;exact⟨_,A5.refl _,yV _,_,_,rfl,rfl,.inr ⟨Wp hs,rfl⟩⟩
   |true=>
    rw[hpl]at c1 hs;rw[zy]at hs
    cases hd:decide (An x p>lf)with
    |false=>
     rw[hd]at hs hb;refine Ae GA ?_ (AQ gp);with_reducible repeat' first|constructor|intro hc
     refine Xy (x:=.y7 false) (H':=[.c [.y5 (C9 x)],.c [.y7 false],.c [.y5 (C9 x)],.c [.yD l],.lp (r.left .ret)]) (CE hr rfl rfl rfl ?_) rfl rfl rfl rfl rfl ?_
     .refine A9 Ef ?_;refine zR ?_;refine AD Ef ?_ (AQ hb) (DO @c1 @c2 @c3);exact⟨_,A5.refl _,yV _,rfl,rfl,rfl⟩
     .refine A9 GA ?_;exact⟨_,A5.refl _,yV _,_,_,rfl,rfl,.inr ⟨Wp hs,rfl⟩⟩
    |true=>
     rw[hd]at hs hb;refine Ae GA ?_ (AQ gp);with_reducible repeat' first|constructor|intro hc
     refine Xy (x:=.y7 true) (H':=[.c [.y5 (C9 x)],.c [.y7 false],.c [.y5 (C9 x)],.c [.yD l],.lp r]) (CE hr rfl rfl rfl ?_) rfl rfl rfl rfl rfl ?_
     .refine A9 Ef ?_;refine zR ?_;refine AD Ef ?_ (AQ hb) (DO @c1 @c2 @c3);exact⟨_,A5.refl _,yV _,rfl,rfl,rfl⟩
     .refine A9 GA ?_;refine⟨k+1,⟨hkl,hs⟩,om,yV _,?_⟩;exact(have nC:=ga;A5.cn rfl)
  .have e:k=l.length:=om
   subst e;rw[zU]at hpre;refine A9 GA ?_;with_reducible repeat' first|constructor|intro hc
   exact⟨_,A5.refl _,yV _,_,_,rfl,rfl,.inl ⟨hpre,rfl⟩⟩
 .rintro r hr y H' (⟨h,rfl⟩|⟨h,rfl⟩)
  .refine .inl ⟨rfl,?_⟩;rw[h]at hR;refine A9 Ef ?_;exact BO hR
  .refine .inr ⟨.ret,rfl,?_⟩;rw[h]at hR;refine A9 Ef ?_;exact BO hR
end Go.Proofs.YthlmmkmeoblbhaaGreat
namespace Go.Proofs.YthlmmkmeoblbhaaGreat
namespace Wi
open Go.Gar
theorem bW(b:AT):(Ed b).1.A8.length<=255:=by
 unfold Ed;split
 .exact yx _
 split
 .exact yx _
 .rename_i m r h1;split
  .exact yx _
  .rename_i m' r' h2;have h3:=(TL h2 (by rw[(KL h1).2.2];exact yx _)).1;split
   .exact h3
   .exact yx _
theorem bz(b:AT):(Ac b).1.A8.length<=255:=by
 unfold Ac;split
 .exact bW _
 .exact yx _
end Wi
end Go.Proofs.YthlmmkmeoblbhaaGreat
namespace Go.Proofs.YthlmmkmeoblbhaaGreat
open Go.Gar
def Dt(a x b:Int):Bool:=if C9 a=C9 b then decide (C9 x≠C9 a)else decide (An a x>0/\An a x<An a b)
def FI:Int->Ao->Ao->Bool
 |_,[],_=>false
 |a,p::r,A2=>A2.any (fun b=>Dt a b p)||FI p r A2
theorem jI{g:Int->Bool}{l:Ao}{k:Nat}{b:Int}(hb:l[k]? =some b)(h:g b=false)(hp:∀x∈l.take k,g x=false):∀x∈l.take (k+1),g x=false:=by
 intro x hx;rw[AM hb,q04]at hx;rcases hx with hx|hx
 .exact hp x hx
 .rw[q00.1 hx];exact h
theorem Pn{x:Int}(g:Int->Bool):∀(l:Ao)(f e:Int),rT x f l=true->e<=f->rT x e (l.filter g)=true
 |[],f,e,_,_=>rfl
 |a::r,f,e,h,he=>by
  simp only[rT,yU,yc]at h
  cases hg:g a with
  |true=>
   rw[List.filter_cons_of_pos hg];simp only[rT,yU,yc];exact⟨⟨h.1.1,om⟩,Pn g r _ _ h.2 (q0l _)⟩
  |false=>
   rw[List.filter_cons_of_neg (by rw[hg];simp)];exact Pn g r _ _ h.2 om
theorem o7{x:Int}:∀(l:Ao)(f:Int),rT x f l=true->∀y∈l,An x y>f
 |[],f,_,y,hy=>by cases hy
 |a::r,f,h,y,hy=>by
  simp only[rT,yU,yc]at h;rcases q0C.1 hy with rfl|hy
  .exact h.1.2
  .have:=o7 r _ h.2 y hy;omega
theorem bm{x:Int}{A2:Ao}(hb:∀b∈A2,BG b=true):∀(l:Ao)(a:Int),rT x (An x a) l=true->
  (FI a l A2=true↔∃b∈A2,An x a<An x b/\(∃p∈l,An x b<An x p)/\b∉l)
 |[],a,_=>by simp[FI]
 |p::r,a,h=>by
  simp only[rT,yU,yc]at h;obtain⟨⟨hp,hf⟩,hr⟩:=h;have hpl:=Cq hp;have hfar:=o7 r _ hr
  have hbt:∀b,Dt a b p=true↔An x a<An x b/\An x b<An x p:=by
   intro b;have hne:C9 a≠C9 p:=by unfold C9;unfold An at hf;omega
   unfold Dt;rw[zO hne,yc];unfold An at *;omega
  simp only[FI,q0G,q1E,hbt];rw[bm hb r p hr];constructor
  .rintro(⟨b,h1,h2,h3⟩|⟨b,h1,h2,⟨q,h3,h4⟩,h5⟩)
   .refine⟨b,h1,h2,⟨p,q02 ..,h3⟩,fun hm=> ?_⟩;rcases q0C.1 hm with rfl|hm
    .omega
    .have:=hfar b hm;omega
   .refine⟨b,h1,om,⟨q,q05 _ h3,h4⟩,fun hm=> ?_⟩;rcases q0C.1 hm with rfl|hm
    .omega
    .exact h5 hm
  .rintro⟨b,h1,h2,⟨q,h3,h4⟩,h5⟩
   by_cases e:An x b<An x p
   .exact .inl ⟨b,h1,h2,e⟩
   .right;have hbp:=Cq (hb b h1)
    have hne:An x b≠An x p:=fun e2=>h5 (by
     have:b=p:=by unfold An at e2;omega
     rw[this];exact q02 ..)
    refine⟨b,h1,om,⟨q,?_,h4⟩,fun hm=>h5 (q05 _ hm)⟩;rcases q0C.1 h3 with rfl|h3
    .omega
    .exact h3
end Go.Proofs.YthlmmkmeoblbhaaGreat
