/- Part 10 of a proof. Conditions: those that its theorems state. -/
import Derived.Test.YtkljbfejbakooaaGreatDoorS06
import Derived.Test.YtkljbfejbakooaaGreatDoorS08
import Derived.Test.YtkljbfejbakooaaGreatDoorS09
set_option linter.unusedSimpArgs false
set_option linter.unusedVariables false
set_option maxHeartbeats 40000000
set_option maxRecDepth 4000
namespace Go.Proofs.YtkljbfejbakooaaGreatDoor
namespace Wi
open Go.Gar
abbrev K5:List Nat:=[0,1,4,5,13,17]
def D4(d:UInt8):List Bool:=(List.range 8).map fun k=>d.toNat.testBit (7-k)
def DD(l:List UInt8):List Bool:=l.flatMap D4
theorem gR:∀(d:Fin 256)(i:Fin 8),(C9 .and .u8 ((d.1:Int).fdiv (2^min ((i.1:Nat):Int).toNat IntKind.u8.bits)) 1==1)=d.1.testBit i.1:=by decide +kernel
theorem bU(d:UInt8)(i:Int)(h:0<=i)(h':i<=7):(C9 .and .u8 ((d.toNat:Int).fdiv (2^min i.toNat IntKind.u8.bits)) 1==1)=d.toNat.testBit i.toNat:=by
 obtain⟨n,rfl⟩:∃n:Nat,i=n:=⟨i.toNat,om⟩;exact gR ⟨d.toNat,d.toNat_lt⟩ ⟨n,om⟩
theorem OG(d:UInt8)(k:Nat)(h:k<8):(D4 d).take (k+1)=(D4 d).take k++[d.toNat.testBit (7-k)]:=by
 rw[rU (by simp[D4];exact h)];simp[D4]
def JE(l:List UInt8)(r:Lp)(s:BitVec 32):List A3:=[.c [.d (u32 s)],.c [.d (.by l)],.lp r]
theorem Ls(d:UInt8)(l:List UInt8)(r:Lp)(s:BitVec 32)(hk:E0 3 r.env=true)(hY:∀s b,YT Tryz.prog 2 [.pq b] (JE l r s) fun x K=>x= .pq true/\K=JE l r (FE s b)):
  IY Tryz.prog 308 [.pz d.toNat,.yl 2] (JE l r s) fun x K=>x= .pq true/\K=JE l r (DK s (D4 d)):=by
 refine zT A4 Tryz.func308 ?_;unfold JE at hY|-
 have hb:∀k:Nat,k<8->FE (DK s ((D4 d).take k)) (C9 .and .u8 ((d.toNat:Int).fdiv (2^min (7-(k:Int)).toNat IntKind.u8.bits)) 1==1)=DK s ((D4 d).take (k+1)):=by
  intro k hk;rw[bU d (7-k) om om,OG d k hk,HR,show(7-(k:Int)).toNat=7-k by omega];rfl
 refine wd K5 [] A0 A0 ?_;refine Sy 0 _ (fun k:Nat=>1<=k/\k<8) (fun k:Nat=>⟨[(0,.pz d.toNat),(1,.yl 2),(4,.pq false),(5,.pY (7-k))],[.c [.d (u32 (DK s ((D4 d).take k)))],.c [.d (.by l)],.lp r],18⟩) (fun k=>8-k) 8 2 2 rfl ?_ ?_
 .have h0:FE s (C9 .and .u8 ((d.toNat:Int).fdiv (2^min 7 8)) 1==1)=DK s ((D4 d).take 1):=hb 0 om;have q1:=@hY;refine wd K5 [] A0 A0 ?_;clear q1;refine⟨1,⟨om,om⟩,(show 8-1<8 by omega),qA,?_⟩;exact(have nC:=h0;A1.cn rfl)
 .rintro k ⟨k1,k8⟩;have h0:=hb k k8;have e7:(7-(k:Int)).toNat=7-k:=om
  have h1:=h0;rw[e7,show IntKind.u8.bits=8 from rfl]at h1
  by_cases h:k+1<8
  .have q1:=@hY;refine wd K5 [] A0 A0 ?_;clear q1;with_reducible repeat' first|constructor|intro hc;try simp only[AB]at hc
   refine⟨k+1,⟨om,h⟩,(show 8-(k+1)<8-k by omega),qA,?_⟩;exact(have nC:=qQ h0 h1;A1.cn rfl)
  .have hf:(D4 d).take (k+1)=D4 d:=sS (by simp[D4];omega);rw[hf]at h0 h1;have q1:=@hY;refine wd K5 [] A0 A0 ?_;clear q1;with_reducible repeat' first|constructor|intro hc;try simp only[AB]at hc
   refine⟨_,A1.refl _,qG _,_,_,rfl,rfl,rfl,?_⟩;simp only[e7,h1]
abbrev Mu:List Nat:=[0,1,4,5,6,7,8,14,16,17,20]
theorem XT{P:Program}{ro:Option Nat}{ops:Array Oper}{i:Nat}{rest:List Oper}{Q:Exit->St->Prop}{o:Oper}{en e:List (Nat×AV)}{hp H':List A3}{nt g:Nat}{xs:List AV}{r:AV}(hT:AY P g xs hp r H')(hg:A8 ops en o=some true)(h:BE en o.op=some (g,xs))(hd:AE o.dst nt=true)(he:Aq o.dst r en=some e)
  (k:Wl P ro ops (i+1) rest ⟨e,H',nt⟩ Q):Wl P ro ops i (o::rest) ⟨en,hp,nt⟩ Q:=by
 rw[AM he]at k;exact gF hg h hd hT fun r K ⟨h1,h2⟩=>by subst h1;subst h2;exact k
theorem gT(l:List UInt8):qC 258 [.d (.by l)] [] (.fn (.func 307) [] [.ptr 0 0 1]) [.c [.d (.by l)]]:=by
 refine zD A4 Tryz.func258 ?_;refine wd [0,1,2] [] A0 A0 ?_;exact⟨_,(A1.ck rfl),qP _,_,_,rfl,rfl,rfl,rfl⟩
def ones:BitVec 32:=4294967295#32
def Ic(l:List UInt8):BitVec 32:=DK ones (DD l++List.replicate 32 false)
theorem OH{l:List UInt8}{k:Nat}{d:UInt8}(h:l[k]? =some d):DD (l.take (k+1))=DD (l.take k)++D4 d:=by
 rw[AQ h];simp[DD]
theorem gS:D4 0=List.replicate 8 false:=by decide
theorem au(l:List UInt8)(hl:l.length<70368744177664):qB 178 [.by l] (u32 (Ic l)):=by
 refine zF A4 Tryz.func178 ?_;have hb:=gT l;have d1:=Ds.mk [] (hb);refine wd [0,2,3,4,6,7] [] A0 A0 ?_;clear d1;refine zG (K:=fun r _ H'=>H'=JE l r (Ic l)) ?_ ?_
 .intro r hr;have hk:=hr.ok (k:=3) rfl
  have hY:∀s b,YT Tryz.prog 2 [.pq b] (JE l r s) fun x K=>x= .pq true/\K=JE l r (FE s b):=by
   intro s b;have hs:=g0 s b;unfold JE u32 at *;refine AZ hr rfl rfl rfl ?_;refine wd [0,2,3,4,6,7] [] A0 A0 ?_;refine zR ?_;refine wd [0,2,3,4,6,7] [] A0 (A6 @hs) ?_;refine⟨_,A1.refl _,qG _,rfl,rfl,?_⟩;simp only[List.set_cons_succ,List.set_cons_zero]
  refine zT A4 Tryz.func307 ?_;have hz:=hY;unfold JE at hz|-;refine wd Mu [] A0 A0 ?_;refine An (fun k=>k<=l.length) (fun k:Nat=>⟨[(0,.yl 2),(5,.d (.by l)),(6,.pY l.length),(7,.pY k)],JE l r (DK ones (DD (l.take k))),22⟩) (fun k=>l.length-k) 0 (qP _) ?_ (qG _) ?_
  .unfold JE;exact A1.ck rfl
  intro k hkl;unfold JE
  by_cases hlt:k<l.length
  .obtain⟨d,hd⟩:=AT hlt;have hs:=Ls d l r (DK ones (DD (l.take k))) (hk 3 rfl).1 hY;have e1:=OH hd;have e2:DK (DK ones (DD (l.take k))) (D4 d)=DK ones (DD (l.take (k+1))):=by rw[e1,HR]
   rw[e2]at hs;have gd:l.getD k 0=d:=by rw[qW,hd];rfl
   have nS:=gd
   repeat'(first|((with_reducible refine sg ?_);first|with_reducible rfl|((with_reducible refine NJ ?_);first|kernel_rfl|rfl|(simp[Er,HV,nS];done))|with_reducible refine Ip ?_ ?_|with_reducible exact tq _|with_reducible exact Cd _|((with_reducible refine qM ?_);first|omega|(simp only[If,nS];omega))|decide|(simp[If,slc,Bw,D.one,Dt,AV.one,nS];done)|(simp[If,nS];omega))|((with_reducible refine fa ?_);first|(refine F3 rfl ?_;refine fY A4 rfl rfl rfl rfl ?_)|refine Xq A4 rfl rfl rfl rfl ?_ ?_|refine Xn [0,1,4,5,6,7,8,14,16,17,20] rfl ?_)|refine HO ?_|refine Dz ?_|(refine XT hs rfl rfl rfl rfl ?_)|refine Eo ?_|refine HN ?_|refine De ?_|refine En ?_|refine Cc rfl ?_|refine Cb rfl ?_|(refine GL rfl (fun hc=> ?_) (fun hc=> ?_)<;>(try simp only[AB]at hc)<;>(try(exfalso;omega))))
   refine⟨k+1,hlt,om,qG _,?_⟩;exact A1.ck rfl
  .have e:l.take k=l:=sS om;rw[e];refine wd Mu [] A0 A0 ?_;with_reducible repeat' first|constructor|intro hc;try simp only[AB]at hc
   refine An (fun k=>k<=4) (fun k:Nat=>⟨[(0,.yl 2),(16,.pY k)],JE l r (DK ones (DD l++List.replicate (8*k) false)),22⟩) (fun k=>4-k) 0 (qP _) ?_ (qG _) ?_
   .unfold JE;simp only[Nat.mul_zero,List.replicate_zero,rJ];exact A1.ck rfl
   intro j hj;unfold JE
   by_cases hjl:j<4
   .have hs:=Ls 0 l r (DK ones (DD l++List.replicate (8*j) false)) (hk 3 rfl).1 hY
    have e2:DK (DK ones (DD l++List.replicate (8*j) false)) (D4 0)=DK ones (DD l++List.replicate (8*(j+1)) false):=by
     rw[gS,<-HR,qm,List.replicate_append_replicate];rfl
    rw[e2]at hs;have nS:=tZ
    repeat'(first|((with_reducible refine sg ?_);first|with_reducible rfl|((with_reducible refine NJ ?_);first|kernel_rfl|rfl|(simp[Er,HV,nS];done))|with_reducible refine Ip ?_ ?_|with_reducible exact tq _|with_reducible exact Cd _|((with_reducible refine qM ?_);first|omega|(simp only[If,nS];omega))|decide|(simp[If,slc,Bw,D.one,Dt,AV.one,nS];done)|(simp[If,nS];omega))|((with_reducible refine fa ?_);first|(refine F3 rfl ?_;refine fY A4 rfl rfl rfl rfl ?_)|refine Xq A4 rfl rfl rfl rfl ?_ ?_|refine Xn [0,1,4,5,6,7,8,14,16,17,20] rfl ?_)|refine HO ?_|refine Dz ?_|(refine XT hs rfl rfl rfl rfl ?_)|refine Eo ?_|refine HN ?_|refine De ?_|refine En ?_|refine Cc rfl ?_|refine Cb rfl ?_|(refine GL rfl (fun hc=> ?_) (fun hc=> ?_)<;>(try simp only[AB]at hc)<;>(try(exfalso;omega))))
    refine⟨j+1,hjl,om,qG _,?_⟩;exact A1.ck rfl
   .have e4:j=4:=om
    subst e4;refine wd Mu [] A0 A0 ?_;refine⟨_,A1.refl _,qG _,_,_,rfl,rfl,?_⟩;rfl
 .rintro r hr x H' rfl;refine .inl ⟨rfl,?_⟩;unfold JE u32;refine wd [0,2,3,4,6,7] [] A0 A0 ?_;exact zE
abbrev F0:List Nat:=[0,2,3,4,5,6,10,14,29]
theorem iq(l:List UInt8)(hl:l.length<70368744177664):qB 220 [.by l] (u32 (Ic l)):=by
 refine zF A4 Tryz.func220 ?_;refine wd F0 [] A0 A0 ?_;refine An (fun k=>k<=l.length) (fun k:Nat=>⟨[(0,.d (.by l)),(2,.d (.i .u32 0)),(3,.d (u32 (DK ones (DD (l.take k))))),(4,.pY k)],[],35⟩) (fun k=>l.length-k) 0 (qP _) ?_ (qG _) ?_
 .exact A1.ck rfl
 intro k hkl
 by_cases hlt:k<l.length
 .obtain⟨d,hd⟩:=AT hlt;have gd:l.getD k 0=d:=by rw[qW,hd];rfl
  refine wd F0 [] A0 A0 ?_;with_reducible repeat' first|constructor|intro hc;try simp only[AB]at hc
  refine An (fun j=>j<=8) (fun j:Nat=>⟨[(0,.d (.by l)),(2,.d (.i .u32 0)),(3,.d (u32 (DK (DK ones (DD (l.take k))) ((D4 d).take j)))),(4,.pY k),(5,.pY (7-j))],[],35⟩) (fun j=>8-j) 0 (qP _) ?_ (qG _) ?_
  .exact A1.ck rfl
  intro j hj
  by_cases hj8:j<8
  .have h0:FE (DK (DK ones (DD (l.take k))) ((D4 d).take j)) (C9 .and .u8 ((d.toNat:Int).fdiv (2^min (7-(j:Int)).toNat IntKind.u8.bits)) 1==1)=DK (DK ones (DD (l.take k))) ((D4 d).take (j+1)):=by
    rw[bU d (7-j) om om,OG d j hj8,HR,show(7-(j:Int)).toNat=7-j by omega];rfl
   have hw:(7-(j:Int))%18446744073709551616=7-j:=om
   have hs:=UT (DK (DK ones (DD (l.take k))) ((D4 d).take j)) (C9 .and .u8 ((d.toNat:Int).fdiv (2^min (7-(j:Int)).toNat IntKind.u8.bits)) 1==1);rw[h0]at hs;refine wd F0 [] (AX gd hw) (A6 @hs) ?_;with_reducible repeat' first|constructor|intro hc;try simp only[AB]at hc
   refine⟨j+1,hj8,om,qG _,?_⟩;exact A1.ck rfl
  .have hj8:j=8:=om
   subst hj8;have e:(D4 d).take 8=D4 d:=sS (by simp[D4]);have e2:DK (DK ones (DD (l.take k))) ((D4 d).take 8)=DK ones (DD (l.take (k+1))):=by rw[e,OH hd,HR]
   rw[e2];refine wd F0 [] A0 A0 ?_;refine⟨k+1,hlt,om,qG _,?_⟩;exact A1.ck rfl
 .have e:l.take k=l:=sS om;rw[e];refine wd F0 [] A0 A0 ?_;with_reducible repeat' first|constructor|intro hc;try simp only[AB]at hc
  refine An (fun k=>k<=32) (fun k:Nat=>⟨[(2,.d (.i .u32 0)),(3,.d (u32 (DK ones (DD l++List.replicate k false)))),(6,.pY k)],[],35⟩) (fun k=>32-k) 0 (qP _) ?_ (qG _) ?_
  .simp only[List.replicate_zero,rJ];exact A1.ck rfl
  intro j hj
  by_cases hj8:j<32
  .have hs:=UT (DK ones (DD l++List.replicate j false)) false
   have h0:FE (DK ones (DD l++List.replicate j false)) false=DK ones (DD l++List.replicate (j+1) false):=by
    rw[List.replicate_succ',<-qm,HR _ (DD l++List.replicate j false) [false]];rfl
   rw[h0]at hs;refine wd F0 [] A0 (A6 @hs) ?_;with_reducible repeat' first|constructor|intro hc;try simp only[AB]at hc
   refine⟨j+1,hj8,om,qG _,?_⟩;exact A1.ck rfl
  .have e4:j=32:=om
   subst e4;refine wd F0 [] A0 A0 ?_;exact Ag @Ic.eq_1
def hdr(n:Int):List UInt8:=[UInt8.ofNat (Int.toNat 71),UInt8.ofNat (Int.toNat 1),UInt8.ofNat (n/256%256).toNat,UInt8.ofNat (n%256).toNat]
def be4(s:BitVec 32):List UInt8:=[UInt8.ofNat ((s.toNat:Int)/16777216%256).toNat,UInt8.ofNat ((s.toNat:Int)/65536%256).toNat,UInt8.ofNat ((s.toNat:Int)/256%256).toNat,UInt8.ofNat ((s.toNat:Int)%256).toNat]
def Bi(p:List UInt8):List UInt8×Int:=if p.length>112 then([],2)else(hdr p.length++p++be4 (Ic (hdr p.length++p)),0)
theorem oe(n:Nat):(n:Int).fdiv (2^min 24 IntKind.u32.bits)=n/16777216:=by rw[uO _ (by decide)];rfl
theorem od(n:Nat):(n:Int).fdiv (2^min 16 IntKind.u32.bits)=n/65536:=by rw[uO _ (by decide)];rfl
theorem fd8(n:Nat):(n:Int).fdiv (2^min 8 IntKind.u32.bits)=n/256:=by rw[uO _ (by decide)];rfl
theorem QU(p:List UInt8):qB 142 [.by p] (.tup [.by (Bi p).1,.i .i64 (Bi p).2]):=by
 have hz:=eM (p.length:Int);refine zF A4 Tryz.func142 ?_
 by_cases h:p.length>112
 .have e:Bi p=([],2):=if_pos h;rw[if_pos om]at hz;refine wd [0,2,3,4,5,6,11] [] A0 (A6 @hz) ?_;exact Ag e
 .have e:Bi p=(hdr p.length++p++be4 (Ic (hdr p.length++p)),0):=if_neg h;rw[if_neg om]at hz;have hs:=iq (hdr p.length++p) (by simp[hdr];omega);have f0:=eq_false' (show(p.length:Int)+8≠0 by omega);unfold hdr at hs;have nS:=f0
  repeat'(first|((with_reducible refine sg ?_);first|with_reducible rfl|((with_reducible refine NJ ?_);first|kernel_rfl|rfl|(simp[Er,HV,nS];done))|with_reducible refine Ip ?_ ?_|with_reducible exact tq _|with_reducible exact Cd _|((with_reducible refine qM ?_);first|omega|(simp only[If,nS];omega))|decide|(simp[If,slc,Bw,D.one,Dt,AV.one,nS];done)|(simp[If,nS];omega))|((with_reducible refine fa ?_);first|(refine F3 rfl ?_;refine fY A4 rfl rfl rfl rfl ?_)|refine gI [17,35] A4 rfl rfl rfl rfl rfl rfl ?_ ?_|refine Xq A4 rfl rfl rfl rfl ?_ ?_|refine Xn [0,2,3,4,5,6,11] rfl ?_|refine XF (hz) rfl rfl rfl rfl ?_|refine Xw A4 rfl rfl rfl rfl ?_ ?_)|refine HO ?_|refine Dz ?_|(refine XT (Fn.read hs rfl (by simp[C5,Ca,KL,AP])) rfl rfl rfl rfl ?_)|refine Eo ?_|refine HN ?_|refine De ?_|refine En ?_|refine Cc rfl ?_|refine Cb rfl ?_|(refine GL rfl (fun hc=> ?_) (fun hc=> ?_)<;>(try simp only[AB]at hc)<;>(try(exfalso;omega))))
  unfold u32;have ow:Lv [17,35]:=trivial;refine wd [0,2,3,4,5,6,11] [] (A6 f0) (A6 @hz) ?_;clear ow;exact Ag (qQ e (qQ @hdr.eq_1 (qQ @be4.eq_1 (qQ oe (qQ od fd8)))))
theorem aV(p:List UInt8):qB 196 [.by p] (.tup [.by (Bi p).1,.i .i64 (Bi p).2]):=by
 have hz:=WW (p.length:Int);refine zF A4 Tryz.func196 ?_
 by_cases h:p.length>112
 .have e:Bi p=([],2):=if_pos h;rw[if_pos om]at hz;refine wd [0,2,3,4,5,6,10] [] A0 (A6 @hz) ?_ [] true;with_reducible repeat' first|constructor|intro hc;try simp only[AB]at hc
  exact Ag e
 .have e:Bi p=(hdr p.length++p++be4 (Ic (hdr p.length++p)),0):=if_neg h;rw[if_neg om]at hz;have hs:=au (hdr p.length++p) (by simp[hdr];omega);unfold hdr at hs;have f0:H0 (K.int .u8) 1 (Int.toNat 0) [D.i .u8 0]= .by []:=rfl
  have nS:=tZ
  repeat'(first|((with_reducible refine sg ?_);first|with_reducible rfl|((with_reducible refine NJ ?_);first|kernel_rfl|rfl|(simp[Er,HV,nS];done))|with_reducible refine Ip ?_ ?_|with_reducible exact tq _|with_reducible exact Cd _|((with_reducible refine qM ?_);first|omega|(simp only[If,nS];omega))|decide|(simp[If,slc,Bw,D.one,Dt,AV.one,nS];done)|(simp[If,nS];omega))|((with_reducible refine fa ?_);first|(refine F3 rfl ?_;refine fY A4 rfl rfl rfl rfl ?_)|refine gI [13,40] A4 rfl rfl rfl rfl rfl rfl ?_ ?_|refine Xq A4 rfl rfl rfl rfl ?_ ?_|refine Xn [0,2,3,4,5,6,10] rfl ?_|refine XaB 13 (D.by []) A4 rfl rfl rfl (by first|rfl|simp[H0]) rfl rfl rfl rfl ?_ ?_|refine XF (hz) rfl rfl rfl rfl ?_|refine Xa A4 rfl rfl rfl rfl rfl ?_ ?_|refine Xw A4 rfl rfl rfl rfl ?_ ?_)|refine HO ?_|refine Dz ?_|(refine XT (Fn.read hs rfl (by simp[C5,Ca,KL,AP])) rfl rfl rfl rfl ?_)|refine Eo ?_|refine HN ?_|refine De ?_|refine En ?_|refine Qm 3 ?_|refine ME ?_|refine JN ?_|refine Cc rfl ?_|refine Cb rfl ?_|(refine GL rfl (fun hc=> ?_) (fun hc=> ?_)<;>(try simp only[AB]at hc)<;>(try(exfalso;omega))))
  unfold u32;have ow:Lv [13,40]:=trivial;refine wd [0,2,3,4,5,6,10] [] A0 (A6 @hz) ?_ [] true;clear ow;exact Ag (qQ e (qQ @hdr.eq_1 (qQ @be4.eq_1 (qQ oe (qQ od fd8)))))
end Wi
end Go.Proofs.YtkljbfejbakooaaGreatDoor
