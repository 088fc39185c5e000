/- Part 29 of a proof. Conditions: those that its theorems state. -/
import Derived.Test.YtkljbfejbakooaaGreatDoorT19
set_option linter.unusedSimpArgs false
set_option linter.unusedVariables false
set_option linter.unnecessarySimpa false
set_option maxHeartbeats 40000000
set_option maxRecDepth 4000
namespace Go.Proofs.YtkljbfejbakooaaGreatDoor
namespace Wi
open Go.Gar
abbrev PY:Aw:=[0,1,4,5,6,7,8,14,16,17,20]
theorem XT{P:Program}{ro:wk}{ops:wl}{i:Nat}{rest:wm}{Q:Exit->St->Prop}{o:Oper}{en e:xF}{hp H':xS}{nt g:Nat}{xs:xD}{r:AV}(hT:BJ P g xs hp r H')(hg:Af ops en o=some true)(h:CG en o.op=some (g,xs))(hd:Az o.dst nt=true)(he:Bf o.dst r en=some e)
  (k:Wl P ro ops (i+1) rest ⟨e,H',nt⟩ Q):Wl P ro ops i (o::rest) ⟨en,hp,nt⟩ Q:=by
 rw[BG he]at k;exact oD hg h hd hT fun r K ⟨h1,h2⟩=>by subst h1;subst h2;exact k
theorem oS(l:AJ):xC 258 [.d (.by l)] [] (.fn (.func 307) [] [.ptr 0 0 1]) [.c [.d (.by l)]]:=by
 refine zD AF Tryz.func258 ?_;refine wd [0,1,2] [] A4 A4 ?_;exact⟨_,(A6.ck rfl),xQ _,_,_,rfl,rfl,rfl,rfl⟩
def ones:BitVec 32:=4294967295#32
def KW(l:AJ):BitVec 32:=Ej ones (Ef l++List.replicate 32 false)
theorem R5{l:AJ}{k:Nat}{d:UInt8}(h:l[k]? =some d):Ef (l.take (k+1))=Ef (l.take k)++EX d:=by
 rw[Au h];simp[Ef]
theorem oR:EX 0=List.replicate 8 false:=by decide
theorem iP(l:AJ)(hl:l.length<70368744177664):xB 178 [.by l] (u32 (KW l)):=by
 refine zF AF Tryz.func178 ?_;have hb:=oS l;have d1:=Ds.mk [] (hb);refine wd [0,2,3,4,6,7] [] A4 A4 ?_;clear d1;refine zG (K:=fun r _ H'=>H'=LF l r (KW l)) ?_ ?_
 .intro r hr;have hk:=hr.ok (k:=3) rfl
  have hY:∀s b,YT Tryz.prog 2 [.wu b] (LF l r s) fun x K=>x= .wu true/\K=LF l r (Gy s b):=by
   intro s b;have hs:=o6 s b;unfold LF u32 at *;refine BD hr rfl rfl rfl ?_;refine wd [0,2,3,4,6,7] [] A4 A4 ?_;refine zR ?_;refine wd [0,2,3,4,6,7] [] A4 (AM @hs) ?_;refine⟨_,A6.refl _,xH _,rfl,rfl,?_⟩;simp only[List.set_cons_succ,List.set_cons_zero]
  refine zT AF Tryz.func307 ?_;have hz:=hY;unfold LF at hz|-;refine wd PY [] A4 A4 ?_;refine BS (fun k=>k<=l.length) (fun k:Nat=>⟨[(0,.yl 2),(5,.d (.by l)),(6,.wo l.length),(7,.wo k)],LF l r (Ej ones (Ef (l.take k))),22⟩) (fun k=>l.length-k) 0 (xQ _) ?_ (xH _) ?_
  .unfold LF;exact A6.ck rfl
  intro k hkl;unfold LF
  by_cases hlt:k<l.length
  .obtain⟨d,hd⟩:=BB hlt;have hs:=O2 d l r (Ej ones (Ef (l.take k))) (hk 3 rfl).1 hY;have e1:=R5 hd;have e2:Ej (Ej ones (Ef (l.take k))) (EX d)=Ej ones (Ef (l.take (k+1))):=by rw[e1,JD]
   rw[e2]at hs;have gd:l.getD k 0=d:=by rw[xu,hd];rfl
   have nS:=gd
   repeat'(first|((with_reducible refine sg ?_);first|with_reducible rfl|((with_reducible refine Pz ?_);first|kernel_rfl|rfl|(simp[GX,JI,nS];done))|with_reducible refine Ki ?_ ?_|with_reducible exact zn _|with_reducible exact E4 _|((with_reducible refine xM ?_);first|omega|(simp only[KZ,nS];omega))|decide|(simp[KZ,slc,DF,D.one,FE,AV.one,nS];done)|(simp[KZ,nS];omega))|((with_reducible refine kI ?_);first|(refine Fy rfl ?_;refine ic AF rfl rfl rfl rfl ?_)|refine Xq AF rfl rfl rfl rfl ?_ ?_|refine Xn [0,1,4,5,6,7,8,14,16,17,20] rfl ?_)|refine J6 ?_|refine EW ?_|(refine XT hs rfl rfl rfl rfl ?_)|refine GV ?_|refine J5 ?_|refine F0 ?_|refine GU ?_|refine E1 rfl ?_|refine E0 rfl ?_|(refine GT rfl (fun hc=> ?_) (fun hc=> ?_)<;>(try simp only[Pu]at hc)<;>(try(exfalso;omega))))
   refine⟨k+1,hlt,om,xH _,?_⟩;exact A6.ck rfl
  .have e:l.take k=l:=zI om;rw[e];refine wd PY [] A4 A4 ?_;with_reducible repeat' first|constructor|intro hc
   refine BS (fun k=>k<=4) (fun k:Nat=>⟨[(0,.yl 2),(16,.wo k)],LF l r (Ej ones (Ef l++List.replicate (8*k) false)),22⟩) (fun k=>4-k) 0 (xQ _) ?_ (xH _) ?_
   .unfold LF;simp only[Nat.mul_zero,List.replicate_zero,yK];exact A6.ck rfl
   intro j hj;unfold LF
   by_cases hjl:j<4
   .have hs:=O2 0 l r (Ej ones (Ef l++List.replicate (8*j) false)) (hk 3 rfl).1 hY
    have e2:Ej (Ej ones (Ef l++List.replicate (8*j) false)) (EX 0)=Ej ones (Ef l++List.replicate (8*(j+1)) false):=by
     rw[oR,<-JD,yB,List.replicate_append_replicate];rfl
    rw[e2]at hs;have nS:=zl
    repeat'(first|((with_reducible refine sg ?_);first|with_reducible rfl|((with_reducible refine Pz ?_);first|kernel_rfl|rfl|(simp[GX,JI,nS];done))|with_reducible refine Ki ?_ ?_|with_reducible exact zn _|with_reducible exact E4 _|((with_reducible refine xM ?_);first|omega|(simp only[KZ,nS];omega))|decide|(simp[KZ,slc,DF,D.one,FE,AV.one,nS];done)|(simp[KZ,nS];omega))|((with_reducible refine kI ?_);first|(refine Fy rfl ?_;refine ic AF rfl rfl rfl rfl ?_)|refine Xq AF rfl rfl rfl rfl ?_ ?_|refine Xn [0,1,4,5,6,7,8,14,16,17,20] rfl ?_)|refine J6 ?_|refine EW ?_|(refine XT hs rfl rfl rfl rfl ?_)|refine GV ?_|refine J5 ?_|refine F0 ?_|refine GU ?_|refine E1 rfl ?_|refine E0 rfl ?_|(refine GT rfl (fun hc=> ?_) (fun hc=> ?_)<;>(try simp only[Pu]at hc)<;>(try(exfalso;omega))))
    refine⟨j+1,hjl,om,xH _,?_⟩;exact A6.ck rfl
   .have e4:j=4:=om
    subst e4;refine wd PY [] A4 A4 ?_;refine⟨_,A6.refl _,xH _,_,_,rfl,rfl,?_⟩;rfl
 .rintro r hr x H' rfl;refine .inl ⟨rfl,?_⟩;unfold LF u32;refine wd [0,2,3,4,6,7] [] A4 A4 ?_;exact zE
abbrev Gi:Aw:=[0,2,3,4,5,6,10,14,29]
theorem pq(l:AJ)(hl:l.length<70368744177664):xB 220 [.by l] (u32 (KW l)):=by
 refine zF AF Tryz.func220 ?_;refine wd Gi [] A4 A4 ?_;refine BS (fun k=>k<=l.length) (fun k:Nat=>⟨[(0,.d (.by l)),(2,.d (.i .u32 0)),(3,.d (u32 (Ej ones (Ef (l.take k))))),(4,.wo k)],[],35⟩) (fun k=>l.length-k) 0 (xQ _) ?_ (xH _) ?_
 .exact A6.ck rfl
 intro k hkl
 by_cases hlt:k<l.length
 .obtain⟨d,hd⟩:=BB hlt;have gd:l.getD k 0=d:=by rw[xu,hd];rfl
  refine wd Gi [] A4 A4 ?_;with_reducible repeat' first|constructor|intro hc
  refine BS (fun j=>j<=8) (fun j:Nat=>⟨[(0,.d (.by l)),(2,.d (.i .u32 0)),(3,.d (u32 (Ej (Ej ones (Ef (l.take k))) ((EX d).take j)))),(4,.wo k),(5,.wo (7-j))],[],35⟩) (fun j=>8-j) 0 (xQ _) ?_ (xH _) ?_
  .exact A6.ck rfl
  intro j hj
  by_cases hj8:j<8
  .have h0:Gy (Ej (Ej ones (Ef (l.take k))) ((EX d).take j)) (DT .and .u8 ((d.toNat:Int).fdiv (2^min (7-(j:Int)).toNat IntKind.u8.bits)) 1==1)=Ej (Ej ones (Ef (l.take k))) ((EX d).take (j+1)):=by
    rw[jK d (7-j) om om,R4 d j hj8,JD,show(7-(j:Int)).toNat=7-j by omega];rfl
   have hw:(7-(j:Int))%18446744073709551616=7-j:=om
   have hs:=Y2 (Ej (Ej ones (Ef (l.take k))) ((EX d).take j)) (DT .and .u8 ((d.toNat:Int).fdiv (2^min (7-(j:Int)).toNat IntKind.u8.bits)) 1==1);rw[h0]at hs;refine wd Gi [] (Ax gd hw) (AM @hs) ?_;with_reducible repeat' first|constructor|intro hc
   refine⟨j+1,hj8,om,xH _,?_⟩;exact A6.ck rfl
  .have hj8:j=8:=om
   subst hj8;have e:(EX d).take 8=EX d:=zI (by simp[EX]);have e2:Ej (Ej ones (Ef (l.take k))) ((EX d).take 8)=Ej ones (Ef (l.take (k+1))):=by rw[e,R5 hd,JD]
   rw[e2];refine wd Gi [] A4 A4 ?_;refine⟨k+1,hlt,om,xH _,?_⟩;exact A6.ck rfl
 .have e:l.take k=l:=zI om;rw[e];refine wd Gi [] A4 A4 ?_;with_reducible repeat' first|constructor|intro hc
  refine BS (fun k=>k<=32) (fun k:Nat=>⟨[(2,.d (.i .u32 0)),(3,.d (u32 (Ej ones (Ef l++List.replicate k false)))),(6,.wo k)],[],35⟩) (fun k=>32-k) 0 (xQ _) ?_ (xH _) ?_
  .simp only[List.replicate_zero,yK];exact A6.ck rfl
  intro j hj
  by_cases hj8:j<32
  .have hs:=Y2 (Ej ones (Ef l++List.replicate j false)) false
   have h0:Gy (Ej ones (Ef l++List.replicate j false)) false=Ej ones (Ef l++List.replicate (j+1) false):=by
    rw[List.replicate_succ',<-yB,JD _ (Ef l++List.replicate j false) [false]];rfl
   rw[h0]at hs;refine wd Gi [] A4 (AM @hs) ?_;with_reducible repeat' first|constructor|intro hc
   refine⟨j+1,hj8,om,xH _,?_⟩;exact A6.ck rfl
  .have e4:j=32:=om
   subst e4;refine wd Gi [] A4 A4 ?_;exact BL @KW.eq_1
def hdr(n:Int):AJ:=[UInt8.ofNat (Int.toNat 71),UInt8.ofNat (Int.toNat 1),UInt8.ofNat (n/256%256).toNat,UInt8.ofNat (n%256).toNat]
def be4(s:BitVec 32):AJ:=[UInt8.ofNat ((s.toNat:Int)/16777216%256).toNat,UInt8.ofNat ((s.toNat:Int)/65536%256).toNat,UInt8.ofNat ((s.toNat:Int)/256%256).toNat,UInt8.ofNat ((s.toNat:Int)%256).toNat]
def Cu(p:AJ):AJ×Int:=if p.length>112 then([],2)else(hdr p.length++p++be4 (KW (hdr p.length++p)),0)
theorem vX(n:Nat):(n:Int).fdiv (2^min 24 IntKind.u32.bits)=n/16777216:=by rw[q02 _ (by decide)];rfl
theorem vW(n:Nat):(n:Int).fdiv (2^min 16 IntKind.u32.bits)=n/65536:=by rw[q02 _ (by decide)];rfl
theorem fd8(n:Nat):(n:Int).fdiv (2^min 8 IntKind.u32.bits)=n/256:=by rw[q02 _ (by decide)];rfl
theorem U6(p:AJ):xB 142 [.by p] (.tup [.by (Cu p).1,.i .i64 (Cu p).2]):=by
 have hz:=mN (p.length:Int);refine zF AF Tryz.func142 ?_
 by_cases h:p.length>112
 .have e:Cu p=([],2):=if_pos h;rw[if_pos om]at hz;refine wd [0,2,3,4,5,6,11] [] A4 (AM @hz) ?_;exact BL e
 .have e:Cu p=(hdr p.length++p++be4 (KW (hdr p.length++p)),0):=if_neg h;rw[if_neg om]at hz;have hs:=pq (hdr p.length++p) (by simp[hdr];omega);have f0:=eq_false' (show(p.length:Int)+8≠0 by omega);unfold hdr at hs;have nS:=f0
  repeat'(first|((with_reducible refine sg ?_);first|with_reducible rfl|((with_reducible refine Pz ?_);first|kernel_rfl|rfl|(simp[GX,JI,nS];done))|with_reducible refine Ki ?_ ?_|with_reducible exact zn _|with_reducible exact E4 _|((with_reducible refine xM ?_);first|omega|(simp only[KZ,nS];omega))|decide|(simp[KZ,slc,DF,D.one,FE,AV.one,nS];done)|(simp[KZ,nS];omega))|((with_reducible refine kI ?_);first|(refine Fy rfl ?_;refine ic AF rfl rfl rfl rfl ?_)|refine oE [17,35] AF rfl rfl rfl rfl rfl rfl ?_ ?_|refine Xq AF rfl rfl rfl rfl ?_ ?_|refine Xn [0,2,3,4,5,6,11] rfl ?_|refine XF (hz) rfl rfl rfl rfl ?_|refine Xw AF rfl rfl rfl rfl ?_ ?_)|refine J6 ?_|refine EW ?_|(refine XT (Fn.read hs rfl (by simp[DL,Dz,Kb,BK])) rfl rfl rfl rfl ?_)|refine GV ?_|refine J5 ?_|refine F0 ?_|refine GU ?_|refine E1 rfl ?_|refine E0 rfl ?_|(refine GT rfl (fun hc=> ?_) (fun hc=> ?_)<;>(try simp only[Pu]at hc)<;>(try(exfalso;omega))))
  unfold u32;have ow:Lv [17,35]:=trivial;refine wd [0,2,3,4,5,6,11] [] (AM f0) (AM @hz) ?_;clear ow;exact BL (xU e (xU @hdr.eq_1 (xU @be4.eq_1 (xU vX (xU vW fd8)))))
theorem hU(p:AJ):xB 196 [.by p] (.tup [.by (Cu p).1,.i .i64 (Cu p).2]):=by
 have hz:=au (p.length:Int);refine zF AF Tryz.func196 ?_
 by_cases h:p.length>112
 .have e:Cu p=([],2):=if_pos h;rw[if_pos om]at hz;refine wd [0,2,3,4,5,6,10] [] A4 (AM @hz) ?_ [] true;with_reducible repeat' first|constructor|intro hc
  exact BL e
 .have e:Cu p=(hdr p.length++p++be4 (KW (hdr p.length++p)),0):=if_neg h;rw[if_neg om]at hz;have hs:=iP (hdr p.length++p) (by simp[hdr];omega);unfold hdr at hs;have f0:KO (K.int .u8) 1 (Int.toNat 0) [D.i .u8 0]= .by []:=rfl
  have nS:=zl
  repeat'(first|((with_reducible refine sg ?_);first|with_reducible rfl|((with_reducible refine Pz ?_);first|kernel_rfl|rfl|(simp[GX,JI,nS];done))|with_reducible refine Ki ?_ ?_|with_reducible exact zn _|with_reducible exact E4 _|((with_reducible refine xM ?_);first|omega|(simp only[KZ,nS];omega))|decide|(simp[KZ,slc,DF,D.one,FE,AV.one,nS];done)|(simp[KZ,nS];omega))|((with_reducible refine kI ?_);first|(refine Fy rfl ?_;refine ic AF rfl rfl rfl rfl ?_)|refine oE [13,40] AF rfl rfl rfl rfl rfl rfl ?_ ?_|refine Xq AF rfl rfl rfl rfl ?_ ?_|refine Xn [0,2,3,4,5,6,10] rfl ?_|refine XaB 13 (D.by []) AF rfl rfl rfl (by first|rfl|simp[KO]) rfl rfl rfl rfl ?_ ?_|refine XF (hz) rfl rfl rfl rfl ?_|refine Xa AF rfl rfl rfl rfl rfl ?_ ?_|refine Xw AF rfl rfl rfl rfl ?_ ?_)|refine J6 ?_|refine EW ?_|(refine XT (Fn.read hs rfl (by simp[DL,Dz,Kb,BK])) rfl rfl rfl rfl ?_)|refine GV ?_|refine J5 ?_|refine F0 ?_|refine GU ?_|refine UP 3 ?_|refine UO ?_|refine Q8 ?_|refine E1 rfl ?_|refine E0 rfl ?_|(refine GT rfl (fun hc=> ?_) (fun hc=> ?_)<;>(try simp only[Pu]at hc)<;>(try(exfalso;omega))))
  unfold u32;have ow:Lv [13,40]:=trivial;refine wd [0,2,3,4,5,6,10] [] A4 (AM @hz) ?_ [] true;clear ow;exact BL (xU e (xU @hdr.eq_1 (xU @be4.eq_1 (xU vX (xU vW fd8)))))
abbrev Gj:Aw:=[0,2,3,4,5,6,9,24,39,45,46,61]
def KE(b:AJ):Nat:=(b.getD 2 0).toNat*256+(b.getD 3 0).toNat
def Bt(b:AJ):AJ×Int:=
 if b.length<8 then([],11)else
 if 120<b.length\/¬((b.getD 0 0).toNat:Int)=71\/¬((b.getD 1 0).toNat:Int)=1\/¬b.length=KE b+8 then([],12)else
 if(List.range 4).all (fun i=>b.getD (4+KE b+i) 0==(be4 (KW (b.take (4+KE b)))).getD i 0)then((b.drop 4).take (KE b),0)else([],12)
theorem tQ:∀(d e:Fin 256),DT .or .i64 (IntKind.wrap .i64 ((d.1:Int)*2^min 8 64)) e.1=(d.1*256+e.1:Nat):=by decide +kernel
theorem s9(s:BitVec 32)(k:Nat)(hk:k<4):(s.toNat:Int).fdiv (2^min (24-8*(k:Int)).toNat IntKind.u32.bits)%256=(((be4 s).getD k 0).toNat:Int):=by
 have hs:=s.isLt
 have AH:∀n:Nat,((UInt8.ofNat ((n:Int)%256).toNat).toNat:Int)=n%256:=fun n=>by
  simp[q06];omega
 have e:k=0\/k=1\/k=2\/k=3:=om
 rw[q02 _ (by exact Int.le_of_lt (Int.pow_pos (by decide)))];rcases e with rfl|rfl|rfl|rfl
 .have:=AH (s.toNat/16777216);simp[be4,IntKind.bits]at this|-;omega
 .have:=AH (s.toNat/65536);simp[be4,IntKind.bits]at this|-;omega
 .have:=AH (s.toNat/256);simp[be4,IntKind.bits]at this|-;omega
 .have:=AH (s.toNat);simp[be4,IntKind.bits]at this|-;omega
theorem nw(b:AJ)(hb:b.length<70368744177664):xB 116 [.by b] (.tup [.by (Bt b).1,.i .i64 (Bt b).2]):=by
 refine zF AF Tryz.func116 ?_;have hor:DT .or .i64 (IntKind.wrap .i64 (((b.getD 2 0).toNat:Int)*2^min 8 64)) ((b.getD 3 0).toNat:Int)=(KE b:Nat):=tQ ⟨(b.getD 2 0).toNat,(b.getD 2 0).toNat_lt⟩ ⟨(b.getD 3 0).toNat,(b.getD 3 0).toNat_lt⟩;have hz:=au (KE b:Int)
 by_cases h8:b.length<8
 .have e:Bt b=([],11):=if_pos h8;refine wd Gj [] A4 A4 ?_ [] true;with_reducible repeat' first|constructor|intro hc
  exact BL e
 by_cases h:120<b.length\/¬((b.getD 0 0).toNat:Int)=71\/¬((b.getD 1 0).toNat:Int)=1\/¬b.length=KE b+8
 .have e:Bt b=([],12):=by
   unfold Bt;rw[if_neg h8,if_pos h]
  by_cases hq:KE b<=112
  .rw[if_neg om]at hz;refine wd Gj [] (AM hor) (AM @hz) ?_ [] true;with_reducible repeat' first|constructor|intro hc
   all_goals try(exfalso;omega)
   all_goals(exact BL e )
  .rw[if_pos om]at hz;refine wd Gj [] (AM hor) (AM @hz) ?_ [] true;with_reducible repeat' first|constructor|intro hc
   all_goals try(exfalso;omega)
   all_goals(exact BL e )
 have hn:b.length=KE b+8:=om
 have h0:((b.getD 0 0).toNat:Int)=71:=om
 have h1:((b.getD 1 0).toNat:Int)=1:=om
 have hl:b.length<=120:=om
 rw[if_neg om]at hz;have htk:(b.take (4+KE b)).length=4+KE b:=by rw[yM];omega
 have hs:=iP (b.take (4+KE b)) om;have e1:((4:Int)+(KE b:Int)).toNat=4+KE b:=om
 refine wd Gj [] (Ax hor e1) (Ax @hz @hs) ?_ [] true;with_reducible repeat' first|constructor|intro hc
 unfold u32;refine BS (fun k=>k<=4/\∀i,i<k->b.getD (4+KE b+i) 0=(be4 (KW (b.take (4+KE b)))).getD i 0) (fun k:Nat=>⟨[(0,.d (.by b)),(4,.wo (KE b)),(5,.d (u32 (KW (b.take (4+KE b))))),(45,.wo k)],[],68⟩) (fun k=>4-k) 0 ⟨xQ _,fun i hi=>om⟩ ?_ (xH _) ?_
 .unfold u32;exact A6.ck rfl
 rintro k ⟨hk,hall⟩;unfold u32
 by_cases hk4:k<4
 .have e2:((4:Int)+(KE b:Int)+(k:Int)).toNat=4+KE b+k:=om
  have e3:=s9 (KW (b.take (4+KE b))) k hk4
  by_cases hm:b.getD (4+KE b+k) 0=(be4 (KW (b.take (4+KE b)))).getD k 0
  .have e4:(((b.getD (4+KE b+k) 0).toNat:Int)!=(((be4 (KW (b.take (4+KE b)))).getD k 0).toNat:Int))=false:=by rw[hm];simp
   refine wd Gj [] (Ci e2 e3 e4) A4 ?_ [] true;with_reducible repeat' first|constructor|intro hc
   refine⟨k+1,⟨hk4,fun i hi=> ?_⟩,om,xH _,?_⟩
   .rcases Nat.lt_or_eq_of_le (Nat.le_of_lt_succ hi)with h|h
    .exact hall i h
    .rw[h];exact hm
   exact A6.ck rfl
  .have e4:(((b.getD (4+KE b+k) 0).toNat:Int)!=(((be4 (KW (b.take (4+KE b)))).getD k 0).toNat:Int))=true:=by
    rw[bne_iff_ne];intro h;exact hm (q0N.1 om)
   have e:Bt b=([],12):=by
    unfold Bt;rw[if_neg h8,if_neg h,if_neg];intro ha;rw[yc]at ha;exact hm (by simpa using ha k (List.mem_range.2 hk4))
   refine wd Gj [] (Ci e2 e3 e4) A4 ?_ [] true;with_reducible repeat' first|constructor|intro hc
   exact BL e
 .have e:Bt b=((b.drop 4).take (KE b),0):=by
   unfold Bt;rw[if_neg h8,if_neg h,if_pos];rw[yc];intro i hi;simpa using hall i (by have:=List.mem_range.1 hi;omega)
  have e5:(b.take (4+KE b)).drop 4=(b.drop 4).take (KE b):=by rw[List.drop_take];congr 1;omega
  refine wd Gj [] (AM e1) A4 ?_ [] true;with_reducible repeat' first|constructor|intro hc
  exact BL (xU e e5)
theorem Ig(n:Int):(hdr n).length=4:=rfl
theorem Uc(s:BitVec 32):(be4 s).length=4:=rfl
theorem rE(n:Nat)(h:n<256):(UInt8.ofNat n).toNat=n:=by simp[q06];omega
variable {p:AJ}
theorem Hp(h:p.length<=112):Cu p=(hdr p.length++p++be4 (KW (hdr p.length++p)),0):=if_neg om
theorem kO(n:Nat)(h:n<65536):hdr n=[71,1,UInt8.ofNat (n/256),UInt8.ofNat (n%256)]:=by
 have e1:((n:Int)/256%256).toNat=n/256:=om
 have e2:((n:Int)%256).toNat=n%256:=om
 unfold hdr;rw[e1,e2];rfl
theorem SN(h:p.length<=112):Bt (Cu p).1=(p,0):=by
 rw[Hp h];generalize hs:be4 (KW (hdr p.length++p))=S;have hS:S.length=4:=by rw[<-hs];rfl
 have hb:hdr p.length++p++S=71::1::UInt8.ofNat (p.length/256)::UInt8.ofNat (p.length%256)::(p++S):=by
  rw[kO p.length om];rfl
 have hfr:KE (hdr p.length++p++S)=p.length:=by
  rw[hb];unfold KE;simp only[List.getD_cons_succ,q0B];rw[rE _ om,rE _ om];omega
 have htk:(hdr p.length++p++S).take (4+p.length)=hdr p.length++p:=by
  rw[List.take_append_of_le_length (by simp[Ig]),zI (by simp[Ig])]
 unfold Bt;rw[hfr,htk,hs];rw[if_neg (by simp[Ig];omega),if_neg]
 .rw[if_pos]
  .rw[hb];simp
  .rw[yc];intro i hi;have hi:=List.mem_range.1 hi;rw[beq_iff_eq,xu,xu,yE (by simp[Ig])]
   congr 2
   simp[Ig]
 .rw[hb];simp[hS];omega
theorem Xj{b:AJ}{e:Int}(h:Bt b=(p,e)):(e=0/\p.length<=112/\(Cu p).1=b)\/(e=11/\b.length<8/\p=[])\/(e=12/\8<=b.length/\p=[]):=by
 unfold Bt at h;split at h
 .cases h;exact .inr (.inl ⟨rfl,by assumption,rfl⟩)
 rename_i h8;split at h
 .cases h;exact .inr (.inr ⟨rfl,om,rfl⟩)
 rename_i hc;split at h
 .rename_i hall;simp only[xZ]at h;obtain⟨rfl,rfl⟩:=h;refine .inl ⟨rfl,by simp;omega,?_⟩;have hn:b.length=KE b+8:=om
  have hpl:((b.drop 4).take (KE b)).length=KE b:=by simp;omega
  obtain⟨b0,b1,b2,b3,t,rfl⟩:∃b0 b1 b2 b3 t,b=b0::b1::b2::b3::t:=by
   rcases b with _|⟨b0,_|⟨b1,_|⟨b2,_|⟨b3,t⟩⟩⟩⟩<;>first|exact⟨_,_,_,_,_,rfl⟩|(simp at h8)
  have hfr:KE (b0::b1::b2::b3::t)=b2.toNat*256+b3.toNat:=rfl;have l2:=b2.toNat_lt;have l3:=b3.toNat_lt
  have e0:b0=71:=q0N.1 (by have:((b0.toNat:Nat):Int)=71:=by simpa using Classical.not_not.1 (fun h=>hc (.inr (.inl h)))
                           have:(71:UInt8).toNat=71:=rfl
                           omega)
  have e1:b1=1:=q0N.1 (by have:((b1.toNat:Nat):Int)=1:=by simpa using Classical.not_not.1 (fun h=>hc (.inr (.inr (.inl h))))
                          have:(1:UInt8).toNat=1:=rfl
                          omega)
  rw[Hp (by rw[hpl];omega),hpl]
  have hh:hdr (KE (b0::b1::b2::b3::t))=[b0,b1,b2,b3]:=by
   rw[kO _ om,hfr,e0,e1,show(b2.toNat*256+b3.toNat)/256=b2.toNat by omega,show(b2.toNat*256+b3.toNat)%256=b3.toNat by omega];simp
  generalize hN:KE (b0::b1::b2::b3::t)=N at*
  have htk:(b0::b1::b2::b3::t).take (4+N)=hdr N++List.take N (List.drop 4 (b0::b1::b2::b3::t)):=by
   rw[hh,show 4+N=N+4 by omega];rfl
  have htl:(b0::b1::b2::b3::t).drop (4+N)=be4 (KW ((b0::b1::b2::b3::t).take (4+N))):=by
   apply List.ext_getElem?;intro i;rw[zW];rcases yO i 4 with hi|hi
   .have:=yc.1 hall i (List.mem_range.2 hi);rw[beq_iff_eq,xu,xu]at this;rw[xP om]at this|-;rw[xP (by rw[Uc];exact hi)]at this|-;simpa using this
   .rw[zO om,zO (by rw[Uc];exact hi)]
  rw[<-htk,<-htl];exact yg _ _
 .cases h;exact .inr (.inr ⟨rfl,om,rfl⟩)
end Wi
end Go.Proofs.YtkljbfejbakooaaGreatDoor
