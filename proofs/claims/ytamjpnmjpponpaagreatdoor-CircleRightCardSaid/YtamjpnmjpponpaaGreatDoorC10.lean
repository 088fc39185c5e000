/- Part 10 of a proof. Conditions: those that its theorems state. -/
import Derived.Test.YtamjpnmjpponpaaGreatDoorC08
set_option linter.unusedSimpArgs false
set_option linter.unusedVariables false
set_option linter.unnecessarySimpa false
set_option maxHeartbeats 40000000
set_option maxRecDepth 4000
namespace Go.Proofs.YtamjpnmjpponpaaGreatDoor
open Go.Gar
abbrev Od:BF:=[0,1,2,4,5,13,14]
def size(n:Nat):Nat:=(Dy n+7)/8
theorem eH(n:Nat)(h:n<9223372036854775808):yS 436 [.yX n] (.yX (size n)):=by
 have hl:Dy n<=64:=by
  have:=(JM (n:=n) (k:=Dy n)).1 rfl;rcases this.2 with h2|h2
  .omega
  .rcases q0C 64 (Dy n)with h3|h3
   .have:2^64<=2^(Dy n-1):=Nat.pow_le_pow_right (by decide) om;omega
   .exact h3
 have hm:(n:Int)%18446744073709551616=n:=om
 have hq:((Dy n:Int)+7).tdiv 8=(size n:Int):=by
  simp only[size];rw[Int.tdiv_eq_ediv_of_nonneg om];omega
 have hs:size n<=8:=by simp only[size];omega
 refine zF AE Tryz.func436 ?_;refine AJ [0,2] ?_ (Au hm hq) (AK (mu n om))
 .refine⟨_,_,rfl,rfl,?_⟩;simp[Cw]
theorem fe(n:Int):yT 437 [.yO n] [] (.fn (.func 438) [] [.ptr 0 0 1]) [.c [.yO n]]:=by
 refine zD AE Tryz.func437 ?_;refine A9 [0,1,2] ?_;exact wE
def dig(n i:Nat):UInt8:=UInt8.ofNat (n/256^i%256)
def X3(n:Nat):AL:=(List.range (size n)).map fun j=>dig n (size n-1-j)
def EH(n:Nat):AL:=UInt8.ofNat (size n)::X3 n
theorem ff(n j:Nat)(h:j<size n):(X3 n).take (j+1)=(X3 n).take j++[dig n (size n-1-j)]:=by
 rw[q0N (by simp[X3];exact h)];simp[X3]
theorem size_le(n:Nat)(h:n<281474976710656):size n<=6:=by
 have:=(JM (n:=n) (k:=Dy n)).1 rfl
 have:Dy n<=48:=by
  rcases this.2 with h2|h2
  .omega
  .rcases q0C 48 (Dy n)with h3|h3
   .have:2^48<=2^(Dy n-1):=Nat.pow_le_pow_right (by decide) om;omega
   .exact h3
 simp only[size];omega
theorem shrN(n k:Nat)(hk:8*k<=64)(z:Int)(hz:z=((8*k:Nat):Int)):(n:Int).fdiv (2^min z.toNat 64)=((n/256^k:Nat):Int):=by
 subst hz
 have e:(2:Int)^(8*k)=((256^k:Nat):Int):=by
  rw[show(2:Int)=((2:Nat):Int)from rfl,<-Int.natCast_pow,Nat.pow_mul]
 rw[q1Y,Nat.min_eq_left hk,e,q1I _ (q0V _),Int.natCast_ediv]
theorem Tv(l:AL)(n:Nat)(hn:n<=1099511627776)(hl:l.length<70368744177664):
  yT 435 [.sl 0 l.length 1,.yO n] [.a (.by l)] (.sl 0 (l++EH n).length 1) [.a (.by (l++EH n))]:=by
 have hs:=size_le n om;have h1:(size n:Int)%256=size n:=om
 refine zD AE Tryz.func435 ?_;refine By Od ?_ (AK h1) (AK (eH n om)) (BJ [] (fe n));refine zG (K:=fun r _ H'=>H'=[.a (.by (l++EH n)),.c [.sl 0 (l++EH n).length 1],.c [.yO n],.lp r]) ?_ ?_
 .intro r hr;refine zT AE Tryz.func438 ?_;refine AO [0,1,3,8,18] ?_ (AK (eH n om));have hk:=hr.ok (k:=3) rfl;refine BX (fun j=>j<=size n) (fun j:Nat=>⟨[(0,.yl 3),(1,.ptr 2 0 1),(3,.yO ((size n:Int)-1-j))],[.a (.by (l++(EH n).take (j+1))),.c [.sl 0 (l++(EH n).take (j+1)).length 1],.c [.yO n],.lp r],19⟩) (fun j=>size n-j) 0 (zi _) ?_ (zN _) ?_
  .exact A8.ck rfl
  intro j hj
  by_cases hlt:j<size n
  .have e1:((n:Int).fdiv (2^min (8*((size n:Int)-1-j)).toNat 64)%256).toNat=n/256^(size n-1-j)%256:=by
    rw[shrN n (size n-1-j) om _ om];omega
   have hnext:(EH n).take (j+1)++[UInt8.ofNat ((n:Int).fdiv (2^min (8*((size n:Int)-1-j)).toNat 64)%256).toNat]=(EH n).take (j+1+1):=by
    rw[e1];simp only[EH,List.take_succ_cons,ff n j hlt];rfl
   refine A9 [0,1,3,8,18] ?_;with_reducible repeat' first|constructor|intro hc
   refine Xy (x:=.yP true) (H':=[.a (.by (l++(EH n).take (j+1+1))),.c [.sl 0 (l++(EH n).take (j+1+1)).length 1],.c [.yO n],.lp r]) (Ar hr rfl rfl rfl ?_) rfl rfl rfl rfl rfl ?_
   .refine A9 Od ?_;refine zR ?_;refine A9 Od ?_;refine⟨_,A8.refl _,zN _,rfl,rfl,?_⟩;simp only[q0Z,hnext,q0u,q0t]
   .refine A9 [0,1,3,8,18] ?_;refine⟨j+1,hlt,om,zN _,?_⟩;exact A8.ck rfl
  .refine A9 [0,1,3,8,18] ?_;with_reducible repeat' first|constructor|intro hc
   have:(EH n).take (j+1)=EH n:=by
    rw[q1V];simp[EH,X3];omega
   refine⟨_,A8.refl _,zN _,_,_,rfl,rfl,?_⟩;simp only[this]
 .rintro r hr x H' rfl;refine .inl ⟨rfl,?_⟩;refine A9 Od ?_;exact wE
abbrev II:BF:=[0,2,3,4,5,7,10,16,21,25,26,27,28,48]
theorem ZH(n:Nat)(hn:n<=1099511627776):yT 435 [.e0,.yO n] [] (.sl 0 (EH n).length 1) [.a (.by (EH n))]:=
 LN.e0 (.by []) rfl rfl trivial (Tv [] n hn (by decide))
theorem Y3(n:Nat)(h:n<=1099511627776):(EH n).length<=7:=by
 have:=size_le n om;simp[EH,X3];omega
def iB(n:Int):AL×Int:=if fits n then(EH n.toNat,0)else([],2)
theorem am(n:Int):yS 428 [.yX n] (.tup [.by (iB n).1,.yX (iB n).2]):=by
 by_cases hf:fits n=true
 .obtain⟨m,rfl⟩:∃m:Nat,n=m:=⟨n.toNat,by simp[fits]at hf;omega⟩;have hm:m<=1099511627776:=by simp[fits]at hf;omega
  refine zF AE Tryz.func428 ?_;refine By [0,2,3,6] ?_ (AK hf) (AK (Qc m)) (BJ [] (ZH m hm));exact BW (zh @iB.eq_1 hf)
 .have hf':fits n=false:=by simpa using hf
  refine zF AE Tryz.func428 ?_;refine AJ [0,2,3,6] ?_ (AK hf') (AK (Qc n));exact BW (zh @iB.eq_1 hf')
def textS(s:AL):AL×Int:=if s.length>255 then([],2)else(UInt8.ofNat s.length::s,0)
theorem sV(s:AL):yS 429 [.s s] (.tup [.by (textS s).1,.yX (textS s).2]):=by
 refine zF AE Tryz.func429 ?_
 by_cases h:s.length>255
 .have h1:decide ((s.length:Int)>255)=true:=by simp;omega
  refine Aj [0,2,3,6] ?_ (AK h1);exact BW (zh @textS.eq_1 h)
 .have h1:decide ((s.length:Int)>255)=false:=by simp;omega
  have h2:(s.length:Int)%256=s.length:=om
  have ow:Lv [10]:=trivial;refine Aj [0,2,3,6] ?_ (Au h1 h2);clear ow;exact BW (zh @textS.eq_1 h)
theorem K6(l:AL)(h:l.length<=140737488355328):yS 421 [.by l] (.by l):=by
 refine zF AE Tryz.func421 ?_;refine A9 [0,2] ?_;refine⟨_,_,rfl,rfl,?_⟩;simp[Cw]
def OC(l:AL):Nat:=l.foldl (fun a d=>a*256+d.toNat) 0
theorem il(l:AL)(k:Nat)(h:k<l.length):OC (l.take (k+1))=OC (l.take k)*256+(l.getD k 0).toNat:=by
 unfold OC;rw[q0N h,zo,zV h,q0o];rfl
theorem sa(l:AL):OC l<256^l.length:=by
 have AI:∀(l:AL)(a k:Nat),a<256^k->l.foldl (fun a d=>a*256+d.toNat) a<256^(k+l.length):=by
  intro l
  induction l with
  |nil=>intro a k h;simpa using h
  |cons d r ih=>
   intro a k h;have hd:=d.toNat_lt;have:a*256+d.toNat<256^(k+1):=by rw[Nat.pow_succ];omega
   have:=ih _ (k+1) this;simp only[q0p,q02];rwa [show k+(r.length+1)=k+1+r.length by omega]
 have:=AI l 0 0 sm;rwa [q0Q]at this
def Cq:AL->Nat×AL×Int
 |[]=>(0,[],11)
 |m::r=>if m.toNat>6 then(0,[],12)else if r.length<m.toNat then(0,[],11)else
  if(m.toNat>0/\r.getD 0 0=0)\/OC (r.take m.toNat)>1099511627776 then(0,[],12)else(OC (r.take m.toNat),r.drop m.toNat,0)
def HB(x:Nat×AL×Int):D:=.tup [.yX x.1,.by x.2.1,.yX x.2.2]
theorem shl8(a:Nat)(h:a<36028797018963968):IntKind.wrap .i64 ((a:Int)*2^min 8 64)=((a*256:Nat):Int):=by
 simp[IntKind.wrap,IntKind.bits,IntKind.signed];omega
theorem or8(a:Nat)(h:a<36028797018963968)(d:UInt8):DK .or .i64 ((a*256:Nat):Int) (d.toNat:Int)=((a*256+d.toNat:Nat):Int):=by
 have hd:=d.toNat_lt
 have e:(BitVec.ofInt 64 ((a*256:Nat):Int)|||BitVec.ofInt 64 (d.toNat:Int)).toNat=a*256+d.toNat:=by
  rw[BitVec.ofInt_natCast,BitVec.ofInt_natCast,BitVec.toNat_or,BitVec.toNat_ofNat,BitVec.toNat_ofNat,Nat.mod_eq_of_lt om,Nat.mod_eq_of_lt om];rw[show a*256=2^8*a by omega,Nat.two_pow_add_eq_or_of_lt hd]
 have e2:DK .or .i64 ((a*256:Nat):Int) (d.toNat:Int)=IntKind.wrap .i64 (BitVec.ofInt 64 ((a*256:Nat):Int)|||BitVec.ofInt 64 (d.toNat:Int)).toNat:=rfl;rw[e2,e];simp[IntKind.wrap,IntKind.bits,IntKind.signed];omega
theorem Io(b:AL)(hb:b.length<70368744177664):yS 420 [.by b] (HB (Cq b)):=by
 refine zF AE Tryz.func420 ?_;rcases b with _|⟨m,r⟩
 .refine A9 II ?_;exact BW (zh @Cq.eq_1 @HB.eq_1)
 have hm:=m.toNat_lt;simp only[q02]at hb
 by_cases h6:m.toNat>6
 .refine A9 II ?_;with_reducible repeat' first|constructor|intro hc
  refine⟨_,_,rfl,rfl,?_⟩;simp[LL,BP,Bl,BM,Cq,HB,h6]
 by_cases hr:r.length<m.toNat
 .refine A9 II ?_;with_reducible repeat' first|constructor|intro hc
  refine⟨_,_,rfl,rfl,?_⟩;simp[LL,BP,Bl,BM,Cq,HB,h6,hr]
 have h3:List.drop 1 (List.take (1+(m.toNat:Int)).toNat (m::r))=r.take m.toNat:=by
  rw[show(1+(m.toNat:Int)).toNat=m.toNat+1 by omega];simp
 have h4:(r.take m.toNat).length=m.toNat:=by simp;omega
 refine Aj II ?_ (Au h3 h4);with_reducible repeat' first|constructor|intro hc
 have hlt:∀k,k<=m.toNat->OC (r.take k)<281474976710656:=by
  intro k hk;have:=sa (r.take k);have h6':(r.take k).length<=6:=by simp;omega
  have:256^(r.take k).length<=256^6:=Nat.pow_le_pow_right (by decide) h6';omega
 refine BX (fun k=>k<=m.toNat) (fun k:Nat=>⟨[(0,.d (.by (m::r))),(2,.yO (OC (r.take k):Nat)),(3,.e0),(4,.yO 0),(5,.yO m.toNat),(25,.d (.by (r.take m.toNat))),(26,.yO m.toNat),(27,.yO k)],[],54⟩) (fun k=>m.toNat-k) 0 (zi _) ?_ (zN _) ?_
 .exact A8.ck rfl
 intro k hk
 by_cases hkm:k<m.toNat
 .have e1:=shl8 (OC (r.take k)) (by have:=hlt k hk;omega);have e2:=or8 (OC (r.take k)) (by have:=hlt k hk;omega) ((r.take m.toNat).getD k 0)
  have e3:OC (r.take k)*256+((r.take m.toNat).getD k 0).toNat=OC (r.take (k+1)):=by
   have:=il (r.take m.toNat) k om;rw[List.take_take,List.take_take,Nat.min_eq_left om,Nat.min_eq_left om]at this;exact this.symm
  refine Aj II ?_ (CP e1 e2 e3);with_reducible repeat' first|constructor|intro hc
  refine⟨k+1,hkm,om,zN _,?_⟩;exact A8.ck rfl
 .have hkm':k=m.toNat:=om
  subst hkm'
  by_cases hP:(m.toNat>0/\r.getD 0 0=0)\/OC (r.take m.toNat)>1099511627776
  .have hT:Cq (m::r)=(0,[],12):=by simp only[Cq,zx h6,zx hr,zn hP]
   rw[hT];refine A9 II ?_;with_reducible repeat' first|constructor|intro hc
   all_goals first
    |(refine⟨_,_,rfl,rfl,?_⟩;simp[LL,BP,Bl,BM,HB];done)
    |(exfalso;rcases hP with⟨h,h'⟩|h<;>first|omega|(have h':=congrArg UInt8.toNat h';simp only[UInt8.toNat_zero]at h';omega))
  .have hT:Cq (m::r)=(OC (r.take m.toNat),r.drop m.toNat,0):=by simp only[Cq,zx h6,zx hr,zx hP]
   rw[hT];have e5:(1+(m.toNat:Int)).toNat=m.toNat+1:=om
   refine Aj II ?_ (AK e5);with_reducible repeat' first|constructor|intro hc
   all_goals first
    |(refine⟨_,_,rfl,rfl,?_⟩;simp[LL,BP,Bl,BM,HB];done)
    |(exfalso;exact hP (.inl ⟨om,u8z om⟩))
    |(exfalso;exact hP (.inr om))
theorem JS(b:AL):(Cq b).2.1.length<=b.length:=by
 rcases b with _|⟨m,r⟩
 .simp[Cq]
 .simp only[Cq];split
  .simp
  .split
   .simp
   .split
    .simp
    .simp;omega
theorem oa(b:AL):(Cq b).1<=1099511627776:=by
 rcases b with _|⟨m,r⟩
 .simp[Cq]
 .simp only[Cq];split
  .simp
  .split
   .simp
   .split
    .simp
    .simp;omega
theorem QP(b:AL)(hb:b.length<70368744177664):yS 383 [.by b] (HB (Cq b)):=by
 have hl:=JS b;refine zF AE Tryz.func383 ?_;refine AO [0,2,3,4] ?_ (Au (Io b hb) (K6 (Cq b).2.1 om));exact BW @HB.eq_1
def E5:AL->AL×AL×Int
 |[]=>([],[],11)
 |m::r=>if r.length<m.toNat then([],[],11)else(r.take m.toNat,r.drop m.toNat,0)
def Pf(x:AL×AL×Int):D:=.tup [.s x.1,.by x.2.1,.yX x.2.2]
theorem Pn(b:AL)(hb:b.length<70368744177664):yS 385 [.by b] (Pf (E5 b)):=by
 refine zF AE Tryz.func385 ?_;rcases b with _|⟨m,r⟩
 .refine A9 [0,2,3,4,5,8,17] ?_;exact BW (zh @E5.eq_1 @Pf.eq_1)
 have hm:=m.toNat_lt;simp only[q02]at hb
 by_cases hr:r.length<m.toNat
 .refine A9 [0,2,3,4,5,8,17] ?_;with_reducible repeat' first|constructor|intro hc
  refine⟨_,_,rfl,rfl,?_⟩;simp[LL,BP,Bl,BM,E5,Pf,hr]
 have e5:(1+(m.toNat:Int)).toNat=m.toNat+1:=om
 have h3:List.drop 1 (List.take (m.toNat+1) (m::r))=r.take m.toNat:=by simp
 refine AJ [0,2,3,4,5,8,17] ?_ (AK e5) (AK (K6 (r.drop m.toNat) (by simp;omega)));with_reducible repeat' first|constructor|intro hc
 refine⟨_,_,rfl,rfl,?_⟩;simp[LL,BP,Bl,BM,E5,Pf,hr]
abbrev LI:BF:=[0,2,3,4,6,9,16,17,18,19,24]
abbrev LJ:BF:=[0,2,3,4,5,8,14,15,16,24]
def Bi:Ai->AL
 |[]=>[]
 |n::l=>EH n.toNat++Bi l
theorem gm(a b:Ai):Bi (a++b)=Bi a++Bi b:=by
 induction a with
 |nil=>rfl
 |cons x r ih=>simp[Bi,ih]
def SU(l:Ai):AL×Int:=if l.length>255 then([],2)else if l.all fits then(UInt8.ofNat l.length::Bi l,0)else([],2)
theorem S6{n:Int}(h:fits n=true):∃m:Nat,n=m/\m<=1099511627776:=by
 simp[fits]at h;exact⟨n.toNat,om,om⟩
theorem Ha(l:Ai)(h:l.all fits=true):(Bi l).length<=7*l.length:=by
 induction l with
 |nil=>simp[Bi]
 |cons x r ih=>
  simp only[q15,zO]at h;obtain⟨m,rfl,hm⟩:=S6 h.1;have:=Y3 m hm;have:=ih h.2;simp only[Bi,q04,q02,q1Y];omega
variable {l:Ai}
theorem MM{k:Nat}(h:k<l.length):(l.take (k+1)).all fits=((l.take k).all fits&&fits (l.getD k 0)):=by
 rw[q0N h,zo,zV h,List.all_append];simp
theorem KS{k:Nat}(h:k<l.length):Bi (l.take (k+1))=Bi (l.take k)++EH (l.getD k 0).toNat:=by
 rw[q0N h,gm,zo,zV h];simp[Bi]
theorem list_fn(l:Ai):yS 430 [.is l] (.tup [.by (SU l).1,.yX (SU l).2]):=by
 refine zF AE Tryz.func430 ?_
 by_cases hl:l.length>255
 .refine A9 LI ?_;with_reducible repeat' first|constructor|intro hc
  exact BW (zh @SU.eq_1 hl)
 have h1:(l.length:Int)%256=l.length:=om
 have ow:Lv [15]:=trivial;refine Aj LI ?_ (AK h1);clear ow;with_reducible repeat' first|constructor|intro hc
 refine BX (fun k=>k<=l.length/\(l.take k).all fits=true) (fun k:Nat=>⟨[(0,.yV l),(2,.e0),(3,.yO 0),(4,.sl 0 (UInt8.ofNat l.length::Bi (l.take k)).length 1),(16,.yV l),(17,.yO l.length),(18,.yO k)],[.a (.by (UInt8.ofNat l.length::Bi (l.take k)))],30⟩) (fun k=>l.length-k) 0 ⟨zi _,sm⟩ ?_ (zN _) ?_
 .exact A8.ck rfl
 rintro k ⟨hk,hpre⟩;have hlen:=Ha _ hpre
 by_cases hka:k<l.length
 .by_cases hf:fits (l.getD k 0)=true
  .obtain⟨m,hm,hm'⟩:=S6 hf
   have hnext:(UInt8.ofNat l.length::Bi (l.take k))++EH m=UInt8.ofNat l.length::Bi (l.take (k+1)):=by
    rw[KS hka,hm];simp
   have hB:=Tv (UInt8.ofNat l.length::Bi (l.take k)) m hm' (by simp at hlen|-;omega);rw[hnext]at hB;rw[hm]at hf;refine By LI ?_ (Au hm hf) (AK (Qc m)) (BJ [0] hB);with_reducible repeat' first|constructor|intro hc
   refine⟨k+1,⟨hka,by rw[MM hka,hpre,hm,hf];rfl⟩,om,zN _,?_⟩;exact A8.ck rfl
  .have hf':fits (l.getD k 0)=false:=by simpa using hf
   have hall:l.all fits=false:=by
    rw[<-q0d (k+1) l,List.all_append,MM hka,hf'];simp
   refine AJ LI ?_ (AK hf') (AK (Qc (l.getD k 0)));with_reducible repeat' first|constructor|intro hc
   exact BW (zh @SU.eq_1 (zh hl hall))
 .have e:k=l.length:=om
  subst e;rw[q06]at hpre;refine A9 LI ?_;with_reducible repeat' first|constructor|intro hc
  exact BW (zh @SU.eq_1 (zh hl hpre))
def HC:Nat->AL->Ai->Ai×AL×Int
 |0,rest,acc=>(acc,rest,0)
 |k+1,rest,acc=>if(Cq rest).2.2=0 then HC k (Cq rest).2.1 (acc++[((Cq rest).1:Int)])else([],[],(Cq rest).2.2)
def E4:AL->Ai×AL×Int
 |[]=>([],[],11)
 |m::r=>HC m.toNat r []
def Pe(x:Ai×AL×Int):D:=.tup [.is x.1,.by x.2.1,.yX x.2.2]
theorem Pm(b:AL)(hb:b.length<70368744177664):yS 386 [.by b] (Pe (E4 b)):=by
 refine zF AE Tryz.func386 ?_;rcases b with _|⟨m,r⟩
 .refine A9 LJ ?_;exact BW (zh @E4.eq_1 @Pe.eq_1)
 have hm:=m.toNat_lt;simp only[q02]at hb;refine A9 LJ ?_;refine BG (A8.bv 2 (.is []) rfl rfl rfl trivial) sm ?_
 refine BX (α:=Nat×AL×Ai) (fun x=>x.1<=m.toNat/\x.2.1.length<=r.length/\x.2.2.length=x.1/\HC (m.toNat-x.1) x.2.1 x.2.2=HC m.toNat r [])
  (fun x=>⟨[(0,.d (.by (m::r))),(2,.sl 0 x.2.2.length 1),(3,.d (.by x.2.1)),(4,.yO 0),(14,.yO m.toNat),(15,.yO x.1)],[.a (.is x.2.2)],34⟩) (fun x=>m.toNat-x.1) (0,r,[]) ⟨zi _,zN _,rfl,rfl⟩ ?_ sm ?_
 .exact A8.ck rfl
 rintro⟨k,rest,acc⟩ ⟨hk,hrl,hal,hT⟩;simp only at hk hrl hal hT;have hl:=JS rest;have hv:=oa rest
 by_cases hkm:k<m.toNat
 .rw[show m.toNat-k=(m.toNat-(k+1))+1 by omega]at hT;simp only[HC]at hT
  by_cases he:(Cq rest).2.2=0
  .rw[zn he]at hT;refine AJ LJ ?_ (Au he @HB.eq_1) (AK (Io rest om));with_reducible repeat' first|constructor|intro hc
   refine⟨(k+1,(Cq rest).2.1,acc++[((Cq rest).1:Int)]),⟨hkm,by simp only;omega,by simp;omega,hT⟩,by simp only;omega,sm,?_⟩;exact A8.ck rfl
  .rw[zx he]at hT;refine AJ LJ ?_ (AK @HB.eq_1) (AK (Io rest om));with_reducible repeat' first|constructor|intro hc
   have e:E4 (m::r)=([],[],(Cq rest).2.2):=hT.symm;exact BW (zh e @Pe.eq_1)
 .have e:k=m.toNat:=om
  subst e;rw[Nat.sub_self]at hT;have e:E4 (m::r)=(acc,rest,0):=hT.symm;refine AO LJ ?_ (AK (K6 rest om));with_reducible repeat' first|constructor|intro hc
  exact BW (zh e @Pe.eq_1)
end Go.Proofs.YtamjpnmjpponpaaGreatDoor
namespace Go.Proofs.YtamjpnmjpponpaaGreatDoor
namespace Wi
open Go.Gar
abbrev Ji:BF:=[0,1,4,5,6,8,9,10,11,12,22,23,24,25,31]
def MF(b:Bool):Int:=if b then 1 else 0
theorem ZJ(b:Bool):yS 395 [.b b] (.yX (MF b)):=by
 refine zF AE Tryz.func395 ?_;cases b
 .refine A9 [0,2,3] ?_;exact BW @MF.eq_1
 .refine A9 [0,2,3] ?_;exact BW @MF.eq_1
theorem HY(c:Int):yS 384 [.yX 0,.yX c] (.tup []):=by
 refine zF AE Tryz.func384 ?_;refine A9 [0,1,5] ?_;exact zE
def pF(n:Int):yn:=[{v:=.iface 316 (.agg #[.int .i64 n]),recovered:=false}]
theorem Rk(e c:Int)(h:e≠0):MZ Tryz.prog 384 [.yO e,.yO c] [] (pF c) []:=by
 have f:=CI h;refine zX AE Tryz.func384 ?_;refine Aj [0,1,5] ?_ (AK f);exact⟨rfl,⟨[],[],_⟩,(A8.ck rfl),zN _,rfl⟩
theorem aS(l:Ai):yT 393 [.yV l] [] (.fn (.func 427) [] [.ptr 0 0 1]) [.c [.yV l]]:=by
 refine zD AE Tryz.func393 ?_;refine A9 [0,1,2] ?_;exact wE
theorem ofNat_toNat(d:UInt8):UInt8.ofNat ((d.toNat:Int)).toNat=d:=by simp
def wH(o:AL):z6:=[.c [.sl 1 o.length 1],.a (.by o)]
def wL(l:Ai)(o:AL)(r:Lp):z6:=[.c [.sl 1 o.length 1],.a (.by o),.c [.ptr 0 0 1],.c [.yV l],.lp r]
theorem K9(l:Ai)(o:AL)(hf:l.all fits=true)(hl:l.length<=1000)(ho:o.length<=1000000):
  yT 361 [.ptr 0 0 1,.yV l] (wH o) (.tup []) (wH (o++Bi l)):=by
 refine zD AE Tryz.func361 ?_;unfold wH;refine Ax [0,1,2,4,6,7] ?_ (BJ [] (aS l));refine zG (K:=fun r _ H'=>H'=wL l (o++Bi l) r) ?_ ?_
 .intro r hr;have hk:=hr.ok (k:=4) rfl
  have hY:∀(p:AL)(d:UInt8),p.length<=2000000->YT Tryz.prog 4 [.yQ d.toNat] (wL l p r) fun x K=>x= .yP true/\K=wL l (p++[d]) r:=by
   intro p d hp;have hd:=d.toNat_lt;unfold wL;refine Ar hr rfl rfl rfl ?_;refine A9 [0,1,2,4,6,7] ?_;refine zR ?_;refine A9 [0,1,2,4,6,7] ?_ [(0,7),(8,7),(9,7)];refine⟨_,A8.refl _,zN _,rfl,rfl,?_⟩;simp[ofNat_toNat]
  refine zT AE Tryz.func427 ?_;have hz:=hY;unfold wL at hz|-;refine A9 Ji ?_;refine BX (fun k=>k<=l.length) (fun k:Nat=>⟨[(0,.yl 4),(1,.ptr 3 0 1),(9,.yV l),(10,.yO l.length),(11,.yO k)],wL l (o++Bi (l.take k)) r,34⟩) (fun k=>l.length-k) 0 (zi _) ?_ (zN _) ?_
  .unfold wL;exact(have nC:=@Bi.eq_1;A8.co rfl)
  intro k hkk;unfold wL
  by_cases hkl:k<l.length
  .have hfk:fits (l.getD k 0)=true:=by
    rw[q0T]at hf;apply hf;rw[zo,zV hkl];exact q0q hkl
   have hpf:(l.take k).all fits=true:=by
    rw[q0T]at hf|-;exact fun x hx=>hf x (List.mem_of_mem_take hx)
   have hl1:=Ha _ hpf;have hl2:(l.take k).length<=1000:=by rw[q0D];omega
   obtain⟨m,hm,hm'⟩:=S6 hfk;have hn:=Y3 m hm';have hput:=am (l.getD k 0);have hde:=HY 2;have e:iB (l.getD k 0)=(EH m,0):=by unfold iB;rw[hfk,hm];rfl
   rw[e]at hput;refine AO Ji ?_ (Au @hput @hde);with_reducible repeat' first|constructor|intro hc
   refine BX (fun j=>j<=(EH m).length) (fun j:Nat=>⟨[(0,.yl 4),(1,.ptr 3 0 1),(9,.yV l),(10,.yO l.length),(11,.yO k),(22,.d (.by (EH m))),(23,.yO ((EH m).length)),(24,.yO j)],wL l (o++Bi (l.take k)++(EH m).take j) r,34⟩) (fun j=>(EH m).length-j) 0 (zi _) ?_ (zN _) ?_
   .unfold wL;exact(have nC:=trivial;A8.co rfl)
   intro j hj
   by_cases hjl:j<(EH m).length
   .have hy:=hz (o++Bi (l.take k)++(EH m).take j) ((EH m).getD j 0) (by simp only[q04,q0D];omega)
    have ej:(EH m).take (j+1)=(EH m).take j++[(EH m).getD j 0]:=by
     rw[q0N hjl,zo,zV hjl];rfl
    unfold wL;have q1:=@hy;refine A9 Ji ?_;clear q1;with_reducible repeat' first|constructor|intro hc
    refine⟨j+1,hjl,om,zN _,?_⟩;exact(have nC:=ej;A8.co rfl)
   .have ej:(EH m).take j=EH m:=q1V om;have ek:Bi (l.take (k+1))=Bi (l.take k)++EH m:=by rw[KS hkl,hm,q1Y]
    unfold wL;refine A9 Ji ?_;with_reducible repeat' first|constructor|intro hc
    refine⟨k+1,hkl,om,zN _,?_⟩;exact(have nC:=zh ek ej;A8.co rfl)
  .have e:k=l.length:=om
   subst e;rw[q06];refine A9 Ji ?_;with_reducible repeat' first|constructor|intro hc
   exact⟨_,A8.refl _,zN _,_,_,rfl,rfl,rfl⟩
 .rintro r hr x H' rfl;refine .inl ⟨rfl,?_⟩;unfold wL;refine A9 [0,1,2,4,6,7] ?_;exact wE
end Wi
end Go.Proofs.YtamjpnmjpponpaaGreatDoor
namespace Go.Proofs.YtamjpnmjpponpaaGreatDoor
open Go.Gar
theorem size_pos{n k:Nat}:0<n/256^k↔k<size n:=by
 have hp:0<256^k:=Nat.pow_pos (by decide);rw[Nat.div_pos_iff];have e:256^k=2^(8*k):=by rw[Nat.pow_mul]
 obtain⟨h1,h2⟩:=(JM (n:=n) (k:=Dy n)).1 rfl;unfold size;constructor
 .rintro⟨_,h⟩;rcases q0C (8*k) (Dy n)with h3|h3
  .omega
  .have:2^Dy n<=2^(8*k):=Nat.pow_le_pow_right (by decide) h3;omega
 .intro h;refine⟨hp,?_⟩;rcases h2 with h2|h2
  .omega
  .have:2^(8*k)<=2^(Dy n-1):=Nat.pow_le_pow_right (by decide) om;omega
end Go.Proofs.YtamjpnmjpponpaaGreatDoor
