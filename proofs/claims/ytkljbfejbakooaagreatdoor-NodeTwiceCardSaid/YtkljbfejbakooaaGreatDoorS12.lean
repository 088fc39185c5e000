/- Part 12 of a proof. Conditions: those that its theorems state. -/
import Derived.Test.YtkljbfejbakooaaGreatDoorS08
import Derived.Test.YtkljbfejbakooaaGreatDoorS11
set_option linter.unusedSimpArgs false
set_option linter.unusedVariables false
set_option linter.unnecessarySimpa false
set_option maxHeartbeats 40000000
set_option maxRecDepth 4000
namespace Go.Proofs.YtkljbfejbakooaaGreatDoor
open Go.Gar
abbrev M8:List Nat:=[0,1,2,4,5,13,14]
def size(n:Nat):Nat:=(Cg n+7)/8
theorem Xx(n:Nat)(h:n<9223372036854775808):qB 369 [.i .i64 n] (.i .i64 (size n)):=by
 have hl:Cg n<=64:=by
  have:=(HZ (n:=n) (k:=Cg n)).1 rfl;rcases this.2 with h2|h2
  .omega
  .rcases rG 64 (Cg n)with h3|h3
   .have:2^64<=2^(Cg n-1):=Nat.pow_le_pow_right (by decide) om;omega
   .exact h3
 have hm:(n:Int)%18446744073709551616=n:=om
 have hq:((Cg n:Int)+7).tdiv 8=(size n:Int):=by
  simp only[size];rw[Int.tdiv_eq_ediv_of_nonneg om];omega
 have hs:size n<=8:=by simp only[size];omega
 refine zF A4 Tryz.func369 ?_;refine wd [0,2] [] (AX hm hq) (A6 (dQ n om)) ?_
 .refine⟨_,_,rfl,rfl,?_⟩;simp[Bb]
theorem Yj(n:Int):qC 370 [.pY n] [] (.fn (.func 372) [] [.ptr 0 0 1]) [.c [.pY n]]:=by
 refine zD A4 Tryz.func370 ?_;refine wd [0,1,2] [] A0 A0 ?_;exact⟨_,(A1.ck rfl),qP _,_,_,rfl,rfl,rfl,rfl⟩
def jo(n i:Nat):UInt8:=UInt8.ofNat (n/256^i%256)
def Gj(n:Nat):List UInt8:=(List.range (size n)).map fun j=>jo n (size n-1-j)
def BP(n:Nat):List UInt8:=UInt8.ofNat (size n)::Gj n
theorem Yl(n j:Nat)(h:j<size n):(Gj n).take (j+1)=(Gj n).take j++[jo n (size n-1-j)]:=by
 rw[rU (by simp[Gj];exact h)];simp[Gj]
theorem size_le(n:Nat)(h:n<281474976710656):size n<=6:=by
 have:=(HZ (n:=n) (k:=Cg n)).1 rfl
 have:Cg n<=48:=by
  rcases this.2 with h2|h2
  .omega
  .rcases rG 48 (Cg n)with h3|h3
   .have:2^48<=2^(Cg n-1):=Nat.pow_le_pow_right (by decide) om;omega
   .exact h3
 simp only[size];omega
theorem shrN(n k:Nat)(hk:8*k<=64)(z:Int)(hz:z=((8*k:Nat):Int)):(n:Int).fdiv (2^min z.toNat 64)=((n/256^k:Nat):Int):=by
 subst hz
 have e:(2:Int)^(8*k)=((256^k:Nat):Int):=by
  rw[show(2:Int)=((2:Nat):Int)from rfl,<-Int.natCast_pow,Nat.pow_mul]
 rw[Int.toNat_natCast,Nat.min_eq_left hk,e,uO _ (sJ _),Int.natCast_ediv]
theorem Pw(l:List UInt8)(n:Nat)(hn:n<=1099511627776)(hl:l.length<70368744177664):
  qC 367 [.sl 0 l.length 1,.pY n] [.a (.by l)] (.sl 0 (l++BP n).length 1) [.a (.by (l++BP n))]:=by
 have hs:=size_le n om;have h1:(size n:Int)%256=size n:=om
 refine zD A4 Tryz.func367 ?_;have d1:=Ds.mk [] (Yj n);refine wd M8 [] (A6 h1) (A6 (Xx n om)) ?_;clear d1;refine zG (K:=fun r _ H'=>H'=[.a (.by (l++BP n)),.c [.sl 0 (l++BP n).length 1],.c [.pY n],.lp r]) ?_ ?_
 .intro r hr;refine zT A4 Tryz.func372 ?_;refine wd [0,1,3,8,18] [] A0 (A6 (Xx n om)) ?_;have hk:=hr.ok (k:=3) rfl;refine An (fun j=>j<=size n) (fun j:Nat=>⟨[(0,.yl 3),(1,.ptr 2 0 1),(3,.pY ((size n:Int)-1-j))],[.a (.by (l++(BP n).take (j+1))),.c [.sl 0 (l++(BP n).take (j+1)).length 1],.c [.pY n],.lp r],19⟩) (fun j=>size n-j) 0 (qP _) ?_ (qG _) ?_
  .exact A1.ck rfl
  intro j hj
  by_cases hlt:j<size n
  .have e1:((n:Int).fdiv (2^min (8*((size n:Int)-1-j)).toNat 64)%256).toNat=n/256^(size n-1-j)%256:=by
    rw[shrN n (size n-1-j) om _ om];omega
   have hnext:(BP n).take (j+1)++[UInt8.ofNat ((n:Int).fdiv (2^min (8*((size n:Int)-1-j)).toNat 64)%256).toNat]=(BP n).take (j+1+1):=by
    rw[e1];simp only[BP,List.take_succ_cons,Yl n j hlt];rfl
   refine wd [0,1,3,8,18] [] A0 A0 ?_;with_reducible repeat' first|constructor|intro hc;try simp only[AB]at hc
   refine Xy (x:=.pq true) (H':=[.a (.by (l++(BP n).take (j+1+1))),.c [.sl 0 (l++(BP n).take (j+1+1)).length 1],.c [.pY n],.lp r]) (AZ hr rfl rfl rfl ?_) rfl rfl rfl rfl rfl ?_
   .refine wd M8 [] A0 A0 ?_;refine zR ?_;refine wd M8 [] A0 A0 ?_;refine⟨_,A1.refl _,qG _,rfl,rfl,?_⟩;simp only[qm,hnext,List.set_cons_succ,List.set_cons_zero]
   .refine wd [0,1,3,8,18] [] A0 A0 ?_;refine⟨j+1,hlt,om,qG _,?_⟩;exact A1.ck rfl
  .refine wd [0,1,3,8,18] [] A0 A0 ?_;with_reducible repeat' first|constructor|intro hc;try simp only[AB]at hc
   have:(BP n).take (j+1)=BP n:=by
    rw[sS];simp[BP,Gj];omega
   refine⟨_,A1.refl _,qG _,_,_,rfl,rfl,?_⟩;simp only[this]
 .rintro r hr x H' rfl;refine .inl ⟨rfl,?_⟩;refine wd M8 [] A0 A0 ?_;exact⟨⟨[(4,.sl 0 (l++BP n).length 1)],[.a (.by (l++BP n))],Tryz.f367.ntmps⟩,(A1.ck rfl),qG _,_,_,rfl,rfl,rfl,rfl⟩
abbrev Gf:List Nat:=[0,2,3,4,5,7,10,16,21,25,26,27,28,48]
theorem V0(n:Nat)(hn:n<=1099511627776):qC 367 [.e0,.pY n] [] (.sl 0 (BP n).length 1) [.a (.by (BP n))]:=
 IY.e0 (.by []) rfl rfl trivial (Pw [] n hn (by decide))
theorem Bd(n:Nat)(h:n<=1099511627776):(BP n).length<=7:=by
 have:=size_le n om;simp[BP,Gj];omega
def Lc(n:Int):List UInt8×Int:=if fits n then(BP n.toNat,0)else([],2)
theorem mQ(n:Int):qB 355 [.i .i64 n] (.tup [.by (Lc n).1,.i .i64 (Lc n).2]):=by
 by_cases hf:fits n=true
 .obtain⟨m,rfl⟩:∃m:Nat,n=m:=⟨n.toNat,by simp[fits]at hf;omega⟩;have hm:m<=1099511627776:=by simp[fits]at hf;omega
  refine zF A4 Tryz.func355 ?_;have d1:=Ds.mk [] (V0 m hm);refine wd [0,2,3,6] [] (A6 hf) (A6 (Nj m)) ?_ [] true;clear d1;exact Ag (qQ @Lc.eq_1 hf)
 .have hf':fits n=false:=by simpa using hf
  refine zF A4 Tryz.func355 ?_;refine wd [0,2,3,6] [] (A6 hf') (A6 (Nj n)) ?_ [] true;exact Ag (qQ @Lc.eq_1 hf')
def textS(s:List UInt8):List UInt8×Int:=if s.length>255 then([],2)else(UInt8.ofNat s.length::s,0)
theorem jP(s:List UInt8):qB 356 [.s s] (.tup [.by (textS s).1,.i .i64 (textS s).2]):=by
 refine zF A4 Tryz.func356 ?_
 by_cases h:s.length>255
 .have h1:decide ((s.length:Int)>255)=true:=by simp;omega
  refine wd [0,2,3,6] [] (A6 h1) A0 ?_ [] true;exact Ag (qQ @textS.eq_1 h)
 .have h1:decide ((s.length:Int)>255)=false:=by simp;omega
  have h2:(s.length:Int)%256=s.length:=om
  have ow:Lv [10]:=trivial;refine wd [0,2,3,6] [] (AX h1 h2) A0 ?_ [] true;clear ow;exact Ag (qQ @textS.eq_1 h)
theorem ed(s:List UInt8):qB 228 [.s s] (.tup [.by (textS s).1,.i .i64 (textS s).2]):=by
 refine zF A4 Tryz.func228 ?_
 by_cases h:s.length>255
 .have h1:decide ((s.length:Int)>255)=true:=by simp;omega
  refine wd [0,2,3,6] [] (A6 h1) A0 ?_;exact Ag (qQ @textS.eq_1 h)
 .have h1:decide ((s.length:Int)>255)=false:=by simp;omega
  have h2:(s.length:Int)%256=s.length:=om
  have ow:Lv [10]:=trivial;refine wd [0,2,3,6] [] (AX h1 h2) A0 ?_;clear ow;exact Ag (qQ @textS.eq_1 h)
theorem Vl(l:List UInt8)(h:l.length<=140737488355328):qB 348 [.by l] (.by l):=by
 refine zF A4 Tryz.func348 ?_;refine wd [0,2] [] A0 A0 ?_;refine⟨_,_,rfl,rfl,?_⟩;simp[Bb]
def E4(l:List UInt8):Nat:=l.foldl (fun a d=>a*256+d.toNat) 0
theorem Qh(l:List UInt8)(k:Nat)(h:k<l.length):E4 (l.take (k+1))=E4 (l.take k)*256+(l.getD k 0).toNat:=by
 unfold E4;rw[rU h,qW,qK h,List.foldl_append];rfl
theorem Nv(l:List UInt8):E4 l<256^l.length:=by
 have key:∀(l:List UInt8)(a k:Nat),a<256^k->l.foldl (fun a d=>a*256+d.toNat) a<256^(k+l.length):=by
  intro l
  induction l with
  |nil=>intro a k h;simpa using h
  |cons d r ih=>
   intro a k h;have hd:=d.toNat_lt;have:a*256+d.toNat<256^(k+1):=by rw[Nat.pow_succ];omega
   have:=ih _ (k+1) this;simp only[tV,qY];rwa [show k+(r.length+1)=k+1+r.length by omega]
 have:=key l 0 0 sm;rwa [sN]at this
def Av:List UInt8->Nat×List UInt8×Int
 |[]=>(0,[],11)
 |m::r=>if m.toNat>6 then(0,[],12)else if r.length<m.toNat then(0,[],11)else
  if(m.toNat>0/\r.getD 0 0=0)\/E4 (r.take m.toNat)>1099511627776 then(0,[],12)else(E4 (r.take m.toNat),r.drop m.toNat,0)
def CJ(x:Nat×List UInt8×Int):D:=.tup [.i .i64 x.1,.by x.2.1,.i .i64 x.2.2]
theorem shl8(a:Nat)(h:a<36028797018963968):IntKind.wrap .i64 ((a:Int)*2^min 8 64)=((a*256:Nat):Int):=by
 simp[IntKind.wrap,IntKind.bits,IntKind.signed];omega
theorem or8(a:Nat)(h:a<36028797018963968)(d:UInt8):C9 .or .i64 ((a*256:Nat):Int) (d.toNat:Int)=((a*256+d.toNat:Nat):Int):=by
 have hd:=d.toNat_lt
 have e:(BitVec.ofInt 64 ((a*256:Nat):Int)|||BitVec.ofInt 64 (d.toNat:Int)).toNat=a*256+d.toNat:=by
  rw[BitVec.ofInt_natCast,BitVec.ofInt_natCast,BitVec.toNat_or,BitVec.toNat_ofNat,BitVec.toNat_ofNat,Nat.mod_eq_of_lt om,Nat.mod_eq_of_lt om];rw[show a*256=2^8*a by omega,Nat.two_pow_add_eq_or_of_lt hd]
 have e2:C9 .or .i64 ((a*256:Nat):Int) (d.toNat:Int)=IntKind.wrap .i64 (BitVec.ofInt 64 ((a*256:Nat):Int)|||BitVec.ofInt 64 (d.toNat:Int)).toNat:=rfl;rw[e2,e];simp[IntKind.wrap,IntKind.bits,IntKind.signed];omega
theorem Jo(b:List UInt8)(hb:b.length<70368744177664):qB 347 [.by b] (CJ (Av b)):=by
 refine zF A4 Tryz.func347 ?_;rcases b with _|⟨m,r⟩
 .refine wd Gf [] A0 A0 ?_ [] true;exact Ag (qQ @Av.eq_1 @CJ.eq_1)
 have hm:=m.toNat_lt;simp only[qY]at hb
 by_cases h6:m.toNat>6
 .refine wd Gf [] A0 A0 ?_ [] true;with_reducible repeat' first|constructor|intro hc;try simp only[AB]at hc
  refine⟨_,_,rfl,rfl,?_⟩;simp[H8,AP,Aj,AF,Av,CJ,h6]
 by_cases hr:r.length<m.toNat
 .refine wd Gf [] A0 A0 ?_ [] true;with_reducible repeat' first|constructor|intro hc;try simp only[AB]at hc
  refine⟨_,_,rfl,rfl,?_⟩;simp[H8,AP,Aj,AF,Av,CJ,h6,hr]
 have h3:List.drop 1 (List.take (1+(m.toNat:Int)).toNat (m::r))=r.take m.toNat:=by
  rw[show(1+(m.toNat:Int)).toNat=m.toNat+1 by omega];simp
 have h4:(r.take m.toNat).length=m.toNat:=by simp;omega
 refine wd Gf [] (AX h3 h4) A0 ?_ [] true;with_reducible repeat' first|constructor|intro hc;try simp only[AB]at hc
 have hlt:∀k,k<=m.toNat->E4 (r.take k)<281474976710656:=by
  intro k hk;have:=Nv (r.take k);have h6':(r.take k).length<=6:=by simp;omega
  have:256^(r.take k).length<=256^6:=Nat.pow_le_pow_right (by decide) h6';omega
 refine An (fun k=>k<=m.toNat) (fun k:Nat=>⟨[(0,.d (.by (m::r))),(2,.pY (E4 (r.take k):Nat)),(3,.e0),(4,.pY 0),(5,.pY m.toNat),(25,.d (.by (r.take m.toNat))),(26,.pY m.toNat),(27,.pY k)],[],54⟩) (fun k=>m.toNat-k) 0 (qP _) ?_ (qG _) ?_
 .exact A1.ck rfl
 intro k hk
 by_cases hkm:k<m.toNat
 .have e1:=shl8 (E4 (r.take k)) (by have:=hlt k hk;omega);have e2:=or8 (E4 (r.take k)) (by have:=hlt k hk;omega) ((r.take m.toNat).getD k 0)
  have e3:E4 (r.take k)*256+((r.take m.toNat).getD k 0).toNat=E4 (r.take (k+1)):=by
   have:=Qh (r.take m.toNat) k om;rw[List.take_take,List.take_take,Nat.min_eq_left om,Nat.min_eq_left om]at this;exact this.symm
  refine wd Gf [] (C3 e1 e2 e3) A0 ?_ [] true;with_reducible repeat' first|constructor|intro hc;try simp only[AB]at hc
  refine⟨k+1,hkm,om,qG _,?_⟩;exact A1.ck rfl
 .have hkm':k=m.toNat:=om
  subst hkm'
  by_cases hP:(m.toNat>0/\r.getD 0 0=0)\/E4 (r.take m.toNat)>1099511627776
  .have hT:Av (m::r)=(0,[],12):=by simp only[Av,if_neg h6,if_neg hr,if_pos hP]
   rw[hT];refine wd Gf [] A0 A0 ?_ [] true;with_reducible repeat' first|constructor|intro hc;try simp only[AB]at hc
   all_goals first
    |(refine⟨_,_,rfl,rfl,?_⟩;simp[H8,AP,Aj,AF,CJ];done)
    |(exfalso;rcases hP with⟨h,h'⟩|h<;>first|omega|(have h':=congrArg UInt8.toNat h';simp only[UInt8.toNat_zero]at h';omega))
  .have hT:Av (m::r)=(E4 (r.take m.toNat),r.drop m.toNat,0):=by simp only[Av,if_neg h6,if_neg hr,if_neg hP]
   rw[hT];have e5:(1+(m.toNat:Int)).toNat=m.toNat+1:=om
   refine wd Gf [] (A6 e5) A0 ?_ [] true;with_reducible repeat' first|constructor|intro hc;try simp only[AB]at hc
   all_goals first
    |(refine⟨_,_,rfl,rfl,?_⟩;simp[H8,AP,Aj,AF,CJ];done)
    |(exfalso;exact hP (.inl ⟨om,u8z om⟩))
    |(exfalso;exact hP (.inr om))
theorem GE(b:List UInt8):(Av b).2.1.length<=b.length:=by
 rcases b with _|⟨m,r⟩
 .simp[Av]
 .simp only[Av];split
  .simp
  .split
   .simp
   .split
    .simp
    .simp;omega
theorem Ui(b:List UInt8):(Av b).1<=1099511627776:=by
 rcases b with _|⟨m,r⟩
 .simp[Av]
 .simp only[Av];split
  .simp
  .split
   .simp
   .split
    .simp
    .simp;omega
theorem Kv(b:List UInt8)(hb:b.length<70368744177664):qB 309 [.by b] (CJ (Av b)):=by
 have hl:=GE b;refine zF A4 Tryz.func309 ?_;refine wd [0,2,3,4] [] A0 (AX (Jo b hb) (Vl (Av b).2.1 om)) ?_;exact Ag @CJ.eq_1
def AO:List UInt8->List UInt8×List UInt8×Int
 |[]=>([],[],11)
 |m::r=>if r.length<m.toNat then([],[],11)else(r.take m.toNat,r.drop m.toNat,0)
def Fc(x:List UInt8×List UInt8×Int):D:=.tup [.s x.1,.by x.2.1,.i .i64 x.2.2]
theorem Mw(b:List UInt8)(hb:b.length<70368744177664):qB 311 [.by b] (Fc (AO b)):=by
 refine zF A4 Tryz.func311 ?_;rcases b with _|⟨m,r⟩
 .refine wd [0,2,3,4,5,8,17] [] A0 A0 ?_ [] true;exact Ag (qQ @AO.eq_1 @Fc.eq_1)
 have hm:=m.toNat_lt;simp only[qY]at hb
 by_cases hr:r.length<m.toNat
 .refine wd [0,2,3,4,5,8,17] [] A0 A0 ?_ [] true;with_reducible repeat' first|constructor|intro hc;try simp only[AB]at hc
  refine⟨_,_,rfl,rfl,?_⟩;simp[H8,AP,Aj,AF,AO,Fc,hr]
 have e5:(1+(m.toNat:Int)).toNat=m.toNat+1:=om
 have h3:List.drop 1 (List.take (m.toNat+1) (m::r))=r.take m.toNat:=by simp
 refine wd [0,2,3,4,5,8,17] [] (A6 e5) (A6 (Vl (r.drop m.toNat) (by simp;omega))) ?_ [] true;with_reducible repeat' first|constructor|intro hc;try simp only[AB]at hc
 refine⟨_,_,rfl,rfl,?_⟩;simp[H8,AP,Aj,AF,AO,Fc,hr]
theorem Le(b:List UInt8)(hb:b.length<70368744177664):qB 224 [.by b] (Fc (AO b)):=by
 refine zF A4 Tryz.func224 ?_;rcases b with _|⟨m,r⟩
 .refine wd [0,2,3,4,5,18] [] A0 A0 ?_;exact Ag (qQ @AO.eq_1 @Fc.eq_1)
 have hm:=m.toNat_lt;simp only[qY]at hb
 by_cases hr:r.length<m.toNat
 .refine wd [0,2,3,4,5,18] [] A0 A0 ?_;with_reducible repeat' first|constructor|intro hc;try simp only[AB]at hc
  refine⟨_,_,rfl,rfl,?_⟩;simp[H8,AP,Aj,AF,AO,Fc,hr]
 have e5:(1+(m.toNat:Int)).toNat=m.toNat+1:=om
 refine wd [0,2,3,4,5,18] [] (A6 e5) A0 ?_;with_reducible repeat' first|constructor|intro hc;try simp only[AB]at hc
 refine⟨_,_,rfl,rfl,?_⟩;simp[H8,AP,Aj,AF,AO,Fc,hr]
abbrev JH:List Nat:=[0,2,3,4,6,9,16,17,18,19,24]
abbrev JI:List Nat:=[0,2,3,4,5,8,14,15,16,24]
def A7:List Int->List UInt8
 |[]=>[]
 |n::l=>BP n.toNat++A7 l
theorem ZM(a b:List Int):A7 (a++b)=A7 a++A7 b:=by
 induction a with
 |nil=>rfl
 |cons x r ih=>simp[A7,ih]
def Gw(l:List Int):List UInt8×Int:=if l.length>255 then([],2)else if l.all fits then(UInt8.ofNat l.length::A7 l,0)else([],2)
theorem HW{n:Int}(h:fits n=true):∃m:Nat,n=m/\m<=1099511627776:=by
 simp[fits]at h;exact⟨n.toNat,om,om⟩
theorem EH(l:List Int)(h:l.all fits=true):(A7 l).length<=7*l.length:=by
 induction l with
 |nil=>simp[A7]
 |cons x r ih=>
  simp only[sH,qH]at h;obtain⟨m,rfl,hm⟩:=HW h.1;have:=Bd m hm;have:=ih h.2;simp only[A7,qj,qY,Int.toNat_natCast];omega
variable {l:List Int}{k:Nat}
theorem F5(h:k<l.length):(l.take (k+1)).all fits=((l.take k).all fits&&fits (l.getD k 0)):=by
 rw[rU h,qW,qK h,List.all_append];simp
theorem E6(h:k<l.length):A7 (l.take (k+1))=A7 (l.take k)++BP (l.getD k 0).toNat:=by
 rw[rU h,ZM,qW,qK h];simp[A7]
theorem list_fn(l:List Int):qB 357 [.is l] (.tup [.by (Gw l).1,.i .i64 (Gw l).2]):=by
 refine zF A4 Tryz.func357 ?_
 by_cases hl:l.length>255
 .refine wd JH [] A0 A0 ?_ [] true;with_reducible repeat' first|constructor|intro hc;try simp only[AB]at hc
  exact Ag (qQ @Gw.eq_1 hl)
 have h1:(l.length:Int)%256=l.length:=om
 have ow:Lv [15]:=trivial;refine wd JH [] (A6 h1) A0 ?_ [] true;clear ow;with_reducible repeat' first|constructor|intro hc;try simp only[AB]at hc
 refine An (fun k=>k<=l.length/\(l.take k).all fits=true) (fun k:Nat=>⟨[(0,.qF l),(2,.e0),(3,.pY 0),(4,.sl 0 (UInt8.ofNat l.length::A7 (l.take k)).length 1),(16,.qF l),(17,.pY l.length),(18,.pY k)],[.a (.by (UInt8.ofNat l.length::A7 (l.take k)))],30⟩) (fun k=>l.length-k) 0 ⟨qP _,sm⟩ ?_ (qG _) ?_
 .exact A1.ck rfl
 rintro k ⟨hk,hpre⟩;have hlen:=EH _ hpre
 by_cases hka:k<l.length
 .by_cases hf:fits (l.getD k 0)=true
  .obtain⟨m,hm,hm'⟩:=HW hf
   have hnext:(UInt8.ofNat l.length::A7 (l.take k))++BP m=UInt8.ofNat l.length::A7 (l.take (k+1)):=by
    rw[E6 hka,hm];simp
   have hB:=Pw (UInt8.ofNat l.length::A7 (l.take k)) m hm' (by simp at hlen|-;omega);rw[hnext]at hB;rw[hm]at hf;have d1:=Ds.mk [0] (hB);refine wd JH [] (AX hm hf) (A6 (Nj m)) ?_ [] true;clear d1;with_reducible repeat' first|constructor|intro hc;try simp only[AB]at hc
   refine⟨k+1,⟨hka,by rw[F5 hka,hpre,hm,hf];rfl⟩,om,qG _,?_⟩;exact A1.ck rfl
  .have hf':fits (l.getD k 0)=false:=by simpa using hf
   have hall:l.all fits=false:=by
    rw[<-rX (k+1) l,List.all_append,F5 hka,hf'];simp
   refine wd JH [] (A6 hf') (A6 (Nj (l.getD k 0))) ?_ [] true;with_reducible repeat' first|constructor|intro hc;try simp only[AB]at hc
   exact Ag (qQ @Gw.eq_1 (qQ hl hall))
 .have e:k=l.length:=om
  subst e;rw[qx]at hpre;refine wd JH [] A0 A0 ?_ [] true;with_reducible repeat' first|constructor|intro hc;try simp only[AB]at hc
  exact Ag (qQ @Gw.eq_1 (qQ hl hpre))
def CK:Nat->List UInt8->List Int->List Int×List UInt8×Int
 |0,rest,acc=>(acc,rest,0)
 |k+1,rest,acc=>if(Av rest).2.2=0 then CK k (Av rest).2.1 (acc++[((Av rest).1:Int)])else([],[],(Av rest).2.2)
def Af:List UInt8->List Int×List UInt8×Int
 |[]=>([],[],11)
 |m::r=>CK m.toNat r []
def Gc(x:List Int×List UInt8×Int):D:=.tup [.is x.1,.by x.2.1,.i .i64 x.2.2]
theorem Mv(b:List UInt8)(hb:b.length<70368744177664):qB 312 [.by b] (Gc (Af b)):=by
 refine zF A4 Tryz.func312 ?_;rcases b with _|⟨m,r⟩
 .refine wd JI [] A0 A0 ?_ [] true;exact Ag (qQ @Af.eq_1 @Gc.eq_1)
 have hm:=m.toNat_lt;simp only[qY]at hb;refine wd JI [] A0 A0 ?_ [] true;refine Ah (A1.Wu 2 (.is []) rfl rfl rfl trivial) sm ?_
 refine An (α:=Nat×List UInt8×List Int) (fun x=>x.1<=m.toNat/\x.2.1.length<=r.length/\x.2.2.length=x.1/\CK (m.toNat-x.1) x.2.1 x.2.2=CK m.toNat r [])
  (fun x=>⟨[(0,.d (.by (m::r))),(2,.sl 0 x.2.2.length 1),(3,.d (.by x.2.1)),(4,.pY 0),(14,.pY m.toNat),(15,.pY x.1)],[.a (.is x.2.2)],34⟩) (fun x=>m.toNat-x.1) (0,r,[]) ⟨qP _,qG _,rfl,rfl⟩ ?_ sm ?_
 .exact A1.ck rfl
 rintro⟨k,rest,acc⟩ ⟨hk,hrl,hal,hT⟩;simp only at hk hrl hal hT;have hl:=GE rest;have hv:=Ui rest
 by_cases hkm:k<m.toNat
 .rw[show m.toNat-k=(m.toNat-(k+1))+1 by omega]at hT;simp only[CK]at hT
  by_cases he:(Av rest).2.2=0
  .rw[if_pos he]at hT;refine wd JI [] (AX he @CJ.eq_1) (A6 (Jo rest om)) ?_ [] true;with_reducible repeat' first|constructor|intro hc;try simp only[AB]at hc
   refine⟨(k+1,(Av rest).2.1,acc++[((Av rest).1:Int)]),⟨hkm,by simp only;omega,by simp;omega,hT⟩,by simp only;omega,sm,?_⟩;exact A1.ck rfl
  .rw[if_neg he]at hT;refine wd JI [] (A6 @CJ.eq_1) (A6 (Jo rest om)) ?_ [] true;with_reducible repeat' first|constructor|intro hc;try simp only[AB]at hc
   have e:Af (m::r)=([],[],(Av rest).2.2):=hT.symm;exact Ag (qQ e @Gc.eq_1)
 .have e:k=m.toNat:=om
  subst e;rw[Nat.sub_self]at hT;have e:Af (m::r)=(acc,rest,0):=hT.symm;refine wd JI [] A0 (A6 (Vl rest om)) ?_ [] true;with_reducible repeat' first|constructor|intro hc;try simp only[AB]at hc
  exact Ag (qQ e @Gc.eq_1)
abbrev M9:List Nat:=[0,2,3,4,10,12]
def FJ(n k:Nat):List UInt8:=(List.range k).map fun j=>jo n (k-1-j)
theorem Hb(n k:Nat):FJ n (k+1)=jo n k::FJ n k:=by
 simp only[FJ,List.range_succ_eq_map,sO,List.map_map];refine congr (congrArg _ sm) ?_;apply List.map_congr_left;intro j _;simp only[Function.comp]
 congr 1;omega
theorem MN(a:Nat)(h:a<4611686018427387904):Ef .i64 (a:Int)=true:=by
 simp only[Ef,qH,qJ];constructor<;>omega
theorem size_pos{n:Nat}:0<n/256^k↔k<size n:=by
 have hp:0<256^k:=Nat.pow_pos (by decide);rw[Nat.div_pos_iff];have e:256^k=2^(8*k):=by rw[Nat.pow_mul]
 obtain⟨h1,h2⟩:=(HZ (n:=n) (k:=Cg n)).1 rfl;unfold size;constructor
 .rintro⟨_,h⟩;rcases rG (8*k) (Cg n)with h3|h3
  .omega
  .have:2^Cg n<=2^(8*k):=Nat.pow_le_pow_right (by decide) h3;omega
 .intro h;refine⟨hp,?_⟩;rcases h2 with h2|h2
  .omega
  .have:2^(8*k)<=2^(Cg n-1):=Nat.pow_le_pow_right (by decide) om;omega
theorem Xt(n:Int):qB 298 [.i .i64 n] (.tup [.by (Lc n).1,.i .i64 (Lc n).2]):=by
 by_cases hf:fits n=true
 .obtain⟨m,rfl,hm⟩:=HW hf;have hs:=size_le m om;refine zF A4 Tryz.func298 ?_;refine wd M9 [] A0 A0 ?_;with_reducible repeat' first|constructor|intro hc;try simp only[AB]at hc
  refine Ah (A1.e0 4 (.by []) rfl rfl rfl trivial) sm ?_;refine An (fun k=>k<=size m) (fun k:Nat=>⟨[(0,.pY (m/256^k:Nat)),(2,.e0),(3,.pY 0),(4,.d (.by (FJ m k)))],[],27⟩) (fun k=>size m-k) 0 (qP _) ?_ sm ?_
  .exact A1.ck rfl
  intro k hk;have hsp:=size_pos (n:=m) (k:=k);have hle:m/256^k<=m:=Nat.div_le_self _ _;have hll:(FJ m k).length=k:=by simp[FJ]
  by_cases hkm:k<size m
  .have hp:=hsp.2 hkm
   have e1:((m/256^k:Nat):Int).tmod 256=((m/256^k%256:Nat):Int):=by
    rw[Int.tmod_eq_emod_of_nonneg om];rfl
   have e2:((m/256^k%256:Nat):Int)%256=((m/256^k%256:Nat):Int):=om
   have e3:((m/256^k:Nat):Int).tdiv 256=((m/256^(k+1):Nat):Int):=by
    rw[Int.tdiv_eq_ediv_of_nonneg om,Nat.pow_succ,<-Nat.div_div_eq_div_mul];rfl
   have e4:(UInt8.ofNat (m/256^k%256)::FJ m k)=FJ m (k+1):=(Hb m k).symm;have hle':m/256^(k+1)<=m:=Nat.div_le_self _ _;have ow:Lv [16]:=trivial;refine wd M9 [] (Kl e1 e2 e3 e4) A0 ?_;clear ow;with_reducible repeat' first|constructor|intro hc;try simp only[AB]at hc
   rotate_left
   .rw[e3];exact Ip rfl (MN _ om)
   refine⟨k+1,hkm,om,qP _,?_⟩;refine A1.trans' (A1.cY 4 0 (x:=.by (FJ m (k+1))) (congrArg (fun z=>some (A3.a (D.by z))) e4) rfl rfl) ?_ (qP _);exact A1.ck rfl
  .have e:k=size m:=om
   subst e;have h0:m/256^size m=0:=Nat.eq_zero_of_not_pos (fun h=>absurd (hsp.1 h) (Nat.lt_irrefl _));have e5:((size m:Nat):Int)%256=size m:=om
   have e6:FJ m (size m)=Gj m:=rfl;have e7:(Gj m).length=size m:=by simp[Gj]
   have ow:Lv [24]:=trivial;refine wd M9 [] (Kl h0 e5 e6 e7) A0 ?_;clear ow;exact Ag (qQ @Lc.eq_1 (qQ hf (qQ @BP.eq_1 (qQ e6 e7))))
 .have hf':fits n=false:=by simpa using hf
  have hc':n<0\/n>1099511627776:=by simp[fits]at hf';omega
  refine zF A4 Tryz.func298 ?_;refine wd M9 [] A0 A0 ?_;with_reducible repeat' first|constructor|intro hc;try simp only[AB]at hc
  all_goals first
   |(refine⟨_,_,rfl,rfl,?_⟩;simp[H8,AP,Aj,AF,Lc,hf'];done)
   |(exfalso;omega)
end Go.Proofs.YtkljbfejbakooaaGreatDoor
namespace Go.Proofs.YtkljbfejbakooaaGreatDoor
open Go.Gar
theorem aP(l:List UInt8)(a:Nat):l.foldl (fun a d=>a*256+d.toNat) a=a*256^l.length+E4 l:=by
 induction l generalizing a with
 |nil=>simp[E4]
 |cons d r ih=>
  have e:E4 (d::r)=d.toNat*256^r.length+E4 r:=by
   show r.foldl _ (0*256+d.toNat)=_;rw[ih];simp
  simp only[tV,qY];rw[ih,e,Nat.pow_succ,uP,Nat.mul_assoc,Nat.mul_comm 256,Nat.add_assoc]
theorem Mr(d:UInt8)(l:List UInt8):E4 (d::l)=d.toNat*256^l.length+E4 l:=by
 show l.foldl _ (0*256+d.toNat)=_;rw[aP];simp
theorem LA(n i:Nat):(jo n i).toNat=n/256^i%256:=by
 simp[jo]
theorem U7(n k:Nat):(FJ n k).length=k:=by simp[FJ]
theorem aQ(n k:Nat):E4 (FJ n k)=n%256^k:=by
 induction k with
 |zero=>simp[FJ,E4,Nat.mod_one]
 |succ k ih=>
  rw[Hb,Mr,ih,U7,LA,Nat.pow_succ,Nat.mod_mul];rw[Nat.mul_comm,Nat.add_comm]
theorem Xz(n:Nat):n<256^size n:=by
 have h:=(size_pos (n:=n) (k:=size n));have h0:n/256^size n=0:=Nat.eq_zero_of_not_pos (fun h1=>absurd (h.1 h1) (Nat.lt_irrefl _));have hp:0<256^size n:=Nat.pow_pos (by decide);rcases(Nat.div_eq_zero_iff).1 h0 with h1|h1
 .omega
 .exact h1
theorem R6(n:Nat):Gj n=FJ n (size n):=rfl
theorem aO(n:Nat):E4 (Gj n)=n:=by
 rw[R6,aQ,Nat.mod_eq_of_lt (Xz n)]
theorem bg(n:Nat):(Gj n).length=size n:=U7 _ _
theorem Yk(n:Nat)(h:0<size n):(Gj n).getD 0 0≠0:=by
 obtain⟨k,hk⟩:∃k,size n=k+1:=⟨size n-1,om⟩;rw[R6,hk,Hb];intro e;have e':=congrArg UInt8.toNat e;simp only[uf,LA,UInt8.toNat_zero]at e';have h1:=(size_pos (n:=n) (k:=k)).2 om;have h2:=Xz n;rw[hk,Nat.pow_succ]at h2;have h3:n/256^k<256:=(Nat.div_lt_iff_lt_mul (Nat.pow_pos (by decide))).2 (by rwa [Nat.mul_comm]);omega
theorem Qc(n:Nat)(r:List UInt8)(h:n<=1099511627776):Av (BP n++r)=(n,r,0):=by
 have hs:=size_le n om;have hl:=bg n;have hm:(UInt8.ofNat (size n)).toNat=size n:=by rw[uT];omega
 have e1:(Gj n++r).take (size n)=Gj n:=by rw[<-hl];simp
 have e2:(Gj n++r).drop (size n)=r:=by rw[<-hl];simp
 simp only[BP,qV,Av,hm];rw[if_neg om,if_neg (by simp;omega),e1,e2,aO,if_neg];rintro(⟨h1,h2⟩|h1)
 .refine Yk n h1 (Eq.trans ?_ h2);rw[qW,qW,qg om]
 .omega
theorem dU(n k:Nat):FJ (n%256^k) k=FJ n k:=by
 unfold FJ;apply List.map_congr_left;intro j hj;have hj':j<k:=by simpa using hj
 have:(jo (n%256^k) (k-1-j)).toNat=(jo n (k-1-j)).toNat:=by
  rw[LA,LA];obtain⟨i,hi⟩:∃i,k=(k-1-j)+1+i:=⟨j,om⟩;generalize k-1-j=q at *;subst hi;rw[show q+1+i=q+(1+i)by omega,Nat.pow_add,Nat.mod_mul_right_div_self,show 1+i=i+1 by omega,Nat.pow_succ,Nat.mul_comm (256^i) 256,Nat.mod_mul_right_mod]
 exact uy.1 this
theorem ZG(l:List UInt8):FJ (E4 l) l.length=l:=by
 induction l with
 |nil=>rfl
 |cons d r ih=>
  have hp:0<256^r.length:=Nat.pow_pos (by decide);have hv:=Nv r;have hd:=d.toNat_lt;rw[qY,Hb,<-dU,Mr,Nat.add_comm,Nat.add_mul_mod_self_right,Nat.mod_eq_of_lt hv,ih]
  congr 1
  apply uy.1;rw[LA,Nat.add_comm,Nat.mul_comm,Nat.mul_add_div hp,Nat.div_eq_of_lt hv];omega
theorem size_eq{n k:Nat}(h1:n<256^k)(h2:k=0\/256^(k-1)<=n):size n=k:=by
 have a:=(size_pos (n:=n) (k:=k));have b:=(size_pos (n:=n) (k:=k-1));have c:n/256^k=0:=Nat.div_eq_of_lt h1;rcases h2 with h2|h2
 .subst h2;omega
 .have:0<n/256^(k-1):=Nat.div_pos h2 (Nat.pow_pos (by decide));have:=b.1 this;omega
theorem QL{b r:List UInt8}{n:Nat}(h:Av b=(n,r,0)):b=BP n++r/\n<=1099511627776:=by
 rcases b with _|⟨m,l⟩
 .simp[Av]at h
 .simp only[Av]at h;split at h
  .simp at h
  .rename_i h6;split at h
   .simp at h
   .rename_i hr;split at h
    .simp at h
    .rename_i hP;simp only[qR,and_true]at h;obtain⟨rfl,rfl⟩:=h;have hlen:(l.take m.toNat).length=m.toNat:=by simp;omega
     have hsz:size (E4 (l.take m.toNat))=m.toNat:=by
      refine size_eq (by have:=Nv (l.take m.toNat);rwa [hlen]at this) ?_;rcases uK m.toNat with h0|h0
      .exact .inl h0
      .right;rcases hl:l with _|⟨d,q⟩
       .rw[hl]at hr;simp at hr;omega
       .obtain⟨k,hk⟩:∃k,m.toNat=k+1:=⟨m.toNat-1,om⟩;rw[hl,hk,List.take_succ_cons]at hlen;rw[hk,List.take_succ_cons,Mr];simp only[qY,Nat.add_right_cancel_iff]at hlen;rw[hlen,Nat.add_sub_cancel];have hd:d.toNat≠0:=fun e=>hP (.inl ⟨h0,by rw[hl];exact u8z e⟩)
        have:1*256^k<=d.toNat*256^k:=Nat.mul_le_mul_right _ om;omega
     refine⟨?_,om⟩
     have e:Gj (E4 (l.take m.toNat))=l.take m.toNat:=by
      rw[R6,hsz];have:=ZG (l.take m.toNat);rwa [hlen]at this
     simp only[BP,e,hsz,qV,rX]
     congr 1
     apply uy.1;rw[uT];have:=m.toNat_lt;omega
theorem Gd:∀(k:Nat)(r:List UInt8)(acc:List Int),(CK k r acc).1.length<=acc.length+k
 |0,r,acc=>by simp[CK]
 |k+1,r,acc=>by
  simp only[CK];split
  .have:=Gd k (Av r).2.1 (acc++[((Av r).1:Int)]);simp only[qj,qY,qy]at this;omega
  .simp
theorem Pj(b:List UInt8):(Af b).1.length<=255:=by
 rcases b with _|⟨m,r⟩
 .simp[Af]
 .have h1:=Gd m.toNat r [];have h2:=m.toNat_lt;simp only[Af];simp only[qy]at h1;omega
theorem Mo(s r:List UInt8)(h:s.length<=255):AO (UInt8.ofNat s.length::s++r)=(s,r,0):=by
 have hm:(UInt8.ofNat s.length).toNat=s.length:=by rw[uT];omega
 simp only[qV,AO,hm];rw[if_neg sm];simp
theorem KE(r:List UInt8):∀(l:List Int)(acc:List Int),l.all fits=true->CK l.length (A7 l++r) acc=(acc++l,r,0)
 |[],acc,_=>by simp[CK,A7]
 |n::l,acc,h=>by
  simp only[sH,qH]at h;obtain⟨m,rfl,hm⟩:=HW h.1;simp only[qY,CK,A7,Int.toNat_natCast,qm,Qc m _ hm,qw];rw[KE r l _ h.2];simp
theorem QF(l:List Int)(r:List UInt8)(h:l.length<=255)(hf:l.all fits=true):Af (UInt8.ofNat l.length::A7 l++r)=(l,r,0):=by
 have hm:(UInt8.ofNat l.length).toNat=l.length:=by rw[uT];omega
 simp only[qV,Af,hm];rw[KE r l [] hf];simp
theorem Uh(b:List UInt8):(∃n r,Av b=(n,r,0)/\b=BP n++r/\n<=1099511627776)\/Av b=(0,[],11)\/Av b=(0,[],12):=by
 rcases hb:Av b with⟨n,r,e⟩
 by_cases he:e=0
 .subst he;obtain⟨h1,h2⟩:=QL hb;exact .inl ⟨n,r,rfl,h1,h2⟩
 .right;rcases b with _|⟨m,l⟩
  .simp[Av]at hb;simp[<-hb.1,<-hb.2.1,<-hb.2.2]
  .simp only[Av]at hb;split at hb
   .simp at hb;simp[<-hb.1,<-hb.2.1,<-hb.2.2]
   .split at hb
    .simp at hb;simp[<-hb.1,<-hb.2.1,<-hb.2.2]
    .split at hb
     .simp at hb;simp[<-hb.1,<-hb.2.1,<-hb.2.2]
     .simp at hb;exact absurd hb.2.2.symm he
theorem IU(b:List UInt8):(∃s r,AO b=(s,r,0)/\b=UInt8.ofNat s.length::s++r/\s.length<=255)\/AO b=([],[],11):=by
 rcases b with _|⟨m,l⟩
 .exact .inr rfl
 .have hm:=m.toNat_lt;simp only[AO]
  by_cases h:l.length<m.toNat
  .rw[if_pos h];exact .inr rfl
  .rw[if_neg h];have hl:(l.take m.toNat).length=m.toNat:=by simp;omega
   refine .inl ⟨_,_,rfl,?_,om⟩;rw[hl,qV,rX]
   congr 1
   apply uy.1;rw[uT];omega
theorem NE:∀(k:Nat)(b:List UInt8)(acc:List Int),(∃l r,CK k b acc=(acc++l,r,0)/\b=A7 l++r/\l.length=k/\l.all fits=true)\/∃e,CK k b acc=([],[],e)/\e≠0
 |0,b,acc=> .inl ⟨[],b,by simp[CK],by simp[A7],rfl,rfl⟩
 |k+1,b,acc=>by
  simp only[CK];rcases Uh b with⟨n,r,h,hb,hn⟩|h|h
  .rw[h];simp only[qw];rcases NE k r (acc++[(n:Int)])with⟨l,r',h1,h2,h3,h4⟩|⟨e,h1,h2⟩
   .refine .inl ⟨(n:Int)::l,r',by rw[h1];simp,?_,by simp[h3],?_⟩
    .rw[hb,h2];simp[A7]
    .have hf:fits (n:Int)=true:=by simp[fits];omega
     simp only[sH,hf,h4,uN]
   .exact .inr ⟨e,h1,h2⟩
  .rw[h];exact .inr ⟨11,sm,by decide⟩
  .rw[h];exact .inr ⟨12,sm,by decide⟩
theorem NT(b:List UInt8):(∃l r,Af b=(l,r,0)/\b=UInt8.ofNat l.length::A7 l++r/\l.length<=255/\l.all fits=true)\/∃e,Af b=([],[],e)/\e≠0:=by
 rcases b with _|⟨m,q⟩
 .exact .inr ⟨11,rfl,by decide⟩
 .have hm:=m.toNat_lt;simp only[Af];rcases NE m.toNat q []with⟨l,r',h1,h2,h3,h4⟩|⟨e,h1,h2⟩
  .refine .inl ⟨l,r',by rw[h1];simp,?_,om,h4⟩;rw[qV,<-h2,h3]
   congr 1
   apply uy.1;rw[uT];omega
  .exact .inr ⟨e,h1,h2⟩
end Go.Proofs.YtkljbfejbakooaaGreatDoor
