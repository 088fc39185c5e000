/- Part 18 of a proof. Conditions: those that its theorems state. -/
import Derived.Test.YtkljbfejbakooaaGreatDoorT16
set_option linter.unusedSimpArgs false
set_option linter.unusedVariables false
set_option linter.unnecessarySimpa false
set_option maxHeartbeats 40000000
set_option maxRecDepth 4000
namespace Go.Proofs.YtkljbfejbakooaaGreatDoor
open Go.Gar
abbrev OM:Aw:=[0,1,2,4,5,13,14]
def size(n:Nat):Nat:=(E7 n+7)/8
theorem dD(n:Nat)(h:n<9223372036854775808):xB 369 [.i .i64 n] (.i .i64 (size n)):=by
 have hl:E7 n<=64:=by
  have:=(JN (n:=n) (k:=E7 n)).1 rfl;rcases this.2 with h2|h2
  .omega
  .rcases yO 64 (E7 n)with h3|h3
   .have:2^64<=2^(E7 n-1):=Nat.pow_le_pow_right (by decide) om;omega
   .exact h3
 have hm:(n:Int)%18446744073709551616=n:=om
 have hq:((E7 n:Int)+7).tdiv 8=(size n:Int):=by
  simp only[size];rw[Int.tdiv_eq_ediv_of_nonneg om];omega
 have hs:size n<=8:=by simp only[size];omega
 refine zF AF Tryz.func369 ?_;refine wd [0,2] [] (Ax hm hq) (AM (lC n om)) ?_
 .refine⟨_,_,rfl,rfl,?_⟩;simp[Cq]
theorem eF(n:Int):xC 370 [.wo n] [] (.fn (.func 372) [] [.ptr 0 0 1]) [.c [.wo n]]:=by
 refine zD AF Tryz.func370 ?_;refine wd [0,1,2] [] A4 A4 ?_;exact⟨_,(A6.ck rfl),xQ _,_,_,rfl,rfl,rfl,rfl⟩
def qd(n i:Nat):UInt8:=UInt8.ofNat (n/256^i%256)
def IU(n:Nat):AJ:=(List.range (size n)).map fun j=>qd n (size n-1-j)
def CR(n:Nat):AJ:=UInt8.ofNat (size n)::IU n
theorem eH(n j:Nat)(h:j<size n):(IU n).take (j+1)=(IU n).take j++[qd n (size n-1-j)]:=by
 rw[yV (by simp[IU];exact h)];simp[IU]
theorem size_le(n:Nat)(h:n<281474976710656):size n<=6:=by
 have:=(JN (n:=n) (k:=E7 n)).1 rfl
 have:E7 n<=48:=by
  rcases this.2 with h2|h2
  .omega
  .rcases yO 48 (E7 n)with h3|h3
   .have:2^48<=2^(E7 n-1):=Nat.pow_le_pow_right (by decide) om;omega
   .exact h3
 simp only[size];omega
theorem shrN(n k:Nat)(hk:8*k<=64)(z:Int)(hz:z=((8*k:Nat):Int)):(n:Int).fdiv (2^min z.toNat 64)=((n/256^k:Nat):Int):=by
 subst hz
 have e:(2:Int)^(8*k)=((256^k:Nat):Int):=by
  rw[show(2:Int)=((2:Nat):Int)from rfl,<-Int.natCast_pow,Nat.pow_mul]
 rw[Int.toNat_natCast,Nat.min_eq_left hk,e,q02 _ (zx _),Int.natCast_ediv]
theorem TO(l:AJ)(n:Nat)(hn:n<=1099511627776)(hl:l.length<70368744177664):
  xC 367 [.sl 0 l.length 1,.wo n] [.a (.by l)] (.sl 0 (l++CR n).length 1) [.a (.by (l++CR n))]:=by
 have hs:=size_le n om;have h1:(size n:Int)%256=size n:=om
 refine zD AF Tryz.func367 ?_;have d1:=Ds.mk [] (eF n);refine wd OM [] (AM h1) (AM (dD n om)) ?_;clear d1;refine zG (K:=fun r _ H'=>H'=[.a (.by (l++CR n)),.c [.sl 0 (l++CR n).length 1],.c [.wo n],.lp r]) ?_ ?_
 .intro r hr;refine zT AF Tryz.func372 ?_;refine wd [0,1,3,8,18] [] A4 (AM (dD n om)) ?_;have hk:=hr.ok (k:=3) rfl;refine BS (fun j=>j<=size n) (fun j:Nat=>⟨[(0,.yl 3),(1,.ptr 2 0 1),(3,.wo ((size n:Int)-1-j))],[.a (.by (l++(CR n).take (j+1))),.c [.sl 0 (l++(CR n).take (j+1)).length 1],.c [.wo n],.lp r],19⟩) (fun j=>size n-j) 0 (xQ _) ?_ (xH _) ?_
  .exact A6.ck rfl
  intro j hj
  by_cases hlt:j<size n
  .have e1:((n:Int).fdiv (2^min (8*((size n:Int)-1-j)).toNat 64)%256).toNat=n/256^(size n-1-j)%256:=by
    rw[shrN n (size n-1-j) om _ om];omega
   have hnext:(CR n).take (j+1)++[UInt8.ofNat ((n:Int).fdiv (2^min (8*((size n:Int)-1-j)).toNat 64)%256).toNat]=(CR n).take (j+1+1):=by
    rw[e1];simp only[CR,List.take_succ_cons,eH n j hlt];rfl
   refine wd [0,1,3,8,18] [] A4 A4 ?_;with_reducible repeat' first|constructor|intro hc
   refine Xy (x:=.wu true) (H':=[.a (.by (l++(CR n).take (j+1+1))),.c [.sl 0 (l++(CR n).take (j+1+1)).length 1],.c [.wo n],.lp r]) (BD hr rfl rfl rfl ?_) rfl rfl rfl rfl rfl ?_
   .refine wd OM [] A4 A4 ?_;refine zR ?_;refine wd OM [] A4 A4 ?_;refine⟨_,A6.refl _,xH _,rfl,rfl,?_⟩;simp only[yB,hnext,List.set_cons_succ,List.set_cons_zero]
   .refine wd [0,1,3,8,18] [] A4 A4 ?_;refine⟨j+1,hlt,om,xH _,?_⟩;exact A6.ck rfl
  .refine wd [0,1,3,8,18] [] A4 A4 ?_;with_reducible repeat' first|constructor|intro hc
   have:(CR n).take (j+1)=CR n:=by
    rw[zI];simp[CR,IU];omega
   refine⟨_,A6.refl _,xH _,_,_,rfl,rfl,?_⟩;simp only[this]
 .rintro r hr x H' rfl;refine .inl ⟨rfl,?_⟩;refine wd OM [] A4 A4 ?_;exact⟨⟨[(4,.sl 0 (l++CR n).length 1)],[.a (.by (l++CR n))],Tryz.f367.ntmps⟩,(A6.ck rfl),xH _,_,_,rfl,rfl,rfl,rfl⟩
abbrev IQ:Aw:=[0,2,3,4,5,7,10,16,21,25,26,27,28,48]
theorem Yt(n:Nat)(hn:n<=1099511627776):xC 367 [.e0,.wo n] [] (.sl 0 (CR n).length 1) [.a (.by (CR n))]:=
 KR.e0 (.by []) rfl rfl trivial (TO [] n hn (by decide))
theorem Cm(n:Nat)(h:n<=1099511627776):(CR n).length<=7:=by
 have:=size_le n om;simp[CR,IU];omega
def Nq(n:Int):AJ×Int:=if fits n then(CR n.toNat,0)else([],2)
theorem tU(n:Int):xB 355 [.i .i64 n] (.tup [.by (Nq n).1,.i .i64 (Nq n).2]):=by
 by_cases hf:fits n=true
 .obtain⟨m,rfl⟩:∃m:Nat,n=m:=⟨n.toNat,by simp[fits]at hf;omega⟩;have hm:m<=1099511627776:=by simp[fits]at hf;omega
  refine zF AF Tryz.func355 ?_;have d1:=Ds.mk [] (Yt m hm);refine wd [0,2,3,6] [] (AM hf) (AM (QK m)) ?_ [] true;clear d1;exact BL (xU @Nq.eq_1 hf)
 .have hf':fits n=false:=by simpa using hf
  refine zF AF Tryz.func355 ?_;refine wd [0,2,3,6] [] (AM hf') (AM (QK n)) ?_ [] true;exact BL (xU @Nq.eq_1 hf')
def textS(s:AJ):AJ×Int:=if s.length>255 then([],2)else(UInt8.ofNat s.length::s,0)
theorem qJ(s:AJ):xB 356 [.s s] (.tup [.by (textS s).1,.i .i64 (textS s).2]):=by
 refine zF AF Tryz.func356 ?_
 by_cases h:s.length>255
 .have h1:decide ((s.length:Int)>255)=true:=by simp;omega
  refine wd [0,2,3,6] [] (AM h1) A4 ?_ [] true;exact BL (xU @textS.eq_1 h)
 .have h1:decide ((s.length:Int)>255)=false:=by simp;omega
  have h2:(s.length:Int)%256=s.length:=om
  have ow:Lv [10]:=trivial;refine wd [0,2,3,6] [] (Ax h1 h2) A4 ?_ [] true;clear ow;exact BL (xU @textS.eq_1 h)
theorem mg(s:AJ):xB 228 [.s s] (.tup [.by (textS s).1,.i .i64 (textS s).2]):=by
 refine zF AF Tryz.func228 ?_
 by_cases h:s.length>255
 .have h1:decide ((s.length:Int)>255)=true:=by simp;omega
  refine wd [0,2,3,6] [] (AM h1) A4 ?_;exact BL (xU @textS.eq_1 h)
 .have h1:decide ((s.length:Int)>255)=false:=by simp;omega
  have h2:(s.length:Int)%256=s.length:=om
  have ow:Lv [10]:=trivial;refine wd [0,2,3,6] [] (Ax h1 h2) A4 ?_;clear ow;exact BL (xU @textS.eq_1 h)
theorem Zs(l:AJ)(h:l.length<=140737488355328):xB 348 [.by l] (.by l):=by
 refine zF AF Tryz.func348 ?_;refine wd [0,2] [] A4 A4 ?_;refine⟨_,_,rfl,rfl,?_⟩;simp[Cq]
def FR(l:AJ):Nat:=l.foldl (fun a d=>a*256+d.toNat) 0
theorem UJ(l:AJ)(k:Nat)(h:k<l.length):FR (l.take (k+1))=FR (l.take k)*256+(l.getD k 0).toNat:=by
 unfold FR;rw[yV h,xu,xP h,q04];rfl
theorem Qc(l:AJ):FR l<256^l.length:=by
 have AH:∀(l:AJ)(a k:Nat),a<256^k->l.foldl (fun a d=>a*256+d.toNat) a<256^(k+l.length):=by
  intro l
  induction l with
  |nil=>intro a k h;simpa using h
  |cons d r ih=>
   intro a k h;have hd:=d.toNat_lt;have:a*256+d.toNat<256^(k+1):=by rw[Nat.pow_succ];omega
   have:=ih _ (k+1) this;simp only[zH,xw];rwa [show k+(r.length+1)=k+1+r.length by omega]
 have:=AH l 0 0 sm;rwa [yw]at this
def Bl:AJ->Nat×AJ×Int
 |[]=>(0,[],11)
 |m::r=>if m.toNat>6 then(0,[],12)else if r.length<m.toNat then(0,[],11)else
  if(m.toNat>0/\r.getD 0 0=0)\/FR (r.take m.toNat)>1099511627776 then(0,[],12)else(FR (r.take m.toNat),r.drop m.toNat,0)
def De(x:Nat×AJ×Int):D:=.tup [.i .i64 x.1,.by x.2.1,.i .i64 x.2.2]
theorem shl8(a:Nat)(h:a<36028797018963968):IntKind.wrap .i64 ((a:Int)*2^min 8 64)=((a*256:Nat):Int):=by
 simp[IntKind.wrap,IntKind.bits,IntKind.signed];omega
theorem or8(a:Nat)(h:a<36028797018963968)(d:UInt8):DT .or .i64 ((a*256:Nat):Int) (d.toNat:Int)=((a*256+d.toNat:Nat):Int):=by
 have hd:=d.toNat_lt
 have e:(BitVec.ofInt 64 ((a*256:Nat):Int)|||BitVec.ofInt 64 (d.toNat:Int)).toNat=a*256+d.toNat:=by
  rw[BitVec.ofInt_natCast,BitVec.ofInt_natCast,BitVec.toNat_or,BitVec.toNat_ofNat,BitVec.toNat_ofNat,Nat.mod_eq_of_lt om,Nat.mod_eq_of_lt om];rw[show a*256=2^8*a by omega,Nat.two_pow_add_eq_or_of_lt hd]
 have e2:DT .or .i64 ((a*256:Nat):Int) (d.toNat:Int)=IntKind.wrap .i64 (BitVec.ofInt 64 ((a*256:Nat):Int)|||BitVec.ofInt 64 (d.toNat:Int)).toNat:=rfl;rw[e2,e];simp[IntKind.wrap,IntKind.bits,IntKind.signed];omega
theorem Lr(b:AJ)(hb:b.length<70368744177664):xB 347 [.by b] (De (Bl b)):=by
 refine zF AF Tryz.func347 ?_;rcases b with _|⟨m,r⟩
 .refine wd IQ [] A4 A4 ?_ [] true;exact BL (xU @Bl.eq_1 @De.eq_1)
 have hm:=m.toNat_lt;simp only[xw]at hb
 by_cases h6:m.toNat>6
 .refine wd IQ [] A4 A4 ?_ [] true;with_reducible repeat' first|constructor|intro hc
  refine⟨_,_,rfl,rfl,?_⟩;simp[IT,BK,Bd,B0,Bl,De,h6]
 by_cases hr:r.length<m.toNat
 .refine wd IQ [] A4 A4 ?_ [] true;with_reducible repeat' first|constructor|intro hc
  refine⟨_,_,rfl,rfl,?_⟩;simp[IT,BK,Bd,B0,Bl,De,h6,hr]
 have h3:List.drop 1 (List.take (1+(m.toNat:Int)).toNat (m::r))=r.take m.toNat:=by
  rw[show(1+(m.toNat:Int)).toNat=m.toNat+1 by omega];simp
 have h4:(r.take m.toNat).length=m.toNat:=by simp;omega
 refine wd IQ [] (Ax h3 h4) A4 ?_ [] true;with_reducible repeat' first|constructor|intro hc
 have hlt:∀k,k<=m.toNat->FR (r.take k)<281474976710656:=by
  intro k hk;have:=Qc (r.take k);have h6':(r.take k).length<=6:=by simp;omega
  have:256^(r.take k).length<=256^6:=Nat.pow_le_pow_right (by decide) h6';omega
 refine BS (fun k=>k<=m.toNat) (fun k:Nat=>⟨[(0,.d (.by (m::r))),(2,.wo (FR (r.take k):Nat)),(3,.e0),(4,.wo 0),(5,.wo m.toNat),(25,.d (.by (r.take m.toNat))),(26,.wo m.toNat),(27,.wo k)],[],54⟩) (fun k=>m.toNat-k) 0 (xQ _) ?_ (xH _) ?_
 .exact A6.ck rfl
 intro k hk
 by_cases hkm:k<m.toNat
 .have e1:=shl8 (FR (r.take k)) (by have:=hlt k hk;omega);have e2:=or8 (FR (r.take k)) (by have:=hlt k hk;omega) ((r.take m.toNat).getD k 0)
  have e3:FR (r.take k)*256+((r.take m.toNat).getD k 0).toNat=FR (r.take (k+1)):=by
   have:=UJ (r.take m.toNat) k om;rw[List.take_take,List.take_take,Nat.min_eq_left om,Nat.min_eq_left om]at this;exact this.symm
  refine wd IQ [] (Ci e1 e2 e3) A4 ?_ [] true;with_reducible repeat' first|constructor|intro hc
  refine⟨k+1,hkm,om,xH _,?_⟩;exact A6.ck rfl
 .have hkm':k=m.toNat:=om
  subst hkm'
  by_cases hP:(m.toNat>0/\r.getD 0 0=0)\/FR (r.take m.toNat)>1099511627776
  .have hT:Bl (m::r)=(0,[],12):=by simp only[Bl,if_neg h6,if_neg hr,if_pos hP]
   rw[hT];refine wd IQ [] A4 A4 ?_ [] true;with_reducible repeat' first|constructor|intro hc
   all_goals first
    |(refine⟨_,_,rfl,rfl,?_⟩;simp[IT,BK,Bd,B0,De];done)
    |(exfalso;rcases hP with⟨h,h'⟩|h<;>first|omega|(have h':=congrArg UInt8.toNat h';simp only[UInt8.toNat_zero]at h';omega))
  .have hT:Bl (m::r)=(FR (r.take m.toNat),r.drop m.toNat,0):=by simp only[Bl,if_neg h6,if_neg hr,if_neg hP]
   rw[hT];have e5:(1+(m.toNat:Int)).toNat=m.toNat+1:=om
   refine wd IQ [] (AM e5) A4 ?_ [] true;with_reducible repeat' first|constructor|intro hc
   all_goals first
    |(refine⟨_,_,rfl,rfl,?_⟩;simp[IT,BK,Bd,B0,De];done)
    |(exfalso;exact hP (.inl ⟨om,u8z om⟩))
    |(exfalso;exact hP (.inr om))
theorem Hs(b:AJ):(Bl b).2.1.length<=b.length:=by
 rcases b with _|⟨m,r⟩
 .simp[Bl]
 .simp only[Bl];split
  .simp
  .split
   .simp
   .split
    .simp
    .simp;omega
theorem YL(b:AJ):(Bl b).1<=1099511627776:=by
 rcases b with _|⟨m,r⟩
 .simp[Bl]
 .simp only[Bl];split
  .simp
  .split
   .simp
   .split
    .simp
    .simp;omega
theorem N9(b:AJ)(hb:b.length<70368744177664):xB 309 [.by b] (De (Bl b)):=by
 have hl:=Hs b;refine zF AF Tryz.func309 ?_;refine wd [0,2,3,4] [] A4 (Ax (Lr b hb) (Zs (Bl b).2.1 om)) ?_;exact BL @De.eq_1
def BI:AJ->AJ×AJ×Int
 |[]=>([],[],11)
 |m::r=>if r.length<m.toNat then([],[],11)else(r.take m.toNat,r.drop m.toNat,0)
def HS(x:AJ×AJ×Int):D:=.tup [.s x.1,.by x.2.1,.i .i64 x.2.2]
theorem Pa(b:AJ)(hb:b.length<70368744177664):xB 311 [.by b] (HS (BI b)):=by
 refine zF AF Tryz.func311 ?_;rcases b with _|⟨m,r⟩
 .refine wd [0,2,3,4,5,8,17] [] A4 A4 ?_ [] true;exact BL (xU @BI.eq_1 @HS.eq_1)
 have hm:=m.toNat_lt;simp only[xw]at hb
 by_cases hr:r.length<m.toNat
 .refine wd [0,2,3,4,5,8,17] [] A4 A4 ?_ [] true;with_reducible repeat' first|constructor|intro hc
  refine⟨_,_,rfl,rfl,?_⟩;simp[IT,BK,Bd,B0,BI,HS,hr]
 have e5:(1+(m.toNat:Int)).toNat=m.toNat+1:=om
 have h3:List.drop 1 (List.take (m.toNat+1) (m::r))=r.take m.toNat:=by simp
 refine wd [0,2,3,4,5,8,17] [] (AM e5) (AM (Zs (r.drop m.toNat) (by simp;omega))) ?_ [] true;with_reducible repeat' first|constructor|intro hc
 refine⟨_,_,rfl,rfl,?_⟩;simp[IT,BK,Bd,B0,BI,HS,hr]
theorem Nr(b:AJ)(hb:b.length<70368744177664):xB 224 [.by b] (HS (BI b)):=by
 refine zF AF Tryz.func224 ?_;rcases b with _|⟨m,r⟩
 .refine wd [0,2,3,4,5,18] [] A4 A4 ?_;exact BL (xU @BI.eq_1 @HS.eq_1)
 have hm:=m.toNat_lt;simp only[xw]at hb
 by_cases hr:r.length<m.toNat
 .refine wd [0,2,3,4,5,18] [] A4 A4 ?_;with_reducible repeat' first|constructor|intro hc
  refine⟨_,_,rfl,rfl,?_⟩;simp[IT,BK,Bd,B0,BI,HS,hr]
 have e5:(1+(m.toNat:Int)).toNat=m.toNat+1:=om
 refine wd [0,2,3,4,5,18] [] (AM e5) A4 ?_;with_reducible repeat' first|constructor|intro hc
 refine⟨_,_,rfl,rfl,?_⟩;simp[IT,BK,Bd,B0,BI,HS,hr]
abbrev LI:Aw:=[0,2,3,4,6,9,16,17,18,19,24]
abbrev LJ:Aw:=[0,2,3,4,5,8,14,15,16,24]
def Ac:Ad->AJ
 |[]=>[]
 |n::l=>CR n.toNat++Ac l
theorem fR(a b:Ad):Ac (a++b)=Ac a++Ac b:=by
 induction a with
 |nil=>rfl
 |cons x r ih=>simp[Ac,ih]
def Ii(l:Ad):AJ×Int:=if l.length>255 then([],2)else if l.all fits then(UInt8.ofNat l.length::Ac l,0)else([],2)
theorem JJ{n:Int}(h:fits n=true):∃m:Nat,n=m/\m<=1099511627776:=by
 simp[fits]at h;exact⟨n.toNat,om,om⟩
theorem Fj(l:Ad)(h:l.all fits=true):(Ac l).length<=7*l.length:=by
 induction l with
 |nil=>simp[Ac]
 |cons x r ih=>
  simp only[yj,xI]at h;obtain⟨m,rfl,hm⟩:=JJ h.1;have:=Cm m hm;have:=ih h.2;simp only[Ac,y9,xw,Int.toNat_natCast];omega
variable {l:Ad}
theorem Gm{k:Nat}(h:k<l.length):(l.take (k+1)).all fits=((l.take k).all fits&&fits (l.getD k 0)):=by
 rw[yV h,xu,xP h,List.all_append];simp
theorem FW{k:Nat}(h:k<l.length):Ac (l.take (k+1))=Ac (l.take k)++CR (l.getD k 0).toNat:=by
 rw[yV h,fR,xu,xP h];simp[Ac]
theorem list_fn(l:Ad):xB 357 [.is l] (.tup [.by (Ii l).1,.i .i64 (Ii l).2]):=by
 refine zF AF Tryz.func357 ?_
 by_cases hl:l.length>255
 .refine wd LI [] A4 A4 ?_ [] true;with_reducible repeat' first|constructor|intro hc
  exact BL (xU @Ii.eq_1 hl)
 have h1:(l.length:Int)%256=l.length:=om
 have ow:Lv [15]:=trivial;refine wd LI [] (AM h1) A4 ?_ [] true;clear ow;with_reducible repeat' first|constructor|intro hc
 refine BS (fun k=>k<=l.length/\(l.take k).all fits=true) (fun k:Nat=>⟨[(0,.xG l),(2,.e0),(3,.wo 0),(4,.sl 0 (UInt8.ofNat l.length::Ac (l.take k)).length 1),(16,.xG l),(17,.wo l.length),(18,.wo k)],[.a (.by (UInt8.ofNat l.length::Ac (l.take k)))],30⟩) (fun k=>l.length-k) 0 ⟨xQ _,sm⟩ ?_ (xH _) ?_
 .exact A6.ck rfl
 rintro k ⟨hk,hpre⟩;have hlen:=Fj _ hpre
 by_cases hka:k<l.length
 .by_cases hf:fits (l.getD k 0)=true
  .obtain⟨m,hm,hm'⟩:=JJ hf
   have hnext:(UInt8.ofNat l.length::Ac (l.take k))++CR m=UInt8.ofNat l.length::Ac (l.take (k+1)):=by
    rw[FW hka,hm];simp
   have hB:=TO (UInt8.ofNat l.length::Ac (l.take k)) m hm' (by simp at hlen|-;omega);rw[hnext]at hB;rw[hm]at hf;have d1:=Ds.mk [0] (hB);refine wd LI [] (Ax hm hf) (AM (QK m)) ?_ [] true;clear d1;with_reducible repeat' first|constructor|intro hc
   refine⟨k+1,⟨hka,by rw[Gm hka,hpre,hm,hf];rfl⟩,om,xH _,?_⟩;exact A6.ck rfl
  .have hf':fits (l.getD k 0)=false:=by simpa using hf
   have hall:l.all fits=false:=by
    rw[<-yg (k+1) l,List.all_append,Gm hka,hf'];simp
   refine wd LI [] (AM hf') (AM (QK (l.getD k 0))) ?_ [] true;with_reducible repeat' first|constructor|intro hc
   exact BL (xU @Ii.eq_1 (xU hl hall))
 .have e:k=l.length:=om
  subst e;rw[yD]at hpre;refine wd LI [] A4 A4 ?_ [] true;with_reducible repeat' first|constructor|intro hc
  exact BL (xU @Ii.eq_1 (xU hl hpre))
def Df:Nat->AJ->Ad->Ad×AJ×Int
 |0,rest,acc=>(acc,rest,0)
 |k+1,rest,acc=>if(Bl rest).2.2=0 then Df k (Bl rest).2.1 (acc++[((Bl rest).1:Int)])else([],[],(Bl rest).2.2)
def BZ:AJ->Ad×AJ×Int
 |[]=>([],[],11)
 |m::r=>Df m.toNat r []
def IL(x:Ad×AJ×Int):D:=.tup [.is x.1,.by x.2.1,.i .i64 x.2.2]
theorem PZ(b:AJ)(hb:b.length<70368744177664):xB 312 [.by b] (IL (BZ b)):=by
 refine zF AF Tryz.func312 ?_;rcases b with _|⟨m,r⟩
 .refine wd LJ [] A4 A4 ?_ [] true;exact BL (xU @BZ.eq_1 @IL.eq_1)
 have hm:=m.toNat_lt;simp only[xw]at hb;refine wd LJ [] A4 A4 ?_ [] true;refine BC (A6.bP 2 (.is []) rfl rfl rfl trivial) sm ?_
 refine BS (α:=Nat×AJ×Ad) (fun x=>x.1<=m.toNat/\x.2.1.length<=r.length/\x.2.2.length=x.1/\Df (m.toNat-x.1) x.2.1 x.2.2=Df m.toNat r [])
  (fun x=>⟨[(0,.d (.by (m::r))),(2,.sl 0 x.2.2.length 1),(3,.d (.by x.2.1)),(4,.wo 0),(14,.wo m.toNat),(15,.wo x.1)],[.a (.is x.2.2)],34⟩) (fun x=>m.toNat-x.1) (0,r,[]) ⟨xQ _,xH _,rfl,rfl⟩ ?_ sm ?_
 .exact A6.ck rfl
 rintro⟨k,rest,acc⟩ ⟨hk,hrl,hal,hT⟩;simp only at hk hrl hal hT;have hl:=Hs rest;have hv:=YL rest
 by_cases hkm:k<m.toNat
 .rw[show m.toNat-k=(m.toNat-(k+1))+1 by omega]at hT;simp only[Df]at hT
  by_cases he:(Bl rest).2.2=0
  .rw[if_pos he]at hT;refine wd LJ [] (Ax he @De.eq_1) (AM (Lr rest om)) ?_ [] true;with_reducible repeat' first|constructor|intro hc
   refine⟨(k+1,(Bl rest).2.1,acc++[((Bl rest).1:Int)]),⟨hkm,by simp only;omega,by simp;omega,hT⟩,by simp only;omega,sm,?_⟩;exact A6.ck rfl
  .rw[if_neg he]at hT;refine wd LJ [] (AM @De.eq_1) (AM (Lr rest om)) ?_ [] true;with_reducible repeat' first|constructor|intro hc
   have e:BZ (m::r)=([],[],(Bl rest).2.2):=hT.symm;exact BL (xU e @IL.eq_1)
 .have e:k=m.toNat:=om
  subst e;rw[Nat.sub_self]at hT;have e:BZ (m::r)=(acc,rest,0):=hT.symm;refine wd LJ [] A4 (AM (Zs rest om)) ?_ [] true;with_reducible repeat' first|constructor|intro hc
  exact BL (xU e @IL.eq_1)
end Go.Proofs.YtkljbfejbakooaaGreatDoor
namespace Go.Proofs.YtkljbfejbakooaaGreatDoor
namespace Wi
open Go.Gar
abbrev Jf:Aw:=[0,1,4,5,6,8,9,10,11,12,22,23,24,25,31]
def Dl(b:Bool):Int:=if b then 1 else 0
theorem Yv(b:Bool):xB 321 [.b b] (.i .i64 (Dl b)):=by
 refine zF AF Tryz.func321 ?_;cases b
 .refine wd [0,2,3] [] A4 A4 ?_;exact BL @Dl.eq_1
 .refine wd [0,2,3] [] A4 A4 ?_;exact BL @Dl.eq_1
theorem Hq(c:Int):xB 310 [.i .i64 0,.i .i64 c] (.tup []):=by
 refine zF AF Tryz.func310 ?_;refine wd [0,1,5] [] A4 A4 ?_;exact zE
def pF(n:Int):wt:=[{v:=.iface 224 (.agg #[.int .i64 n]),recovered:=false}]
theorem RB(e c:Int)(h:e≠0):MY Tryz.prog 310 [.wo e,.wo c] [] (pF c) []:=by
 have f:=C4 h;refine zX AF Tryz.func310 ?_;refine wd [0,1,5] [] (AM f) A4 ?_;exact⟨rfl,⟨[],[],_⟩,(A6.ck rfl),xH _,rfl⟩
theorem Zi(l:Ad):xC 319 [.xG l] [] (.fn (.func 354) [] [.ptr 0 0 1]) [.c [.xG l]]:=by
 refine zD AF Tryz.func319 ?_;refine wd [0,1,2] [] A4 A4 ?_;exact⟨_,(A6.ck rfl),xQ _,_,_,rfl,rfl,rfl,rfl⟩
theorem ofNat_toNat(d:UInt8):UInt8.ofNat ((d.toNat:Int)).toNat=d:=by simp
def wH(o:AJ):xS:=[.c [.sl 1 o.length 1],.a (.by o)]
def wL(l:Ad)(o:AJ)(r:Lp):xS:=[.c [.sl 1 o.length 1],.a (.by o),.c [.ptr 0 0 1],.c [.xG l],.lp r]
theorem K3(l:Ad)(o:AJ)(hf:l.all fits=true)(hl:l.length<=1000)(ho:o.length<=1000000):
  xC 277 [.ptr 0 0 1,.xG l] (wH o) (.tup []) (wH (o++Ac l)):=by
 refine zD AF Tryz.func277 ?_;unfold wH;have d1:=Ds.mk [] (Zi l);refine wd [0,1,2,4,6,7] [] A4 A4 ?_;clear d1;refine zG (K:=fun r _ H'=>H'=wL l (o++Ac l) r) ?_ ?_
 .intro r hr;have hk:=hr.ok (k:=4) rfl
  have hY:∀(p:AJ)(d:UInt8),p.length<=2000000->YT Tryz.prog 4 [.wz d.toNat] (wL l p r) fun x K=>x= .wu true/\K=wL l (p++[d]) r:=by
   intro p d hp;have hd:=d.toNat_lt;unfold wL;refine BD hr rfl rfl rfl ?_;refine wd [0,1,2,4,6,7] [] A4 A4 ?_;refine zR ?_;refine wd [0,1,2,4,6,7] [] A4 A4 ?_ [(0,7),(8,7),(9,7)];refine⟨_,A6.refl _,xH _,rfl,rfl,?_⟩;simp[ofNat_toNat]
  refine zT AF Tryz.func354 ?_;have hz:=hY;unfold wL at hz|-;refine wd Jf [] A4 A4 ?_;refine BS (fun k=>k<=l.length) (fun k:Nat=>⟨[(0,.yl 4),(1,.ptr 3 0 1),(9,.xG l),(10,.wo l.length),(11,.wo k)],wL l (o++Ac (l.take k)) r,34⟩) (fun k=>l.length-k) 0 (xQ _) ?_ (xH _) ?_
  .unfold wL;exact(have nC:=@Ac.eq_1;A6.co rfl)
  intro k hkk;unfold wL
  by_cases hkl:k<l.length
  .have hfk:fits (l.getD k 0)=true:=by
    rw[yc]at hf;apply hf;rw[xu,xP hkl];exact q00 hkl
   have hpf:(l.take k).all fits=true:=by
    rw[yc]at hf|-;exact fun x hx=>hf x (List.mem_of_mem_take hx)
   have hl1:=Fj _ hpf;have hl2:(l.take k).length<=1000:=by rw[yM];omega
   obtain⟨m,hm,hm'⟩:=JJ hfk;have hn:=Cm m hm';have hput:=tU (l.getD k 0);have hde:=Hq 2;have e:Nq (l.getD k 0)=(CR m,0):=by unfold Nq;rw[hfk,hm];rfl
   rw[e]at hput;refine wd Jf [] A4 (Ax @hput @hde) ?_;with_reducible repeat' first|constructor|intro hc
   refine BS (fun j=>j<=(CR m).length) (fun j:Nat=>⟨[(0,.yl 4),(1,.ptr 3 0 1),(9,.xG l),(10,.wo l.length),(11,.wo k),(22,.d (.by (CR m))),(23,.wo ((CR m).length)),(24,.wo j)],wL l (o++Ac (l.take k)++(CR m).take j) r,34⟩) (fun j=>(CR m).length-j) 0 (xQ _) ?_ (xH _) ?_
   .unfold wL;exact(have nC:=trivial;A6.co rfl)
   intro j hj
   by_cases hjl:j<(CR m).length
   .have hy:=hz (o++Ac (l.take k)++(CR m).take j) ((CR m).getD j 0) (by simp only[y9,yM];omega)
    have ej:(CR m).take (j+1)=(CR m).take j++[(CR m).getD j 0]:=by
     rw[yV hjl,xu,xP hjl];rfl
    unfold wL;have q1:=@hy;refine wd Jf [] A4 A4 ?_;clear q1;with_reducible repeat' first|constructor|intro hc
    refine⟨j+1,hjl,om,xH _,?_⟩;exact(have nC:=ej;A6.co rfl)
   .have ej:(CR m).take j=CR m:=zI om;have ek:Ac (l.take (k+1))=Ac (l.take k)++CR m:=by rw[FW hkl,hm,Int.toNat_natCast]
    unfold wL;refine wd Jf [] A4 A4 ?_;with_reducible repeat' first|constructor|intro hc
    refine⟨k+1,hkl,om,xH _,?_⟩;exact(have nC:=xU ek ej;A6.co rfl)
  .have e:k=l.length:=om
   subst e;rw[yD];refine wd Jf [] A4 A4 ?_;with_reducible repeat' first|constructor|intro hc
   exact⟨_,A6.refl _,xH _,_,_,rfl,rfl,rfl⟩
 .rintro r hr x H' rfl;refine .inl ⟨rfl,?_⟩;unfold wL;refine wd [0,1,2,4,6,7] [] A4 A4 ?_;exact⟨⟨[],wH (o++Ac l),Tryz.f277.ntmps⟩,(A6.ck rfl),xH _,_,_,rfl,rfl,rfl,rfl⟩
def Cf(s:AJ):AJ:=UInt8.ofNat s.length::s
theorem YP(s o:AJ)(hs:s.length<=255)(ho:o.length<=1000000):
  xC 325 [.ptr 0 0 1,.xE s] (wH o) (.tup []) (wH (o++Cf s)):=by
 have ht:=qJ s;have e:textS s=(UInt8.ofNat s.length::s,0):=by unfold textS;rw[if_neg om]
 rw[e]at ht;refine zD AF Tryz.func325 ?_;unfold wH;refine wd [0,1,4,5] [] A4 (Ax @ht (Hq 2)) ?_;exact⟨⟨[],wH (o++Cf s),Tryz.f325.ntmps⟩,(A6.ck rfl),xH _,_,_,rfl,rfl,rfl,rfl⟩
theorem lD(l:Ad)(o:AJ)(hl:l.length<=255)(hf:l.all fits=true)(ho:o.length<=1000000):
  xC 327 [.ptr 0 0 1,.xG l] (wH o) (.tup []) (wH (o++(UInt8.ofNat l.length::Ac l))):=by
 have ht:=list_fn l;have e:Ii l=(UInt8.ofNat l.length::Ac l,0):=by unfold Ii;rw[if_neg om,if_pos hf]
 have hn:=Fj l hf;rw[e]at ht;refine zD AF Tryz.func327 ?_;unfold wH;refine wd [0,1,4,5] [] A4 (Ax @ht (Hq 2)) ?_;exact⟨⟨[],wH (o++(UInt8.ofNat l.length::Ac l)),Tryz.f327.ntmps⟩,(A6.ck rfl),xH _,_,_,rfl,rfl,rfl,rfl⟩
def CN(x:AK):AJ:=Cf x.AH++Ac [x.B2,x.AZ,Dl x.gone]
theorem EY(b:Bool):fits (Dl b)=true:=by cases b<;>rfl
theorem Xp(x:AK)(o:AJ)(hs:x.AH.length<=255)(h1:fits x.B2=true)(h2:fits x.AZ=true)(ho:o.length<=100000):
  xC 323 [.ptr 0 0 1,.d x.d] (wH o) (.tup []) (wH (o++CN x)):=by
 obtain⟨k,v,n,g⟩:=x;have ht:=YP k o hs om;have hp:=K3 [v,n,Dl g] (o++Cf k) (by simp only[yj,zi,EY,zy];rw[h1,h2];rfl) sm (by simp only[Cf,y9,xw];simp at hs;omega);have hb:=Yv g;refine zD AF Tryz.func323 ?_;unfold wH at *;have d1:=Ds.mk [0,1] (ht);have d2:=Ds.mk [0,1] (hp);refine wd [0,1,3] [] A4 (AM @hb) ?_;clear d2 d1;exact⟨⟨[],wH (o++Cf k++Ac [v,n,Dl g]),Tryz.f323.ntmps⟩,(A6.ck rfl),xH _,_,_,rfl,rfl,rfl,by simp only[wH,CN,yB]⟩
def kH(m:AC)(o:AJ):xS:=[.c [.ptr 2 0 1],.c (mC m),.c [.sl 3 o.length 1],.a (.by o)]
def CK(m:AC):AJ:=
 if m.AR=4 then Ac [m.AH,Dl m.B4]else
 if m.AR=5 then CN m.A9 else
 if m.AR=6 then Cf m.A9.AH else
 if m.AR=7 then Ac [m.AG+1]++(UInt8.ofNat m.A8.length::Ac m.A8)else
 if m.AR=10 then Ac [m.AT,Dl m.done]else
 if m.AR=11 then Ac [m.AQ]else
 if m.AR=12 then Ac [m.AQ]++(if m.AQ=0 then CN m.A9 else[])else[]
theorem uJ(m:AC)(o:AJ)(h:fits m.AH=true)(ho:o.length<=100000):xC 320 [.ptr 0 0 1,.ptr 1 0 15] (kH m o) (.tup []) (kH m (o++Ac [m.AH,Dl m.B4])):=by
 have hp:=K3 [m.AH,Dl m.B4] o (by simp only[yj,zi,EY,zy];exact h) sm om;have hb:=Yv m.B4;refine zD AF Tryz.func320 ?_;unfold kH mC wH at *;have d1:=Ds.mk [2,3] (hp);refine wd [0,1] [] A4 (AM @hb) ?_;clear d1;exact⟨_,A6.refl _,xH _,_,_,rfl,rfl,rfl,rfl⟩
theorem uN(m:AC)(o:AJ)(h:fits m.AT=true)(ho:o.length<=100000):xC 328 [.ptr 0 0 1,.ptr 1 0 15] (kH m o) (.tup []) (kH m (o++Ac [m.AT,Dl m.done])):=by
 have hp:=K3 [m.AT,Dl m.done] o (by simp only[yj,zi,EY,zy];exact h) sm om;have hb:=Yv m.done;refine zD AF Tryz.func328 ?_;unfold kH mC wH at *;have d1:=Ds.mk [2,3] (hp);refine wd [0,1] [] A4 (AM @hb) ?_;clear d1;exact⟨_,A6.refl _,xH _,_,_,rfl,rfl,rfl,rfl⟩
theorem uK(m:AC)(o:AJ)(hs:m.A9.AH.length<=255)(h1:fits m.A9.B2=true)(h2:fits m.A9.AZ=true)(ho:o.length<=100000):xC 322 [.ptr 0 0 1,.ptr 1 0 15] (kH m o) (.tup []) (kH m (o++CN m.A9)):=by
 have hp:=Xp m.A9 o hs h1 h2 ho;refine zD AF Tryz.func322 ?_;unfold kH mC wH at *;have d1:=Ds.mk [2,3] (hp);refine wd [0,1] [] A4 A4 ?_;clear d1;exact⟨_,A6.refl _,xH _,_,_,rfl,rfl,rfl,rfl⟩
theorem uL(m:AC)(o:AJ)(hs:m.A9.AH.length<=255)(ho:o.length<=100000):xC 324 [.ptr 0 0 1,.ptr 1 0 15] (kH m o) (.tup []) (kH m (o++Cf m.A9.AH)):=by
 have hp:=YP m.A9.AH o hs om;refine zD AF Tryz.func324 ?_;unfold kH mC wH at *;have d1:=Ds.mk [2,3] (hp);refine wd [0,1] [] A4 A4 ?_;clear d1;exact⟨_,A6.refl _,xH _,_,_,rfl,rfl,rfl,rfl⟩
theorem uM(m:AC)(o:AJ)(h:fits (m.AG+1)=true)(hl:m.A8.length<=255)(hf:m.A8.all fits=true)(ho:o.length<=100000):
  xC 326 [.ptr 0 0 1,.ptr 1 0 15] (kH m o) (.tup []) (kH m (o++Ac [m.AG+1]++(UInt8.ofNat m.A8.length::Ac m.A8))):=by
 have hp:=K3 [m.AG+1] o (by simp only[yj,zi,zy];exact h) sm om;have hn:=Fj [m.AG+1] (by simp only[yj,zi,zy];exact h);have hp2:=lD m.A8 (o++Ac [m.AG+1]) hl hf (by simp only[y9];simp only[xw,yI]at hn;omega);have hb: -1<=m.AG/\m.AG<=1099511627776:=by simp[fits]at h;omega
 refine zD AF Tryz.func326 ?_;unfold kH mC wH at *;have d1:=Ds.mk [2,3] (hp);have d2:=Ds.mk [2,3] (hp2);refine wd [0,1] [] A4 A4 ?_;clear d2 d1;exact⟨_,A6.refl _,xH _,_,_,rfl,rfl,rfl,rfl⟩
theorem uO(m:AC)(o:AJ)(h:fits m.AQ=true)(ho:o.length<=100000):xC 329 [.ptr 0 0 1,.ptr 1 0 15] (kH m o) (.tup []) (kH m (o++Ac [m.AQ])):=by
 have hp:=K3 [m.AQ] o (by simp only[yj,zi,zy];exact h) sm om;refine zD AF Tryz.func329 ?_;unfold kH mC wH at *;have d1:=Ds.mk [2,3] (hp);refine wd [0,1] [] A4 A4 ?_;clear d1;exact⟨_,A6.refl _,xH _,_,_,rfl,rfl,rfl,rfl⟩
theorem uP(m:AC)(o:AJ)(h:fits m.AQ=true)(hI:m.AQ=0->m.A9.AH.length<=255/\fits m.A9.B2=true/\fits m.A9.AZ=true)(ho:o.length<=10000):
  xC 330 [.ptr 0 0 1,.ptr 1 0 15] (kH m o) (.tup []) (kH m (o++(Ac [m.AQ]++(if m.AQ=0 then CN m.A9 else[])))):=by
 have hp:=K3 [m.AQ] o (by simp only[yj,zi,zy];exact h) sm om;have hn:=Fj [m.AQ] (by simp only[yj,zi,zy];exact h);simp only[xw,yI]at hn;refine zD AF Tryz.func330 ?_
 by_cases hc0:m.AQ=0
 .obtain⟨a1,a2,a3⟩:=hI hc0;have hp2:=Xp m.A9 (o++Ac [m.AQ]) a1 a2 a3 (by simp only[y9];omega);have f:=AS hc0;rw[if_pos hc0,<-yB];unfold kH mC wH at *;have d1:=Ds.mk [2,3] (hp);have d2:=Ds.mk [2,3] (hp2);refine wd [0,1,9] [] (AM f) A4 ?_;clear d2 d1;exact⟨_,A6.refl _,xH _,_,_,rfl,rfl,rfl,rfl⟩
 .have f:=eq_false' hc0;rw[if_neg hc0,yK];unfold kH mC wH at *;have d1:=Ds.mk [2,3] (hp);refine wd [0,1,9] [] (AM f) A4 ?_;clear d1;exact⟨_,A6.refl _,xH _,_,_,rfl,rfl,rfl,rfl⟩
end Wi
end Go.Proofs.YtkljbfejbakooaaGreatDoor
