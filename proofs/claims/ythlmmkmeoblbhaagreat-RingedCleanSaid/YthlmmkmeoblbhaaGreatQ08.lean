/- Part 8 of a proof. Conditions: those that its theorems state. -/
import Derived.Test.YthlmmkmeoblbhaaGreatQ07
import Derived.Test.YthlmmkmeoblbhaaGreatProg
import Derived.Shelf.Slices.In.SortAlone
import Derived.Shelf.SlicesE.DeleteFunc
set_option linter.unusedSimpArgs false
set_option linter.unusedVariables false
set_option linter.unnecessarySimpa false
set_option maxHeartbeats 40000000
set_option maxRecDepth 4000
namespace Go.Proofs.YthlmmkmeoblbhaaGreat
open Go.Gar
set_option maxRecDepth 100000
abbrev yF:Value:= .int .i64 0
abbrev yG:Value:= .slice none 0 0
abbrev yH:Value:= .bool false
abbrev yI:Value:= .int .u8 0
abbrev yJ:Value:= .nilFunc
abbrev yK:Value:= .string ⟨#[]⟩
abbrev yL:Value:= .pointer none
abbrev yM:Value:= .int .u64 0
abbrev yN:Value:= .int .i32 0
abbrev yO:Bd:=⟨.fn,1,8,false,[yJ],false⟩
abbrev yP:Bd:=⟨.int .i64,1,8,false,[yF],false⟩
abbrev yQ:Bd:=⟨.int .u8,1,1,false,[yI],false⟩
abbrev yR:Bd:=⟨.int .u64,1,8,false,[yM],false⟩
abbrev yS:Bd:=⟨.str,1,16,false,[yK],false⟩
abbrev yT:Bd:=⟨.int .i32,1,4,false,[yN],false⟩
def T:Tr:=(.n (.n (.n (.n (.n (.n (.n .l 1 yO .l) 2 yP .l) 3 yP (.n (.n .l 4 ⟨.bool,1,1,false,[yH],false⟩ .l) 5 yQ .l)) 6 yQ (.n (.n (.n .l 7 ⟨.st [(0,2),(1,3),(2,4),(3,6)],4,24,true,[yF,yF,yH,yI],true⟩ .l) 8 ⟨.st [(0,2),(1,3),(2,4),(3,6)],4,24,true,[yF,yF,yH,yI],false⟩ .l) 9 yS (.n (.n .l 10 yS .l) 11 yS .l))) 12 yR (.n (.n (.n (.n .l 14 ⟨.st [(0,9),(1,12)],2,24,true,[yK,yM],false⟩ .l) 15 ⟨.ptr 324,1,8,false,[yL],false⟩ .l) 16 ⟨.ptr 327,1,8,false,[yL],false⟩ (.n (.n .l 17 ⟨.ptr 335,1,8,false,[yL],false⟩ .l) 19 ⟨.st [(0,17)],1,8,true,[yL],false⟩ .l)) 20 ⟨.ifc,1,16,false,[.nilIface],false⟩ (.n (.n (.n .l 21 yT .l) 22 ⟨.sl 3,1,24,false,[yG],false⟩ .l) 23 ⟨.sl 41,1,24,false,[yG],false⟩ (.n (.n .l 24 yO .l) 25 yO .l)))) 26 ⟨.sl 64,1,24,false,[yG],false⟩ (.n (.n (.n (.n (.n .l 27 ⟨.sl 81,1,24,false,[yG],false⟩ .l) 28 ⟨.st [(0,27),(1,3)],2,32,true,[yG,yF],false⟩ .l) 29 ⟨.st [(0,27),(1,3)],2,32,true,[yG,yF],false⟩ (.n (.n .l 31 ⟨.st [(0,26),(1,22),(2,22),(3,29)],5,104,true,[yG,yG,yG,yG,yF],false⟩ .l) 32 yP .l)) 37 ⟨.sl 5,1,24,false,[yG],false⟩ (.n (.n (.n .l 39 ⟨.st [(0,9),(1,3),(2,3),(3,4)],4,40,true,[yK,yF,yF,yH],true⟩ .l) 41 ⟨.st [(0,5),(1,3),(2,3),(3,3),(4,37),(5,39)],9,96,true,[yI,yF,yF,yF,yG,yK,yF,yF,yH],false⟩ .l) 46 yO (.n (.n .l 49 ⟨.arr 16 3,16,128,true,[yF,yF,yF,yF,yF,yF,yF,yF,yF,yF,yF,yF,yF,yF,yF,yF],true⟩ .l) 51 ⟨.st [(0,3),(1,22),(2,22),(3,3),(4,49)],20,192,true,[yF,yG,yG,yF,yF,yF,yF,yF,yF,yF,yF,yF,yF,yF,yF,yF,yF,yF,yF,yF],false⟩ .l))) 52 ⟨.sl 163,1,24,false,[yG],false⟩ (.n (.n (.n (.n .l 54 ⟨.st [(0,3),(1,3),(2,52)],3,40,true,[yF,yF,yG],false⟩ .l) 55 ⟨.sl 77,1,24,false,[yG],false⟩ .l) 57 ⟨.st [(0,5),(1,3)],2,16,true,[yI,yF],true⟩ (.n (.n .l 59 ⟨.st [(0,3),(1,3),(2,3),(3,4),(4,4),(5,32)],6,40,true,[yF,yF,yF,yH,yH,yF],true⟩ .l) 61 ⟨.st [(0,5),(1,5),(2,59),(8,39),(12,3),(13,22),(14,32)],15,128,true,[yI,yI,yF,yF,yF,yH,yH,yF,yK,yF,yF,yH,yF,yG,yF],false⟩ .l)) 62 ⟨.sl 39,1,24,false,[yG],false⟩ (.n (.n (.n .l 64 ⟨.st [(0,51),(20,3),(21,54),(24,55),(25,57),(27,61),(42,61),(57,61),(72,3),(73,9),(74,62),(75,3)],76,720,true,yF::yG::yG::yF::yF::yF::yF::yF::yF::yF::yF::yF::yF::yF::yF::yF::yF::yF::yF::yF::yF::yF::yF::yG::yG::yI::yF::yI::yI::yF::yF::yF::yH::yH::yF::yK::yF::yF::yH::yF::yG::yF::yI::yI::yF::yF::yF::yH::yH::yF::yK::yF::yF::yH::yF::yG::yF::yI::yI::yF::yF::yF::yH::yH::yF::yK::yF::yF::yH::yF::yG::yF::yF::yK::yG::yF::[],false⟩ .l) 73 ⟨.st [(0,5),(1,3),(2,3),(3,3),(4,3),(5,4),(6,4),(7,3),(8,3),(9,22),(10,39),(14,32)],15,136,true,[yI,yF,yF,yF,yF,yH,yH,yF,yF,yG,yK,yF,yF,yH,yF],false⟩ .l) 74 yO (.n (.n .l 77 ⟨.st [(0,3),(1,3),(2,73)],17,152,true,[yF,yF,yI,yF,yF,yF,yF,yH,yH,yF,yF,yG,yK,yF,yF,yH,yF],false⟩ .l) 78 yO .l))))) 79 yO (.n (.n (.n (.n (.n (.n .l 81 ⟨.st [(0,3),(1,37),(2,4)],3,40,true,[yF,yG,yH],false⟩ .l) 84 yO .l) 87 yO (.n (.n .l 88 yO .l) 94 yO .l)) 104 yO (.n (.n (.n .l 105 yO .l) 107 ⟨.ptr 64,1,8,false,[yL],false⟩ .l) 118 yO (.n (.n .l 144 yO .l) 148 ⟨.int .u32,1,4,false,[.int .u32 0],false⟩ .l))) 149 yR (.n (.n (.n (.n .l 153 ⟨.st [(0,32)],1,8,true,[yF],true⟩ .l) 155 ⟨.st [(0,37)],1,24,true,[yG],false⟩ .l) 157 ⟨.ptr 73,1,8,false,[yL],false⟩ (.n (.n .l 159 ⟨.mp 5 1,1,8,false,[.map none],false⟩ .l) 161 ⟨.ptr 155,1,8,false,[yL],false⟩ .l)) 163 ⟨.st [(0,3),(1,73),(16,5),(17,3),(18,3),(19,3)],20,176,true,[yF,yI,yF,yF,yF,yF,yH,yH,yF,yF,yG,yK,yF,yF,yH,yF,yI,yF,yF,yF],false⟩ (.n (.n (.n .l 173 ⟨.sl 222,1,24,false,[yG],false⟩ .l) 185 ⟨.sl 25,1,24,false,[yG],false⟩ .l) 186 yO (.n (.n .l 187 yO .l) 189 yO .l)))) 190 yO (.n (.n (.n (.n (.n .l 193 yO .l) 194 yO .l) 196 yO (.n (.n .l 197 yO .l) 212 ⟨.sl 73,1,24,false,[yG],false⟩ .l)) 222 ⟨.st [(0,73),(15,5)],16,144,true,[yI,yF,yF,yF,yF,yH,yH,yF,yF,yG,yK,yF,yF,yH,yF,yI],false⟩ (.n (.n (.n .l 249 yO .l) 250 yO .l) 252 yO (.n (.n .l 254 yP .l) 262 yR .l))) 296 yR (.n (.n (.n (.n .l 300 ⟨.ptr 3,1,8,false,[yL],false⟩ .l) 317 ⟨.ptr 296,1,8,false,[yL],false⟩ .l) 320 ⟨.arr 3 5,3,3,true,[yI,yI,yI],true⟩ (.n (.n .l 324 ⟨.st [(0,17),(1,17),(2,17),(3,9)],4,40,true,[yL,yL,yL,yK],false⟩ .l) 328 yQ .l)) 329 yQ (.n (.n (.n .l 330 yO .l) 331 ⟨.ptr 5,1,8,false,[yL],false⟩ .l) 332 yT (.n (.n .l 333 yT .l) 335 ⟨.st [(0,12),(1,12),(2,148),(3,328),(4,5),(5,5),(6,329),(7,330),(8,331),(9,332),(10,333)],11,48,true,[yM,yM,.int .u32 0,yI,yI,yI,yI,yJ,yL,yN,yN],false⟩ .l))))))
theorem AK:CV Tryz.prog T.get:=Tr.ok (by kernel_rfl)
end Go.Proofs.YthlmmkmeoblbhaaGreat
namespace Go.Proofs.YthlmmkmeoblbhaaGreat
open Go.Gar
abbrev yA:=Go.Gar.Fn Tryz.prog
abbrev yB:=Bw Tryz.prog
end Go.Proofs.YthlmmkmeoblbhaaGreat
namespace Go.Proofs.YthlmmkmeoblbhaaGreat
open Go.Gar
theorem mixed:Tryz.prog.follows .mixedOrders=true:=by kernel_rfl
variable {α:Type}
theorem HA[BEq α][LawfulBEq α][DecidableEq α](a b:α):(a==b)=decide (a=b):=by
 by_cases h:a=b<;>simp[h]
variable {k:Nat}
theorem AS{xs:List α}(h:k<xs.length):∃x,xs[k]? =some x:=⟨xs[k],yj h⟩
theorem AM{l:List α}{x:α}(hx:l[k]? =some x):l.take (k+1)=l.take k++[x]:=by
 rw[List.take_add_one,hx];rfl
variable {a b:Int}
theorem BJ(h:a=b):(a !=b)=false:=by rw[bne_eq_false_iff_eq];exact h
theorem Bp(h:a≠b):(a !=b)=true:=by rw[bne_iff_ne];exact h
theorem eq_false'(h:a≠b):(a==b)=false:=by rw[q1Q];exact h
theorem B6(h:a=b):(a==b)=true:=by rw[beq_iff_eq];exact h
structure AL where
 AH:AT
 BD:Int
 Aa:Int
 gone:Bool
 deriving DecidableEq
def AL.A1(x:AL):yo:=[.s x.AH,.yE x.BD,.yE x.Aa,.b x.gone]
def AL.d(x:AL):D:=.agg x.A1
abbrev Bf(l:List AL):D:=.sl 4 (l.map AL.A1)
def AN:AL:=⟨[],0,0,false⟩
theorem m9(x y:AL):P2 x.A1 y.A1=decide (x=y):=by
 obtain⟨a,b,c,d⟩:=x;obtain⟨a',b',c',d'⟩:=y;simp[AL.A1,P2,eq1,HA]
theorem LJ(x y:AL):P2 [.s x.AH,.yE x.BD,.yE x.Aa,.b x.gone] [.s y.AH,.yE y.BD,.yE y.Aa,.b y.gone]=decide (x=y):=m9 x y
def fits(n:Int):Bool:=decide (n>=0)&&decide (n<=1099511627776)
def LN(n:Nat):Nat:=if n=0 then 0 else n.log2+1
theorem Ur{n:Nat}:LN n=k↔n<2^k/\(k=0\/2^(k-1)<=n):=by
 unfold LN;split
 .rename_i h;subst h;constructor
  .intro h;subst h;simp
  .rintro⟨h1,h2|h2⟩
   .exact h2.symm
   .have:0<2^(k-1):=Nat.two_pow_pos _;omega
 .rename_i h;constructor
  .intro hk;subst hk;exact⟨Nat.lt_log2_self,.inr (by simpa using Nat.log2_self_le h)⟩
  .rintro⟨h1,h2⟩;have h2':k≠0:=fun e=>by subst e;simp at h1;omega
   have h2:2^(k-1)<=n:=by rcases h2 with h2|h2;exact absurd h2 h2';exact h2
   have:=(Nat.log2_eq_iff h).2 ⟨h2,by rwa [show k-1+1=k by omega]⟩;omega
def size(n:Nat):Nat:=(LN n+7)/8
def uQ(n i:Nat):UInt8:=UInt8.ofNat (n/256^i%256)
def L8(n:Nat):AT:=(List.range (size n)).map fun j=>uQ n (size n-1-j)
def GY(n:Nat):AT:=UInt8.ofNat (size n)::L8 n
theorem size_le(n:Nat)(h:n<281474976710656):size n<=6:=by
 have:=(Ur (n:=n) (k:=LN n)).1 rfl
 have:LN n<=48:=by
  rcases this.2 with h2|h2
  .omega
  .rcases q0A 48 (LN n)with h3|h3
   .have:2^48<=2^(LN n-1):=q1N (by decide) om;omega
   .exact h3
 simp only[size];omega
abbrev Im:BK:=[0,2,3,4,5,7,10,16,21,25,26,27,28,48]
theorem Cy(n:Nat)(h:n<=1099511627776):(GY n).length<=7:=by
 have:=size_le n om;simp[GY,L8];omega
def Yt(n:Int):AT×Int:=if fits n then(GY n.toNat,0)else([],2)
def textS(s:AT):AT×Int:=if s.length>255 then([],2)else(UInt8.ofNat s.length::s,0)
theorem oX(s:AT):yA 300 [.s s] (.tup [.by (textS s).1,.yE (textS s).2]):=by
 refine zF AK Tryz.func300 ?_
 by_cases h:s.length>255
 .have h1:decide ((s.length:Int)>255)=true:=by simp;omega
  refine Ae [0,2,3,6] ?_ (AQ h1);exact BO (yg @textS.eq_1 h)
 .have h1:decide ((s.length:Int)>255)=false:=by simp;omega
  have h2:(s.length:Int)%256=s.length:=om
  have ow:Lv [10]:=trivial;refine Ae [0,2,3,6] ?_ (B1 h1 h2);clear ow;exact BO (yg @textS.eq_1 h)
theorem bB(l:AT)(h:l.length<=140737488355328):yA 282 [.by l] (.by l):=by
 refine zF AK Tryz.func282 ?_;refine A9 [0,2] ?_;refine⟨_,_,rfl,rfl,?_⟩;simp[D5]
def Fb(l:AT):Nat:=l.foldl (fun a d=>a*256+d.toNat) 0
theorem VZ(l:AT)(k:Nat)(h:k<l.length):Fb (l.take (k+1))=Fb (l.take k)*256+(l.getD k 0).toNat:=by
 unfold Fb;rw[q0S h,zJ,yj h,q19];rfl
theorem R9(l:AT):Fb l<256^l.length:=by
 have AH:∀(l:AT)(a k:Nat),a<256^k->l.foldl (fun a d=>a*256+d.toNat) a<256^(k+l.length):=by
  intro l
  induction l with
  |nil=>intro a k h;simpa using h
  |cons d r ih=>
   intro a k h;have hd:=d.toNat_lt;have:a*256+d.toNat<256^(k+1):=by rw[Nat.pow_succ];omega
   have:=ih _ (k+1) this;simp only[q0c,yu];rwa [show k+(r.length+1)=k+1+r.length by omega]
 have:=AH l 0 0 sm;rwa [q0M]at this
def Bb:AT->Nat×AT×Int
 |[]=>(0,[],11)
 |m::r=>if m.toNat>6 then(0,[],12)else if r.length<m.toNat then(0,[],11)else
  if(m.toNat>0/\r.getD 0 0=0)\/Fb (r.take m.toNat)>1099511627776 then(0,[],12)else(Fb (r.take m.toNat),r.drop m.toNat,0)
def Dh(x:Nat×AT×Int):D:=.tup [.yE x.1,.by x.2.1,.yE x.2.2]
theorem shl8(a:Nat)(h:a<36028797018963968):IntKind.wrap .i64 ((a:Int)*2^min 8 64)=((a*256:Nat):Int):=by
 simp[IntKind.wrap,IntKind.bits,IntKind.signed];omega
theorem or8(a:Nat)(h:a<36028797018963968)(d:UInt8):Cx .or .i64 ((a*256:Nat):Int) (d.toNat:Int)=((a*256+d.toNat:Nat):Int):=by
 have hd:=d.toNat_lt
 have e:(BitVec.ofInt 64 ((a*256:Nat):Int)|||BitVec.ofInt 64 (d.toNat:Int)).toNat=a*256+d.toNat:=by
  rw[BitVec.ofInt_natCast,BitVec.ofInt_natCast,BitVec.toNat_or,BitVec.toNat_ofNat,BitVec.toNat_ofNat,Nat.mod_eq_of_lt om,Nat.mod_eq_of_lt om];rw[show a*256=2^8*a by omega,Nat.two_pow_add_eq_or_of_lt hd]
 have e2:Cx .or .i64 ((a*256:Nat):Int) (d.toNat:Int)=IntKind.wrap .i64 (BitVec.ofInt 64 ((a*256:Nat):Int)|||BitVec.ofInt 64 (d.toNat:Int)).toNat:=rfl;rw[e2,e];simp[IntKind.wrap,IntKind.bits,IntKind.signed];omega
theorem X0(b:AT)(hb:b.length<70368744177664):yA 281 [.by b] (Dh (Bb b)):=by
 refine zF AK Tryz.func281 ?_;rcases b with _|⟨m,r⟩
 .refine A9 Im ?_;exact BO (yg @Bb.eq_1 @Dh.eq_1)
 have hm:=m.toNat_lt;simp only[yu]at hb
 by_cases h6:m.toNat>6
 .refine A9 Im ?_;with_reducible repeat' first|constructor|intro hc
  refine⟨_,_,rfl,rfl,?_⟩;simp[E5,B3,B8,Aq,Bb,Dh,h6]
 by_cases hr:r.length<m.toNat
 .refine A9 Im ?_;with_reducible repeat' first|constructor|intro hc
  refine⟨_,_,rfl,rfl,?_⟩;simp[E5,B3,B8,Aq,Bb,Dh,h6,hr]
 have h3:List.drop 1 (List.take (1+(m.toNat:Int)).toNat (m::r))=r.take m.toNat:=by
  rw[show(1+(m.toNat:Int)).toNat=m.toNat+1 by omega];simp
 have h4:(r.take m.toNat).length=m.toNat:=by simp;omega
 refine Ae Im ?_ (B1 h3 h4);with_reducible repeat' first|constructor|intro hc
 have hlt:∀k,k<=m.toNat->Fb (r.take k)<281474976710656:=by
  intro k hk;have:=R9 (r.take k);have h6':(r.take k).length<=6:=by simp;omega
  have:256^(r.take k).length<=256^6:=q1N (by decide) h6';omega
 refine BY (fun k=>k<=m.toNat) (fun k:Nat=>⟨[(0,.d (.by (m::r))),(2,.y5 (Fb (r.take k):Nat)),(3,.e0),(4,.y5 0),(5,.y5 m.toNat),(25,.d (.by (r.take m.toNat))),(26,.y5 m.toNat),(27,.y5 k)],[],54⟩) (fun k=>m.toNat-k) 0 (yx _) ?_ (yV _) ?_
 .exact A5.ck rfl
 intro k hk
 by_cases hkm:k<m.toNat
 .have e1:=shl8 (Fb (r.take k)) (by have:=hlt k hk;omega);have e2:=or8 (Fb (r.take k)) (by have:=hlt k hk;omega) ((r.take m.toNat).getD k 0)
  have e3:Fb (r.take k)*256+((r.take m.toNat).getD k 0).toNat=Fb (r.take (k+1)):=by
   have:=VZ (r.take m.toNat) k om;rw[List.take_take,List.take_take,Nat.min_eq_left om,Nat.min_eq_left om]at this;exact this.symm
  refine Ae Im ?_ (DO e1 e2 e3);with_reducible repeat' first|constructor|intro hc
  refine⟨k+1,hkm,om,yV _,?_⟩;exact A5.ck rfl
 .have hkm':k=m.toNat:=om
  subst hkm'
  by_cases hP:(m.toNat>0/\r.getD 0 0=0)\/Fb (r.take m.toNat)>1099511627776
  .have hT:Bb (m::r)=(0,[],12):=by simp only[Bb,zO h6,zO hr,zN hP]
   rw[hT];refine A9 Im ?_;with_reducible repeat' first|constructor|intro hc
   all_goals first
    |(refine⟨_,_,rfl,rfl,?_⟩;simp[E5,B3,B8,Aq,Dh];done)
    |(exfalso;rcases hP with⟨h,h'⟩|h<;>first|omega|(have h':=congrArg UInt8.toNat h';simp only[UInt8.toNat_zero]at h';omega))
  .have hT:Bb (m::r)=(Fb (r.take m.toNat),r.drop m.toNat,0):=by simp only[Bb,zO h6,zO hr,zO hP]
   rw[hT];have e5:(1+(m.toNat:Int)).toNat=m.toNat+1:=om
   refine Ae Im ?_ (AQ e5);with_reducible repeat' first|constructor|intro hc
   all_goals first
    |(refine⟨_,_,rfl,rfl,?_⟩;simp[E5,B3,B8,Aq,Dh];done)
    |(exfalso;exact hP (.inl ⟨om,u8z om⟩))
    |(exfalso;exact hP (.inr om))
theorem IA(b:AT):(Bb b).2.1.length<=b.length:=by
 rcases b with _|⟨m,r⟩
 .simp[Bb]
 .simp only[Bb];split
  .simp
  .split
   .simp
   .split
    .simp
    .simp;omega
theorem ZR(b:AT):(Bb b).1<=1099511627776:=by
 rcases b with _|⟨m,r⟩
 .simp[Bb]
 .simp only[Bb];split
  .simp
  .split
   .simp
   .split
    .simp
    .simp;omega
theorem Qi(b:AT)(hb:b.length<70368744177664):yA 238 [.by b] (Dh (Bb b)):=by
 have hl:=IA b;refine zF AK Tryz.func238 ?_;refine AP [0,2,3,4] ?_ (B1 (X0 b hb) (bB (Bb b).2.1 om));exact BO @Dh.eq_1
def B7:AT->AT×AT×Int
 |[]=>([],[],11)
 |m::r=>if r.length<m.toNat then([],[],11)else(r.take m.toNat,r.drop m.toNat,0)
def Hm(x:AT×AT×Int):D:=.tup [.s x.1,.by x.2.1,.yE x.2.2]
theorem Q7(b:AT)(hb:b.length<70368744177664):yA 240 [.by b] (Hm (B7 b)):=by
 refine zF AK Tryz.func240 ?_;rcases b with _|⟨m,r⟩
 .refine A9 [0,2,3,4,5,8,17] ?_;exact BO (yg @B7.eq_1 @Hm.eq_1)
 have hm:=m.toNat_lt;simp only[yu]at hb
 by_cases hr:r.length<m.toNat
 .refine A9 [0,2,3,4,5,8,17] ?_;with_reducible repeat' first|constructor|intro hc
  refine⟨_,_,rfl,rfl,?_⟩;simp[E5,B3,B8,Aq,B7,Hm,hr]
 have e5:(1+(m.toNat:Int)).toNat=m.toNat+1:=om
 have h3:List.drop 1 (List.take (m.toNat+1) (m::r))=r.take m.toNat:=by simp
 refine AD [0,2,3,4,5,8,17] ?_ (AQ e5) (AQ (bB (r.drop m.toNat) (by simp;omega)));with_reducible repeat' first|constructor|intro hc
 refine⟨_,_,rfl,rfl,?_⟩;simp[E5,B3,B8,Aq,B7,Hm,hr]
theorem OW(b:AT)(hb:b.length<70368744177664):yA 296 [.by b] (Hm (B7 b)):=by
 refine zF AK Tryz.func296 ?_;rcases b with _|⟨m,r⟩
 .refine A9 [0,2,3,4,5,18] ?_;exact BO (yg @B7.eq_1 @Hm.eq_1)
 have hm:=m.toNat_lt;simp only[yu]at hb
 by_cases hr:r.length<m.toNat
 .refine A9 [0,2,3,4,5,18] ?_;with_reducible repeat' first|constructor|intro hc
  refine⟨_,_,rfl,rfl,?_⟩;simp[E5,B3,B8,Aq,B7,Hm,hr]
 have e5:(1+(m.toNat:Int)).toNat=m.toNat+1:=om
 refine Ae [0,2,3,4,5,18] ?_ (AQ e5);with_reducible repeat' first|constructor|intro hc
 refine⟨_,_,rfl,rfl,?_⟩;simp[E5,B3,B8,Aq,B7,Hm,hr]
abbrev Li:BK:=[0,2,3,4,5,8,14,15,16,24]
def Ad:Ao->AT
 |[]=>[]
 |n::l=>GY n.toNat++Ad l
theorem gU(a b:Ao):Ad (a++b)=Ad a++Ad b:=by
 induction a with
 |nil=>rfl
 |cons x r ih=>simp[Ad,ih]
def Sx(l:Ao):AT×Int:=if l.length>255 then([],2)else if l.all fits then(UInt8.ofNat l.length::Ad l,0)else([],2)
theorem O2{n:Int}(h:fits n=true):∃m:Nat,n=m/\m<=1099511627776:=by
 simp[fits]at h;exact⟨n.toNat,om,om⟩
theorem V8(l:Ao)(h:l.all fits=true):(Ad l).length<=7*l.length:=by
 induction l with
 |nil=>simp[Ad]
 |cons x r ih=>
  simp only[q0j,yU]at h;obtain⟨m,rfl,hm⟩:=O2 h.1;have:=Cy m hm;have:=ih h.2;simp only[Ad,yw,yu,q0m];omega
variable {l:Ao}
theorem Mp(h:k<l.length):(l.take (k+1)).all fits=((l.take k).all fits&&fits (l.getD k 0)):=by
 rw[q0S h,zJ,yj h,List.all_append];simp
theorem Ki(h:k<l.length):Ad (l.take (k+1))=Ad (l.take k)++GY (l.getD k 0).toNat:=by
 rw[q0S h,gU,zJ,yj h];simp[Ad]
def Di:Nat->AT->Ao->Ao×AT×Int
 |0,rest,acc=>(acc,rest,0)
 |k+1,rest,acc=>if(Bb rest).2.2=0 then Di k (Bb rest).2.1 (acc++[((Bb rest).1:Int)])else([],[],(Bb rest).2.2)
def BM:AT->Ao×AT×Int
 |[]=>([],[],11)
 |m::r=>Di m.toNat r []
def Ij(x:Ao×AT×Int):D:=.tup [.is x.1,.by x.2.1,.yE x.2.2]
theorem Q6(b:AT)(hb:b.length<70368744177664):yA 241 [.by b] (Ij (BM b)):=by
 refine zF AK Tryz.func241 ?_;rcases b with _|⟨m,r⟩
 .refine A9 Li ?_;exact BO (yg @BM.eq_1 @Ij.eq_1)
 have hm:=m.toNat_lt;simp only[yu]at hb;refine A9 Li ?_;refine Av (A5.EQ 2 (.is []) rfl rfl rfl trivial) sm ?_
 refine BY (α:=Nat×AT×Ao) (fun x=>x.1<=m.toNat/\x.2.1.length<=r.length/\x.2.2.length=x.1/\Di (m.toNat-x.1) x.2.1 x.2.2=Di m.toNat r [])
  (fun x=>⟨[(0,.d (.by (m::r))),(2,.sl 0 x.2.2.length 1),(3,.d (.by x.2.1)),(4,.y5 0),(14,.y5 m.toNat),(15,.y5 x.1)],[.a (.is x.2.2)],34⟩) (fun x=>m.toNat-x.1) (0,r,[]) ⟨yx _,yV _,rfl,rfl⟩ ?_ sm ?_
 .exact A5.ck rfl
 rintro⟨k,rest,acc⟩ ⟨hk,hrl,hal,hT⟩;simp only at hk hrl hal hT;have hl:=IA rest;have hv:=ZR rest
 by_cases hkm:k<m.toNat
 .rw[show m.toNat-k=(m.toNat-(k+1))+1 by omega]at hT;simp only[Di]at hT
  by_cases he:(Bb rest).2.2=0
  .rw[zN he]at hT;refine AD Li ?_ (B1 he @Dh.eq_1) (AQ (X0 rest om));with_reducible repeat' first|constructor|intro hc
   refine⟨(k+1,(Bb rest).2.1,acc++[((Bb rest).1:Int)]),⟨hkm,by simp only;omega,by simp;omega,hT⟩,by simp only;omega,sm,?_⟩;exact A5.ck rfl
  .rw[zO he]at hT;refine AD Li ?_ (AQ @Dh.eq_1) (AQ (X0 rest om));with_reducible repeat' first|constructor|intro hc
   have e:BM (m::r)=([],[],(Bb rest).2.2):=hT.symm;exact BO (yg e @Ij.eq_1)
 .have e:k=m.toNat:=om
  subst e;rw[Nat.sub_self]at hT;have e:BM (m::r)=(acc,rest,0):=hT.symm;refine AP Li ?_ (AQ (bB rest om));with_reducible repeat' first|constructor|intro hc
  exact BO (yg e @Ij.eq_1)
abbrev Ou:BK:=[0,2,3,4,10,12]
def HR(n k:Nat):AT:=(List.range k).map fun j=>uQ n (k-1-j)
theorem Jc(n k:Nat):HR n (k+1)=uQ n k::HR n k:=by
 simp only[HR,List.range_succ_eq_map,zV,List.map_map];refine congr (congrArg _ sm) ?_;apply List.map_congr_left;intro j _;simp only[Function.comp]
 congr 1;omega
theorem PT(a:Nat)(h:a<4611686018427387904):Ho .i64 (a:Int)=true:=by
 simp only[Ho,yU,yc];constructor<;>omega
theorem size_pos{n:Nat}:0<n/256^k↔k<size n:=by
 have hp:0<256^k:=Nat.pow_pos (by decide);rw[Nat.div_pos_iff];have e:256^k=2^(8*k):=by rw[Nat.pow_mul]
 obtain⟨h1,h2⟩:=(Ur (n:=n) (k:=LN n)).1 rfl;unfold size;constructor
 .rintro⟨_,h⟩;rcases q0A (8*k) (LN n)with h3|h3
  .omega
  .have:2^LN n<=2^(8*k):=q1N (by decide) h3;omega
 .intro h;refine⟨hp,?_⟩;rcases h2 with h2|h2
  .omega
  .have:2^(8*k)<=2^(LN n-1):=q1N (by decide) om;omega
theorem eX(n:Int):yA 310 [.yE n] (.tup [.by (Yt n).1,.yE (Yt n).2]):=by
 by_cases hf:fits n=true
 .obtain⟨m,rfl,hm⟩:=O2 hf;have hs:=size_le m om;refine zF AK Tryz.func310 ?_;refine A9 Ou ?_;with_reducible repeat' first|constructor|intro hc
  refine Av (A5.e0 4 (.by []) rfl rfl rfl trivial) sm ?_;refine BY (fun k=>k<=size m) (fun k:Nat=>⟨[(0,.y5 (m/256^k:Nat)),(2,.e0),(3,.y5 0),(4,.d (.by (HR m k)))],[],27⟩) (fun k=>size m-k) 0 (yx _) ?_ sm ?_
  .exact A5.ck rfl
  intro k hk;have hsp:=size_pos (n:=m) (k:=k);have hle:m/256^k<=m:=Nat.div_le_self _ _;have hll:(HR m k).length=k:=by simp[HR]
  by_cases hkm:k<size m
  .have hp:=hsp.2 hkm
   have e1:((m/256^k:Nat):Int).tmod 256=((m/256^k%256:Nat):Int):=by
    rw[q1Z om];rfl
   have e2:((m/256^k%256:Nat):Int)%256=((m/256^k%256:Nat):Int):=om
   have e3:((m/256^k:Nat):Int).tdiv 256=((m/256^(k+1):Nat):Int):=by
    rw[Int.tdiv_eq_ediv_of_nonneg om,Nat.pow_succ,<-Nat.div_div_eq_div_mul];rfl
   have e4:(UInt8.ofNat (m/256^k%256)::HR m k)=HR m (k+1):=(Jc m k).symm;have hle':m/256^(k+1)<=m:=Nat.div_le_self _ _;have ow:Lv [16]:=trivial;refine Ae Ou ?_ (Hc e1 e2 e3 e4);clear ow;with_reducible repeat' first|constructor|intro hc
   rotate_left
   .rw[e3];exact PD rfl (PT _ om)
   refine⟨k+1,hkm,om,yx _,?_⟩;refine A5.trans' (A5.lP 4 0 (x:=.by (HR m (k+1))) (congrArg (fun z=>some (AF.a (D.by z))) e4) rfl rfl) ?_ (yx _);exact A5.ck rfl
  .have e:k=size m:=om
   subst e;have h0:m/256^size m=0:=Nat.eq_zero_of_not_pos (fun h=>absurd (hsp.1 h) (Nat.lt_irrefl _));have e5:((size m:Nat):Int)%256=size m:=om
   have e6:HR m (size m)=L8 m:=rfl;have e7:(L8 m).length=size m:=by simp[L8]
   have ow:Lv [24]:=trivial;refine Ae Ou ?_ (Hc h0 e5 e6 e7);clear ow;exact BO (yg @Yt.eq_1 (yg hf (yg @GY.eq_1 (yg e6 e7))))
 .have hf':fits n=false:=by simpa using hf
  have hc':n<0\/n>1099511627776:=by simp[fits]at hf';omega
  refine zF AK Tryz.func310 ?_;refine A9 Ou ?_;with_reducible repeat' first|constructor|intro hc
  all_goals first
   |(refine⟨_,_,rfl,rfl,?_⟩;simp[E5,B3,B8,Aq,Yt,hf'];done)
   |(exfalso;omega)
end Go.Proofs.YthlmmkmeoblbhaaGreat
namespace Go.Proofs.YthlmmkmeoblbhaaGreat
open Go.Gar
theorem jM(l:AT)(a:Nat):l.foldl (fun a d=>a*256+d.toNat) a=a*256^l.length+Fb l:=by
 induction l generalizing a with
 |nil=>simp[Fb]
 |cons d r ih=>
  have e:Fb (d::r)=d.toNat*256^r.length+Fb r:=by
   show r.foldl _ (0*256+d.toNat)=_;rw[ih];simp
  simp only[q0c,yu];rw[ih,e,Nat.pow_succ,q0i,Nat.mul_assoc,Nat.mul_comm 256,Nat.add_assoc]
theorem Pz(d:UInt8)(l:AT):Fb (d::l)=d.toNat*256^l.length+Fb l:=by
 show l.foldl _ (0*256+d.toNat)=_;rw[jM];simp
theorem Ns(n i:Nat):(uQ n i).toNat=n/256^i%256:=by
 simp[uQ]
theorem YN(n k:Nat):(HR n k).length=k:=by simp[HR]
theorem jN(n k:Nat):Fb (HR n k)=n%256^k:=by
 induction k with
 |zero=>simp[HR,Fb,Nat.mod_one]
 |succ k ih=>
  rw[Jc,Pz,ih,YN,Ns,Nat.pow_succ,Nat.mod_mul];rw[Nat.mul_comm,Nat.add_comm]
theorem eY(n:Nat):n<256^size n:=by
 have h:=(size_pos (n:=n) (k:=size n));have h0:n/256^size n=0:=Nat.eq_zero_of_not_pos (fun h1=>absurd (h.1 h1) (Nat.lt_irrefl _));have hp:0<256^size n:=Nat.pow_pos (by decide);rcases(Nat.div_eq_zero_iff).1 h0 with h1|h1
 .omega
 .exact h1
theorem Vv(n:Nat):L8 n=HR n (size n):=rfl
theorem jL(n:Nat):Fb (L8 n)=n:=by
 rw[Vv,jN,Nat.mod_eq_of_lt (eY n)]
theorem kY(n:Nat):(L8 n).length=size n:=YN _ _
theorem fS(n:Nat)(h:0<size n):(L8 n).getD 0 0≠0:=by
 obtain⟨k,hk⟩:∃k,size n=k+1:=⟨size n-1,om⟩;rw[Vv,hk,Jc];intro e;have e':=congrArg UInt8.toNat e;simp only[q0u,Ns,UInt8.toNat_zero]at e';have h1:=(size_pos (n:=n) (k:=k)).2 om;have h2:=eY n;rw[hk,Nat.pow_succ]at h2;have h3:n/256^k<256:=(Nat.div_lt_iff_lt_mul (Nat.pow_pos (by decide))).2 (by rwa [Nat.mul_comm]);omega
theorem VX(n:Nat)(r:AT)(h:n<=1099511627776):Bb (GY n++r)=(n,r,0):=by
 have hs:=size_le n om;have hl:=kY n;have hm:(UInt8.ofNat (size n)).toNat=size n:=by rw[q0o];omega
 have e1:(L8 n++r).take (size n)=L8 n:=by rw[<-hl];simp
 have e2:(L8 n++r).drop (size n)=r:=by rw[<-hl];simp
 simp only[GY,zA,Bb,hm];rw[zO om,zO (by simp;omega),e1,e2,jL,zO];rintro(⟨h1,h2⟩|h1)
 .refine fS n h1 (Eq.trans ?_ h2);rw[zJ,zJ,zW om]
 .omega
theorem mU(n k:Nat):HR (n%256^k) k=HR n k:=by
 unfold HR;apply List.map_congr_left;intro j hj;have hj':j<k:=by simpa using hj
 have:(uQ (n%256^k) (k-1-j)).toNat=(uQ n (k-1-j)).toNat:=by
  rw[Ns,Ns];obtain⟨i,hi⟩:∃i,k=(k-1-j)+1+i:=⟨j,om⟩;generalize k-1-j=q at *;subst hi;rw[show q+1+i=q+(1+i)by omega,Nat.pow_add,Nat.mod_mul_right_div_self,show 1+i=i+1 by omega,Nat.pow_succ,Nat.mul_comm (256^i) 256,Nat.mod_mul_right_mod]
 exact q1X.1 this
theorem gI(l:AT):HR (Fb l) l.length=l:=by
 induction l with
 |nil=>rfl
 |cons d r ih=>
  have hp:0<256^r.length:=Nat.pow_pos (by decide);have hv:=R9 r;have hd:=d.toNat_lt;rw[yu,Jc,<-mU,Pz,Nat.add_comm,Nat.add_mul_mod_self_right,Nat.mod_eq_of_lt hv,ih]
  congr 1
  apply q1X.1;rw[Ns,Nat.add_comm,Nat.mul_comm,Nat.mul_add_div hp,Nat.div_eq_of_lt hv];omega
theorem size_eq{n k:Nat}(h1:n<256^k)(h2:k=0\/256^(k-1)<=n):size n=k:=by
 have a:=(size_pos (n:=n) (k:=k));have b:=(size_pos (n:=n) (k:=k-1));have c:n/256^k=0:=Nat.div_eq_of_lt h1;rcases h2 with h2|h2
 .subst h2;omega
 .have:0<n/256^(k-1):=Nat.div_pos h2 (Nat.pow_pos (by decide));have:=b.1 this;omega
theorem V7{b r:AT}{n:Nat}(h:Bb b=(n,r,0)):b=GY n++r/\n<=1099511627776:=by
 rcases b with _|⟨m,l⟩
 .simp[Bb]at h
 .simp only[Bb]at h;split at h
  .simp at h
  .rename_i h6;split at h
   .simp at h
   .rename_i hr;split at h
    .simp at h
    .rename_i hP;simp only[zL,and_true]at h;obtain⟨rfl,rfl⟩:=h;have hlen:(l.take m.toNat).length=m.toNat:=by simp;omega
     have hsz:size (Fb (l.take m.toNat))=m.toNat:=by
      refine size_eq (by have:=R9 (l.take m.toNat);rwa [hlen]at this) ?_;rcases q0x m.toNat with h0|h0
      .exact .inl h0
      .right;rcases hl:l with _|⟨d,q⟩
       .rw[hl]at hr;simp at hr;omega
       .obtain⟨k,hk⟩:∃k,m.toNat=k+1:=⟨m.toNat-1,om⟩;rw[hl,hk,List.take_succ_cons]at hlen;rw[hk,List.take_succ_cons,Pz];simp only[yu,Nat.add_right_cancel_iff]at hlen;rw[hlen,Nat.add_sub_cancel];have hd:d.toNat≠0:=fun e=>hP (.inl ⟨h0,by rw[hl];exact u8z e⟩)
        have:1*256^k<=d.toNat*256^k:=q1b _ om;omega
     refine⟨?_,om⟩
     have e:L8 (Fb (l.take m.toNat))=l.take m.toNat:=by
      rw[Vv,hsz];have:=gI (l.take m.toNat);rwa [hlen]at this
     simp only[GY,e,hsz,zA,q0J]
     congr 1
     apply q1X.1;rw[q0o];have:=m.toNat_lt;omega
theorem Ik:∀(k:Nat)(r:AT)(acc:Ao),(Di k r acc).1.length<=acc.length+k
 |0,r,acc=>by simp[Di]
 |k+1,r,acc=>by
  simp only[Di];split
  .have:=Ik k (Bb r).2.1 (acc++[((Bb r).1:Int)]);simp only[yw,yu,zI]at this;omega
  .simp
theorem UK(b:AT):(BM b).1.length<=255:=by
 rcases b with _|⟨m,r⟩
 .simp[BM]
 .have h1:=Ik m.toNat r [];have h2:=m.toNat_lt;simp only[BM];simp only[zI]at h1;omega
theorem Py(s r:AT)(h:s.length<=255):B7 (UInt8.ofNat s.length::s++r)=(s,r,0):=by
 have hm:(UInt8.ofNat s.length).toNat=s.length:=by rw[q0o];omega
 simp only[zA,B7,hm];rw[zO sm];simp
theorem Mt(r:AT):∀(l:Ao)(acc:Ao),l.all fits=true->Di l.length (Ad l++r) acc=(acc++l,r,0)
 |[],acc,_=>by simp[Di,Ad]
 |n::l,acc,h=>by
  simp only[q0j,yU]at h;obtain⟨m,rfl,hm⟩:=O2 h.1;simp only[yu,Di,Ad,q0m,zu,VX m _ hm,zx];rw[Mt r l _ h.2];simp
theorem Us(l:Ao)(r:AT)(h:l.length<=255)(hf:l.all fits=true):BM (UInt8.ofNat l.length::Ad l++r)=(l,r,0):=by
 have hm:(UInt8.ofNat l.length).toNat=l.length:=by rw[q0o];omega
 simp only[zA,BM,hm];rw[Mt r l [] hf];simp
theorem ZQ(b:AT):(∃n r,Bb b=(n,r,0)/\b=GY n++r/\n<=1099511627776)\/Bb b=(0,[],11)\/Bb b=(0,[],12):=by
 rcases hb:Bb b with⟨n,r,e⟩
 by_cases he:e=0
 .subst he;obtain⟨h1,h2⟩:=V7 hb;exact .inl ⟨n,r,rfl,h1,h2⟩
 .right;rcases b with _|⟨m,l⟩
  .simp[Bb]at hb;simp[<-hb.1,<-hb.2.1,<-hb.2.2]
  .simp only[Bb]at hb;split at hb
   .simp at hb;simp[<-hb.1,<-hb.2.1,<-hb.2.2]
   .split at hb
    .simp at hb;simp[<-hb.1,<-hb.2.1,<-hb.2.2]
    .split at hb
     .simp at hb;simp[<-hb.1,<-hb.2.1,<-hb.2.2]
     .simp at hb;exact absurd hb.2.2.symm he
theorem Kk(b:AT):(∃s r,B7 b=(s,r,0)/\b=UInt8.ofNat s.length::s++r/\s.length<=255)\/B7 b=([],[],11):=by
 rcases b with _|⟨m,l⟩
 .exact .inr rfl
 .have hm:=m.toNat_lt;simp only[B7]
  by_cases h:l.length<m.toNat
  .rw[zN h];exact .inr rfl
  .rw[zO h];have hl:(l.take m.toNat).length=m.toNat:=by simp;omega
   refine .inl ⟨_,_,rfl,?_,om⟩;rw[hl,zA,q0J]
   congr 1
   apply q1X.1;rw[q0o];omega
theorem QY:∀(k:Nat)(b:AT)(acc:Ao),(∃l r,Di k b acc=(acc++l,r,0)/\b=Ad l++r/\l.length=k/\l.all fits=true)\/∃e,Di k b acc=([],[],e)/\e≠0
 |0,b,acc=> .inl ⟨[],b,by simp[Di],by simp[Ad],rfl,rfl⟩
 |k+1,b,acc=>by
  simp only[Di];rcases ZQ b with⟨n,r,h,hb,hn⟩|h|h
  .rw[h];simp only[zx];rcases QY k r (acc++[(n:Int)])with⟨l,r',h1,h2,h3,h4⟩|⟨e,h1,h2⟩
   .refine .inl ⟨(n:Int)::l,r',by rw[h1];simp,?_,by simp[h3],?_⟩
    .rw[hb,h2];simp[Ad]
    .have hf:fits (n:Int)=true:=by simp[fits];omega
     simp only[q0j,hf,h4,q0g]
   .exact .inr ⟨e,h1,h2⟩
  .rw[h];exact .inr ⟨11,sm,by decide⟩
  .rw[h];exact .inr ⟨12,sm,by decide⟩
theorem Qe(b:AT):(∃l r,BM b=(l,r,0)/\b=UInt8.ofNat l.length::Ad l++r/\l.length<=255/\l.all fits=true)\/∃e,BM b=([],[],e)/\e≠0:=by
 rcases b with _|⟨m,q⟩
 .exact .inr ⟨11,rfl,by decide⟩
 .have hm:=m.toNat_lt;simp only[BM];rcases QY m.toNat q []with⟨l,r',h1,h2,h3,h4⟩|⟨e,h1,h2⟩
  .refine .inl ⟨l,r',by rw[h1];simp,?_,om,h4⟩;rw[zA,<-h2,h3]
   congr 1
   apply q1X.1;rw[q0o];omega
  .exact .inr ⟨e,h1,h2⟩
end Go.Proofs.YthlmmkmeoblbhaaGreat
namespace Go.Proofs.YthlmmkmeoblbhaaGreat
open Go.Gar
def JU(x y:AL):Int:=
 if x.Aa<y.Aa then -1 else if y.Aa<x.Aa then 1 else if x.BD<y.BD then -1 else if y.BD<x.BD then 1 else
 if x.gone=y.gone then 0 else if x.gone then 1 else -1
def AL.may(x:AL):Bool:=decide (1<=x.AH.length)&&decide (x.AH.length<=20)&&decide (0<=x.BD)&&decide (x.BD<=1048576)&&decide (0<=x.Aa)&&decide (x.Aa<=1048576)
theorem rI(x:AL):x.may=true↔(1<=x.AH.length/\x.AH.length<=20)/\(0<=x.BD/\x.BD<=1048576)/\(0<=x.Aa/\x.Aa<=1048576):=by
 simp only[AL.may,yU,yc];constructor
 .rintro⟨⟨⟨⟨⟨h1,h2⟩,h3⟩,h4⟩,h5⟩,h6⟩;exact⟨⟨h1,h2⟩,⟨h3,h4⟩,h5,h6⟩
 .rintro⟨⟨h1,h2⟩,⟨h3,h4⟩,h5,h6⟩;exact⟨⟨⟨⟨⟨h1,h2⟩,h3⟩,h4⟩,h5⟩,h6⟩
theorem OE(s:AT):yA 221 [.s s] (.b (decide (1<=s.length/\s.length<=20))):=by
 refine zF AK Tryz.func221 ?_
 by_cases h1:1<=s.length
 .have f1:decide ((s.length:Int)>=1)=true:=yX om
  by_cases h2:s.length<=20
  .have f2:decide ((s.length:Int)<=20)=true:=yX om;rw[yX (show 1<=s.length/\s.length<=20 from⟨h1,h2⟩)];refine Ae [0,2] ?_ (B1 f1 f2);exact zE
  .have f2:decide ((s.length:Int)<=20)=false:=yY om;rw[yY (show ¬(1<=s.length/\s.length<=20)from fun h=>h2 h.2)];refine Ae [0,2] ?_ (B1 f1 f2);exact zE
 .have f1:decide ((s.length:Int)>=1)=false:=yY om;rw[yY (show ¬(1<=s.length/\s.length<=20)from fun h=>h1 h.1)];refine Ae [0,2] ?_ (AQ f1);exact zE
theorem IV(n:Int):yA 222 [.yE n] (.b (decide (0<=n/\n<=1048576))):=by
 refine zF AK Tryz.func222 ?_;refine A9 [0,2] ?_;repeat'(apply zB<;>intro hc)
 all_goals(refine⟨_,_,rfl,rfl,?_⟩;simp_all[D5]<;>omega)
theorem Vf(x:AL):yA 153 [x.d] (.b x.may):=by
 obtain⟨k,v,n,g⟩:=x;have c1:=OE k;have c2:=IV v;have c3:=IV n;have hm:=rI ⟨k,v,n,g⟩;refine zF AK Tryz.func153 ?_;refine AP [0,1,2] ?_ (DO @c1 @c2 @c3);repeat'(apply zB<;>intro hc)
 all_goals(refine⟨_,_,rfl,rfl,?_⟩;simp_all[D5,AL.may]<;>omega)
theorem Jg(x:AL):yA 132 [x.d] (.b x.may):=by
 obtain⟨k,v,n,g⟩:=x;refine zF AK Tryz.func132 ?_;refine A9 [0,1,2] ?_;repeat'(apply zB<;>intro hc)
 all_goals(refine⟨_,_,rfl,rfl,?_⟩;simp_all[D5,AL.may]<;>omega)
end Go.Proofs.YthlmmkmeoblbhaaGreat
namespace Go.Proofs.YthlmmkmeoblbhaaGreat
namespace Wi
open Go.Gar
structure AE where
 AG:Int
 AW:Int
 Ax:Int
 dst:Int
 AH:Int
 BX:Bool
 done:Bool
 AY:Int
 AO:Int
 A8:Ao
 AC:AL
 Ab:Int
 deriving DecidableEq
def AE.A1(m:AE):yo:=[.i .u8 m.AG,.yE m.AW,.yE m.Ax,.yE m.dst,.yE m.AH,.b m.BX,.b m.done,.yE m.AY,.yE m.AO,.is m.A8,.s m.AC.AH,.yE m.AC.BD,.yE m.AC.Aa,.b m.AC.gone,.yE m.Ab]
def AE.d(m:AE):D:=.agg m.A1
def AU:AE:=⟨0,0,0,0,0,false,false,0,0,[],AN,0⟩
def BE(n:Int):Bool:=decide (0<=n)&&decide (n<65536)
theorem C1(n:Int):yA 183 [.yE n] (.b (BE n)):=by
 refine zF AK Tryz.func183 ?_;refine A9 [0,2] ?_;repeat'(apply zB<;>intro hc)
 all_goals(refine⟨_,_,rfl,rfl,?_⟩;simp_all[D5,BE]<;>omega)
theorem Pb(n:Int):yA 176 [.yE n] (.b (BE n)):=by
 refine zF AK Tryz.func176 ?_;refine A9 [0,2] ?_;repeat'(apply zB<;>intro hc)
 all_goals(refine⟨_,_,rfl,rfl,?_⟩;simp_all[D5,BE]<;>omega)
def AE.BW(m:AE):Bool:=decide (1<=m.AG)&&decide (m.AG<=6)
theorem IZ(m:AE):yA 128 [m.d] (.b m.BW):=by
 obtain⟨k,c,s,d,ky,sl,dn,pl,pr,l,⟨ik,iv,ir,ig⟩,co⟩:=m;refine zF AK Tryz.func128 ?_;refine A9 [0,1,2] ?_;repeat'(apply zB<;>intro hc)
 all_goals(refine⟨_,_,rfl,rfl,?_⟩;simp_all[D5,AE.BW]<;>omega)
theorem T0(m:AE):yA 155 [m.d] (.b m.BW):=by
 obtain⟨k,c,s,d,ky,sl,dn,pl,pr,l,⟨ik,iv,ir,ig⟩,co⟩:=m;refine zF AK Tryz.func155 ?_;refine A9 [0,1,2] ?_;repeat'(apply zB<;>intro hc)
 all_goals(refine⟨_,_,rfl,rfl,?_⟩;simp_all[D5,AE.BW]<;>omega)
def AE.asker(m:AE):Int:=if m.BW then m.Ax else m.dst
theorem hZ(m:AE):yA 184 [m.d] (.yE m.asker):=by
 have h:=IZ m
 by_cases e:m.BW=true
 .rw[e]at h;have e2:m.asker=m.Ax:=zN e;obtain⟨k,c,s,d,ky,sl,dn,pl,pr,l,⟨ik,iv,ir,ig⟩,co⟩:=m;refine zF AK Tryz.func184 ?_;refine AP [0,1,2,4] ?_ (AQ @h);exact BO e2
 .have e:m.BW=false:=by simpa using e
  rw[e]at h;have e2:m.asker=m.dst:=zO (by simp[e]);obtain⟨k,c,s,d,ky,sl,dn,pl,pr,l,⟨ik,iv,ir,ig⟩,co⟩:=m;refine zF AK Tryz.func184 ?_;refine AP [0,1,2,4] ?_ (AQ @h);exact BO e2
theorem gJ(m:AE):yA 178 [m.d] (.yE m.asker):=by
 have h:=T0 m
 by_cases e:m.BW=true
 .rw[e]at h;have e2:m.asker=m.Ax:=zN e;obtain⟨k,c,s,d,ky,sl,dn,pl,pr,l,⟨ik,iv,ir,ig⟩,co⟩:=m;refine zF AK Tryz.func178 ?_;refine AP [0,1,2,4] ?_ (AQ @h);exact BO e2
 .have e:m.BW=false:=by simpa using e
  rw[e]at h;have e2:m.asker=m.dst:=zO (by simp[e]);obtain⟨k,c,s,d,ky,sl,dn,pl,pr,l,⟨ik,iv,ir,ig⟩,co⟩:=m;refine zF AK Tryz.func178 ?_;refine AP [0,1,2,4] ?_ (AQ @h);exact BO e2
def C2(s:AT):Bool:=decide ((s.length:Int)>=1)&&decide ((s.length:Int)<=20)
def isVal(n:Int):Bool:=decide (0<=n)&&decide (n<=1048576)
def Ay(x:AL):Bool:=C2 x.AH&&isVal x.BD&&isVal x.Aa
theorem OE(s:AT):yA 221 [.s s] (.b (C2 s)):=by
 refine zF AK Tryz.func221 ?_
 by_cases h:(s.length:Int)>=1
 .refine A9 [0,2] ?_;with_reducible repeat' first|constructor|intro hc
  all_goals(refine⟨_,_,rfl,rfl,?_⟩;simp only[D5,C2,h,decide_true,zy])
 .refine A9 [0,2] ?_;with_reducible repeat' first|constructor|intro hc
  all_goals(refine⟨_,_,rfl,rfl,?_⟩;simp only[D5,C2,h,q1J,q0Z])
theorem IV(n:Int):yA 222 [.yE n] (.b (isVal n)):=by
 refine zF AK Tryz.func222 ?_;refine A9 [0,2] ?_;repeat'(apply zB<;>intro hc)
 all_goals(refine⟨_,_,rfl,rfl,?_⟩;simp_all[D5,isVal]<;>omega)
abbrev Mf:BK:=[0,1,2,3,4,5,12,17,30]
abbrev Mg:BK:=[0,1,4,5,10,12,13,14,24]
variable {k:Nat}
theorem Yr{a b:Ao}(hka:k<a.length)(h2:k<b.length)(hpre:a.take k=b.take k):(a.getD k 0=b.getD k 0)↔a.take (k+1)=b.take (k+1):=by
 rw[q0S hka,q0S h2,hpre,zJ,zJ,yj hka,yj h2];exact⟨fun e=>congrArg (fun z=>List.take k b++[z]) e,fun e=>(List.cons.inj (List.append_cancel_left e)).1⟩
theorem o0(a b:AE)(ha:a.A8.length<=9223372036854775807):yA 185 [a.d,b.d] (.b (decide (a=b))):=by
 obtain⟨k,c,s,d,ky,sl,dn,pl,pr,l,⟨ik,iv,ir,ig⟩,co⟩:=a;obtain⟨k',c',s',d',ky',sl',dn',pl',pr',l',⟨ik',iv',ir',ig'⟩,co'⟩:=b;have ha:l.length<=9223372036854775807:=ha;have hI:=LJ ⟨ik,iv,ir,ig⟩ ⟨ik',iv',ir',ig'⟩;refine zF AK Tryz.func185 ?_
 by_cases hl:l.length=l'.length
 .refine A9 Mf ?_;with_reducible repeat' first|constructor|intro hc
  refine BY (fun k=>k<=l.length/\l.take k=l'.take k) (fun j:Nat=>⟨[(2,.ptr 0 0 15),(3,.ptr 1 0 15),(5,.y5 j)],[.c ((AE.mk k c s d ky sl dn pl pr l ⟨ik,iv,ir,ig⟩ co).A1.map .d),.c ((AE.mk k' c' s' d' ky' sl' dn' pl' pr' l' ⟨ik',iv',ir',ig'⟩ co').A1.map .d)],106⟩) (fun k=>l.length-k) 0 ⟨yx _,sm⟩ ?_ (yV _) ?_
  .exact A5.ck rfl
  rintro j ⟨hk,hpre⟩;simp only[AE.A1,zV,zh]
  by_cases hka:j<l.length
  .have hab:=Yr hka om hpre;refine A9 Mf ?_;with_reducible repeat' first|constructor|intro hc
   .have:l≠l':=fun e=>by subst e;exact hc rfl
    exact BO this
   .refine⟨j+1,⟨hka,hab.1 hc⟩,om,yV _,?_⟩;simp only[AE.A1,zV,zh];exact A5.ck rfl
  .have:l=l':=by
    have e:j=l.length:=om
    subst e;rwa [zU,hl,zU]at hpre
   subst this;refine Ae Mf ?_ (AQ hI);with_reducible repeat' first|constructor|intro hc
   all_goals(clear ha hl hk hpre hka;refine⟨_,_,rfl,rfl,?_⟩;simp_all[D5,HA])
 .have:l≠l':=fun e=>hl (by rw[e]);refine A9 Mf ?_;with_reducible repeat' first|constructor|intro hc
  exact BO this
theorem Uc(a b:Ao)(ha:a.length<9223372036854775807):yA 54 [.is a,.is b] (.b (decide (a=b))):=by
 refine zF AK Tryz.func54 ?_
 by_cases hl:a.length=b.length
 .refine A9 Mg ?_;with_reducible repeat' first|constructor|intro hc
  refine BY (fun k=>k<=a.length/\a.take k=b.take k) (fun k:Nat=>⟨[(0,.yD a),(1,.yD b),(12,.y5 a.length),(13,.y5 k)],[],26⟩) (fun k=>a.length-k) 0 ⟨yx _,sm⟩ ?_ (yV _) ?_
  .exact A5.ck rfl
  rintro k ⟨hk,hpre⟩
  by_cases hka:k<a.length
  .have hab:=Yr hka om hpre;refine A9 Mg ?_;with_reducible repeat' first|constructor|intro hc
   .have:a≠b:=fun e=>by subst e;exact hc rfl
    exact BO this
   .refine⟨k+1,⟨hka,hab.1 hc⟩,om,yV _,?_⟩;exact A5.ck rfl
  .have:a=b:=by
    have e:k=a.length:=om
    subst e;rwa [zU,hl,zU]at hpre
   refine A9 Mg ?_;with_reducible repeat' first|constructor|intro hc
   exact BO this
 .have:a≠b:=fun e=>hl (by rw[e]);refine A9 Mg ?_;with_reducible repeat' first|constructor|intro hc
  exact BO this
def aU(l:Ao)(x:Int):Int:=if x∈l then(l.idxOf x:Nat)else -1
variable {l:Ao}
theorem lR{x:Int}(hk:k<l.length)(hpre:x∉l.take k)(h:x=l.getD k 0):x∈l/\l.idxOf x=k:=by
 rw[zJ,yj hk]at h;simp only[q1T]at h;have hm:x∈l:=by rw[h];exact q0a hk
 refine⟨hm,?_⟩;have e:l=l.take k++(l[k]::l.drop (k+1)):=by rw[<-q0V hk,q0J]
 have hi:l.idxOf x=(l.take k++(l[k]::l.drop (k+1))).idxOf x:=by rw[<-e]
 rw[hi,List.idxOf_append,zO hpre,<-h,List.idxOf_cons_self,q09];omega
theorem mn{x:Int}(hk:k<l.length)(hpre:x∉l.take k)(h:¬x=l.getD k 0):x∉l.take (k+1):=by
 rw[q0S hk,q04];rw[zJ,yj hk]at h;simp at h;rintro(h1|h1)
 .exact hpre h1
 .simp at h1;exact h h1
theorem m4(l:Ao)(x:Int)(hl:l.length<9223372036854775807):yA 70 [.is l,.yE x] (.yE (aU l x)):=by
 refine zF AK Tryz.func70 ?_;refine A9 [0,1,4,5,7,8,9,16] ?_;refine BY (fun k=>k<=l.length/\x∉l.take k) (fun k:Nat=>⟨[(0,.yD l),(1,.y5 x),(7,.y5 l.length),(8,.y5 k)],[],19⟩) (fun k=>l.length-k) 0 ⟨yx _,sm⟩ ?_ (yV _) ?_
 .exact A5.ck rfl
 rintro k ⟨hk,hpre⟩
 by_cases hkl:k<l.length
 .refine A9 [0,1,4,5,7,8,9,16] ?_;with_reducible repeat' first|constructor|intro hc
  .obtain⟨h1,h2⟩:=lR hkl hpre hc;have e:aU l x=(k:Nat):=by unfold aU;rw[zN h1,h2]
   exact BO e
  .refine⟨k+1,⟨hkl,mn hkl hpre hc⟩,om,yV _,?_⟩;exact A5.ck rfl
 .have e:k=l.length:=om
  have e2:aU l x= -1:=by unfold aU;rw[zO];rwa [e,zU]at hpre
  refine A9 [0,1,4,5,7,8,9,16] ?_;with_reducible repeat' first|constructor|intro hc
  exact BO e2
theorem QA(l:Ao)(x:Int)(hl:l.length<9223372036854775807):yA 36 [.is l,.yE x] (.b (decide (x∈l))):=by
 have hi:=m4 l x hl;refine zF AK Tryz.func36 ?_;refine AP [0,1,4] ?_ (AQ @hi)
 have e:decide (aU l x>=0)=decide (x∈l):=by
  unfold aU
  by_cases h:x∈l<;>simp[h]
 exact BO e
abbrev H6:BK:=[0,1,4,5,6,10,26,29,40]
abbrev Jx:BK:=[0,1,4,5,6,7,8,9,10,23]
theorem Jg(x:AL):yA 132 [x.d] (.b (Ay x)):=by
 obtain⟨k,v,n,g⟩:=x;refine zF AK Tryz.func132 ?_;refine A9 [0,1,2] ?_;repeat'(apply zB<;>intro hc)
 all_goals(refine⟨_,_,rfl,rfl,?_⟩;simp_all[D5,Ay,C2,isVal]<;>omega)
theorem Vf(x:AL):yA 153 [x.d] (.b (Ay x)):=by
 obtain⟨k,v,n,g⟩:=x;have h1:=OE k;have h2:=IV v;have h3:=IV n;refine zF AK Tryz.func153 ?_;refine AP [0,1,2] ?_ (DO @h1 @h2 @h3);repeat'(apply zB<;>intro hc)
 all_goals(refine⟨_,_,rfl,rfl,?_⟩;simp_all[D5,Ay])
def Fu(s:Int)(l:Ao):Bool:=l.all fun p=>BE p&&decide (p≠s)
def F7(l:Ao)(s:Int):Bool:=Fu s l&&decide l.Nodup&&decide (l.length<=3)
theorem av{s:Int}(hk:k<l.length):Fu s (l.take (k+1))=(Fu s (l.take k)&&(BE (l.getD k 0)&&decide (l.getD k 0≠s))):=by
 unfold Fu;rw[q0S hk,zJ,yj hk,List.all_append];simp only[q0j,List.all_nil,Bool.and_true,q1T]
theorem mr{s:Int}(h:Fu s (l.take k)=false):Fu s l=false:=by
 have e:Fu s l=(Fu s (l.take k)&&Fu s (l.drop k)):=by
  unfold Fu;rw[<-List.all_append,q0J]
 rw[e,h];rfl
theorem Yc{j:Nat}(hj:j<k)(hk:k<l.length)(h:l.getD j 0=l.getD k 0):¬l.Nodup:=by
 intro hn;rw[zJ,zJ,yj hk,yj (by omega:j<l.length)]at h;simp only[q1T]at h;exact(q0L.1 hn) j k om hk hj h
theorem TB(hk:k<l.length)(h:(l.take k).Nodup)(hall:∀j,j<k->l.getD j 0≠l.getD k 0):(l.take (k+1)).Nodup:=by
 rw[q0S hk,List.nodup_append];refine⟨h,sm,?_⟩;intro a ha b hb;simp at hb;subst hb;obtain⟨j,hj,e⟩:=q0d.1 ha;rw[q09]at hj;have:=hall j om;rw[zJ,zJ,yj hk,yj (by omega:j<l.length)]at this;simp at this;rw[<-e,List.getElem_take];exact this
theorem oO(l:Ao)(s:Int)(hl:l.length<=9223372036854775807):yA 244 [.is l,.yE s] (.b (F7 l s)):=by
 refine zF AK Tryz.func244 ?_;refine A9 H6 ?_;refine BY (fun k=>k<=l.length/\Fu s (l.take k)=true/\(l.take k).Nodup) (fun k:Nat=>⟨[(0,.yD l),(1,.y5 s),(5,.y5 k)],[],44⟩) (fun k=>l.length-k) 0 ⟨yx _,by simp[Fu],sm⟩ ?_ (yV _) ?_
 .exact A5.ck rfl
 rintro k ⟨hk,hok,hnd⟩
 by_cases hkl:k<l.length
 .have hst:=av (s:=s) hkl;rw[hok,zy]at hst;have hp:=C1 (l.getD k 0)
  by_cases hb:BE (l.getD k 0)=true/\l.getD k 0≠s
  .rw[hb.1]at hp;have f1:=eq_false' hb.2;refine AD H6 ?_ (AQ f1) (AQ @hp);with_reducible repeat' first|constructor|intro hc
   refine BY (fun j=>j<=k/\∀i,i<j->l.getD i 0≠l.getD k 0) (fun j:Nat=>⟨[(0,.yD l),(1,.y5 s),(5,.y5 k),(6,.y5 j)],[],44⟩) (fun j=>k-j) 0 ⟨yx _,fun i h=>om⟩ ?_ (yV _) ?_
   .exact A5.ck rfl
   rintro j ⟨hj,hall⟩
   by_cases hjk:j<k
   .refine A9 H6 ?_;with_reducible repeat' first|constructor|intro hc
    .have e:F7 l s=false:=by simp[F7,Yc hjk hkl hc]
     exact BO e
    .refine⟨j+1,⟨hjk,fun i hi=> ?_⟩,om,yV _,?_⟩
     .rcases Nat.lt_or_eq_of_le (Nat.le_of_lt_succ hi)with h|h
      .exact hall i h
      .rw[h];exact hc
     exact A5.ck rfl
   .have e:j=k:=om
    refine A9 H6 ?_;with_reducible repeat' first|constructor|intro hc
    refine⟨k+1,⟨hkl,by rw[hst,hb.1,yX hb.2];rfl,TB hkl hnd fun i hi=>hall i om⟩,om,yV _,?_⟩;exact A5.ck rfl
  .have e:F7 l s=false:=by
    have h2:Fu s (l.take (k+1))=false:=by
     rw[hst]
     cases h:BE (l.getD k 0)with
     |false=>rfl
     |true=>simp only[zy,zn];exact fun h3=>hb ⟨h,h3⟩
    simp[F7,mr h2]
   cases h:BE (l.getD k 0)with
   |false=>
    rw[h]at hp;refine AP H6 ?_ (AQ @hp);with_reducible repeat' first|constructor|intro hc
    exact BO e
   |true=>
    rw[h]at hp;have f1:(l.getD k 0==s)=true:=by rw[beq_iff_eq];exact Classical.not_not.1 fun h3=>hb ⟨h,h3⟩
    refine AD H6 ?_ (AQ f1) (AQ @hp);with_reducible repeat' first|constructor|intro hc
    exact BO e
 .have e:k=l.length:=om
  subst e;rw[zU]at hok hnd
  have e2:F7 l s=decide ((l.length:Int)<=3):=by
   simp only[F7,hok,yX hnd,q0g,zy]
   congr 1;simp;omega
  refine A9 H6 ?_;with_reducible repeat' first|constructor|intro hc
  exact BO e2
def apartB(s:Int)(l:Ao):Bool:=l.all (fun p=>decide (p≠s))&&decide l.Nodup
theorem kE(s:Int)(l:Ao)(hl:l.length<9223372036854775807):yA 242 [.yE s,.is l] (.b (apartB s l)):=by
 have cut:∀k,k<l.length->(l.take (k+1)).all (fun p=>decide (p≠s))=((l.take k).all (fun p=>decide (p≠s))&&decide (l.getD k 0≠s)):=by
  intro k hk;rw[q0S hk,zJ,yj hk,List.all_append];simp only[q0j,List.all_nil,Bool.and_true,q1T]
 refine zF AK Tryz.func242 ?_;refine A9 Jx ?_;refine BY (fun k=>k<=l.length/\(l.take k).all (fun p=>decide (p≠s))=true/\(l.take k).Nodup) (fun k:Nat=>⟨[(0,.y5 s),(1,.yD l),(7,.yD l),(8,.y5 l.length),(9,.y5 k)],[],25⟩) (fun k=>l.length-k) 0 ⟨yx _,sm,sm⟩ ?_ (yV _) ?_
 .exact A5.ck rfl
 rintro k ⟨hk,hok,hnd⟩
 by_cases hkl:k<l.length
 .have hst:=cut k hkl;have hco:=QA (l.take k) (l.getD k 0) (by rw[q09];omega);rw[hok,zy]at hst
  by_cases hb:l.getD k 0=s
  .have f1:=B6 hb
   have e:apartB s l=false:=by
    unfold apartB
    have:l.getD k 0∈l:=by
     rw[zJ,yj hkl];exact q0a hkl
    have h2:l.all (fun p=>decide (p≠s))=false:=by
     rw[List.all_eq_false];exact⟨_,this,by rw[hb];simp⟩
    rw[h2];rfl
   refine Ae Jx ?_ (AQ f1);with_reducible repeat' first|constructor|intro hc
   exact BO e
  .have f1:=eq_false' hb
   by_cases hm:l.getD k 0∈l.take k
   .rw[yX hm]at hco
    have e:apartB s l=false:=by
     unfold apartB;obtain⟨j,hj,e⟩:=q0d.1 hm;rw[q09]at hj;have:¬l.Nodup:=Yc (j:=j) (k:=k) om hkl (by rw[<-e,List.getElem_take,zJ,yj (by omega:j<l.length)];rfl);simp[this]
    refine AD Jx ?_ (AQ f1) (AQ @hco);with_reducible repeat' first|constructor|intro hc
    exact BO e
   .rw[yY hm]at hco;refine AD Jx ?_ (AQ f1) (AQ @hco);with_reducible repeat' first|constructor|intro hc
    refine⟨k+1,⟨hkl,by rw[hst,yX hb],TB hkl hnd fun i hi h=>hm ?_⟩,om,yV _,?_⟩
    .rw[<-h,zJ,yj (by omega:i<l.length)];exact q0d.2 ⟨i,by rw[q09];omega,by rw[List.getElem_take];rfl⟩
    exact A5.ck rfl
 .have e:k=l.length:=om
  subst e;rw[zU]at hok hnd;have e2:apartB s l=true:=by unfold apartB;rw[hok,yX hnd];rfl
  refine A9 Jx ?_;with_reducible repeat' first|constructor|intro hc
  exact BO e2
def AE.bare(m:AE):AE:=
 if m.AG=4 then{m with AH:=0,BX:=false}else
 if m.AG=5 then{m with AC:=AN}else
 if m.AG=6 then{m with AC:=AN}else
 if m.AG=7 then{m with AO:=0,A8:=[]}else
 if m.AG=10 then{m with AY:=0,done:=false}else
 if m.AG=11 then{m with Ab:=0}else
 if m.AG=12 then{m with Ab:=0,AC:=AN}else m
def AE.has(m:AE):Bool:=
 if m.AG=4 then BE m.AH else
 if m.AG=5 then Ay m.AC else
 if m.AG=6 then Ay m.AC&&decide (m.AC=⟨m.AC.AH,0,0,false⟩)else
 if m.AG=7 then(decide (m.AO= -1)||BE m.AO)&&F7 m.A8 m.Ax else
 if m.AG=10 then BE m.AY else
 if m.AG=11 then decide (m.Ab=0)||decide (m.Ab=200)else
 if m.AG=12 then(decide (m.Ab=0)&&Ay m.AC)||(decide (m.Ab=201)&&decide (m.AC=AN))else true
theorem q6(m:AE):yA 186 [m.d] m.bare.d:=by
 obtain⟨k,c,s,d,ky,sl,dn,pl,pr,l,⟨ik,iv,ir,ig⟩,co⟩:=m;refine zF AK Tryz.func186 ?_;refine A9 [0,1,2,4,5,9,14,18,22,25] ?_;with_reducible repeat' first|constructor|intro hc
 all_goals(refine⟨_,_,rfl,rfl,?_⟩;simp[*,AE.bare,AE.d,AE.A1,AN,N4,EA,Ev,C4,RZ,B8,B3,Aq])
theorem uZ(m:AE)(hl:m.A8.length<=9223372036854775807):yA 187 [m.d] (.b m.has):=by
 obtain⟨k,c,s,d,ky,sl,dn,pl,pr,l,⟨ik,iv,ir,ig⟩,co⟩:=m;have hp:=C1;have hP:=Jg ⟨ik,iv,ir,ig⟩;have hL:=oO l s hl;have i1:=LJ ⟨ik,iv,ir,ig⟩ ⟨ik,0,0,false⟩;have i2:=LJ ⟨ik,iv,ir,ig⟩ ⟨[],0,0,false⟩;refine zF AK Tryz.func187 ?_;refine AD [0,1,2,4,5,10,15,29,46,51,61] ?_ (B1 i1 i2) (DO @hp @hP @hL);with_reducible repeat' first|constructor|intro hc
 all_goals(clear hp hP hL i1 i2;refine⟨_,_,rfl,rfl,?_⟩;simp_all[D5,AE.has,AN,HA])
theorem Fv{n:Int}(h:BE n=true):0<=n/\n<65536:=by simpa[BE]using h
theorem OS{n:Int}:BE n=true↔0<=n/\n<65536:=by simp[BE]
def AE.empty(m:AE):AE:=⟨m.AG,m.AW,m.Ax,m.dst,0,false,false,0,0,[],AN,0⟩
def AE.JK(m:AE):Bool:=decide (1<=m.AG)&&decide (m.AG<13)&&BE m.Ax&&BE m.dst&&decide (m.Ax≠m.dst)&&decide (m.asker*1048576+1<=m.AW)&&decide (m.AW<m.asker*1048576+1+1048576)
def AE.right(m:AE):Bool:=m.JK&&(decide (m.bare=m.empty)&&m.has)
theorem kJ(m:AE)(hl:m.A8.length<=9223372036854775807):m.bare.A8.length<=9223372036854775807:=by
 unfold AE.bare
 repeat' split
 all_goals first|exact hl|(show([]:Ao).length<=9223372036854775807;decide)
theorem iP(m:AE)(hl:m.A8.length<=9223372036854775807):yA 127 [m.d] (.b m.right):=by
 have hb:=q6 m;have hh:=uZ m hl;have hA:=hZ m;have hS:=o0 m.bare m.empty (kJ m hl);have hp1:=C1 m.Ax;have hp2:=C1 m.dst;have hR:m.right=(m.JK&&(decide (m.bare=m.empty)&&m.has)):=rfl;have hH:m.JK=(decide (1<=m.AG)&&decide (m.AG<13)&&BE m.Ax&&BE m.dst&&decide (m.Ax≠m.dst)&&decide (m.asker*1048576+1<=m.AW)&&decide (m.AW<m.asker*1048576+1+1048576)):=rfl
 have hAb:BE m.Ax=true->BE m.dst=true->0<=m.asker/\m.asker<65536:=by
  intro h1 h2;unfold AE.asker;split
  .exact Fv h1
  .exact Fv h2
 unfold AE.d AE.A1 at hb hh hA hS|-;simp only[AE.empty,AN]at hS;generalize m.bare=B at *;generalize m.has=hs at *;generalize m.asker=A at *;generalize m.right=R at *;generalize m.JK=H at *;obtain⟨k,c,s,d,ky,sl,dn,pl,pr,l,⟨ik,iv,ir,ig⟩,co⟩:=m;refine zF AK Tryz.func127 ?_;simp only at*
 cases h1:BE s with
 |false=>
  rw[h1]at hp1 hH;refine AP [0,1,2,3,4,31,46] ?_ (AQ @hp1);repeat'(apply zB<;>intro hc)
  all_goals(refine⟨_,_,rfl,rfl,?_⟩;simp_all[D5])
 |true=>
 rw[h1]at hp1 hH
 cases h2:BE d with
 |false=>
  rw[h2]at hp2 hH;refine AP [0,1,2,3,4,31,46] ?_ (B1 @hp1 @hp2);repeat'(apply zB<;>intro hc)
  all_goals(refine⟨_,_,rfl,rfl,?_⟩;simp_all[D5])
 |true=>
 rw[h2]at hp2 hH;have hA2:=hAb h1 h2;have z1:=@hS;refine AP [0,1,2,3,4,31,46] ?_ (Ll @hp1 @hp2 @hA @hb @hh);clear z1;repeat'(apply zB<;>intro hc)
 all_goals(clear hb hh hA hS hp1 hp2 hAb;refine⟨_,_,rfl,rfl,?_⟩;simp_all[D5,AE.empty,AN]<;>omega)
theorem EH(m:AE)(hl:m.A8.length<9223372036854775807):yA 127 [m.d] (.b m.right):=iP m (Nat.le_of_lt hl)
theorem pV(a b:AE)(ha:a.A8.length<9223372036854775807):yA 179 [a.d,b.d] (.b (decide (a=b))):=by
 have hE:=Uc a.A8 b.A8 ha;obtain⟨k,c,s,d,ky,sl,dn,pl,pr,l,⟨ik,iv,ir,ig⟩,co⟩:=a;obtain⟨k',c',s',d',ky',sl',dn',pl',pr',l',⟨ik',iv',ir',ig'⟩,co'⟩:=b;have hI:=LJ ⟨ik,iv,ir,ig⟩ ⟨ik',iv',ir',ig'⟩;refine zF AK Tryz.func179 ?_;refine AD [0,1,2,3,4] ?_ (AQ hI) (AQ @hE);repeat'(apply zB<;>intro hc)
 all_goals(clear ha hE;refine⟨_,_,rfl,rfl,?_⟩;simp_all[D5,HA])
def AE.beside(m:AE):AE:=
 if m.AG=4 then{m with AG:=0,AW:=0,Ax:=0,dst:=0,AH:=0,BX:=false}else
 if m.AG=5 then{m with AG:=0,AW:=0,Ax:=0,dst:=0,AC:=AN}else
 if m.AG=6 then{m with AG:=0,AW:=0,Ax:=0,dst:=0,AC:=⟨[],m.AC.BD,m.AC.Aa,m.AC.gone⟩}else
 if m.AG=7 then{m with AG:=0,AW:=0,Ax:=0,dst:=0,AO:=0,A8:=[]}else
 if m.AG=10 then{m with AG:=0,AW:=0,Ax:=0,dst:=0,AY:=0,done:=false}else
 if m.AG=11 then{m with AG:=0,AW:=0,Ax:=0,dst:=0,Ab:=0}else
 if m.AG=12 then{m with AG:=0,AW:=0,Ax:=0,dst:=0,Ab:=0,AC:=AN}else
 {m with AG:=0,AW:=0,Ax:=0,dst:=0}
def AE.holds(m:AE):Bool:=
 if m.AG=5 then Ay m.AC else
 if m.AG=6 then C2 m.AC.AH else
 if m.AG=7 then decide ((m.A8.length:Int)<=3)&&apartB m.Ax m.A8 else
 if m.AG=11 then decide (m.Ab=0)||decide (m.Ab=200)else
 if m.AG=12 then(decide (m.Ab=0)&&Ay m.AC)||(decide (m.Ab=201)&&decide (m.AC=AN))else true
theorem fK(m:AE):yA 180 [m.d] m.beside.d:=by
 obtain⟨k,c,s,d,ky,sl,dn,pl,pr,l,⟨ik,iv,ir,ig⟩,co⟩:=m;refine zF AK Tryz.func180 ?_;refine A9 [0,1,2,4,5,9,13,17,21,25,28] ?_;repeat'(apply zB<;>intro hc)
 all_goals(refine⟨_,_,rfl,rfl,?_⟩;simp[*,AE.beside,AE.d,AE.A1,AN,N4,EA,Ev,C4,RZ,B8,B3,Aq])
theorem lg(m:AE)(hl:m.A8.length<9223372036854775807):yA 174 [m.d] (.b m.holds):=by
 obtain⟨k,c,s,d,ky,sl,dn,pl,pr,l,⟨ik,iv,ir,ig⟩,co⟩:=m;have hk:=OE ik;have hP:=Vf ⟨ik,iv,ir,ig⟩;have hL:=kE s l hl;have i2:=LJ ⟨ik,iv,ir,ig⟩ ⟨[],0,0,false⟩;refine zF AK Tryz.func174 ?_;refine AD [0,1,2,4,5,10,16,29,39] ?_ (AQ i2) (DO @hk @hP @hL);with_reducible repeat' first|constructor|intro hc
 all_goals(clear hk hP hL i2;refine⟨_,_,rfl,rfl,?_⟩;simp_all[D5,AE.holds,AN,HA]<;>(intro;exfalso;omega))
theorem PX(a c:Int)(h:0<=a/\a<65536):yA 177 [.yE a,.yE c] (.b (decide (c>a*1048576)&&decide (c<=(a+1)*1048576))):=by
 refine zF AK Tryz.func177 ?_;refine A9 [0,1,4] ?_;repeat'(apply zB<;>intro hc)
 all_goals(refine⟨_,_,rfl,rfl,?_⟩;simp_all[D5]<;>omega)
def mC(m:AE):yq:=[.y8 m.AG,.y5 m.AW,.y5 m.Ax,.y5 m.dst,.y5 m.AH,.y7 m.BX,.y7 m.done,.y5 m.AY,.y5 m.AO,.yD m.A8,.yC m.AC.AH,.y5 m.AC.BD,.y5 m.AC.Aa,.y7 m.AC.gone,.y5 m.Ab]
theorem gv(m:AE):yB 175 [.d m.d] [] (.fn (.func 243) [] [.ptr 0 0 15]) [.c (mC m)]:=by
 refine zD AK Tryz.func175 ?_;refine A9 [0,1,2] ?_;exact wE
def AE.GQ(m:AE):Bool:=
 BE m.Ax&&BE m.dst&&(if m.AG=4 then BE m.AH else if m.AG=10 then BE m.AY else if m.AG=7 then(decide (m.AO= -1)||BE m.AO)&&m.A8.all BE else true)
abbrev FH:BK:=[0,1,2,3,16,18,19,22,35]
abbrev Mh:BK:=[0,1,4,16,18,19,25,31,42,44,45,46,47,53]
def nJ(m:AE)(r:Lp):yz:=[.c (mC m),.c (mC m),.lp r]
theorem kA(hk:k<l.length)(h:(l.take k).all BE=true)(h2:BE (l.getD k 0)=true):(l.take (k+1)).all BE=true:=by
 rw[q0S hk,List.all_append,h];rw[zJ,yj hk]at h2;simpa using h2
theorem Ro(hk:k<l.length)(h2:BE (l.getD k 0)=false):l.all BE=false:=by
 rw[zJ,yj hk]at h2;rw[List.all_eq_false];exact⟨_,q0a hk,by simpa using h2⟩
theorem fB(m:AE)(hl:m.A8.length<9223372036854775807):yA 120 [m.d] (.b (decide (1<=m.AG)&&decide (m.AG<13)&&m.holds&&m.GQ&&(decide (m.Ax≠m.dst)&&(decide (m.AW>m.asker*1048576)&&decide (m.AW<=(m.asker+1)*1048576))&&decide (m.beside=AU)))):=by
 have hh:=lg m hl;have hb:=fK m;have hA:=gJ m
 have hS:=pV m.beside AU (by unfold AE.beside;repeat' split
                             all_goals first|exact hl|(show([]:Ao).length<9223372036854775807;decide))
 have hpl:=gv m;have hok:m.GQ=(BE m.Ax&&BE m.dst&&(if m.AG=4 then BE m.AH else if m.AG=10 then BE m.AY else if m.AG=7 then(decide (m.AO= -1)||BE m.AO)&&m.A8.all BE else true)):=rfl
 have hAb:m.GQ=true->0<=m.asker/\m.asker<65536:=by
  intro h;unfold AE.GQ at h;simp only[yU]at h;unfold AE.asker;split
  .exact Fv h.1.1
  .exact Fv h.1.2
 unfold AE.d AE.A1 at hh hA hS hb hpl|-;simp only[AU,AN]at hS|-;generalize m.beside=B at *;generalize m.holds=hs at *;generalize m.asker=A at *;generalize m.GQ=O at *;obtain⟨k,c,s,d,ky,sl,dn,pl,pr,l,⟨ik,iv,ir,ig⟩,co⟩:=m;simp only[mC]at *;refine zF AK Tryz.func120 ?_
 by_cases h1:decide (1<=k)&&decide (k<13)&&hs
 .simp only[yU,yc]at h1;obtain⟨⟨h11,h12⟩,h13⟩:=h1;rw[h13]at hh;refine Fc FH ?_ (AQ @hh) (E8 [] hpl);with_reducible repeat' first|constructor|intro hc
  refine zG (K:=fun r _ H'=>(O=true/\H'=nJ (AE.mk k c s d ky sl dn pl pr l ⟨ik,iv,ir,ig⟩ co) r)\/
   (O=false/\H'=nJ (AE.mk k c s d ky sl dn pl pr l ⟨ik,iv,ir,ig⟩ co) (r.left (.goto 0)))) ?_ ?_
  .intro r hr
   have hT:∀n,BE n=true->YT Tryz.prog 2 [.y5 n] (nJ (AE.mk k c s d ky sl dn pl pr l ⟨ik,iv,ir,ig⟩ co) r) fun x K=>x= .y7 true/\K=nJ (AE.mk k c s d ky sl dn pl pr l ⟨ik,iv,ir,ig⟩ co) r:=by
    intro n hn;have d1:=Pb n;rw[hn]at d1;unfold nJ mC;refine CE hr rfl rfl rfl ?_;refine A9 FH ?_;refine zR ?_;refine AP FH ?_ (AQ @d1);exact⟨_,A5.refl _,yV _,rfl,rfl,rfl⟩
   have hF:∀n,BE n=false->YT Tryz.prog 2 [.y5 n] (nJ (AE.mk k c s d ky sl dn pl pr l ⟨ik,iv,ir,ig⟩ co) r) fun x K=>x= .y7 false/\K=nJ (AE.mk k c s d ky sl dn pl pr l ⟨ik,iv,ir,ig⟩ co) (r.left (.goto 0)):=by
    intro n hn;have d1:=Pb n;rw[hn]at d1;unfold nJ mC;refine CE hr rfl rfl rfl ?_;refine A9 FH ?_;refine zR ?_;refine AP FH ?_ (AQ @d1);exact⟨_,A5.refl _,yV _,rfl,rfl,rfl⟩
   refine zT AK Tryz.func243 ?_;have hk:=hr.ok (k:=2) rfl;unfold nJ mC at *;simp only at *;have g1T:=@hT;have g1F:=@hF;refine A9 Mh ?_;clear g1F g1T;repeat'(apply zB<;>intro hc)
   all_goals clear hh hA hS hb hpl
   all_goals try exact⟨_,A5.refl _,yV _,_,_,rfl,rfl,.inl ⟨by rw[hok];simp[*],rfl⟩⟩
   all_goals try exact⟨_,A5.refl _,yV _,_,_,rfl,rfl,.inr ⟨by rw[hok];simp[*],rfl⟩⟩
   all_goals(
    have hO:O=l.all BE:=by rw[hok];simp[*]
    clear hok;refine BY (fun j=>j<=l.length/\(l.take j).all BE=true) (fun j:Nat=>⟨[(0,.yl 2),(44,.yD l),(45,.y5 l.length),(46,.y5 j)],[.c [.y8 k,.y5 c,.y5 s,.y5 d,.y5 ky,.y7 sl,.y7 dn,.y5 pl,.y5 pr,.yD l,.yC ik,.y5 iv,.y5 ir,.y7 ig,.y5 co],.c [.y8 k,.y5 c,.y5 s,.y5 d,.y5 ky,.y7 sl,.y7 dn,.y5 pl,.y5 pr,.yD l,.yC ik,.y5 iv,.y5 ir,.y7 ig,.y5 co],.lp r],55⟩) (fun j=>l.length-j) 0 ⟨yx _,sm⟩ ?_ (yV _) ?_
    .exact A5.ck rfl
    rintro j ⟨hj,hall⟩
    by_cases hjl:j<l.length
    .cases hp:BE (l.getD j 0)with
     |true=>
      have h3:=kA hjl hall hp;have h4:=hT _ hp;have q1:=@h4;refine A9 Mh ?_;clear q1;with_reducible repeat' first|constructor|intro hc
      refine⟨j+1,⟨hjl,h3⟩,om,yV _,?_⟩;exact A5.ck rfl
     |false=>
      have h4:=hF _ hp;have q1:=@h4;refine A9 Mh ?_;clear q1;with_reducible repeat' first|constructor|intro hc
      exact⟨_,A5.refl _,yV _,_,_,rfl,rfl,.inr ⟨by rw[hO];exact Ro hjl hp,rfl⟩⟩
    .have e:j=l.length:=om
     subst e;rw[zU]at hall;refine A9 Mh ?_;with_reducible repeat' first|constructor|intro hc
     exact⟨_,A5.refl _,yV _,_,_,rfl,rfl,.inl ⟨by rw[hO];exact hall,rfl⟩⟩)
  .rintro r hr y H' (⟨h,rfl⟩|⟨h,rfl⟩)
   .refine .inl ⟨rfl,?_⟩;have hC:=PX A c (hAb h);unfold nJ mC;have z1:=@hS;refine AP FH ?_ (DO @hA @hC @hb);clear z1;repeat'(apply zB<;>intro hc)
    all_goals clear hh hA hS hb hpl hC
    all_goals(refine⟨_,_,rfl,rfl,?_⟩;simp_all[D5]<;>omega)
   .refine .inr ⟨.goto 0,rfl,?_⟩;unfold nJ mC;refine A9 FH ?_;exact BO h
 .cases hs with
  |false=>
   refine AP FH ?_ (AQ @hh);repeat'(apply zB<;>intro hc)
   all_goals clear hh hA hS hb hpl
   all_goals(refine⟨_,_,rfl,rfl,?_⟩;simp_all[D5])
  |true=>
   have h2:¬(1<=k/\k<13):=fun h=>h1 (by simp[h]);refine AP FH ?_ (AQ @hh);with_reducible repeat' first|constructor|intro hc
   all_goals clear hh hA hS hb hpl
   all_goals(refine⟨_,_,rfl,rfl,?_⟩;simp_all[D5]<;>omega)
theorem gY(s:Int)(l:Ao):F7 l s=((decide ((l.length:Int)<=3)&&apartB s l)&&l.all BE):=by
 have h1:Fu s l=(l.all BE&&l.all (fun p=>decide (p≠s))):=by
  unfold Fu
  induction l with
  |nil=>rfl
  |cons x r ih=>simp only[q0j,ih];cases BE x<;>cases decide (x≠s)<;>simp
 have h2:decide ((l.length:Int)<=3)=decide (l.length<=3):=by congr 1;simp;omega
 unfold F7 apartB;rw[h1,h2];cases l.all BE<;>cases l.all (fun p=>decide (p≠s))<;>cases decide l.Nodup<;>cases decide (l.length<=3)<;>rfl
theorem um(m:AE):(decide (1<=m.AG)&&decide (m.AG<13)&&m.holds&&m.GQ&&(decide (m.Ax≠m.dst)&&(decide (m.AW>m.asker*1048576)&&decide (m.AW<=(m.asker+1)*1048576))&&decide (m.beside=AU)))=m.right:=by
 have hc:(decide (m.AW>m.asker*1048576)&&decide (m.AW<=(m.asker+1)*1048576))=(decide (m.asker*1048576+1<=m.AW)&&decide (m.AW<m.asker*1048576+1+1048576)):=by
  have e1:(m.AW>m.asker*1048576)=(m.asker*1048576+1<=m.AW):=propext om;have e2:(m.AW<=(m.asker+1)*1048576)=(m.AW<m.asker*1048576+1+1048576):=propext om;simp only[e1,e2]
 have AH:(m.holds&&m.GQ&&decide (m.beside=AU))=(BE m.Ax&&BE m.dst&&(decide (m.bare=m.empty)&&m.has)):=by
  obtain⟨k,c,s,d,ky,sl,dn,pl,pr,l,⟨ik,iv,ir,ig⟩,co⟩:=m;clear hc;simp only[AE.holds,AE.GQ,AE.has,AE.bare,AE.beside,AE.empty,AU,AN]
  cases BE s with
  |false=>simp
  |true=>
  cases BE d with
  |false=>simp
  |true=>
  simp only[zy]
  by_cases h4:k=4
  .subst h4;simp;grind
  by_cases h5:k=5
  .subst h5;simp;grind
  by_cases h6:k=6
  .subst h6;simp;grind[Ay,isVal]
  by_cases h7:k=7
  .subst h7;simp[gY];grind
  by_cases h10:k=10
  .subst h10;simp;grind
  by_cases h11:k=11
  .subst h11;simp;grind
  by_cases h12:k=12
  .subst h12;simp;grind
  simp[*]
 rw[hc];unfold AE.right AE.JK
 revert AH
 cases m.holds<;>cases m.GQ<;>cases decide (m.beside=AU)<;>cases BE m.Ax<;>cases BE m.dst<;>cases(decide (m.bare=m.empty)&&m.has)<;>simp[Bool.and_assoc]
theorem Nk(m:AE)(hl:m.A8.length<9223372036854775807):yA 120 [m.d] (.b m.right):=by
 rw[<-um];exact fB m hl
def Ez(b:Bool):Int:=if b then 1 else 0
theorem PM(c:Int):yA 239 [.yE 0,.yE c] (.tup []):=by
 refine zF AK Tryz.func239 ?_;refine A9 [0,1,5] ?_;exact zE
def pF(n:Int):ym:=[{v:=.iface 153 (.agg #[.int .i64 n]),recovered:=false}]
theorem SG(e c:Int)(h:e≠0):Mz Tryz.prog 239 [.y5 e,.y5 c] [] (pF c) []:=by
 have f:=Bp h;refine zX AK Tryz.func239 ?_;refine Ae [0,1,5] ?_ (AQ f);exact⟨rfl,⟨[],[],_⟩,(A5.ck rfl),yV _,rfl⟩
def Da(s:AT):AT:=UInt8.ofNat s.length::s
def Cg(x:AL):AT:=Da x.AH++Ad [x.BD,x.Aa,Ez x.gone]
theorem GJ(b:Bool):fits (Ez b)=true:=by cases b<;>rfl
def DI(m:AE):AT:=
 if m.AG=4 then Ad [m.AH,Ez m.BX]else
 if m.AG=5 then Cg m.AC else
 if m.AG=6 then Da m.AC.AH else
 if m.AG=7 then Ad [m.AO+1]++(UInt8.ofNat m.A8.length::Ad m.A8)else
 if m.AG=10 then Ad [m.AY,Ez m.done]else
 if m.AG=11 then Ad [m.Ab]else
 if m.AG=12 then Ad [m.Ab]++(if m.Ab=0 then Cg m.AC else[])else[]
end Wi
end Go.Proofs.YthlmmkmeoblbhaaGreat
namespace Go.Proofs
open Go.Shelf
def Tryz.UD:Go.Shelf.Ren:=⟨fun|189=>111|125=>159|257=>158|128=>234|129=>235|294=>225|295=>226|296=>227|297=>228|298=>229|299=>230|216=>231|300=>232|301=>233|328=>275|329=>276|330=>277|331=>278|332=>279|215=>280|343=>306|n=>n,fun|28=>22|3=>3|46=>149|0=>0|51=>148|53=>262|4=>4|183=>255|182=>254|131=>47|5=>5|9=>9|218=>296|222=>300|228=>317|229=>318|n=>n,fun|n=>n⟩
theorem Tryz.Uo:Go.Proofs.Lays.n189 Tryz.prog Tryz.UD:={
 mixed:=by kernel_rfl
 f125:=Tryz.func159.trans (congrArg some (by kernel_rfl))
 f128:=Tryz.func234.trans (congrArg some (by kernel_rfl))
 f129:=Tryz.func235.trans (congrArg some (by kernel_rfl))
 f189:=Tryz.func111.trans (congrArg some (by kernel_rfl))
 f215:=Tryz.func280.trans (congrArg some (by kernel_rfl))
 f216:=Tryz.func231.trans (congrArg some (by kernel_rfl))
 f257:=Tryz.func158.trans (congrArg some (by kernel_rfl))
 f294:=Tryz.func225.trans (congrArg some (by kernel_rfl))
 f295:=Tryz.func226.trans (congrArg some (by kernel_rfl))
 f296:=Tryz.func227.trans (congrArg some (by kernel_rfl))
 f297:=Tryz.func228.trans (congrArg some (by kernel_rfl))
 f298:=Tryz.func229.trans (congrArg some (by kernel_rfl))
 f299:=Tryz.func230.trans (congrArg some (by kernel_rfl))
 f300:=Tryz.func232.trans (congrArg some (by kernel_rfl))
 f301:=Tryz.func233.trans (congrArg some (by kernel_rfl))
 f328:=Tryz.func275.trans (congrArg some (by kernel_rfl))
 f329:=Tryz.func276.trans (congrArg some (by kernel_rfl))
 f330:=Tryz.func277.trans (congrArg some (by kernel_rfl))
 f331:=Tryz.func278.trans (congrArg some (by kernel_rfl))
 f332:=Tryz.func279.trans (congrArg some (by kernel_rfl))
 f343:=Tryz.func306.trans (congrArg some (by kernel_rfl))
 t0:=Tryz.underlying0
 a0:=Tryz.isAgg0
 z0:=Tryz.sizeOf0
 v0:=Tryz.zeroValue0
 t3:=Tryz.underlying3
 a3:=Tryz.isAgg3
 z3:=Tryz.sizeOf3
 v3:=Tryz.zeroValue3
 t4:=Tryz.underlying4
 a4:=Tryz.isAgg4
 z4:=Tryz.sizeOf4
 v4:=Tryz.zeroValue4
 t5:=Tryz.underlying5
 a5:=Tryz.isAgg5
 z5:=Tryz.sizeOf5
 v5:=Tryz.zeroValue5
 t9:=Tryz.underlying9
 a9:=Tryz.isAgg9
 z9:=Tryz.sizeOf9
 v9:=Tryz.zeroValue9
 t28:=Tryz.underlying22
 a28:=Tryz.isAgg22
 z28:=Tryz.sizeOf22
 v28:=Tryz.zeroValue22
 t46:=Tryz.underlying149
 a46:=Tryz.isAgg149
 z46:=Tryz.sizeOf149
 v46:=Tryz.zeroValue149
 t51:=Tryz.underlying148
 a51:=Tryz.isAgg148
 z51:=Tryz.sizeOf148
 v51:=Tryz.zeroValue148
 t53:=Tryz.underlying262
 a53:=Tryz.isAgg262
 z53:=Tryz.sizeOf262
 v53:=Tryz.zeroValue262
 t131:=Tryz.underlying47
 a131:=Tryz.isAgg47
 z131:=Tryz.sizeOf47
 v131:=Tryz.zeroValue47
 t182:=Tryz.underlying254
 a182:=Tryz.isAgg254
 z182:=Tryz.sizeOf254
 v182:=Tryz.zeroValue254
 t183:=Tryz.underlying255
 a183:=Tryz.isAgg255
 z183:=Tryz.sizeOf255
 v183:=Tryz.zeroValue255
 t218:=Tryz.underlying296
 a218:=Tryz.isAgg296
 z218:=Tryz.sizeOf296
 v218:=Tryz.zeroValue296
 t222:=Tryz.underlying300
 a222:=Tryz.isAgg300
 z222:=Tryz.sizeOf300
 v222:=Tryz.zeroValue300
 t228:=Tryz.underlying317
 a228:=Tryz.isAgg317
 z228:=Tryz.sizeOf317
 v228:=Tryz.zeroValue317
 t229:=Tryz.underlying318
 a229:=Tryz.isAgg318
 z229:=Tryz.sizeOf318
 v229:=Tryz.zeroValue318}
end Go.Proofs
namespace Go.Proofs.YthlmmkmeoblbhaaGreat
namespace Nd
open Go.Gar
open Wi (AE BE Ay AU C2 mC)
theorem tC{α:Type}[BEq α][LawfulBEq α](a:α):(a==a)=true:=beq_self_eq_true a
def Za(l:Ao):Nat->Ao
 |0=>[]
 |k+1=>if l.getD k 0∈l.take k then Za l k else Za l k++[l.getD k 0]
theorem eC(l:Ao):∀k,(Za l k).length<=k
 |0=>yV _
 |k+1=>by
  have:=eC l k;unfold Za;split
  .omega
  .rw[yw,List.length_singleton];omega
abbrev xF(id:Int)(l:Ao):Ao:=l.filter fun p=>p !=id
end Nd
end Go.Proofs.YthlmmkmeoblbhaaGreat
