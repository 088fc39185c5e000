/- Part 11 of a proof. Conditions: those that its theorems state. -/
import Derived.Test.YtkljbfejbakooaaGreatDoorT08
import Derived.Test.YtkljbfejbakooaaGreatDoorT10
set_option linter.unusedSimpArgs false
set_option linter.unusedVariables false
set_option linter.unnecessarySimpa false
set_option maxHeartbeats 40000000
set_option maxRecDepth 4000
namespace Go.Proofs.YtkljbfejbakooaaGreatDoor
open Go.Gar
abbrev Hw:Aw:=[0,1,4,5,7,8,9,16]
abbrev Jc:Aw:=[0,1,4,5,10,14,25]
def Cp(n:Int):Int:=n%65536
def B1(a b:Int):Int:=(b-a)%65536
theorem PD(n:Int):0<=Cp n/\Cp n<65536:=by unfold Cp;omega
theorem be(a b:Int):0<=B1 a b/\B1 a b<65536:=by unfold B1;omega
theorem jv(a b:Int):Cp (Cp b-Cp a)=B1 a b:=by unfold Cp B1;omega
theorem iu(n:Int):DT .and .i64 n 65535=Cp n:=by
 have h1:((BitVec.ofInt 64 n)&&&(BitVec.ofInt 64 65535)).toNat=(n%65536).toNat:=by
  rw[BitVec.toNat_and];have e1:(BitVec.ofInt 64 65535).toNat=2^16-1:=by decide
  rw[e1,Nat.and_two_pow_sub_one_eq_mod,BitVec.toNat_ofInt];omega
 have e:DT .and .i64 n 65535=IntKind.wrap .i64 (((BitVec.ofInt 64 n)&&&(BitVec.ofInt 64 65535)).toNat:Int):=rfl;rw[e,h1,IntKind.wrap_i64];unfold Cp;omega
theorem qK(n:Int):(n.tmod 65536+65536).tmod 65536=Cp n:=by
 have h1:=Int.tmod_lt_of_pos n (show(0:Int)<65536 by decide);have h2:=Int.lt_tmod_of_pos n (show(0:Int)<65536 by decide);rw[Int.tmod_eq_emod_of_nonneg om];unfold Cp;have h3:=Int.tmod_add_mul_tdiv n 65536;omega
theorem FL(n:Int):xB 237 [.i .i64 n] (.i .i64 (Cp n)):=by
 have e:=iu n;refine zF AF Tryz.func237 ?_;refine wd [0,2] [] (AM e) A4 ?_;exact zE
theorem Iu(a b:Int):xB 217 [.i .i64 a,.i .i64 b] (.i .i64 (B1 a b)):=by
 have c1:=FL a;have c2:=FL b;have c3:=FL (Cp b-Cp a);rw[jv]at c3;have h1:=PD a;have h2:=PD b;refine zF AF Tryz.func217 ?_;refine wd [0,1,4] [] A4 (Ci @c1 @c2 @c3) ?_;exact zE
theorem Di(n:Int)(hn: -9223372036854775808<=n/\n<=9223372036854775807):xB 71 [.i .i64 n] (.i .i64 (Cp n)):=by
 have e:=qK n;have h1:=Int.tmod_lt_of_pos n (show(0:Int)<65536 by decide);have h2:=Int.lt_tmod_of_pos n (show(0:Int)<65536 by decide);refine zF AF Tryz.func71 ?_;refine wd [0,2] [] (AM e) A4 ?_;exact zE
def i64(n:Int):Prop:=-9223372036854775808<=n/\n<=9223372036854775807
theorem QX(a b:Int)(ha:i64 a)(hb:i64 b):xB 148 [.i .i64 a,.i .i64 b] (.i .i64 (B1 a b)):=by
 have h1:=PD a;have h2:=PD b;have c1:=Di a ha;have c2:=Di b hb;have c3:=Di (Cp b-Cp a) om;rw[jv]at c3;refine zF AF Tryz.func148 ?_;refine wd [0,1,4] [] A4 (Ci @c1 @c2 @c3) ?_;exact zE
def BW(n:Int):Bool:=decide (0<=n/\n<65536)
theorem FG{n:Int}(h:BW n=true):0<=n/\n<65536:=by simpa[BW]using h
theorem I9(n:Int):xB 159 [.i .i64 n] (.b (BW n)):=by
 refine zF AF Tryz.func159 ?_
 by_cases h1:0<=n
 .have f1:decide (n>=0)=true:=xM h1
  by_cases h2:n<65536
  .have f2:decide (n<65536)=true:=xM h2;have e:BW n=true:=xM ⟨h1,h2⟩;rw[e];refine wd [0,2] [] (Ax f1 f2) A4 ?_;exact zE
  .have f2:decide (n<65536)=false:=xO h2;have e:BW n=false:=xO fun h=>h2 h.2
   rw[e];refine wd [0,2] [] (Ax f1 f2) A4 ?_;exact zE
 .have f1:decide (n>=0)=false:=xO h1;have e:BW n=false:=xO fun h=>h1 h.1
  rw[e];refine wd [0,2] [] (AM f1) A4 ?_;exact zE
theorem Ot(n:Int):xB 239 [.i .i64 n] (.b (BW n)):=by
 refine zF AF Tryz.func239 ?_
 by_cases h1:0<=n
 .have f1:decide (n>=0)=true:=xM h1
  by_cases h2:n<65536
  .have f2:decide (n<65536)=true:=xM h2;have e:BW n=true:=xM ⟨h1,h2⟩;rw[e];refine wd [0,2] [] (Ax f1 f2) A4 ?_;exact zE
  .have f2:decide (n<65536)=false:=xO h2;have e:BW n=false:=xO fun h=>h2 h.2
   rw[e];refine wd [0,2] [] (Ax f1 f2) A4 ?_;exact zE
 .have f1:decide (n>=0)=false:=xO h1;have e:BW n=false:=xO fun h=>h1 h.1
  rw[e];refine wd [0,2] [] (AM f1) A4 ?_;exact zE
theorem Ms(n:Int):xB 75 [.i .i64 n] (.b (BW n)):=by
 refine zF AF Tryz.func75 ?_
 by_cases h1:0<=n
 .have f1:decide (n>=0)=true:=xM h1
  by_cases h2:n<65536
  .have f2:decide (n<65536)=true:=xM h2;have e:BW n=true:=xM ⟨h1,h2⟩;rw[e];refine wd [0,2] [] (Ax f1 f2) A4 ?_;exact zE
  .have f2:decide (n<65536)=false:=xO h2;have e:BW n=false:=xO fun h=>h2 h.2
   rw[e];refine wd [0,2] [] (Ax f1 f2) A4 ?_;exact zE
 .have f1:decide (n>=0)=false:=xO h1;have e:BW n=false:=xO fun h=>h1 h.1
  rw[e];refine wd [0,2] [] (AM f1) A4 ?_;exact zE
theorem Zw(n:Int):xB 70 [.i .i64 n] (.b (BW n)):=by
 refine zF AF Tryz.func70 ?_
 by_cases h1:0<=n
 .have f1:decide (n>=0)=true:=xM h1
  by_cases h2:n<65536
  .have f2:decide (n<65536)=true:=xM h2;have e:BW n=true:=xM ⟨h1,h2⟩;rw[e];refine wd [0,2] [] (Ax f1 f2) A4 ?_;exact zE
  .have f2:decide (n<65536)=false:=xO h2;have e:BW n=false:=xO fun h=>h2 h.2
   rw[e];refine wd [0,2] [] (Ax f1 f2) A4 ?_;exact zE
 .have f1:decide (n>=0)=false:=xO h1;have e:BW n=false:=xO fun h=>h1 h.1
  rw[e];refine wd [0,2] [] (AM f1) A4 ?_;exact zE
theorem Qo(l:Ad)(hl:l.length<=100000):xB 151 [.is l] (.is l):=by
 refine zF AF Tryz.func151 ?_;have nS:=zl
 repeat'(first|((with_reducible refine sg ?_);first|with_reducible rfl|((with_reducible refine Pz ?_);first|kernel_rfl|rfl|(simp[GX,JI,nS];done))|with_reducible refine Ki ?_ ?_|with_reducible exact zn _|with_reducible exact E4 _|((with_reducible refine xM ?_);first|omega|(simp only[KZ,nS];omega))|decide|(simp[KZ,slc,DF,D.one,FE,AV.one,nS];done)|(simp[KZ,nS];omega))|((with_reducible refine kI ?_);first|(refine Fy rfl ?_;refine ic AF rfl rfl rfl rfl ?_)|refine rb AF rfl rfl rfl rfl rfl rfl (fun hnil=> ?_) ?_|refine re AF rfl rfl rfl rfl rfl rfl (fun hnil=> ?_) ?_|refine Xq AF rfl rfl rfl rfl ?_ ?_|refine Xn [0,2,4] rfl ?_|refine Xw AF rfl rfl rfl rfl ?_ ?_)|refine J6 ?_|refine EW ?_|refine GV ?_|refine J5 ?_|refine F0 ?_|refine GU ?_|refine E1 rfl ?_|refine E0 rfl ?_|(refine GT rfl (fun hc=> ?_) (fun hc=> ?_)<;>(try simp only[Pu]at hc)<;>(try(exfalso;omega))))
 .have e:=is_nil hnil;subst e;exact zE
 .exact zE
variable {l:Ad}{k:Nat}{x:Int}
theorem DX(hx:l[k]? =some x):l.getD k 0=x:=by rw[xu,hx];rfl
theorem iF(l:Ad)(x:Int)(hl:l.length<=100000)(hx:∀y∈l,x≠y):xB 346 [.is l,.i .i64 x] (.i .i64 (-1)):=by
 refine zF AF Tryz.func346 ?_;refine wd Hw [] A4 A4 ?_;refine BS (fun k=>k<=l.length) (fun k:Nat=>⟨[(0,.xG l),(1,.wo x),(4,.wo 0),(7,.wo l.length),(8,.wo k)],[],19⟩) (fun k=>l.length-k) 0 (xQ _) ?_ (xH _) ?_
 .exact A6.ck rfl
 intro k hk
 by_cases hkl:k<l.length
 .obtain⟨y,hy⟩:=BB hkl;have gy:=DX hy;have f1:=eq_false' (hx y (yH hy));refine wd Hw [] (Ax gy f1) A4 ?_;with_reducible repeat' first|constructor|intro hc
  refine⟨k+1,hkl,om,xH _,?_⟩;exact A6.ck rfl
 .have e:k=l.length:=om
  subst e;refine wd Hw [] A4 A4 ?_;with_reducible repeat' first|constructor|intro hc
  exact zE
theorem iE(l:Ad)(x:Int)(n:Nat)(hl:l.length<=100000)(hn:l[n]? =some x)(hx:∀j y,j<n->l[j]? =some y->x≠y):xB 346 [.is l,.i .i64 x] (.i .i64 n):=by
 refine zF AF Tryz.func346 ?_;have hnl:=(xW.1 hn).1;refine wd Hw [] A4 A4 ?_;refine BS (fun k=>k<=n) (fun k:Nat=>⟨[(0,.xG l),(1,.wo x),(4,.wo 0),(7,.wo l.length),(8,.wo k)],[],19⟩) (fun k=>n-k) 0 (xQ _) ?_ (xH _) ?_
 .exact A6.ck rfl
 intro k hk
 by_cases hkl:k<n
 .obtain⟨y,hy⟩:=BB (xs:=l) (k:=k) om;have gy:=DX hy;have f1:=eq_false' (hx k y hkl hy);refine wd Hw [] (Ax gy f1) A4 ?_;with_reducible repeat' first|constructor|intro hc
  refine⟨k+1,hkl,om,xH _,?_⟩;exact A6.ck rfl
 .have e:k=n:=om
  subst e;have gy:=DX hn;refine wd Hw [] (AM gy) A4 ?_;with_reducible repeat' first|constructor|intro hc
  exact zE
theorem IW(l:Ad)(x:Int)(hl:l.length<=100000):xB 303 [.is l,.i .i64 x] (.b (decide (x∈l))):=by
 refine zF AF Tryz.func303 ?_
 by_cases hm:x∈l
 .obtain⟨n,hn⟩:∃n,l.findIdx? (fun y=>y==x)=some n:=by
   cases h:l.findIdx? (fun y=>y==x)with
   |some n=>exact⟨n,rfl⟩
   |none=>rw[List.findIdx?_eq_none_iff]at h;have:=h x hm;simp at this
  obtain⟨h1,h2,h3⟩:=List.findIdx?_eq_some_iff_getElem.1 hn
  have c:=iE l x n hl (by rw[xP h1];simpa using h2) (fun j y hj hy e=>by
   have:=h3 j hj;rw[(xW.1 hy).2,e]at this
   simp at this)
  rw[xM hm];have f1:decide ((n:Int)>=0)=true:=xM om;refine wd [0,1,4] [] (AM f1) (AM @c) ?_;exact zE
 .have c:=iF l x hl (fun y hy e=>hm (e▸hy));rw[xO hm];refine wd [0,1,4] [] A4 (AM @c) ?_;exact zE
theorem bw(a b:Ad)(hl:a.length<=100000):xB 39 [.is a,.is b] (.b (decide (a=b))):=by
 refine zF AF Tryz.func39 ?_
 by_cases heq:a.length=b.length
 .have e1:((a.length:Int)!=(b.length:Int))=false:=C2 om;refine wd Jc [] (AM e1) A4 ?_;refine BS (fun k=>k<=a.length/\a.take k=b.take k) (fun k:Nat=>⟨[(0,.xG a),(1,.xG b),(4,.wu false),(5,.wo k)],[],26⟩) (fun k=>a.length-k) 0 ⟨xQ _,sm⟩ ?_ (xH _) ?_
  .exact A6.ck rfl
  rintro k ⟨hk,hpre⟩
  by_cases hkl:k<a.length
  .obtain⟨x,hx⟩:=BB hkl;obtain⟨y,hy⟩:=BB (xs:=b) (k:=k) om;have gx:a.getD k 0=x:=by rw[xu,hx];rfl
   have gy:b.getD k 0=y:=by rw[xu,hy];rfl
   by_cases hxy:x=y
   .have f1:=C2 hxy;refine wd Jc [] (Ci gx gy f1) A4 ?_;with_reducible repeat' first|constructor|intro hc
    refine⟨k+1,⟨hkl,by rw[List.take_add_one,List.take_add_one,hpre,hx,hy,hxy]⟩,om,xH _,?_⟩;exact A6.ck rfl
   .have hne:¬a=b:=fun e=>by subst e;rw[hx]at hy;cases hy;exact hxy rfl
    have f1:=C4 hxy;refine wd Jc [] (Ci gx gy f1) A4 ?_;with_reducible repeat' first|constructor|intro hc
    exact BL hne
  .have e:k=a.length:=om
   subst e;have hE:a=b:=by rw[yD,heq,yD]at hpre;exact hpre
   refine wd Jc [] A4 A4 ?_;with_reducible repeat' first|constructor|intro hc
   exact BL hE
 .have e1:((a.length:Int)!=(b.length:Int))=true:=C4 om;have hne:¬a=b:=fun e=>heq (by rw[e])
  refine wd Jc [] (AM e1) A4 ?_;exact BL hne
abbrev Hx:Aw:=[0,1,3,4,5,6,8,9,12]
abbrev EB:Aw:=[0,1,4,5,6,7,8,14]
abbrev Jd:Aw:=[0,2,3,4,6,7]
def C1(l:Ad)(d:Int):Ad:=l.filter fun x=>x !=d
theorem TT(l:Ad)(d:Int):(C1 l d).length<=l.length:=yu ..
theorem jY{d:Int}(hx:l[k]? =some x)(h:(x !=d)=true):C1 (l.take (k+1)) d=C1 (l.take k) d++[x]:=by
 unfold C1;rw[Au hx,List.filter_append];simp[h]
theorem eI{d:Int}(hx:l[k]? =some x)(h:(x !=d)=false):C1 (l.take (k+1)) d=C1 (l.take k) d:=by
 unfold C1;rw[Au hx,List.filter_append];simp[h]
theorem Rr(l:Ad):xC 216 [.xG l] [] (.fn (.func 296) [] [.ptr 0 0 1]) [.c [.xG l]]:=by
 refine zD AF Tryz.func216 ?_;refine wd [0,1,2] [] A4 A4 ?_;exact⟨_,(A6.ck rfl),xQ _,_,_,rfl,rfl,rfl,rfl⟩
theorem hZ(l:Ad)(d:Int)(hl:l.length<=1000):
  xC 304 [.xG l,.wo d] [] (.sl 3 (C1 l d).length 1) [.gone,.gone,.gone,.a (.is (C1 l d))]:=by
 refine zD AF Tryz.func304 ?_;have d1:=Ds.mk [] (Rr l);refine wd Hx [] A4 A4 ?_;clear d1;refine BC (A6.EO 1 0 (.is []) rfl rfl rfl rfl trivial) sm ?_;refine zG (K:=fun r _ H'=>H'=[.c [.wo d],.c [.sl 3 (C1 l d).length 1],.c [.xG l],.a (.is (C1 l d)),.lp r]) ?_ ?_
 .intro r hr;refine zT AF Tryz.func296 ?_;refine wd EB [] A4 A4 ?_;have hk:=hr.ok (k:=4) rfl;refine BS (fun k=>k<=l.length) (fun k:Nat=>⟨[(0,.yl 4),(1,.ptr 2 0 1),(5,.xG l),(6,.wo l.length),(7,.wo k)],[.c [.wo d],.c [.sl 3 (C1 (l.take k) d).length 1],.c [.xG l],.a (.is (C1 (l.take k) d)),.lp r],16⟩) (fun k=>l.length-k) 0 (xQ _) ?_ (xH _) ?_
  .exact(have nC:=@C1.eq_1;A6.co rfl)
  intro k hkk;have hle:=TT (l.take k) d;have htl:(l.take k).length<=k:=List.length_take_le _ _
  by_cases hkl:k<l.length
  .obtain⟨x,hx⟩:=BB hkl;have gx:=DX hx
   cases hT:(x !=d)with
   |true=>
    have hn:=jY hx hT;refine wd EB [] (AM gx) A4 ?_;with_reducible repeat' first|constructor|intro hc
    refine Xy (x:=.wu true) (H':=[.c [.wo d],.c [.sl 3 (C1 (l.take (k+1)) d).length 1],.c [.xG l],.a (.is (C1 (l.take (k+1)) d)),.lp r]) (BD hr rfl rfl rfl ?_) rfl rfl rfl rfl rfl ?_
    .refine wd Hx [] A4 A4 ?_;refine zR ?_;refine wd Hx [] (AM hT) A4 ?_;refine⟨_,A6.refl _,xH _,rfl,rfl,?_⟩;simp only[hn,y9,xw,yI,List.set_cons_succ,List.set_cons_zero]
    .refine wd EB [] A4 A4 ?_;refine⟨k+1,hkl,om,xH _,?_⟩;exact(have nC:=hn;A6.cn rfl)
   |false=>
    have hn:=eI hx hT;refine wd EB [] (AM gx) A4 ?_;with_reducible repeat' first|constructor|intro hc
    refine Xy (x:=.wu true) (H':=[.c [.wo d],.c [.sl 3 (C1 (l.take (k+1)) d).length 1],.c [.xG l],.a (.is (C1 (l.take (k+1)) d)),.lp r]) (BD hr rfl rfl rfl ?_) rfl rfl rfl rfl rfl ?_
    .refine wd Hx [] A4 A4 ?_;refine zR ?_;refine wd Hx [] (AM hT) A4 ?_;refine⟨_,A6.refl _,xH _,rfl,rfl,?_⟩;simp only[hn,List.set_cons_succ,List.set_cons_zero]
    .refine wd EB [] A4 A4 ?_;refine⟨k+1,hkl,om,xH _,?_⟩;exact(have nC:=hn;A6.cn rfl)
  .have e:k=l.length:=om
   subst e;refine wd EB [] A4 A4 ?_;with_reducible repeat' first|constructor|intro hc
   refine⟨_,A6.refl _,xH _,_,_,rfl,rfl,?_⟩;simp only[yD]
 .rintro r hr x H' rfl;refine .inl ⟨rfl,?_⟩;refine wd Hx [] A4 A4 ?_;exact⟨⟨[(4,.sl 3 (C1 l d).length 1)],[.gone,.gone,.gone,.a (.is (C1 l d))],Tryz.f304.ntmps⟩,(A6.ck rfl),xQ _,_,_,rfl,rfl,rfl,rfl⟩
theorem nr(l:Ad)(d:Int)(hl:l.length<=1000):xB 304 [.is l,.i .i64 d] (.is (C1 l d)):=by
 refine FT (ds:=[.is l,.i .i64 d]) (hZ l d hl) ?_;simp[Kb,BK]
def firstT:Ad->Int×Bool
 |[]=>(0,false)
 |a::_=>(a,true)
theorem i9(l:Ad)(hl:l.length<=100000):xB 138 [.is l] (.tup [.i .i64 (firstT l).1,.b (firstT l).2]):=by
 refine zF AF Tryz.func138 ?_;have d1:=Ds.mk [] (Rr l);refine wd Jd [] A4 A4 ?_;clear d1
 cases l with
 |nil=>
  refine zG (K:=fun r _ H'=>H'=[.c [.wo 0],.c [.wu false],.c [.xG ([])],.lp r]) ?_ ?_
  .intro r hr;refine zT AF Tryz.func296 ?_;refine wd EB [] A4 A4 ?_;have hk:=hr.ok (k:=3) rfl;refine BS (fun k=>k=0) (fun k:Nat=>⟨[(0,.yl 3),(1,.ptr 2 0 1),(5,.xG ([])),(6,.wo 0),(7,.wo k)],[.c [.wo 0],.c [.wu false],.c [.xG ([])],.lp r],16⟩) (fun k=>0) 0 rfl ?_ (xH _) ?_
   .exact A6.ck rfl
   rintro k rfl;refine wd EB [] A4 A4 ?_;exact⟨_,A6.refl _,xH _,_,_,rfl,rfl,rfl⟩
  .rintro r hr x H' rfl;refine .inl ⟨rfl,?_⟩;refine wd Jd [] A4 A4 ?_;exact BL @firstT.eq_1
 |cons a t=>
  refine zG (K:=fun r _ H'=>H'=[.c [.wo a],.c [.wu true],.c [.xG (a::t)],.lp (r.left .ret)]) ?_ ?_
  .intro r hr;refine zT AF Tryz.func296 ?_;refine wd EB [] A4 A4 ?_;have hk:=hr.ok (k:=3) rfl;refine BS (fun k=>k=0) (fun k:Nat=>⟨[(0,.yl 3),(1,.ptr 2 0 1),(5,.xG (a::t)),(6,.wo ((a::t).length)),(7,.wo k)],[.c [.wo 0],.c [.wu false],.c [.xG (a::t)],.lp r],16⟩) (fun k=>0) 0 rfl ?_ (xH _) ?_
   .exact A6.ck rfl
   rintro k rfl;have ga:(a::t).getD 0 0=a:=rfl;refine wd EB [] (AM ga) A4 ?_;with_reducible repeat' first|constructor|intro hc
   refine Xy (x:=.wu false) (H':=[.c [.wo a],.c [.wu true],.c [.xG (a::t)],.lp (r.left .ret)]) (BD hr rfl rfl rfl ?_) rfl rfl rfl rfl rfl ?_
   .refine wd Jd [] A4 A4 ?_;refine zR ?_;refine wd Jd [] A4 A4 ?_;exact⟨_,A6.refl _,xH _,rfl,rfl,rfl⟩
   .refine wd EB [] A4 A4 ?_;exact⟨_,A6.refl _,xH _,_,_,rfl,rfl,rfl⟩
  .rintro r hr x H' rfl;refine .inr ⟨.ret,rfl,?_⟩;refine wd Jd [] A4 A4 ?_;refine⟨_,_,rfl,rfl,?_⟩;simp[IT,BK,Bd,B0,firstT]
end Go.Proofs.YtkljbfejbakooaaGreatDoor
namespace Go.Proofs.YtkljbfejbakooaaGreatDoor
namespace Wi
open Go.Gar
abbrev MG:Aw:=[0,1,2,3,4,5,12,17,30]
abbrev MH:Aw:=[0,1,4,5,10,12,13,14,24]
variable {k:Nat}
theorem Xu{a b:Ad}(hka:k<a.length)(h2:k<b.length)(hpre:a.take k=b.take k):(a.getD k 0=b.getD k 0)↔a.take (k+1)=b.take (k+1):=by
 rw[yV hka,yV h2,hpre,xu,xu,xP hka,xP h2];exact⟨fun e=>congrArg (fun z=>List.take k b++[z]) e,fun e=>(List.cons.inj (List.append_cancel_left e)).1⟩
theorem Y1(a b:AC)(ha:a.A8.length<=9223372036854775807):xB 65 [a.d,b.d] (.b (decide (a=b))):=by
 obtain⟨k,c,s,d,ky,sl,dn,pl,pr,l,⟨ik,iv,ir,ig⟩,co⟩:=a;obtain⟨k',c',s',d',ky',sl',dn',pl',pr',l',⟨ik',iv',ir',ig'⟩,co'⟩:=b;have ha:l.length<=9223372036854775807:=ha;have hI:=Kx ⟨ik,iv,ir,ig⟩ ⟨ik',iv',ir',ig'⟩;refine zF AF Tryz.func65 ?_
 by_cases hl:l.length=l'.length
 .refine wd MG [] A4 A4 ?_;with_reducible repeat' first|constructor|intro hc
  refine BS (fun k=>k<=l.length/\l.take k=l'.take k) (fun j:Nat=>⟨[(2,.ptr 0 0 15),(3,.ptr 1 0 15),(5,.wo j)],[.c ((AC.mk k c s d ky sl dn pl pr l ⟨ik,iv,ir,ig⟩ co).A0.map .d),.c ((AC.mk k' c' s' d' ky' sl' dn' pl' pr' l' ⟨ik',iv',ir',ig'⟩ co').A0.map .d)],106⟩) (fun k=>l.length-k) 0 ⟨xQ _,sm⟩ ?_ (xH _) ?_
  .exact A6.ck rfl
  rintro j ⟨hk,hpre⟩;simp only[AC.A0,zA,q0F]
  by_cases hka:j<l.length
  .have hab:=Xu hka om hpre;refine wd MG [] A4 A4 ?_;with_reducible repeat' first|constructor|intro hc
   .have:l≠l':=fun e=>by subst e;exact hc rfl
    exact BL this
   .refine⟨j+1,⟨hka,hab.1 hc⟩,om,xH _,?_⟩;simp only[AC.A0,zA,q0F];exact A6.ck rfl
  .have:l=l':=by
    have e:j=l.length:=om
    subst e;rwa [yD,hl,yD]at hpre
   subst this;refine wd MG [] (AM hI) A4 ?_;with_reducible repeat' first|constructor|intro hc
   all_goals(clear ha hl hk hpre hka;refine⟨_,_,rfl,rfl,?_⟩;simp_all[Cq,F2])
 .have:l≠l':=fun e=>hl (by rw[e]);refine wd MG [] A4 A4 ?_;with_reducible repeat' first|constructor|intro hc
  exact BL this
theorem Y0(a b:AC)(ha:a.A8.length<9223372036854775807):xB 65 [a.d,b.d] (.b (decide (a=b))):=Y1 a b (Nat.le_of_lt ha)
theorem eJ(a b:Ad)(ha:a.length<9223372036854775807):xB 281 [.is a,.is b] (.b (decide (a=b))):=by
 refine zF AF Tryz.func281 ?_
 by_cases hl:a.length=b.length
 .refine wd MH [] A4 A4 ?_;with_reducible repeat' first|constructor|intro hc
  refine BS (fun k=>k<=a.length/\a.take k=b.take k) (fun k:Nat=>⟨[(0,.xG a),(1,.xG b),(12,.wo a.length),(13,.wo k)],[],26⟩) (fun k=>a.length-k) 0 ⟨xQ _,sm⟩ ?_ (xH _) ?_
  .exact A6.ck rfl
  rintro k ⟨hk,hpre⟩
  by_cases hka:k<a.length
  .have hab:=Xu hka om hpre;refine wd MH [] A4 A4 ?_;with_reducible repeat' first|constructor|intro hc
   .have:a≠b:=fun e=>by subst e;exact hc rfl
    exact BL this
   .refine⟨k+1,⟨hka,hab.1 hc⟩,om,xH _,?_⟩;exact A6.ck rfl
  .have:a=b:=by
    have e:k=a.length:=om
    subst e;rwa [yD,hl,yD]at hpre
   refine wd MH [] A4 A4 ?_;with_reducible repeat' first|constructor|intro hc
   exact BL this
 .have:a≠b:=fun e=>hl (by rw[e]);refine wd MH [] A4 A4 ?_;with_reducible repeat' first|constructor|intro hc
  exact BL this
def ZQ(l:Ad)(x:Int):Int:=if x∈l then(l.idxOf x:Nat)else -1
variable {l:Ad}
theorem kJ{x:Int}(hk:k<l.length)(hpre:x∉l.take k)(h:x=l.getD k 0):x∈l/\l.idxOf x=k:=by
 rw[xu,xP hk]at h;simp only[Option.getD_some]at h;have hm:x∈l:=by rw[h];exact q00 hk
 refine⟨hm,?_⟩;have e:l=l.take k++(l[k]::l.drop (k+1)):=by rw[<-zS hk,yg]
 have hi:l.idxOf x=(l.take k++(l[k]::l.drop (k+1))).idxOf x:=by rw[<-e]
 rw[hi,List.idxOf_append,if_neg hpre,<-h,List.idxOf_cons_self,yM];omega
theorem lh{x:Int}(hk:k<l.length)(hpre:x∉l.take k)(h:¬x=l.getD k 0):x∉l.take (k+1):=by
 rw[yV hk,yx];rw[xu,xP hk]at h;simp at h;rintro(h1|h1)
 .exact hpre h1
 .simp at h1;exact h h1
theorem kX(l:Ad)(x:Int)(hl:l.length<9223372036854775807):xB 346 [.is l,.i .i64 x] (.i .i64 (ZQ l x)):=by
 refine zF AF Tryz.func346 ?_;refine wd [0,1,4,5,7,8,9,16] [] A4 A4 ?_;refine BS (fun k=>k<=l.length/\x∉l.take k) (fun k:Nat=>⟨[(0,.xG l),(1,.wo x),(7,.wo l.length),(8,.wo k)],[],19⟩) (fun k=>l.length-k) 0 ⟨xQ _,sm⟩ ?_ (xH _) ?_
 .exact A6.ck rfl
 rintro k ⟨hk,hpre⟩
 by_cases hkl:k<l.length
 .refine wd [0,1,4,5,7,8,9,16] [] A4 A4 ?_;with_reducible repeat' first|constructor|intro hc
  .obtain⟨h1,h2⟩:=kJ hkl hpre hc;have e:ZQ l x=(k:Nat):=by unfold ZQ;rw[if_pos h1,h2]
   exact BL e
  .refine⟨k+1,⟨hkl,lh hkl hpre hc⟩,om,xH _,?_⟩;exact A6.ck rfl
 .have e:k=l.length:=om
  have e2:ZQ l x= -1:=by unfold ZQ;rw[if_neg];rwa [e,yD]at hpre
  refine wd [0,1,4,5,7,8,9,16] [] A4 A4 ?_;with_reducible repeat' first|constructor|intro hc
  exact BL e2
theorem Wa(l:Ad)(x:Int)(hl:l.length<9223372036854775807):xB 303 [.is l,.i .i64 x] (.b (decide (x∈l))):=by
 have hi:=kX l x hl;refine zF AF Tryz.func303 ?_;refine wd [0,1,4] [] A4 (AM @hi) ?_
 have e:decide (ZQ l x>=0)=decide (x∈l):=by
  unfold ZQ
  by_cases h:x∈l<;>simp[h]
 exact BL e
abbrev Gk:Aw:=[0,1,4,5,6,10,26,29,40]
abbrev Je:Aw:=[0,1,4,5,6,7,8,9,10,23]
theorem SV(x:AK):xB 26 [x.d] (.b (BE x)):=by
 obtain⟨k,v,n,g⟩:=x;refine zF AF Tryz.func26 ?_;refine wd [0,1,2] [] A4 A4 ?_;with_reducible repeat' first|constructor|intro hc
 all_goals(refine⟨_,_,rfl,rfl,?_⟩;simp_all[Cq,BE,Bc,isVal]<;>omega)
theorem LO(x:AK):xB 50 [x.d] (.b (BE x)):=by
 obtain⟨k,v,n,g⟩:=x;have h1:=NZ k;have h2:=IA v;have h3:=IA n;refine zF AF Tryz.func50 ?_;refine wd [0,1,2] [] A4 (Ci @h1 @h2 @h3) ?_;with_reducible repeat' first|constructor|intro hc
 all_goals(refine⟨_,_,rfl,rfl,?_⟩;simp_all[Cq,BE])
def GF(s:Int)(l:Ad):Bool:=l.all fun p=>Bp p&&decide (p≠s)
def Et(l:Ad)(s:Int):Bool:=GF s l&&decide l.Nodup&&decide (l.length<=3)
theorem Zm{s:Int}(hk:k<l.length):GF s (l.take (k+1))=(GF s (l.take k)&&(Bp (l.getD k 0)&&decide (l.getD k 0≠s))):=by
 unfold GF;rw[yV hk,xu,xP hk,List.all_append];simp only[yj,zi,zy,Option.getD_some]
theorem ll{s:Int}(h:GF s (l.take k)=false):GF s l=false:=by
 have e:GF s l=(GF s (l.take k)&&GF s (l.drop k)):=by
  unfold GF;rw[<-List.all_append,yg]
 rw[e,h];rfl
theorem Xh{j:Nat}(hj:j<k)(hk:k<l.length)(h:l.getD j 0=l.getD k 0):¬l.Nodup:=by
 intro hn;rw[xu,xu,xP hk,xP (by omega:j<l.length)]at h;simp only[Option.getD_some]at h;exact(zk.1 hn) j k om hk hj h
theorem SG(hk:k<l.length)(h:(l.take k).Nodup)(hall:∀j,j<k->l.getD j 0≠l.getD k 0):(l.take (k+1)).Nodup:=by
 rw[yV hk,List.nodup_append];refine⟨h,sm,?_⟩;intro a ha b hb;simp at hb;subst hb;obtain⟨j,hj,e⟩:=q0P.1 ha;rw[yM]at hj;have:=hall j om;rw[xu,xu,xP hk,xP (by omega:j<l.length)]at this;simp at this;rw[<-e,List.getElem_take];exact this
theorem mb(l:Ad)(s:Int)(hl:l.length<=9223372036854775807):xB 147 [.is l,.i .i64 s] (.b (Et l s)):=by
 refine zF AF Tryz.func147 ?_;refine wd Gk [] A4 A4 ?_;refine BS (fun k=>k<=l.length/\GF s (l.take k)=true/\(l.take k).Nodup) (fun k:Nat=>⟨[(0,.xG l),(1,.wo s),(5,.wo k)],[],44⟩) (fun k=>l.length-k) 0 ⟨xQ _,by simp[GF],sm⟩ ?_ (xH _) ?_
 .exact A6.ck rfl
 rintro k ⟨hk,hok,hnd⟩
 by_cases hkl:k<l.length
 .have hst:=Zm (s:=s) hkl;rw[hok,yF]at hst;have hp:=Di (l.getD k 0)
  by_cases hb:Bp (l.getD k 0)=true/\l.getD k 0≠s
  .rw[hb.1]at hp;have f1:=eq_false' hb.2;refine wd Gk [] (AM f1) (AM @hp) ?_;with_reducible repeat' first|constructor|intro hc
   refine BS (fun j=>j<=k/\∀i,i<j->l.getD i 0≠l.getD k 0) (fun j:Nat=>⟨[(0,.xG l),(1,.wo s),(5,.wo k),(6,.wo j)],[],44⟩) (fun j=>k-j) 0 ⟨xQ _,fun i h=>om⟩ ?_ (xH _) ?_
   .exact A6.ck rfl
   rintro j ⟨hj,hall⟩
   by_cases hjk:j<k
   .refine wd Gk [] A4 A4 ?_;with_reducible repeat' first|constructor|intro hc
    .have e:Et l s=false:=by simp[Et,Xh hjk hkl hc]
     exact BL e
    .refine⟨j+1,⟨hjk,fun i hi=> ?_⟩,om,xH _,?_⟩
     .rcases Nat.lt_or_eq_of_le (Nat.le_of_lt_succ hi)with h|h
      .exact hall i h
      .rw[h];exact hc
     exact A6.ck rfl
   .have e:j=k:=om
    refine wd Gk [] A4 A4 ?_;with_reducible repeat' first|constructor|intro hc
    refine⟨k+1,⟨hkl,by rw[hst,hb.1,xM hb.2];rfl,SG hkl hnd fun i hi=>hall i om⟩,om,xH _,?_⟩;exact A6.ck rfl
  .have e:Et l s=false:=by
    have h2:GF s (l.take (k+1))=false:=by
     rw[hst]
     cases h:Bp (l.getD k 0)with
     |false=>rfl
     |true=>simp only[yF,zK];exact fun h3=>hb ⟨h,h3⟩
    simp[Et,ll h2]
   cases h:Bp (l.getD k 0)with
   |false=>
    rw[h]at hp;refine wd Gk [] A4 (AM @hp) ?_;with_reducible repeat' first|constructor|intro hc
    exact BL e
   |true=>
    rw[h]at hp;have f1:(l.getD k 0==s)=true:=by rw[beq_iff_eq];exact Classical.not_not.1 fun h3=>hb ⟨h,h3⟩
    refine wd Gk [] (AM f1) (AM @hp) ?_;with_reducible repeat' first|constructor|intro hc
    exact BL e
 .have e:k=l.length:=om
  subst e;rw[yD]at hok hnd
  have e2:Et l s=decide ((l.length:Int)<=3):=by
   simp only[Et,hok,xM hnd,zh,yF]
   congr 1;simp;omega
  refine wd Gk [] A4 A4 ?_;with_reducible repeat' first|constructor|intro hc
  exact BL e2
def apartB(s:Int)(l:Ad):Bool:=l.all (fun p=>decide (p≠s))&&decide l.Nodup
theorem ix(s:Int)(l:Ad)(hl:l.length<9223372036854775807):xB 279 [.i .i64 s,.is l] (.b (apartB s l)):=by
 have cut:∀k,k<l.length->(l.take (k+1)).all (fun p=>decide (p≠s))=((l.take k).all (fun p=>decide (p≠s))&&decide (l.getD k 0≠s)):=by
  intro k hk;rw[yV hk,xu,xP hk,List.all_append];simp only[yj,zi,zy,Option.getD_some]
 refine zF AF Tryz.func279 ?_;refine wd Je [] A4 A4 ?_;refine BS (fun k=>k<=l.length/\(l.take k).all (fun p=>decide (p≠s))=true/\(l.take k).Nodup) (fun k:Nat=>⟨[(0,.wo s),(1,.xG l),(7,.xG l),(8,.wo l.length),(9,.wo k)],[],25⟩) (fun k=>l.length-k) 0 ⟨xQ _,sm,sm⟩ ?_ (xH _) ?_
 .exact A6.ck rfl
 rintro k ⟨hk,hok,hnd⟩
 by_cases hkl:k<l.length
 .have hst:=cut k hkl;have hco:=Wa (l.take k) (l.getD k 0) (by rw[yM];omega);rw[hok,yF]at hst
  by_cases hb:l.getD k 0=s
  .have f1:=AS hb
   have e:apartB s l=false:=by
    unfold apartB
    have:l.getD k 0∈l:=by
     rw[xu,xP hkl];exact q00 hkl
    have h2:l.all (fun p=>decide (p≠s))=false:=by
     rw[List.all_eq_false];exact⟨_,this,by rw[hb];simp⟩
    rw[h2];rfl
   refine wd Je [] (AM f1) A4 ?_;with_reducible repeat' first|constructor|intro hc
   exact BL e
  .have f1:=eq_false' hb
   by_cases hm:l.getD k 0∈l.take k
   .rw[xM hm]at hco
    have e:apartB s l=false:=by
     unfold apartB;obtain⟨j,hj,e⟩:=q0P.1 hm;rw[yM]at hj;have:¬l.Nodup:=Xh (j:=j) (k:=k) om hkl (by rw[<-e,List.getElem_take,xu,xP (by omega:j<l.length)];rfl);simp[this]
    refine wd Je [] (AM f1) (AM @hco) ?_;with_reducible repeat' first|constructor|intro hc
    exact BL e
   .rw[xO hm]at hco;refine wd Je [] (AM f1) (AM @hco) ?_;with_reducible repeat' first|constructor|intro hc
    refine⟨k+1,⟨hkl,by rw[hst,xM hb],SG hkl hnd fun i hi h=>hm ?_⟩,om,xH _,?_⟩
    .rw[<-h,xu,xP (by omega:i<l.length)];exact q0P.2 ⟨i,by rw[yM];omega,by rw[List.getElem_take];rfl⟩
    exact A6.ck rfl
 .have e:k=l.length:=om
  subst e;rw[yD]at hok hnd;have e2:apartB s l=true:=by unfold apartB;rw[hok,xM hnd];rfl
  refine wd Je [] A4 A4 ?_;with_reducible repeat' first|constructor|intro hc
  exact BL e2
def AC.bare(m:AC):AC:=
 if m.AR=4 then{m with AH:=0,B4:=false}else
 if m.AR=5 then{m with A9:=AY}else
 if m.AR=6 then{m with A9:=AY}else
 if m.AR=7 then{m with AG:=0,A8:=[]}else
 if m.AR=10 then{m with AT:=0,done:=false}else
 if m.AR=11 then{m with AQ:=0}else
 if m.AR=12 then{m with AQ:=0,A9:=AY}else m
def AC.has(m:AC):Bool:=
 if m.AR=4 then Bp m.AH else
 if m.AR=5 then BE m.A9 else
 if m.AR=6 then BE m.A9&&decide (m.A9=⟨m.A9.AH,0,0,false⟩)else
 if m.AR=7 then(decide (m.AG= -1)||Bp m.AG)&&Et m.A8 m.As else
 if m.AR=10 then Bp m.AT else
 if m.AR=11 then decide (m.AQ=0)||decide (m.AQ=200)else
 if m.AR=12 then(decide (m.AQ=0)&&BE m.A9)||(decide (m.AQ=201)&&decide (m.A9=AY))else true
theorem oM(m:AC):xB 66 [m.d] m.bare.d:=by
 obtain⟨k,c,s,d,ky,sl,dn,pl,pr,l,⟨ik,iv,ir,ig⟩,co⟩:=m;refine zF AF Tryz.func66 ?_;refine wd [0,1,2,4,5,9,14,18,22,25] [] A4 A4 ?_;with_reducible repeat' first|constructor|intro hc
 all_goals(refine⟨_,_,rfl,rfl,?_⟩;simp[*,AC.bare,AC.d,AC.A0,AY,OS,DL,Dz,Cy,OT,Bd,BK,B0])
theorem sr(m:AC)(hl:m.A8.length<=9223372036854775807):xB 67 [m.d] (.b m.has):=by
 obtain⟨k,c,s,d,ky,sl,dn,pl,pr,l,⟨ik,iv,ir,ig⟩,co⟩:=m;have hp:=Di;have hP:=SV ⟨ik,iv,ir,ig⟩;have hL:=mb l s hl;have i1:=Kx ⟨ik,iv,ir,ig⟩ ⟨ik,0,0,false⟩;have i2:=Kx ⟨ik,iv,ir,ig⟩ ⟨[],0,0,false⟩;refine zF AF Tryz.func67 ?_;refine wd [0,1,2,4,5,10,15,29,46,51,61] [] (Ax i1 i2) (Ci @hp @hP @hL) ?_;with_reducible repeat' first|constructor|intro hc
 all_goals(clear hp hP hL i1 i2;refine⟨_,_,rfl,rfl,?_⟩;simp_all[Cq,AC.has,AY,F2])
theorem FD{n:Int}(h:Bp n=true):0<=n/\n<65536:=by simpa[Bp]using h
theorem pp{n:Int}:Bp n=true↔0<=n/\n<65536:=by simp[Bp]
def AC.empty(m:AC):AC:=⟨m.AR,m.Aa,m.As,m.dst,0,false,false,0,0,[],AY,0⟩
def AC.Iy(m:AC):Bool:=decide (1<=m.AR)&&decide (m.AR<13)&&Bp m.As&&Bp m.dst&&decide (m.As≠m.dst)&&decide (m.asker*1048576+1<=m.Aa)&&decide (m.Aa<m.asker*1048576+1+1048576)
def AC.right(m:AC):Bool:=m.Iy&&(decide (m.bare=m.empty)&&m.has)
theorem jG(m:AC)(hl:m.A8.length<=9223372036854775807):m.bare.A8.length<=9223372036854775807:=by
 unfold AC.bare
 repeat' split
 all_goals first|exact hl|(show([]:Ad).length<=9223372036854775807;decide)
theorem U8(m:AC)(hl:m.A8.length<=9223372036854775807):xB 19 [m.d] (.b m.right):=by
 have hb:=oM m;have hh:=sr m hl;have hA:=fq m;have hS:=Y1 m.bare m.empty (jG m hl);have hp1:=Di m.As;have hp2:=Di m.dst;have hR:m.right=(m.Iy&&(decide (m.bare=m.empty)&&m.has)):=rfl;have hH:m.Iy=(decide (1<=m.AR)&&decide (m.AR<13)&&Bp m.As&&Bp m.dst&&decide (m.As≠m.dst)&&decide (m.asker*1048576+1<=m.Aa)&&decide (m.Aa<m.asker*1048576+1+1048576)):=rfl
 have hAb:Bp m.As=true->Bp m.dst=true->0<=m.asker/\m.asker<65536:=by
  intro h1 h2;unfold AC.asker;split
  .exact FD h1
  .exact FD h2
 unfold AC.d AC.A0 at hb hh hA hS|-;simp only[AC.empty,AY]at hS;generalize m.bare=B at *;generalize m.has=hs at *;generalize m.asker=A at *;generalize m.right=R at *;generalize m.Iy=H at *;obtain⟨k,c,s,d,ky,sl,dn,pl,pr,l,⟨ik,iv,ir,ig⟩,co⟩:=m;refine zF AF Tryz.func19 ?_;simp only at*
 cases h1:Bp s with
 |false=>
  rw[h1]at hp1 hH;refine wd [0,1,2,3,4,31,46] [] A4 (AM @hp1) ?_;with_reducible repeat' first|constructor|intro hc
  all_goals(refine⟨_,_,rfl,rfl,?_⟩;simp_all[Cq])
 |true=>
 rw[h1]at hp1 hH
 cases h2:Bp d with
 |false=>
  rw[h2]at hp2 hH;refine wd [0,1,2,3,4,31,46] [] A4 (Ax @hp1 @hp2) ?_;with_reducible repeat' first|constructor|intro hc
  all_goals(refine⟨_,_,rfl,rfl,?_⟩;simp_all[Cq])
 |true=>
 rw[h2]at hp2 hH;have hA2:=hAb h1 h2;have z1:=@hS;refine wd [0,1,2,3,4,31,46] [] A4 (MX @hp1 @hp2 @hA @hb @hh) ?_;clear z1;with_reducible repeat' first|constructor|intro hc
 all_goals(clear hb hh hA hS hp1 hp2 hAb;refine⟨_,_,rfl,rfl,?_⟩;simp_all[Cq,AC.empty,AY]<;>omega)
theorem JU(m:AC)(hl:m.A8.length<9223372036854775807):xB 19 [m.d] (.b m.right):=U8 m (Nat.le_of_lt hl)
abbrev MD:Aw:=[0,1,4,5,10,14]
abbrev ME:Aw:=[0,1,4,5,11,14]
def u32(s:BitVec 32):D:=.i .u32 (s.toNat:Int)
theorem wrap_u32(n:Nat):IntKind.wrap .u32 (n:Int)=((BitVec.ofNat 32 n).toNat:Int):=by
 simp[IntKind.wrap,IntKind.bits,IntKind.signed]
theorem wO(s:BitVec 32):IntKind.wrap .u32 ((s.toNat:Int)*2^min 1 IntKind.u32.bits)=((s<<<1).toNat:Int):=by
 have:(s.toNat:Int)*2^min 1 IntKind.u32.bits=((s.toNat*2:Nat):Int):=by simp[IntKind.bits]
 rw[this,wrap_u32];simp[BitVec.toNat_shiftLeft,Nat.shiftLeft_eq]
theorem ofInt32(s:BitVec 32):BitVec.ofInt 32 (s.toNat:Int)=s:=by
 apply BitVec.eq_of_toNat_eq;simp
theorem or1(s:BitVec 32):DT .or .u32 ((s<<<1).toNat:Int) 1=((s<<<1^^^1#32).toNat:Int):=by
 have h:(s<<<1)|||1#32=s<<<1^^^1#32:=by
  apply BitVec.eq_of_getLsbD_eq;intro i hi;simp only[BitVec.getLsbD_or,BitVec.getLsbD_xor,BitVec.getLsbD_shiftLeft,BitVec.getLsbD_one]
  by_cases e:i=0<;>simp[e]
 unfold DT;show IntKind.wrap .u32 ((BitVec.ofInt 32 _|||BitVec.ofInt 32 1).toNat:Int)=_;rw[ofInt32,show BitVec.ofInt 32 1=1#32 from by decide,h,wrap_u32];simp
theorem qO(s:BitVec 32):DT .xor .u32 (s.toNat:Int) 1947962583=((s^^^pat).toNat:Int):=by
 unfold DT;show IntKind.wrap .u32 ((BitVec.ofInt 32 _^^^BitVec.ofInt 32 1947962583).toNat:Int)=_;rw[ofInt32,show BitVec.ofInt 32 1947962583=pat from by decide,wrap_u32];simp
theorem bp(s:BitVec 32)(h:s.getLsbD 31=true):(s.toNat:Int).fdiv (2^min 31 IntKind.u32.bits)=1:=by
 have:=BitVec.msb_eq_decide s;rw[BitVec.msb_eq_getLsbD_last,h]at this;have hlt:=s.isLt;simp at this;rw[q02 _ (by decide)];simp[IntKind.bits];omega
theorem bo(s:BitVec 32)(h:s.getLsbD 31=false):(s.toNat:Int).fdiv (2^min 31 IntKind.u32.bits)=0:=by
 have:=BitVec.msb_eq_decide s;rw[BitVec.msb_eq_getLsbD_last,h]at this;simp at this;rw[q02 _ (by decide)];simp[IntKind.bits];omega
theorem Wg(s:BitVec 32)(h:s.getLsbD 31=true):Gy s true=(s<<<1^^^1#32)^^^pat:=by unfold Gy;rw[h];simp[jJ]
theorem We(s:BitVec 32)(h:s.getLsbD 31=true):Gy s false=(s<<<1)^^^pat:=by unfold Gy;rw[h];simp[jJ]
theorem Wc(s:BitVec 32)(h:s.getLsbD 31=false):Gy s true=s<<<1^^^1#32:=by unfold Gy;rw[h];simp[jJ]
theorem Wb(s:BitVec 32)(h:s.getLsbD 31=false):Gy s false=s<<<1:=by unfold Gy;rw[h];simp[jJ]
theorem o6(s:BitVec 32)(b:Bool):xB 259 [u32 s,.b b] (u32 (Gy s b)):=by
 have h1:=wO s;have h2:=or1 s;have h3:=qO (s<<<1);have h4:=qO (s<<<1^^^1#32);refine zF AF Tryz.func259 ?_;cases hs:s.getLsbD 31<;>cases b
 .have h5:=bo s hs;have e:=Wb s hs;refine wd MD [] (MX h1 h2 h3 h4 h5) A4 ?_;exact BL (xU @u32.eq_1 e)
 .have h5:=bo s hs;have e:=Wc s hs;refine wd MD [] (MX h1 h2 h3 h4 h5) A4 ?_;exact BL (xU @u32.eq_1 e)
 .have h5:=bp s hs;have e:=We s hs;refine wd MD [] (MX h1 h2 h3 h4 h5) A4 ?_;exact BL (xU @u32.eq_1 e)
 .have h5:=bp s hs;have e:=Wg s hs;refine wd MD [] (MX h1 h2 h3 h4 h5) A4 ?_;exact BL (xU @u32.eq_1 e)
theorem Y2(s:BitVec 32)(b:Bool):xB 297 [u32 s,.b b] (u32 (Gy s b)):=by
 have h1:=wO s;have h2:=or1 s;have h3:=qO (s<<<1);have h4:=qO (s<<<1^^^1#32);refine zF AF Tryz.func297 ?_;cases hs:s.getLsbD 31<;>cases b
 .have h5:=bo s hs;have e:=Wb s hs;refine wd ME [] (MX h1 h2 h3 h4 h5) A4 ?_;exact BL (xU @u32.eq_1 e)
 .have h5:=bo s hs;have e:=Wc s hs;refine wd ME [] (MX h1 h2 h3 h4 h5) A4 ?_;exact BL (xU @u32.eq_1 e)
 .have h5:=bp s hs;have e:=We s hs;refine wd ME [] (MX h1 h2 h3 h4 h5) A4 ?_;exact BL (xU @u32.eq_1 e)
 .have h5:=bp s hs;have e:=Wg s hs;refine wd ME [] (MX h1 h2 h3 h4 h5) A4 ?_;exact BL (xU @u32.eq_1 e)
theorem au(n:Int):xB 177 [.i .i64 n] (.i .i64 (if n<0\/n>112 then 0 else n+8)):=by
 refine zF AF Tryz.func177 ?_
 by_cases h:n<0\/n>112
 .rw[if_pos h];refine wd [0,2,8] [] A4 A4 ?_;with_reducible repeat' first|constructor|intro hc
  all_goals first|(exfalso;omega)|(refine⟨_,_,rfl,rfl,?_⟩;simp[Cq])
 .rw[if_neg h];refine wd [0,2,8] [] A4 A4 ?_;with_reducible repeat' first|constructor|intro hc
  all_goals first|(exfalso;omega)|(refine⟨_,_,rfl,rfl,?_⟩;simp[Cq]<;>omega)
theorem mN(n:Int):xB 219 [.i .i64 n] (.i .i64 (if n<0\/n>112 then 0 else n+8)):=by
 refine zF AF Tryz.func219 ?_
 by_cases h:n<0\/n>112
 .rw[if_pos h];refine wd [0,2,8] [] A4 A4 ?_;with_reducible repeat' first|constructor|intro hc
  all_goals first|(exfalso;omega)|(refine⟨_,_,rfl,rfl,?_⟩;simp[Cq])
 .rw[if_neg h];refine wd [0,2,8] [] A4 A4 ?_;with_reducible repeat' first|constructor|intro hc
  all_goals first|(exfalso;omega)|(refine⟨_,_,rfl,rfl,?_⟩;simp[Cq]<;>omega)
abbrev MF:Aw:=[0,1,4,5,13,17]
def EX(d:UInt8):List Bool:=(List.range 8).map fun k=>d.toNat.testBit (7-k)
def Ef(l:AJ):List Bool:=l.flatMap EX
theorem oQ:∀(d:Fin 256)(i:Fin 8),(DT .and .u8 ((d.1:Int).fdiv (2^min ((i.1:Nat):Int).toNat IntKind.u8.bits)) 1==1)=d.1.testBit i.1:=by decide +kernel
theorem jK(d:UInt8)(i:Int)(h:0<=i)(h':i<=7):(DT .and .u8 ((d.toNat:Int).fdiv (2^min i.toNat IntKind.u8.bits)) 1==1)=d.toNat.testBit i.toNat:=by
 obtain⟨n,rfl⟩:∃n:Nat,i=n:=⟨i.toNat,om⟩;exact oQ ⟨d.toNat,d.toNat_lt⟩ ⟨n,om⟩
theorem R4(d:UInt8)(k:Nat)(h:k<8):(EX d).take (k+1)=(EX d).take k++[d.toNat.testBit (7-k)]:=by
 rw[yV (by simp[EX];exact h)];simp[EX]
def LF(l:AJ)(r:Lp)(s:BitVec 32):xS:=[.c [.d (u32 s)],.c [.d (.by l)],.lp r]
theorem O2(d:UInt8)(l:AJ)(r:Lp)(s:BitVec 32)(hk:FM 3 r.env=true)(hY:∀s b,YT Tryz.prog 2 [.wu b] (LF l r s) fun x K=>x= .wu true/\K=LF l r (Gy s b)):
  KR Tryz.prog 308 [.wz d.toNat,.yl 2] (LF l r s) fun x K=>x= .wu true/\K=LF l r (Ej s (EX d)):=by
 refine zT AF Tryz.func308 ?_;unfold LF at hY|-
 have hb:∀k:Nat,k<8->Gy (Ej s ((EX d).take k)) (DT .and .u8 ((d.toNat:Int).fdiv (2^min (7-(k:Int)).toNat IntKind.u8.bits)) 1==1)=Ej s ((EX d).take (k+1)):=by
  intro k hk;rw[jK d (7-k) om om,R4 d k hk,JD,show(7-(k:Int)).toNat=7-k by omega];rfl
 refine wd MF [] A4 A4 ?_;refine WJ 0 _ (fun k:Nat=>1<=k/\k<8) (fun k:Nat=>⟨[(0,.wz d.toNat),(1,.yl 2),(4,.wu false),(5,.wo (7-k))],[.c [.d (u32 (Ej s ((EX d).take k)))],.c [.d (.by l)],.lp r],18⟩) (fun k=>8-k) 8 2 2 rfl ?_ ?_
 .have h0:Gy s (DT .and .u8 ((d.toNat:Int).fdiv (2^min 7 8)) 1==1)=Ej s ((EX d).take 1):=hb 0 om;have q1:=@hY;refine wd MF [] A4 A4 ?_;clear q1;refine⟨1,⟨om,om⟩,(show 8-1<8 by omega),xA,?_⟩;exact(have nC:=h0;A6.cn rfl)
 .rintro k ⟨k1,k8⟩;have h0:=hb k k8;have e7:(7-(k:Int)).toNat=7-k:=om
  have h1:=h0;rw[e7,show IntKind.u8.bits=8 from rfl]at h1
  by_cases h:k+1<8
  .have q1:=@hY;refine wd MF [] A4 A4 ?_;clear q1;with_reducible repeat' first|constructor|intro hc
   refine⟨k+1,⟨om,h⟩,(show 8-(k+1)<8-k by omega),xA,?_⟩;exact(have nC:=xU h0 h1;A6.cn rfl)
  .have hf:(EX d).take (k+1)=EX d:=zI (by simp[EX];omega);rw[hf]at h0 h1;have q1:=@hY;refine wd MF [] A4 A4 ?_;clear q1;with_reducible repeat' first|constructor|intro hc
   refine⟨_,A6.refl _,xH _,_,_,rfl,rfl,rfl,?_⟩;simp only[e7,h1]
end Wi
end Go.Proofs.YtkljbfejbakooaaGreatDoor
