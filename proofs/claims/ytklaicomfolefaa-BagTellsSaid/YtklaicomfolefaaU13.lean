/- Part 13 of a proof. Conditions: those that its theorems state. -/
import Derived.Test.YtklaicomfolefaaU12
set_option linter.unusedSimpArgs false
set_option linter.unusedVariables false
set_option maxHeartbeats 40000000
set_option maxRecDepth 4000
namespace Go.Proofs.Ytklaicomfolefaa
open Go.Gar
abbrev BB:P0:=[0,1,2,3,4,5,6,7,8,9,18,19,20,27]
abbrev CQ:P0:=[0,1,3,4,6,7,8,9,18]
def Kt(u:UInt8)(m:Int):Int:=BM .xor .u8 (u.toNat:Int) m
theorem K6(u:UInt8)(m:Int):0<=Kt u m/\Kt u m<256:=by
 unfold Kt BM;simp only[I0];omega
def Cd(y:On)(i:Nat)(m:Int):On:=y.set i (UInt8.ofNat (Kt (y.getD i 0) m).toNat)
theorem Lj(t:Int)(y:On)(h:Bool)(i:Nat)(m:Int)(hi:i<y.length)(hl:y.length<=100000):Ox 36 [.ptr 0 0 3,.ptr 1 0 1,.ptr 2 0 1] [.c [.Oo t,.sl 3 y.length 1,.Oq h],.c [.Oo i],.c [.Ot m],.a (.by y)] (.Oq true)
  [.c [.Oo t,.sl 3 y.length 1,.Oq true],.c [.Oo i],.c [.Ot m],.a (.by (Cd y i m))]:=by
 have hx:=K6 (y.getD i 0) m;unfold Kt at hx;refine zD AM Try.func36 ?_
 have e1:(slc (D.by y)).getD (i*1) D.np=D.i .u8 ((y.getD i 0).toNat:Int):=by
  rw[Nat.mul_one];simp only[slc,PW,Ph,PE hi,Option.map_some,Option.getD_some]
 have sb:No 2:=trivial;refine wd [0,1,2,4] [] (BC e1) AA ?_;clear sb;with_reducible repeat' first|constructor|intro hc
 exact⟨_,A6.refl _,PL _,_,_,rfl,rfl,rfl,rfl⟩
def Ar(g:A5)(i:Nat)(m:Int):A5:=⟨g.to,Cd g.by_ i m,true⟩
theorem GX(y:On)(i:Nat)(m:Int):(Cd y i m).length=y.length:=by simp[Cd]
theorem Ek(l:List A5)(n:Int)(a:Nat)(g:A5)(hg:l[a]? =some g)(i:Nat)(m:Int)(hi:i<g.by_.length)(hl:l.length<=1000)(hs:small l):
  Ox 31 [.d (AQ.d ⟨l,n⟩),.Oo a,.fn (.func 36) [] [.ptr 0 0 1,.ptr 1 0 1]] [.c [.Oo i],.c [.Ot m]] (.ag [.sl 6 (l.set a (Ar g i m)).length 3,.Oo n]) [.c [.Oo i],.c [.Ot m],.gone,.gone,.gone,.c [.sl 6 (l.set a (Ar g i m)).length 3,.Oo n],.a (A0 (l.set a (Ar g i m)))]:=by
 refine zD AM Try.func31 ?_;refine wd BB [1] AA AA ?_;with_reducible repeat' first|constructor|intro hc
 refine Gp T.get 5 7 6 7 ⟨[(0,.d (AQ.d ⟨l,n⟩)),(1,.Oo a),(2,.fn (.func 36) [] [.ptr 0 0 1,.ptr 1 0 1]),(3,.ptr 2 0 2),(4,.ptr 3 0 1),(5,.ptr 4 0 1),(6,.ptr 5 0 2),(7,.ptr 7 0 2)],[.c [.Oo i],.c [.Ot m],.c [.d (A0 l),.Oo n],.c [.Oo a],.c [.fn (.func 36) [] [.ptr 0 0 1,.ptr 1 0 1]],.c [.e0,.Oo 0],.a (A0 []),.c [.sl 6 0 3,.Oo n]],35⟩ mixed rfl rfl rfl ?_ ?_ ?_
 .refine wd BB [] AA AA ?_ [(0,5),(1,5),(0,7),(1,7)];with_reducible repeat' first|constructor|intro hc
  exact⟨rfl,.inl rfl⟩
 .refine wd BB [] AA AA ?_ [(0,5),(1,5),(2,5),(3,5),(0,6),(1,6)];with_reducible repeat' first|constructor|intro hc
  exact⟨rfl,.inr rfl⟩
 have d1:=Ds.mk [] (CW l n);refine wd BB [] AA AA ?_;clear d1;with_reducible repeat' first|constructor|intro hc
 refine zG (K:=fun r _ H'=>H'=[.c [.Oo i],.c [.Ot m],.c [.d (A0 l),.Oo n],.c [.Oo a],.c [.fn (.func 36) [] [.ptr 0 0 1,.ptr 1 0 1]],.c [.e0,.Oo 0],.a (A0 (l.set a (Ar g i m))),.c [.sl 6 (l.set a (Ar g i m)).length 3,.Oo n],.c [.d (A0 l),.Oo n],.lp r]) ?_ ?_
 .intro r hr;refine zT AM Try.func43 ?_;refine wd CQ [] AA AA ?_;with_reducible repeat' first|constructor|intro hc
  have hk:=hr.ok (k:=9) rfl;refine Aq (fun k=>k<=l.length) (fun k:Nat=>⟨[(0,.yl 9),(1,.ptr 8 0 2),(6,.d (A0 l)),(7,.Oo l.length),(8,.Oo k)],[.c [.Oo i],.c [.Ot m],.c [.d (A0 l),.Oo n],.c [.Oo a],.c [.fn (.func 36) [] [.ptr 0 0 1,.ptr 1 0 1]],.c [.e0,.Oo 0],.a (A0 ((l.set a (Ar g i m)).take (k))),.c [.sl 6 ((l.set a (Ar g i m)).take (k)).length 3,.Oo n],.c [.d (A0 l),.Oo n],.lp r],20⟩) (fun k=>l.length-k) 0 (Q7 _) ?_ (PL _) ?_
  .exact(have nC:=trivial;A6.co rfl)
  intro k hkk;have htl:((l.set a (Ar g i m)).take (k)).length<=1000:=by exact QO (List.length_take_le _ _) om
  by_cases hkl:k<l.length
  .obtain⟨x,hx⟩:=Ac hkl;have hb:=Ab hs hx
   by_cases hka:k=a
   .subst hka;rw[hg]at hx;cases hx;have hx:(l.set k (Ar g i m))[k]? =some ⟨g.to,Cd g.by_ i m,true⟩:=by rw[PU hkl];rfl
    have e1:((k:Int)!=(k:Int))=false:=bne_self_eq_false' _;have ix1:=hg;have d1:=Ds.mk [] (IA g.to g.by_ g.harmed hb);refine wd CQ [] AA AA ?_;clear d1 ix1;with_reducible repeat' first|constructor|intro hc
    refine Xy (x:=.Oq true) (H':=[.c [.Oo i],.c [.Ot m],.c [.d (A0 l),.Oo n],.c [.Oo k],.c [.fn (.func 36) [] [.ptr 0 0 1,.ptr 1 0 1]],.c [.e0,.Oo 0],.a (A0 ((l.set k (Ar g i m)).take (k+1))),.c [.sl 6 ((l.set k (Ar g i m)).take (k+1)).length 3,.Oo n],.c [.d (A0 l),.Oo n],.lp r,.c [.Oo g.to,.d (.by g.by_),.Oq g.harmed],.gone,.c [.Oo g.to,.d (.by (Cd g.by_ i m)),.Oq g.harmed],.gone,.c [.Oo g.to,.d (.by (Cd g.by_ i m)),.Oq true]]) (CU hr rfl rfl rfl ?_) rfl rfl rfl rfl rfl ?_
    .refine wd BB [] AA AA ?_;with_reducible repeat' first|constructor|intro hc
     refine zR ?_;have d1:=Ds.mk [14,0,1,13] (Lj g.to g.by_ g.harmed i m hi hb);refine wd BB [6] (BC e1) AA ?_;clear d1;with_reducible repeat' first|constructor|intro hc
     refine D4 (A6.freeze 13 (x:=.by (Cd g.by_ i m)) rfl) (by rw[E1];exact PL _) ?_;simp only[KT,Bw,A1.Ci,AV.Ci,AV.Eo,I8,Nat.reduceEqDiff,Nat.reduceAdd,decide_true,decide_false,AD,GX,QC,QK,reduceCtorEq];refine wd BB [] (BC e1) AA ?_;with_reducible repeat' first|constructor|intro hc
     refine⟨_,A6.refl _,Nat.le_succ _,rfl,rfl,?_⟩;simp only[AJ hx,A0,QD,Q5,Qd,A5.AX,Pm,Po,PX,Px,QZ,QY]
    .refine wd CQ [] AA AA ?_;with_reducible repeat' first|constructor|intro hc
     refine⟨k+1,hkl,om,PL _,?_⟩;exact(have nC:=(AJ hx);A6.cn rfl)
   .have e1:((k:Int)!=(a:Int))=true:=by rw[bne_iff_ne];omega
    have hx2:(l.set a (Ar g i m))[k]? =some x:=by rw[PY (Ne.symm hka)];exact hx
    have ix1:=hx;refine wd CQ [] AA (BC (Aw x hb)) ?_;clear ix1;with_reducible repeat' first|constructor|intro hc
    refine Xy (x:=.Oq true) (H':=[.c [.Oo i],.c [.Ot m],.c [.d (A0 l),.Oo n],.c [.Oo a],.c [.fn (.func 36) [] [.ptr 0 0 1,.ptr 1 0 1]],.c [.e0,.Oo 0],.a (A0 ((l.set a (Ar g i m)).take (k+1))),.c [.sl 6 ((l.set a (Ar g i m)).take (k+1)).length 3,.Oo n],.c [.d (A0 l),.Oo n],.lp r,.c [.Oo x.to,.d (.by x.by_),.Oq x.harmed],.c [.Oo x.to,.d (.by x.by_),.Oq x.harmed]]) (CU hr rfl rfl rfl ?_) rfl rfl rfl rfl rfl ?_
    .refine wd BB [] AA AA ?_;with_reducible repeat' first|constructor|intro hc
     refine zR ?_;refine wd BB [] (BC e1) AA ?_;with_reducible repeat' first|constructor|intro hc
     refine⟨_,A6.refl _,Nat.le_succ _,rfl,rfl,?_⟩;simp only[AJ hx2,A0,QD,Q5,Qd,A5.AX,Pm,Po,PX,Px,QZ,QY]
    .refine wd CQ [] AA AA ?_;with_reducible repeat' first|constructor|intro hc
     refine⟨k+1,hkl,om,PL _,?_⟩;exact(have nC:=(AJ hx2);A6.cn rfl)
  .have e:k=l.length:=om
   subst e;refine wd CQ [] AA AA ?_;with_reducible repeat' first|constructor|intro hc
   refine⟨_,A6.refl _,PL _,_,_,rfl,rfl,?_⟩;simp only[List.take_of_length_le (Nat.le_of_eq (List.length_set ..))]
 .rintro r hr x H' rfl;refine .inl ⟨rfl,?_⟩;refine wd BB [] AA AA ?_;with_reducible repeat' first|constructor|intro hc
  exact⟨⟨[(6,.ptr 5 0 2)],[.c [.Oo i],.c [.Ot m],.gone,.gone,.gone,.c [.sl 6 (l.set a (Ar g i m)).length 3,.Oo n],.a (A0 (l.set a (Ar g i m)))],Try.f31.ntmps⟩,(A6.ck rfl),Ou,_,_,rfl,rfl,rfl,rfl⟩
end Go.Proofs.Ytklaicomfolefaa
