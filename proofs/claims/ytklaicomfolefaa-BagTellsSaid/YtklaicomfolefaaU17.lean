/- Part 17 of a proof. Conditions: those that its theorems state. -/
import Derived.Test.YtklaicomfolefaaU10
set_option linter.unusedSimpArgs false
set_option linter.unusedVariables false
set_option maxHeartbeats 40000000
set_option maxRecDepth 4000
namespace Go.Proofs.Ytklaicomfolefaa
open Go.Gar
abbrev D2:P0:=[0,1,2,6,7,8,9,14,15,16,17,18,30]
theorem LQ(a b:On):Ov 39 [.by a,.by b] (.b (a==b)):=by
 refine zF AM Try.func39 ?_;refine wd [0,1,4] [] AA AA ?_;with_reducible repeat' first|constructor|intro hc
 exact zE
theorem IK(x y:A5):Ov 38 [x.d,y.d] (.b (decide (x=y))):=by
 obtain⟨n1,l1,c1⟩:=x;obtain⟨n2,l2,c2⟩:=y;refine zF AM Try.func38 ?_;refine wd [0,1,2,3,4] [] AA (BC (LQ l1 l2)) ?_;with_reducible repeat' first|constructor|intro hc
 all_goals(refine⟨_,_,rfl,rfl,?_⟩;simp_all[B3])
 exact(Jb _ _).symm
theorem Gx(xs ys:List A5)(hl:xs.length<1000000):Ox 37 [.d (A0 xs),.d (A0 ys),.fn (.func 38) [] []] [] (.Oq (decide (xs=ys))) []:=by
 refine zD AM Try.func37 ?_
 by_cases heq:xs.length=ys.length
 .have e1:((xs.length:Int)!=(ys.length:Int))=false:=by rw[bne_eq_false_iff_eq];omega
  refine wd D2 [] (BC e1) AA ?_;with_reducible repeat' first|constructor|intro hc
  refine Aq (fun k=>k<=xs.length/\xs.take k=ys.take k) (fun k:Nat=>⟨[(1,.d (A0 ys)),(2,.fn (.func 38) [] []),(6,.Oq false),(15,.d (A0 xs)),(16,.Oo xs.length),(17,.Oo k)],[],32⟩) (fun k=>xs.length-k) 0 ⟨Q7 _,sm⟩ ?_ (PL _) ?_
  .exact A6.ck rfl
  rintro k ⟨hk,hpre⟩
  by_cases hkl:k<xs.length
  .obtain⟨x,hx⟩:=Ac hkl;obtain⟨y,hy⟩:=Ac (xs:=ys) (k:=k) om
   by_cases hxy:x=y
   .have ix1:=hx;have ix2:=hy;refine wd D2 [] (BC (Pq hxy)) (BC (IK x y)) ?_;clear ix2 ix1;with_reducible repeat' first|constructor|intro hc
    refine⟨k+1,⟨hkl,by rw[List.take_add_one,List.take_add_one,hpre,hx,hy,hxy]⟩,om,PL _,?_⟩;exact A6.ck rfl
   .have hne:¬xs=ys:=fun e=>by subst e;rw[hx]at hy;cases hy;exact hxy rfl
    rw[Pv hne];have ix1:=hx;have ix2:=hy;refine wd D2 [] (BC (Pv hxy)) (BC (IK x y)) ?_;clear ix2 ix1;with_reducible repeat' first|constructor|intro hc
    exact⟨⟨[(6,.Oq false)],[],Try.f37.ntmps⟩,(A6.ck rfl),PL _,_,_,rfl,rfl,rfl,rfl⟩
  .have e:k=xs.length:=om
   subst e;have hE:xs=ys:=by rw[Pz,heq,Pz]at hpre;exact hpre
   rw[Pq hE];refine wd D2 [] AA AA ?_;with_reducible repeat' first|constructor|intro hc
   exact⟨⟨[(6,.Oq true)],[],Try.f37.ntmps⟩,(A6.ck rfl),PL _,_,_,rfl,rfl,rfl,rfl⟩
 .have e1:((xs.length:Int)!=(ys.length:Int))=true:=by rw[bne_iff_ne];omega
  have hne:¬xs=ys:=fun e=>heq (by rw[e]);rw[Pv hne]
  refine wd D2 [] (BC e1) AA ?_;with_reducible repeat' first|constructor|intro hc
  exact⟨⟨[(6,.Oq false)],[],Try.f37.ntmps⟩,(A6.ck rfl),PL _,_,_,rfl,rfl,rfl,rfl⟩
theorem HT(a b:AQ)(hl:a.grams.length<1000000):Ov 24 [a.d,b.d] (.b (decide (a=b))):=by
 obtain⟨xs,n⟩:=a;obtain⟨ys,m⟩:=b;refine zF AM Try.func24 ?_;have d1:=Ds.mk [] (Gx xs ys hl);refine wd [0,1,2,3,4] [] AA AA ?_;clear d1;with_reducible repeat' first|constructor|intro hc
 all_goals(refine⟨_,_,rfl,rfl,?_⟩;simp_all[B3])
end Go.Proofs.Ytklaicomfolefaa
