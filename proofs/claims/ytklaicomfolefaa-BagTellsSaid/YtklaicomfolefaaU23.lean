/- Part 23 of a proof. Conditions: those that its theorems state. -/
import Derived.Test.YtklaicomfolefaaU18
import Derived.Test.YtklaicomfolefaaU19
import Derived.Test.YtklaicomfolefaaU22
set_option linter.unusedSimpArgs false
set_option linter.unusedVariables false
set_option maxHeartbeats 40000000
set_option maxRecDepth 4000
namespace Go.Proofs.Ytklaicomfolefaa
open Go.Gar
abbrev BK:P0:=[0,1,2,3,4,5,6,7,8,14,15,16,17,18,19,20,21,22,23,24,25,41,81,102,123,161,165,176]
theorem Ko(b:AQ)(AU:Int):(takeB b AU).1.grams.length<=b.grams.length:=by
 unfold takeB;split
 .exact List.length_eraseIdx_le _ _
 .exact PL _
theorem KI(b:AQ)(AU:Int):(DK b AU).1.grams.length<=b.grams.length:=by
 unfold DK;split
 .exact List.length_eraseIdx_le _ _
 .exact PL _
theorem JL(b:AQ)(AU:Int):(CC b AU).1.grams.length<=b.grams.length+1:=by
 unfold CC;split
 .exact F1 _ _
 .exact Nat.le_succ _
theorem KW(b:AQ)(AU i m:Int):(Cv b AU i m).1.grams.length=b.grams.length:=by
 unfold Cv;split
 .simp
 .rfl
theorem Ge(b:AQ)(h:b.grams.length<1000000):Ov 12 [b.d,b.d] (.b true):=by
 have:=Fv b b h;rwa [Pq rfl]at this
theorem OS(g:A5):Ov 15 [g.d,g.d] (.b true):=by
 have:=HB g g;rwa [Pq rfl]at this
theorem Hl(b o:AQ)(l:List A5)(AU i m to:Int):Ov 3 [b.d,o.d,A0 l,.i .i64 AU,.i .i64 i,.i .u8 m,.i .i64 to] (.b true):=by
 have c1:=Ff b;have c2:=Ff o;have c3:=Ff ⟨l,0⟩;refine zF AM Try.func3 ?_
 cases h1:b.great with
 |true=>
  rw[h1]at c1;obtain⟨bg,bn⟩:=b;obtain⟨og,on⟩:=o;refine wd BK [] AA (Ha @c1 @Cy) ?_;with_reducible repeat' first|constructor|intro hc
  exact zE
 |false=>
 rw[h1]at c1
 cases h2:o.great with
 |true=>
  rw[h2]at c2;obtain⟨bg,bn⟩:=b;obtain⟨og,on⟩:=o;refine wd BK [] AA (Om @c1 @c2 @Cy) ?_;with_reducible repeat' first|constructor|intro hc
  exact zE
 |false=>
 rw[h2]at c2
 by_cases hl:(l.length:Int)>20
 .have f0:decide ((l.length:Int)>20)=true:=Pq hl;obtain⟨bg,bn⟩:=b;obtain⟨og,on⟩:=o;refine wd BK [] (BC f0) (Om @c1 @c2 @Cy) ?_;with_reducible repeat' first|constructor|intro hc
  exact zE
 have f0:decide ((l.length:Int)>20)=false:=Pv hl
 cases h3:AQ.great ⟨l,0⟩with
 |true=>
  rw[h3]at c3;obtain⟨bg,bn⟩:=b;obtain⟨og,on⟩:=o;refine wd BK [] (BC f0) (zq4 @c1 @c2 @c3 @Cy) ?_;with_reducible repeat' first|constructor|intro hc
  exact zE
 |false=>
 rw[h3]at c3;obtain⟨k1,k2⟩:=Hx h1;obtain⟨_,k3⟩:=Hx h3;replace k3:small l:=k3;have k4:b.grams.length<=1000:=om
 have aK:=HY b AU k4 k2;have rK:=IG b AU k4 k2;have eK:=Ko b AU;have aD:=Jd b AU k4 k2;have rD:=M4 b AU k4 k2;have eD:=KI b AU;have aT:=IP b AU k4 k2;have rT:=Ke b AU k4 k2;have eT:=JL b AU;have aH:=HC b AU i m k4 k2;have rH:=M7 b AU i m k4 k2;have eH:=KW b AU i m;have aS:=HU b l k4 k2 om k3;have rS:=IF b l k4 k2 om k3;have eS:=F1 b l;have aF:=Lh b to k4;have rF:=N7 b to k4;have sB:=Ge b om;have bO:=Fv b o om;have aO:=HT b o om;have aW:=Fp b k4 k2;have eF:=FZ b.grams to b.grams.length;generalize DZ b.grams to b.grams.length=F at *;replace eF:F.length<=1000:=om
 generalize takeB b AU=p1 at *;generalize DK b AU=p2 at *;generalize CC b AU=p3 at *;generalize Cv b AU i m=p4 at *;generalize BL b l=p5 at *;generalize decide (b=o)=eq at *;obtain⟨p1,g1,ok⟩:=p1;obtain⟨p2,e2⟩:=p2;obtain⟨p3,e3⟩:=p3;obtain⟨p4,e4⟩:=p4;simp only at eK eD eT eH eS;have s1:=Ge p1 om;have s2:=Ge p2 om;have s3:=Ge p3 om;have s4:=Ge p4 om;have s5:=Ge p5 om;have sG:=OS g1;clear eK eD eT eH eS;have z1:(ok !=ok)=false:=by simp
 have z2:(e2 !=e2)=false:=by simp
 have z3:(e3 !=e3)=false:=by simp
 have z4:(e4 !=e4)=false:=by simp
 have z5:((F.length:Int)!=(F.length:Int))=false:=by simp
 obtain⟨bg,bn⟩:=b;obtain⟨og,on⟩:=o;obtain⟨p1g,p1n⟩:=p1;obtain⟨p2g,p2n⟩:=p2;obtain⟨p3g,p3n⟩:=p3;obtain⟨p4g,p4n⟩:=p4;obtain⟨p5g,p5n⟩:=p5;obtain⟨gt,gb,gh⟩:=g1;refine wd BK [7] (Ha f0 z1) (Oc @c1 @c2 @c3 @aK @rK @aS @rS @s1 @s5 @sG) ?_;with_reducible repeat' first|constructor|intro hc
 refine wd BK [15] (Ha z2 z3) (zq6 @aD @rD @s2 @aT @rT @s3) ?_;with_reducible repeat' first|constructor|intro hc
 refine wd BK [] (Ha z4 z5) (zq5 @aH @rH @s4 @aF @rF) ?_;with_reducible repeat' first|constructor|intro hc
 refine Aq (fun k=>k<=F.length) (fun k:Nat=>⟨[(7,.ptr 0 0 2),(8,.ptr 1 0 2),(14,.Oq false),(23,.Oz F),(24,.Oz F),(25,.Oo k)],[.c [.d (A0 bg),.Oo bn],.c [.d (A0 og),.Oo on],.gone,.gone,.gone,.gone],193⟩) (fun k=>F.length-k) 0 (Q7 _) ?_ Ou ?_
 .exact A6.ck rfl
 intro k hk
 by_cases hkl:k<F.length
 .have z6:(F.getD k 0 !=F.getD k 0)=false:=by simp
  refine wd BK [] (BC z6) AA ?_;with_reducible repeat' first|constructor|intro hc
  refine⟨k+1,hkl,om,PL _,?_⟩;exact A6.ck rfl
 .have e:k=F.length:=om
  subst e;have z7:(eq==eq)=true:=by simp
  refine wd BK [] (BC z7) (zq5 @aO @bO @aW @sB @Cy) ?_;with_reducible repeat' first|constructor|intro hc
  exact zE
end Go.Proofs.Ytklaicomfolefaa
