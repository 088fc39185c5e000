/- Part 14 of a proof. Conditions: those that its theorems state. -/
import Derived.Test.YtklaicomfolefaaU11
set_option linter.unusedSimpArgs false
set_option linter.unusedVariables false
set_option maxHeartbeats 40000000
set_option maxRecDepth 4000
namespace Go.Proofs.Ytklaicomfolefaa
open Go.Gar
abbrev EK:P0:=[0,1,2,4,6,7,8,9,10,22]
def step(b:AQ)(g:A5):AQ:=if b.grams.length<400/\g.by_.length<=120 then⟨b.grams++[g],b.lost⟩else⟨b.grams,IntKind.wrap .i64 (b.lost+1)⟩
def BL(b:AQ)(l:List A5):AQ:=l.foldl step b
theorem Gc(b:AQ){l:List A5}{k:Nat}{x:A5}(hx:l[k]? =some x):BL b (l.take (k+1))=step (BL b (l.take k)) x:=by
 unfold BL;rw[AJ hx,List.foldl_append];rfl
theorem K5{b:AQ}{g:A5}(h:b.grams.length<400/\g.by_.length<=120):step b g=⟨b.grams++[g],b.lost⟩:=if_pos h
theorem IM{b:AQ}{g:A5}(h:¬(b.grams.length<400/\g.by_.length<=120)):step b g=⟨b.grams,IntKind.wrap .i64 (b.lost+1)⟩:=if_neg h
theorem ND(b:AQ)(g:A5):(step b g).grams.length<=b.grams.length+1:=by
 unfold step;split<;>simp
theorem F1(b:AQ)(l:List A5):(BL b l).grams.length<=b.grams.length+l.length:=by
 induction l generalizing b with
 |nil=>exact PL _
 |cons g r ih=>
  have h1:=ih (step b g);have h2:=ND b g;simp only[BL,List.foldl_cons,PX]at h1|-;omega
theorem Nq(b:AQ)(l:List A5)(hb:b.grams.length<=1000)(hl:l.length<=1000)(hs:small l):
  Ox 33 [.ag [.sl 0 b.grams.length 3,.Oo b.lost],.d (A0 l)] [.a (A0 b.grams)] (.ag [.sl 0 (BL b l).grams.length 3,.Oo ((BL b l).lost)])
   [.a (A0 (BL b l).grams),.gone,.c [.sl 0 (BL b l).grams.length 3,.Oo ((BL b l).lost)]]:=by
 refine zD AM Try.func33 ?_;refine wd EK [] AA AA ?_;with_reducible repeat' first|constructor|intro hc
 refine Aq (fun k=>k<=l.length) (fun k:Nat=>⟨[(2,.ptr 1 0 2),(4,.ptr 2 0 2),(7,.d (A0 l)),(8,.Oo l.length),(9,.Oo k)],[.a (A0 (BL b (l.take k)).grams),.c [.sl 0 (BL b (l.take k)).grams.length 3,.Oo ((BL b (l.take k)).lost)],.c [.e0,.Oo 0]],36⟩) (fun k=>l.length-k) 0 (Q7 _) ?_ (PL _) ?_
 .exact A6.ck rfl
 intro k hk;have hle:=F1 b (l.take k);rw[QT]at hle
 by_cases hkl:k<l.length
 .obtain⟨x,hx⟩:=Ac hkl;have hxb:=Ab hs hx;have hn:=Gc b hx;generalize BL b (l.take k)=c at*
  by_cases hA:c.grams.length<400/\x.by_.length<=120
  .rw[K5 hA]at hn;have ix1:=hx;refine wd EK [] AA (BC (Aw x hxb)) ?_;clear ix1;with_reducible repeat' first|constructor|intro hc
   all_goals first
    |(exfalso;omega)
    |skip
   refine⟨k+1,hkl,om,PL _,?_⟩;exact(have nC:=PV hn (PV @A0.eq_1 @A5.AX.eq_1);A6.cn rfl)
  .rw[IM hA]at hn;have ix1:=hx;have wr:Lv [32]:=trivial;refine wd EK [] AA (BC (Aw x hxb)) ?_;clear wr ix1;with_reducible repeat' first|constructor|intro hc
   all_goals first
    |(exfalso;omega)
    |(refine⟨k+1,hkl,om,PL _,?_⟩;exact(have nC:=hn;A6.cn rfl))
 .have e:k=l.length:=om
  subst e;rw[Pz]at *;refine wd EK [] AA AA ?_;with_reducible repeat' first|constructor|intro hc
  exact⟨⟨[(4,.ptr 2 0 2)],[.a (A0 (BL b l).grams),.gone,.c [.sl 0 (BL b l).grams.length 3,.Oo ((BL b l).lost)]],Try.f33.ntmps⟩,(A6.ck rfl),Ou,_,_,rfl,rfl,rfl,rfl⟩
end Go.Proofs.Ytklaicomfolefaa
