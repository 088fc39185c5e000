/- Part 10 of a proof. Conditions: those that its theorems state. -/
import Derived.Test.YtklaicomfolefaaU07
import Derived.Test.YtklaicomfolefaaU09
set_option linter.unusedSimpArgs false
set_option linter.unusedVariables false
set_option linter.unnecessarySimpa false
set_option maxHeartbeats 40000000
set_option maxRecDepth 4000
namespace Go.Proofs.Ytklaicomfolefaa
open Go.Gar
abbrev Cz:P0:=[0,1,2,3,12,22]
abbrev D1:P0:=[0,1,4,5,10,14,26]
theorem mixed:Try.prog.follows .mixedOrders=true:=by kernel_rfl
structure A5 where
 to:Int
 by_:On
 harmed:Bool
 deriving DecidableEq
def A5.AX(g:A5):PQ:=[.i .i64 g.to,.by g.by_,.b g.harmed]
def A5.d(g:A5):D:=.agg g.AX
abbrev A0(l:List A5):D:=.sl 3 (l.map A5.AX)
structure AQ where
 grams:List A5
 lost:Int
 deriving DecidableEq
def AQ.d(b:AQ):D:=.agg [.sl 3 (b.grams.map A5.AX),.i .i64 b.lost]
def BN:A5:=⟨0,[],false⟩
theorem Jb{α:Type}[BEq α][LawfulBEq α][DecidableEq α](a b:α):(a==b)=decide (a=b):=by
 by_cases h:a=b<;>simp[h]
theorem Ac{α:Type}{xs:List α}{k:Nat}(h:k<xs.length):∃x,xs[k]? =some x:=⟨xs[k],PE h⟩
theorem HB(x y:A5):Ov 15 [x.d,y.d] (.b (decide (x=y))):=by
 obtain⟨n1,l1,c1⟩:=x;obtain⟨n2,l2,c2⟩:=y;refine zF AM Try.func15 ?_;refine wd [0,1,2,3,4] [] AA AA ?_;with_reducible repeat' first|constructor|intro hc
 all_goals(refine⟨_,_,rfl,rfl,?_⟩;simp_all[B3])
 exact(Jb _ _).symm
theorem ED(g:A5)(h:g.by_.length<=100000):Ov 34 [g.d] g.d:=by
 obtain⟨n,l,c⟩:=g;replace h:l.length<=100000:=h;refine zF AM Try.func34 ?_;refine wd [0,1,2] [] AA AA ?_;with_reducible repeat' first|constructor|intro hc
 exact IS (PV @A5.d.eq_1 @A5.AX.eq_1)
theorem Aw(g:A5)(h:g.by_.length<=100000):Ov 42 [g.d] g.d:=by
 obtain⟨n,l,c⟩:=g;replace h:l.length<=100000:=h;refine zF AM Try.func42 ?_;refine wd [0,1,2] [] AA AA ?_;with_reducible repeat' first|constructor|intro hc
 exact IS (PV @A5.d.eq_1 @A5.AX.eq_1)
theorem IA(n:Int)(l:On)(c:Bool)(h:l.length<=100000):Ox 42 [.d (A5.d ⟨n,l,c⟩)] [] (.ag [.Oo n,.sl 2 l.length 1,.Oq c]) [.gone,.c [.Oo n,.sl 2 l.length 1,.Oq c],.a (.by l)]:=by
 refine zD AM Try.func42 ?_;have ow:Lv [5]:=trivial;refine wd [0,1,2] [] AA AA ?_;clear ow;with_reducible repeat' first|constructor|intro hc
 exact⟨⟨[(2,.ptr 1 0 3)],[.gone,.c [.Oo n,.sl 2 l.length 1,.Oq c],.a (.by l)],Try.f42.ntmps⟩,(A6.ck rfl),Q7 _,_,_,rfl,rfl,rfl,rfl⟩
def AQ.Cg(b:AQ)(AU:Int):Bool:=decide (AU>=0)&&decide (AU<b.grams.length)
theorem Ex(b:AQ)(AU:Int):Ov 30 [b.d,.i .i64 AU] (.b (b.Cg AU)):=by
 obtain⟨l,n⟩:=b;refine zF AM Try.func30 ?_;refine wd [0,1,2,4] [] AA AA ?_;with_reducible repeat' first|constructor|intro hc
 all_goals(refine⟨_,_,rfl,rfl,?_⟩;simp_all[B3,AQ.Cg]<;>omega)
def AQ.great(b:AQ):Bool:=(b.grams.take 421).any (fun g=>decide (g.by_.length>300))||decide (b.grams.length>420)
theorem Ff(b:AQ):Ov 8 [b.d] (.b b.great):=by
 obtain⟨l,n⟩:=b;refine zF AM Try.func8 ?_;refine wd Cz [] AA AA ?_;with_reducible repeat' first|constructor|intro hc
 refine Aq (fun k=>k<=421/\k<=l.length/\(l.take k).any (fun g=>decide (g.by_.length>300))=false) (fun k:Nat=>⟨[(1,.ptr 0 0 2),(2,.Oq false),(3,.Oo k)],[.c [.d (.sl 3 (l.map A5.AX)),.Oo n]],27⟩) (fun k=>421-k) 0 ⟨om,om,sm⟩ ?_ (PL _) ?_
 .exact A6.ck rfl
 rintro k ⟨hk,hkl,hpre⟩
 by_cases h1:k<l.length
 .by_cases h2:k<=420
  .obtain⟨x,hx⟩:=Ac h1
   have hnext:(l.take (k+1)).any (fun g=>decide (g.by_.length>300))=decide (x.by_.length>300):=by
    rw[List.take_add_one,hx,List.any_append,hpre];simp
   by_cases h3:x.by_.length>300
   .have hT:(l.take 421).any (fun g=>decide (g.by_.length>300))=true:=by
     rw[List.any_eq_true];exact⟨x,List.mem_of_getElem? (i:=k) (by rw[Q9,if_pos om];exact hx),by simpa using h3⟩
    have ix1:=hx;refine wd Cz [] AA AA ?_;clear ix1;with_reducible repeat' first|constructor|intro hc
    exact IS (PV @AQ.great.eq_1 hT)
   .have ix1:=hx;refine wd Cz [] AA AA ?_;clear ix1;with_reducible repeat' first|constructor|intro hc
    refine⟨k+1,⟨om,h1,by rw[hnext];simpa using h3⟩,om,PL _,?_⟩;exact A6.ck rfl
  .have e:k=421:=om
   subst e;refine wd Cz [] AA AA ?_;with_reducible repeat' first|constructor|intro hc
   refine⟨_,_,rfl,rfl,?_⟩;simp[Gk,AD,AO,AI,AQ.great,hpre];omega
 .have e:k=l.length:=om
  subst e;refine wd Cz [] AA AA ?_;with_reducible repeat' first|constructor|intro hc
  have hT:(l.take 421).any (fun g=>decide (g.by_.length>300))=false:=by
   rw[List.take_of_length_le om];rwa [Pz]at hpre
  refine⟨_,_,rfl,rfl,?_⟩;simp[Gk,AD,AO,AI,AQ.great,hT];omega
theorem Li(xs ys:List A5)(hl:xs.length<1000000):Ov 27 [A0 xs,A0 ys] (.b (decide (xs=ys))):=by
 refine zF AM Try.func27 ?_
 by_cases heq:xs.length=ys.length
 .have e1:((xs.length:Int)!=(ys.length:Int))=false:=by rw[bne_eq_false_iff_eq];omega
  refine wd D1 [] (BC e1) AA ?_;with_reducible repeat' first|constructor|intro hc
  refine Aq (fun k=>k<=xs.length/\xs.take k=ys.take k) (fun k:Nat=>⟨[(0,.d (A0 xs)),(1,.d (A0 ys)),(4,.Oq false),(5,.Oo k)],[],27⟩) (fun k=>xs.length-k) 0 ⟨Q7 _,sm⟩ ?_ (PL _) ?_
  .exact A6.ck rfl
  rintro k ⟨hk,hpre⟩
  by_cases hkl:k<xs.length
  .obtain⟨x,hx⟩:=Ac hkl;obtain⟨y,hy⟩:=Ac (xs:=ys) (k:=k) om
   by_cases hxy:x=y
   .have ix1:=hx;have ix2:=hy;refine wd D1 [] (BC (Pq hxy)) (BC (HB x y)) ?_;clear ix2 ix1;with_reducible repeat' first|constructor|intro hc
    refine⟨k+1,⟨hkl,by rw[List.take_add_one,List.take_add_one,hpre,hx,hy,hxy]⟩,om,PL _,?_⟩;exact A6.ck rfl
   .have hne:¬xs=ys:=fun e=>by subst e;rw[hx]at hy;cases hy;exact hxy rfl
    have ix1:=hx;have ix2:=hy;refine wd D1 [] (BC (Pv hxy)) (BC (HB x y)) ?_;clear ix2 ix1;with_reducible repeat' first|constructor|intro hc
    exact IS hne
  .have e:k=xs.length:=om
   subst e;have hE:xs=ys:=by rw[Pz,heq,Pz]at hpre;exact hpre
   refine wd D1 [] AA AA ?_;with_reducible repeat' first|constructor|intro hc
   exact IS hE
 .have e1:((xs.length:Int)!=(ys.length:Int))=true:=by rw[bne_iff_ne];omega
  have hne:¬xs=ys:=fun e=>heq (by rw[e]);refine wd D1 [] (BC e1) AA ?_;with_reducible repeat' first|constructor|intro hc
  exact IS hne
theorem Fv(a b:AQ)(hl:a.grams.length<1000000):Ov 12 [a.d,b.d] (.b (decide (a=b))):=by
 obtain⟨xs,n⟩:=a;obtain⟨ys,m⟩:=b;refine zF AM Try.func12 ?_;refine wd [0,1,2,3,4] [] AA (BC (Li xs ys hl)) ?_;with_reducible repeat' first|constructor|intro hc
 all_goals(refine⟨_,_,rfl,rfl,?_⟩;simp_all[B3])
end Go.Proofs.Ytklaicomfolefaa
