/- Part 17 of a proof. Conditions: those that its theorems state. -/
import Derived.Test.YthlmmkmeoblbhaaGreatQ16
set_option linter.unusedSimpArgs false
set_option linter.unusedVariables false
set_option maxHeartbeats 40000000
set_option maxRecDepth 4000
namespace Go.Proofs.YthlmmkmeoblbhaaGreat
namespace Bg
open Go.Gar
open Nd (Af)
theorem mixed:Tryz.prog.follows .mixedOrders=true:=by kernel_rfl
abbrev Ba(l:List Af):D:=.sl 3 (l.map Nd.Af.A1)
structure Dr where
 grams:List Af
 lost:Int
 deriving DecidableEq
def Dr.d(b:Dr):D:=.agg [.sl 3 (b.grams.map Nd.Af.A1),.yE b.lost]
def Fx:Af:=⟨0,[],false⟩
variable {k:Nat}
theorem AS{α:Type}{xs:List α}(h:k<xs.length):∃x,xs[k]? =some x:=⟨xs[k],yj h⟩
theorem KN(g:Af)(h:g.by_.length<=100000):yA 76 [g.d] g.d:=by
 obtain⟨n,l,c⟩:=g;replace h:l.length<=100000:=h;refine zF AK Tryz.func76 ?_;refine A9 [0,1,2] ?_;with_reducible repeat' first|constructor|intro hc
 exact BO (yg @Nd.Af.d.eq_1 @Nd.Af.A1.eq_1)
def Dr.OD(b:Dr)(Ck:Int):Bool:=decide (Ck>=0)&&decide (Ck<b.grams.length)
def small(l:List Af):Prop:=∀g∈l,g.by_.length<=100000
theorem Gw{l:List Af}(h:small l){x:Af}(hx:l[k]? =some x):x.by_.length<=100000:=h x (zM hx)
theorem AM{α:Type}{l:List α}{x:α}(hx:l[k]? =some x):l.take (k+1)=l.take k++[x]:=by
 rw[List.take_add_one,hx];rfl
theorem Z7(l:List Af)(n:Int)(hl:l.length<=1000)(hs:small l):yB 38 [.d (Dr.d ⟨l,n⟩)] [] (.ag [.sl 2 l.length 3,.y5 n]) [.gone,.c [.sl 2 l.length 3,.y5 n],.a (Ba l)]:=by
 refine zD AK Tryz.func38 ?_;refine A9 [0,1,2,3,4,9] ?_;with_reducible repeat' first|constructor|intro hc
 refine Av (A5.EQ 3 (.sl 3 []) rfl rfl rfl (by simp[Aq])) sm ?_;refine BY (fun k=>k<=l.length) (fun k:Nat=>⟨[(1,.ptr 0 0 2),(2,.ptr 1 0 2),(3,.sl 2 (l.take k).length 3),(4,.y5 k)],[.c [.d (Ba l),.y5 n],.c [.e0,.y5 0],.a (Ba (l.take k))],24⟩) (fun k=>l.length-k) 0 (yx _) ?_ (yV _) ?_
 .exact A5.ck rfl
 intro k hk;have htl:(l.take k).length<=k:=q0Q _ _
 by_cases hkl:k<l.length
 .obtain⟨x,hx⟩:=AS hkl;have hb:=Gw hs hx;have ix1:=hx;refine AP [0,1,2,3,4,9] ?_ (AQ (KN x hb));clear ix1;with_reducible repeat' first|constructor|intro hc
  refine⟨k+1,hkl,om,yV _,?_⟩;exact(have nC:=yg (AM hx) (yg @Ba.eq_1 @Nd.Af.A1.eq_1);A5.cn rfl)
 .have e:k=l.length:=om
  subst e;rw[zU];refine A9 [0,1,2,3,4,9] ?_;with_reducible repeat' first|constructor|intro hc
  exact wE
def step(b:Dr)(g:Af):Dr:=if b.grams.length<400/\g.by_.length<=120 then⟨b.grams++[g],b.lost⟩else⟨b.grams,IntKind.wrap .i64 (b.lost+1)⟩
def I4(b:Dr)(l:List Af):Dr:=l.foldl step b
theorem gw(b:Dr){l:List Af}{x:Af}(hx:l[k]? =some x):I4 b (l.take (k+1))=step (I4 b (l.take k)) x:=by
 unfold I4;rw[AM hx,q19];rfl
variable {b:Dr}
theorem sS{g:Af}(h:b.grams.length<400/\g.by_.length<=120):step b g=⟨b.grams++[g],b.lost⟩:=zN h
theorem ou{g:Af}(h:¬(b.grams.length<400/\g.by_.length<=120)):step b g=⟨b.grams,IntKind.wrap .i64 (b.lost+1)⟩:=zO h
theorem sU(b:Dr)(g:Af):(step b g).grams.length<=b.grams.length+1:=by
 unfold step;split<;>simp
theorem ri(b:Dr)(l:List Af):(I4 b l).grams.length<=b.grams.length+l.length:=by
 induction l generalizing b with
 |nil=>exact yV _
 |cons g r ih=>
  have h1:=ih (step b g);have h2:=sU b g;simp only[I4,q0c,yu]at h1|-;omega
theorem HO{Ck:Int}(h:b.OD Ck=true):∃a:Nat,Ck=a/\a<b.grams.length:=by
 simp only[Dr.OD,yU,yc]at h;exact⟨Ck.toNat,om,om⟩
def Ke(b:Dr)(Ck:Int):Dr×Int:=if b.OD Ck then(⟨b.grams.eraseIdx Ck.toNat,IntKind.wrap .i64 (b.lost+1)⟩,0)else(b,2)
def Hn(b:Dr)(Ck:Int):Dr×Int:=if b.OD Ck then(I4 b [b.grams.getD Ck.toNat Fx],0)else(b,2)
def takeB(b:Dr)(Ck:Int):Dr×Af×Bool:=if b.OD Ck then(⟨b.grams.eraseIdx Ck.toNat,b.lost⟩,b.grams.getD Ck.toNat Fx,true)else(b,Fx,false)
def Sk(x:Af)(i m:Int):Bool:=decide (0<=i)&&decide (i<x.by_.length)&& !x.harmed&& !(m==0)
def LI(b:Dr)(Ck i m:Int):Dr×Int:=if b.OD Ck&&Sk (b.grams.getD Ck.toNat Fx) i m then(⟨b.grams.set Ck.toNat (O9 (b.grams.getD Ck.toNat Fx) i.toNat m),b.lost⟩,0)else(b,2)
end Bg
end Go.Proofs.YthlmmkmeoblbhaaGreat
