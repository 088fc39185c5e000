/- Part 16 of a proof. Conditions: those that its theorems state. -/
import Derived.Test.YtklaicomfolefaaU13
import Derived.Test.YtklaicomfolefaaU15
set_option linter.unusedSimpArgs false
set_option linter.unusedVariables false
set_option maxHeartbeats 40000000
set_option maxRecDepth 4000
namespace Go.Proofs.Ytklaicomfolefaa
open Go.Gar
abbrev EL:P0:=[0,1,2,3,4,6,7,8,9,28,38]
abbrev EM:P0:=[0,1,2,4,5,6,7,9,10,11,12,19]
def Db(x:A5)(i m:Int):Bool:=decide (0<=i)&&decide (i<x.by_.length)&& !x.harmed&& !(m==0)
def Cv(b:AQ)(AU i m:Int):AQ×Int:=if b.Cg AU&&Db (b.grams.getD AU.toNat BN) i m then(⟨b.grams.set AU.toNat (Ar (b.grams.getD AU.toNat BN) i.toNat m),b.lost⟩,0)else(b,2)
theorem HC(b:AQ)(AU i m:Int)(hb:b.grams.length<=1000)(hbs:small b.grams):Ov 20 [b.d,.i .i64 AU,.i .i64 i,.i .u8 m] (.tup [(Cv b AU i m).1.d,.i .i64 (Cv b AU i m).2]):=by
 have hI:=Ex b AU;have hO:=Fp b hb hbs;refine zF AM Try.func20 ?_;unfold Cv
 cases h:b.Cg AU with
 |true=>
  obtain⟨a,rfl,ha⟩:=By h;obtain⟨gs,n⟩:=b;replace ha:a<gs.length:=ha;obtain⟨x,hx⟩:=Ac ha;have hg:gs.getD a BN=x:=by rw[PW,hx];rfl
  simp only[Int.toNat_natCast,hg,Bool.true_and]
  cases hk:Db x i m with
  |true=>
   simp only[Db,P8,PO,Bool.not_eq_true',beq_eq_false_iff_ne]at hk;obtain⟨⟨⟨h1,h2⟩,h3⟩,h4⟩:=hk;obtain⟨i',rfl⟩:∃k:Nat,i=k:=⟨i.toNat,om⟩;have e4:(m==0)=false:=by simp[h4]
   have nS:=PV h (PV h3 e4)
   repeat'(first|((with_reducible refine sg ?_);first|with_reducible rfl|((with_reducible refine Ix ?_);first|kernel_rfl|rfl|(simp[C3,DY,nS];done))|with_reducible refine Ie ?_ ?_|with_reducible exact Nat.beq_refl _|with_reducible exact Bv _|((with_reducible refine Pq ?_);first|omega|(simp only[GD,nS];omega))|decide|(simp[GD,slc,BH,D.one,Bs,AV.one,nS];done)|(simp[GD,nS];omega))|((with_reducible refine O2 ?_);first|(refine D5 rfl ?_;refine Nz AM rfl rfl rfl rfl ?_)|(refine JW rfl ?_;refine Ny AM rfl rfl rfl rfl rfl (QA _) (Bz hx) ?_)|refine Xq AM rfl rfl rfl rfl ?_ ?_|refine Xn [0,1,2,3,4,6,7,8,9,28,38] rfl ?_|refine XF (hI) rfl rfl rfl rfl ?_|refine XD [1,2] (Ek gs n a x hx i' m om hb hbs) rfl rfl rfl ⟨rfl,rfl,trivial⟩ rfl rfl rfl rfl ?_|refine Xa AM rfl rfl rfl rfl rfl ?_ ?_|refine Xw AM rfl rfl rfl rfl ?_ ?_|refine Xs rfl rfl rfl ?_|(refine FH rfl rfl (fun hc=> ?_) (fun hc=> ?_)<;>(fail_if_success (with_reducible first|exact tF hc|exact fT hc))<;>(try simp only[GC]at hc)<;>(try(exfalso;omega))))|((with_reducible refine Oh ?_);first|(refine Es rfl ?_;refine Og AM rfl rfl (fun _=>rfl) rfl rfl ?_)|(refine Md rfl ?_;refine OO AM rfl rfl (fun _=>rfl) rfl rfl rfl (QA _) (Bz hx) ?_)|refine Yp AM rfl rfl (fun _=>rfl) rfl rfl ?_ ?_|refine Yq rfl rfl rfl rfl rfl ?_ ?_|refine Ys rfl rfl rfl rfl ?_|refine YF (hI) rfl rfl rfl rfl rfl ?_|refine YD [1,2] (Ek gs n a x hx i' m om hb hbs) rfl rfl rfl rfl ⟨rfl,rfl,trivial⟩ rfl rfl rfl rfl ?_|refine Ya AM rfl rfl rfl rfl rfl rfl ?_ ?_|refine Yw AM rfl rfl rfl rfl rfl ?_ ?_|refine Yn [0,1,2,3,4,6,7,8,9,28,38] [] mixed AM (by kernel_rfl) QN rfl ?_|(refine Gs rfl rfl (fun hc=> ?_) (fun hc=> ?_)<;>(fail_if_success (with_reducible first|exact tF hc|exact fT hc))<;>(try simp only[GC]at hc)<;>(try(exfalso;omega))))|refine FD ?_|refine Cl ?_|refine L0 T.get ?_|refine DW ?_|refine FC ?_|refine CS ?_|refine DU ?_|refine JV 3 ?_|refine IX ?_|refine Gq ?_|refine Bq rfl ?_|refine Bp rfl ?_|(refine Ck rfl (fun hc=> ?_) (fun hc=> ?_)<;>(try simp only[GC]at hc)<;>(try(exfalso;omega))))
   all_goals first
    |(exfalso;omega)
    |(refine⟨_,_,rfl,rfl,?_⟩;simp[Gk,AD,AO,AI,AQ.d,A0];done)
  |false=>
   simp only[Db,Bool.and_eq_false_iff,decide_eq_false_iff_not,Bool.not_eq_false',beq_iff_eq]at hk
   cases h3:x.harmed with
   |true=>
    have ix1:=hx;refine wd EL [] (Ha h h3) (Ha @hI @hO) ?_ [] true;clear ix1;with_reducible repeat' first|constructor|intro hc
    all_goals(refine⟨_,_,rfl,rfl,?_⟩;simp[Gk,AD,AO,AI,AQ.d,A0])
   |false=>
    by_cases h4:m=0
    .subst h4;have ix1:=hx;refine wd EL [] (Ha h h3) (Ha @hI @hO) ?_ [] true;clear ix1;with_reducible repeat' first|constructor|intro hc
     all_goals(refine⟨_,_,rfl,rfl,?_⟩;simp[Gk,AD,AO,AI,AQ.d,A0])
    .have e4:(m==0)=false:=by simp[h4]
     have hk':¬0<=i\/¬i<x.by_.length:=by
      rcases hk with(hk|hk)|hk
      .exact hk
      .rw[h3]at hk;cases hk
      .exact absurd hk h4
     have ix1:=hx;refine wd EL [] (Om h h3 e4) (Ha @hI @hO) ?_ [] true;clear ix1;with_reducible repeat' first|constructor|intro hc
     all_goals first
      |(refine⟨_,_,rfl,rfl,?_⟩;simp[Gk,AD,AO,AI,AQ.d,A0];done)
      |(exfalso;omega)
 |false=>
  obtain⟨gs,n⟩:=b;refine wd EL [] (BC h) (Ha @hI @hO) ?_ [] true;with_reducible repeat' first|constructor|intro hc
  exact IS (PV @AQ.d.eq_1 @A0.eq_1)
def DZ(l:List A5)(to:Int)(k:Nat):Ow:=((List.range k).filter fun j=>(l.getD j BN).to==to).map Int.ofNat
theorem FZ(l:List A5)(to:Int)(k:Nat):(DZ l to k).length<=k:=by
 unfold DZ;rw[Po];exact QO (List.length_filter_le ..) sm
theorem Jl{l:List A5}{to:Int}{k:Nat}{x:A5}(hx:l[k]? =some x)(h:x.to=to):DZ l to (k+1)=DZ l to k++[(k:Int)]:=by
 simp[DZ,List.range_succ,List.filter_append,hx,h]
theorem Hv{l:List A5}{to:Int}{k:Nat}{x:A5}(hx:l[k]? =some x)(h:x.to≠to):DZ l to (k+1)=DZ l to k:=by
 simp[DZ,List.range_succ,List.filter_append,hx,h]
theorem Lh(b:AQ)(to:Int)(hb:b.grams.length<=1000):Ov 22 [b.d,.i .i64 to] (.is (DZ b.grams to b.grams.length)):=by
 obtain⟨l,n⟩:=b;replace hb:l.length<=1000:=hb;refine zF AM Try.func22 ?_;refine wd EM [] AA AA ?_;with_reducible repeat' first|constructor|intro hc
 refine D4 (A6.Je 5 (.is []) rfl rfl rfl trivial) sm ?_;refine Aq (fun k=>k<=l.length) (fun k:Nat=>⟨[(1,.Oo to),(2,.ptr 0 0 2),(4,.e0),(5,.sl 1 (DZ l to k).length 1),(9,.d (A0 l)),(10,.Oo l.length),(11,.Oo k)],[.c [.d (A0 l),.Oo n],.a (.is (DZ l to k))],26⟩) (fun k=>l.length-k) 0 (Q7 _) ?_ (PL _) ?_
 .exact A6.ck rfl
 intro k hk;have hle:=FZ l to k
 by_cases hkl:k<l.length
 .obtain⟨x,hx⟩:=Ac hkl
  by_cases hT:x.to=to
  .have hn:=Jl hx hT;have e1:(x.to==to)=true:=by simp[hT]
   have ix1:=hx;refine wd EM [] (BC e1) AA ?_;clear ix1;with_reducible repeat' first|constructor|intro hc
   refine⟨k+1,hkl,om,PL _,?_⟩;exact(have nC:=hn;A6.cn rfl)
  .have hn:=Hv hx hT;have e1:(x.to==to)=false:=by simp[hT]
   have ix1:=hx;refine wd EM [] (BC e1) AA ?_;clear ix1;with_reducible repeat' first|constructor|intro hc
   refine⟨k+1,hkl,om,PL _,?_⟩;exact(have nC:=hn;A6.cn rfl)
 .have e:k=l.length:=om
  subst e;refine wd EM [] AA AA ?_;with_reducible repeat' first|constructor|intro hc
  exact zE
end Go.Proofs.Ytklaicomfolefaa
