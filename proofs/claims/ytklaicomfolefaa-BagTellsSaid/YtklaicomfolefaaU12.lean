/- Part 12 of a proof. Conditions: those that its theorems state. -/
import Derived.Test.YtklaicomfolefaaU11
set_option linter.unusedSimpArgs false
set_option linter.unusedVariables false
set_option maxHeartbeats 40000000
set_option maxRecDepth 4000
namespace Go.Proofs.Ytklaicomfolefaa
open Go.Gar
abbrev AH:P0:=[0,1,2,3,4,5,6,7,8,9,18,19,20,27]
abbrev AZ:P0:=[0,1,3,4,6,7,8,9,18]
theorem CW(l:List A5)(n:Int):Ox 41 [.d (AQ.d ⟨l,n⟩)] [] (.fn (.func 43) [] [.ptr 0 0 2]) [.c [.d (A0 l),.Oo n]]:=by
 refine zD AM Try.func41 ?_;refine wd [0,1,2] [] AA AA ?_;with_reducible repeat' first|constructor|intro hc
 exact⟨_,(A6.ck rfl),Q7 _,_,_,rfl,rfl,rfl,rfl⟩
theorem Ho(cs:PT):Ox 35 [.ptr 0 0 3] [.c cs] (.Oq false) [.c cs]:=by
 refine zD AM Try.func35 ?_;refine wd [2] [] AA AA ?_;with_reducible repeat' first|constructor|intro hc
 exact⟨_,A6.refl _,PL _,_,_,rfl,rfl,rfl,rfl⟩
theorem MF(t:Int)(y:On)(h:Bool):Ox 32 [.ptr 0 0 3,.ptr 1 0 3] [.c [.Oo t,.d (.by y),.Oq h],.c [.Oo 0,.e0,.Oq false]] (.Oq false) [.c [.Oo t,.d (.by y),.Oq h],.c [.Oo t,.d (.by y),.Oq h]]:=by
 refine zD AM Try.func32 ?_;refine wd [0,1,3] [] AA AA ?_;with_reducible repeat' first|constructor|intro hc
 exact⟨_,A6.refl _,PL _,_,_,rfl,rfl,rfl,rfl⟩
def tkc(g:A5)(a k:Nat):PT:=if a<k then[.Oo g.to,.d (.by g.by_),.Oq g.harmed]else[.Oo 0,.e0,.Oq false]
theorem Nu(g:A5)(a k m:Nat):AV.oks m (tkc g a k)=true:=by
 unfold tkc;split<;>rfl
variable {a k:Nat}
theorem MH(g:A5)(h:¬a<k):tkc g a k=[.Oo 0,.e0,.Oq false]:=if_neg h
theorem MG(g:A5)(h:a<k):tkc g a k=[.Oo g.to,.d (.by g.by_),.Oq g.harmed]:=if_pos h
theorem Nt(g:A5)(h:k≠a):tkc g a (k+1)=tkc g a k:=by
 unfold tkc
 by_cases h1:a<k
 .rw[if_pos h1,if_pos om]
 .rw[if_neg h1,if_neg om]
theorem HN(l:List A5)(k:Nat){x:A5}(hx:l[k]? =some x):(l.take (k+1)).eraseIdx k=(l.take k).eraseIdx k:=by
 have hk:=(P6.1 hx).1;have hl:(l.take k).length=k:=by rw[QT];omega
 rw[AJ hx,List.eraseIdx_append_of_length_le om,hl,Nat.sub_self];show l.take k++[]=_;rw[List.append_nil,List.eraseIdx_of_length_le om]
theorem HO(l:List A5)(a k:Nat){x:A5}(hx:l[k]? =some x)(h:k≠a):(l.take (k+1)).eraseIdx a=(l.take k).eraseIdx a++[x]:=by
 have hk:=(P6.1 hx).1;rw[AJ hx];rcases PZ a k with hlt|hge
 .rw[List.eraseIdx_append_of_lt_length (by simp;omega)]
 .rw[List.eraseIdx_of_length_le (by simp;omega),List.eraseIdx_of_length_le (by simp;omega)]
theorem JM(l:List A5)(n:Int)  (hl:l.length<=1000)(hs:small l):
  Ox 31 [.d (AQ.d ⟨l,n⟩),.Oo (-1),.fn (.func 40) [] []] [] (.ag [.sl 4 (l).length 3,.Oo n]) [.gone,.gone,.gone,.c [.sl 4 (l).length 3,.Oo n],.a (A0 (l))]:=by
 refine zD AM Try.func31 ?_;refine wd AH [1] AA AA ?_;with_reducible repeat' first|constructor|intro hc
 refine Gp T.get 5 7 4 5 ⟨[(0,.d (AQ.d ⟨l,n⟩)),(1,.Oo (-1)),(2,.fn (.func 40) [] []),(3,.ptr 0 0 2),(4,.ptr 1 0 1),(5,.ptr 2 0 1),(6,.ptr 3 0 2),(7,.ptr 5 0 2)],[.c [.d (A0 l),.Oo n],.c [.Oo (-1)],.c [.fn (.func 40) [] []],.c [.e0,.Oo 0],.a (A0 []),.c [.sl 4 0 3,.Oo n]],35⟩ mixed rfl rfl rfl ?_ ?_ ?_
 .refine wd AH [] AA AA ?_ [(0,5),(1,5),(0,7),(1,7)];with_reducible repeat' first|constructor|intro hc
  exact⟨rfl,.inl rfl⟩
 .refine wd AH [] AA AA ?_ [(0,5),(1,5),(2,5),(3,5),(0,6),(1,6)];with_reducible repeat' first|constructor|intro hc
  exact⟨rfl,.inr rfl⟩
 have d1:=Ds.mk [] (CW l n);refine wd AH [] AA AA ?_;clear d1;with_reducible repeat' first|constructor|intro hc
 refine zG (K:=fun r _ H'=>H'=[.c [.d (A0 l),.Oo n],.c [.Oo (-1)],.c [.fn (.func 40) [] []],.c [.e0,.Oo 0],.a (A0 (l)),.c [.sl 4 (l).length 3,.Oo n],.c [.d (A0 l),.Oo n],.lp r]) ?_ ?_
 .intro r hr;refine zT AM Try.func43 ?_;refine wd AZ [] AA AA ?_;with_reducible repeat' first|constructor|intro hc
  have hk:=hr.ok (k:=7) rfl;refine Aq (fun k=>k<=l.length) (fun k:Nat=>⟨[(0,.yl 7),(1,.ptr 6 0 2),(6,.d (A0 l)),(7,.Oo l.length),(8,.Oo k)],[.c [.d (A0 l),.Oo n],.c [.Oo (-1)],.c [.fn (.func 40) [] []],.c [.e0,.Oo 0],.a (A0 (l.take (k))),.c [.sl 4 (l.take (k)).length 3,.Oo n],.c [.d (A0 l),.Oo n],.lp r],20⟩) (fun k=>l.length-k) 0 (Q7 _) ?_ (PL _) ?_
  .exact(have nC:=trivial;A6.co rfl)
  intro k hkk;have htl:(l.take (k)).length<=1000:=by exact QO (List.length_take_le _ _) om
  by_cases hkl:k<l.length
  .obtain⟨x,hx⟩:=Ac hkl;have hb:=Ab hs hx;have e1:((k:Int)!= -1)=true:=by rw[bne_iff_ne];omega
   have ix1:=hx;refine wd AZ [] AA (BC (Aw x hb)) ?_;clear ix1;with_reducible repeat' first|constructor|intro hc
   refine Xy (x:=.Oq true) (H':=[.c [.d (A0 l),.Oo n],.c [.Oo (-1)],.c [.fn (.func 40) [] []],.c [.e0,.Oo 0],.a (A0 (l.take (k+1))),.c [.sl 4 (l.take (k+1)).length 3,.Oo n],.c [.d (A0 l),.Oo n],.lp r,.c [.Oo x.to,.d (.by x.by_),.Oq x.harmed],.c [.Oo x.to,.d (.by x.by_),.Oq x.harmed]]) (CU hr rfl rfl rfl ?_) rfl rfl rfl rfl rfl ?_
   .refine wd AH [] AA AA ?_;with_reducible repeat' first|constructor|intro hc
    refine zR ?_;refine wd AH [] (BC e1) AA ?_;with_reducible repeat' first|constructor|intro hc
    refine⟨_,A6.refl _,Nat.le_succ _,rfl,rfl,?_⟩;simp only[AJ hx,A0,QD,Q5,Qd,A5.AX,Pm,Po,PX,Px,QZ,QY]
   .refine wd AZ [] AA AA ?_;with_reducible repeat' first|constructor|intro hc
    refine⟨k+1,hkl,om,PL _,?_⟩;exact(have nC:=(AJ hx);A6.cn rfl)
  .have e:k=l.length:=om
   subst e;refine wd AZ [] AA AA ?_;with_reducible repeat' first|constructor|intro hc
   refine⟨_,A6.refl _,PL _,_,_,rfl,rfl,?_⟩;simp only[Pz]
 .rintro r hr x H' rfl;refine .inl ⟨rfl,?_⟩;refine wd AH [] AA AA ?_;with_reducible repeat' first|constructor|intro hc
  exact⟨⟨[(6,.ptr 3 0 2)],[.gone,.gone,.gone,.c [.sl 4 (l).length 3,.Oo n],.a (A0 (l))],Try.f31.ntmps⟩,(A6.ck rfl),Ou,_,_,rfl,rfl,rfl,rfl⟩
theorem IQ(l:List A5)(n:Int)(a:Nat)(hl:l.length<=1000)(hs:small l):
  Ox 31 [.d (AQ.d ⟨l,n⟩),.Oo a,.fn (.func 35) [] []] [] (.ag [.sl 4 (l.eraseIdx a).length 3,.Oo n]) [.gone,.gone,.gone,.c [.sl 4 (l.eraseIdx a).length 3,.Oo n],.a (A0 (l.eraseIdx a))]:=by
 refine zD AM Try.func31 ?_;refine wd AH [1] AA AA ?_;with_reducible repeat' first|constructor|intro hc
 refine Gp T.get 5 7 4 5 ⟨[(0,.d (AQ.d ⟨l,n⟩)),(1,.Oo a),(2,.fn (.func 35) [] []),(3,.ptr 0 0 2),(4,.ptr 1 0 1),(5,.ptr 2 0 1),(6,.ptr 3 0 2),(7,.ptr 5 0 2)],[.c [.d (A0 l),.Oo n],.c [.Oo a],.c [.fn (.func 35) [] []],.c [.e0,.Oo 0],.a (A0 []),.c [.sl 4 0 3,.Oo n]],35⟩ mixed rfl rfl rfl ?_ ?_ ?_
 .refine wd AH [] AA AA ?_ [(0,5),(1,5),(0,7),(1,7)];with_reducible repeat' first|constructor|intro hc
  exact⟨rfl,.inl rfl⟩
 .refine wd AH [] AA AA ?_ [(0,5),(1,5),(2,5),(3,5),(0,6),(1,6)];with_reducible repeat' first|constructor|intro hc
  exact⟨rfl,.inr rfl⟩
 have d1:=Ds.mk [] (CW l n);refine wd AH [] AA AA ?_;clear d1;with_reducible repeat' first|constructor|intro hc
 refine zG (K:=fun r _ H'=>H'=[.c [.d (A0 l),.Oo n],.c [.Oo a],.c [.fn (.func 35) [] []],.c [.e0,.Oo 0],.a (A0 (l.eraseIdx a)),.c [.sl 4 (l.eraseIdx a).length 3,.Oo n],.c [.d (A0 l),.Oo n],.lp r]) ?_ ?_
 .intro r hr;refine zT AM Try.func43 ?_;refine wd AZ [] AA AA ?_;with_reducible repeat' first|constructor|intro hc
  have hk:=hr.ok (k:=7) rfl;refine Aq (fun k=>k<=l.length) (fun k:Nat=>⟨[(0,.yl 7),(1,.ptr 6 0 2),(6,.d (A0 l)),(7,.Oo l.length),(8,.Oo k)],[.c [.d (A0 l),.Oo n],.c [.Oo a],.c [.fn (.func 35) [] []],.c [.e0,.Oo 0],.a (A0 ((l.take (k)).eraseIdx a)),.c [.sl 4 ((l.take (k)).eraseIdx a).length 3,.Oo n],.c [.d (A0 l),.Oo n],.lp r],20⟩) (fun k=>l.length-k) 0 (Q7 _) ?_ (PL _) ?_
  .exact(have nC:=trivial;A6.co rfl)
  intro k hkk;have htl:((l.take (k)).eraseIdx a).length<=1000:=by exact QO (List.length_eraseIdx_le ..) (QO (List.length_take_le _ _) om)
  by_cases hkl:k<l.length
  .obtain⟨x,hx⟩:=Ac hkl;have hb:=Ab hs hx
   by_cases hka:k=a
   .subst hka;have e1:((k:Int)!=(k:Int))=false:=bne_self_eq_false' _;have ix1:=hx;refine wd AZ [] AA (BC (Aw x hb)) ?_;clear ix1;with_reducible repeat' first|constructor|intro hc
    refine Xy (x:=.Oq true) (H':=[.c [.d (A0 l),.Oo n],.c [.Oo k],.c [.fn (.func 35) [] []],.c [.e0,.Oo 0],.a (A0 ((l.take (k+1)).eraseIdx k)),.c [.sl 4 ((l.take (k+1)).eraseIdx k).length 3,.Oo n],.c [.d (A0 l),.Oo n],.lp r,.c [.Oo x.to,.d (.by x.by_),.Oq x.harmed],.c [.Oo x.to,.d (.by x.by_),.Oq x.harmed]]) (CU hr rfl rfl rfl ?_) rfl rfl rfl rfl rfl ?_
    .refine wd AH [] AA AA ?_;with_reducible repeat' first|constructor|intro hc
     refine zR ?_;have nS:=e1
     repeat'(first|((with_reducible refine sg ?_);first|with_reducible rfl|((with_reducible refine Ix ?_);first|kernel_rfl|rfl|(simp[C3,DY,nS];done))|with_reducible refine Ie ?_ ?_|with_reducible exact Nat.beq_refl _|with_reducible exact Bv _|((with_reducible refine Pq ?_);first|omega|(simp only[GD,nS];omega))|decide|(simp[GD,slc,BH,D.one,Bs,AV.one,nS];done)|(simp[GD,nS];omega))|((with_reducible refine O2 ?_);first|(refine D5 rfl ?_;refine Nz AM rfl rfl rfl rfl ?_)|refine Xq AM rfl rfl rfl rfl ?_ ?_|refine Xn [0,1,2,3,4,5,6,7,8,9,18,19,20,27] rfl ?_|refine XD [9] (Ho [.Oo x.to,.d (.by x.by_),.Oq x.harmed]) rfl rfl rfl ⟨rfl,trivial⟩ rfl rfl rfl rfl ?_|refine Xa AM rfl rfl rfl rfl rfl ?_ ?_|refine Xw AM rfl rfl rfl rfl ?_ ?_|refine Xs rfl rfl rfl ?_|(refine FH rfl rfl (fun hc=> ?_) (fun hc=> ?_)<;>(fail_if_success (with_reducible first|exact tF hc|exact fT hc))<;>(try simp only[GC]at hc)<;>(try(exfalso;omega))))|((with_reducible refine Oh ?_);first|(refine Es rfl ?_;refine Og AM rfl rfl (fun _=>rfl) rfl rfl ?_)|refine Yp AM rfl rfl (fun _=>rfl) rfl rfl ?_ ?_|refine Yq rfl rfl rfl rfl rfl ?_ ?_|refine Ys rfl rfl rfl rfl ?_|refine YD [9] (Ho [.Oo x.to,.d (.by x.by_),.Oq x.harmed]) rfl rfl rfl rfl ⟨rfl,trivial⟩ rfl rfl rfl rfl ?_|refine Ya AM rfl rfl rfl rfl rfl rfl ?_ ?_|refine Yw AM rfl rfl rfl rfl rfl ?_ ?_|refine Yn [0,1,2,3,4,5,6,7,8,9,18,19,20,27] [] mixed AM (by kernel_rfl) QN rfl ?_|(refine Gs rfl rfl (fun hc=> ?_) (fun hc=> ?_)<;>(fail_if_success (with_reducible first|exact tF hc|exact fT hc))<;>(try simp only[GC]at hc)<;>(try(exfalso;omega))))|refine FD ?_|refine Cl ?_|refine L0 T.get ?_|refine DW ?_|refine FC ?_|refine CS ?_|refine DU ?_|refine Bq rfl ?_|refine Bp rfl ?_|(refine Ck rfl (fun hc=> ?_) (fun hc=> ?_)<;>(try simp only[GC]at hc)<;>(try(exfalso;omega))))
     refine⟨_,A6.refl _,Nat.le_succ _,rfl,rfl,?_⟩;simp only[HN l k hx,A0,QD,Q5,Qd,A5.AX,Pm,Po,PX,Px,QZ,QY]
    .refine wd AZ [] AA AA ?_;with_reducible repeat' first|constructor|intro hc
     refine⟨k+1,hkl,om,PL _,?_⟩;exact(have nC:=(HN l k hx);A6.cn rfl)
   .have e1:((k:Int)!=(a:Int))=true:=by rw[bne_iff_ne];omega
    have ix1:=hx;refine wd AZ [] AA (BC (Aw x hb)) ?_;clear ix1;with_reducible repeat' first|constructor|intro hc
    refine Xy (x:=.Oq true) (H':=[.c [.d (A0 l),.Oo n],.c [.Oo a],.c [.fn (.func 35) [] []],.c [.e0,.Oo 0],.a (A0 ((l.take (k+1)).eraseIdx a)),.c [.sl 4 ((l.take (k+1)).eraseIdx a).length 3,.Oo n],.c [.d (A0 l),.Oo n],.lp r,.c [.Oo x.to,.d (.by x.by_),.Oq x.harmed],.c [.Oo x.to,.d (.by x.by_),.Oq x.harmed]]) (CU hr rfl rfl rfl ?_) rfl rfl rfl rfl rfl ?_
    .refine wd AH [] AA AA ?_;with_reducible repeat' first|constructor|intro hc
     refine zR ?_;refine wd AH [] (BC e1) AA ?_;with_reducible repeat' first|constructor|intro hc
     refine⟨_,A6.refl _,Nat.le_succ _,rfl,rfl,?_⟩;simp only[HO l a k hx hka,A0,QD,Q5,Qd,A5.AX,Pm,Po,PX,Px,QZ,QY]
    .refine wd AZ [] AA AA ?_;with_reducible repeat' first|constructor|intro hc
     refine⟨k+1,hkl,om,PL _,?_⟩;exact(have nC:=(HO l a k hx hka);A6.cn rfl)
  .have e:k=l.length:=om
   subst e;refine wd AZ [] AA AA ?_;with_reducible repeat' first|constructor|intro hc
   refine⟨_,A6.refl _,PL _,_,_,rfl,rfl,?_⟩;simp only[Pz]
 .rintro r hr x H' rfl;refine .inl ⟨rfl,?_⟩;refine wd AH [] AA AA ?_;with_reducible repeat' first|constructor|intro hc
  exact⟨⟨[(6,.ptr 3 0 2)],[.gone,.gone,.gone,.c [.sl 4 (l.eraseIdx a).length 3,.Oo n],.a (A0 (l.eraseIdx a))],Try.f31.ntmps⟩,(A6.ck rfl),Ou,_,_,rfl,rfl,rfl,rfl⟩
theorem IR(l:List A5)(n:Int)(a:Nat)(g:A5)(hg:l[a]? =some g)(hl:l.length<=1000)(hs:small l):
  Ox 31 [.d (AQ.d ⟨l,n⟩),.Oo a,.fn (.func 32) [] [.ptr 0 0 3]] [.c [.Oo 0,.e0,.Oq false]] (.ag [.sl 5 (l.eraseIdx a).length 3,.Oo n]) [.c [.Oo g.to,.d (.by g.by_),.Oq g.harmed],.gone,.gone,.gone,.c [.sl 5 (l.eraseIdx a).length 3,.Oo n],.a (A0 (l.eraseIdx a))]:=by
 refine zD AM Try.func31 ?_;refine wd AH [1] AA AA ?_;with_reducible repeat' first|constructor|intro hc
 refine Gp T.get 5 7 5 6 ⟨[(0,.d (AQ.d ⟨l,n⟩)),(1,.Oo a),(2,.fn (.func 32) [] [.ptr 0 0 3]),(3,.ptr 1 0 2),(4,.ptr 2 0 1),(5,.ptr 3 0 1),(6,.ptr 4 0 2),(7,.ptr 6 0 2)],[.c [.Oo 0,.e0,.Oq false],.c [.d (A0 l),.Oo n],.c [.Oo a],.c [.fn (.func 32) [] [.ptr 0 0 3]],.c [.e0,.Oo 0],.a (A0 []),.c [.sl 5 0 3,.Oo n]],35⟩ mixed rfl rfl rfl ?_ ?_ ?_
 .refine wd AH [] AA AA ?_ [(0,5),(1,5),(0,7),(1,7)];with_reducible repeat' first|constructor|intro hc
  exact⟨rfl,.inl rfl⟩
 .refine wd AH [] AA AA ?_ [(0,5),(1,5),(2,5),(3,5),(0,6),(1,6)];with_reducible repeat' first|constructor|intro hc
  exact⟨rfl,.inr rfl⟩
 have d1:=Ds.mk [] (CW l n);refine wd AH [] AA AA ?_;clear d1;with_reducible repeat' first|constructor|intro hc
 refine zG (K:=fun r _ H'=>H'=[.c [.Oo g.to,.d (.by g.by_),.Oq g.harmed],.c [.d (A0 l),.Oo n],.c [.Oo a],.c [.fn (.func 32) [] [.ptr 0 0 3]],.c [.e0,.Oo 0],.a (A0 (l.eraseIdx a)),.c [.sl 5 (l.eraseIdx a).length 3,.Oo n],.c [.d (A0 l),.Oo n],.lp r]) ?_ ?_
 .intro r hr;refine zT AM Try.func43 ?_;refine wd AZ [] AA AA ?_;with_reducible repeat' first|constructor|intro hc
  have hk:=PV (hr.ok (k:=8) rfl) (fun m k=>Nu g a k m);refine Aq (fun k=>k<=l.length) (fun k:Nat=>⟨[(0,.yl 8),(1,.ptr 7 0 2),(6,.d (A0 l)),(7,.Oo l.length),(8,.Oo k)],[.c (tkc g a (k)),.c [.d (A0 l),.Oo n],.c [.Oo a],.c [.fn (.func 32) [] [.ptr 0 0 3]],.c [.e0,.Oo 0],.a (A0 ((l.take (k)).eraseIdx a)),.c [.sl 5 ((l.take (k)).eraseIdx a).length 3,.Oo n],.c [.d (A0 l),.Oo n],.lp r],20⟩) (fun k=>l.length-k) 0 (Q7 _) ?_ (PL _) ?_
  .exact(have nC:=(MH g (Nat.not_lt_zero a));A6.co rfl)
  intro k hkk;have htl:((l.take (k)).eraseIdx a).length<=1000:=by exact QO (List.length_eraseIdx_le ..) (QO (List.length_take_le _ _) om)
  by_cases hkl:k<l.length
  .obtain⟨x,hx⟩:=Ac hkl;have hb:=Ab hs hx
   by_cases hka:k=a
   .subst hka;rw[hg]at hx;cases hx;have e1:((k:Int)!=(k:Int))=false:=bne_self_eq_false' _;rw[MH g (Nat.lt_irrefl k)];have ix1:=hg;refine wd AZ [] AA (BC (Aw g hb)) ?_;clear ix1;with_reducible repeat' first|constructor|intro hc
    refine Xy (x:=.Oq true) (H':=[.c [.Oo g.to,.d (.by g.by_),.Oq g.harmed],.c [.d (A0 l),.Oo n],.c [.Oo k],.c [.fn (.func 32) [] [.ptr 0 0 3]],.c [.e0,.Oo 0],.a (A0 ((l.take (k+1)).eraseIdx k)),.c [.sl 5 ((l.take (k+1)).eraseIdx k).length 3,.Oo n],.c [.d (A0 l),.Oo n],.lp r,.c [.Oo g.to,.d (.by g.by_),.Oq g.harmed],.c [.Oo g.to,.d (.by g.by_),.Oq g.harmed]]) (CU hr rfl rfl rfl ?_) rfl rfl rfl rfl rfl ?_
    .refine wd AH [] AA AA ?_;with_reducible repeat' first|constructor|intro hc
     refine zR ?_;have d1:=Ds.mk [10,0] (MF g.to g.by_ g.harmed);refine wd AH [] (BC e1) AA ?_;clear d1;with_reducible repeat' first|constructor|intro hc
     refine⟨_,A6.refl _,Nat.le_succ _,rfl,rfl,?_⟩;simp only[HN l k hg,A0,QD,Q5,Qd,A5.AX,Pm,Po,PX,Px,QZ,QY]
    .refine wd AZ [] AA AA ?_;with_reducible repeat' first|constructor|intro hc
     refine⟨k+1,hkl,om,PL _,?_⟩;exact(have nC:=PV (HN l k hg) (MG g (Nat.lt_succ_self k));A6.cn rfl)
   .have e1:((k:Int)!=(a:Int))=true:=by rw[bne_iff_ne];omega
    have ix1:=hx;refine wd AZ [] AA (BC (Aw x hb)) ?_;clear ix1;with_reducible repeat' first|constructor|intro hc
    refine Xy (x:=.Oq true) (H':=[.c (tkc g a k),.c [.d (A0 l),.Oo n],.c [.Oo a],.c [.fn (.func 32) [] [.ptr 0 0 3]],.c [.e0,.Oo 0],.a (A0 ((l.take (k+1)).eraseIdx a)),.c [.sl 5 ((l.take (k+1)).eraseIdx a).length 3,.Oo n],.c [.d (A0 l),.Oo n],.lp r,.c [.Oo x.to,.d (.by x.by_),.Oq x.harmed],.c [.Oo x.to,.d (.by x.by_),.Oq x.harmed]]) (CU hr rfl rfl rfl ?_) rfl rfl rfl rfl rfl ?_
    .refine wd AH [] AA AA ?_;with_reducible repeat' first|constructor|intro hc
     refine zR ?_;refine wd AH [] (BC e1) AA ?_;with_reducible repeat' first|constructor|intro hc
     refine⟨_,A6.refl _,Nat.le_succ _,rfl,rfl,?_⟩;simp only[HO l a k hx hka,A0,QD,Q5,Qd,A5.AX,Pm,Po,PX,Px,QZ,QY]
    .refine wd AZ [] AA AA ?_;with_reducible repeat' first|constructor|intro hc
     refine⟨k+1,hkl,om,PL _,?_⟩;exact(have nC:=PV (HO l a k hx hka) (Nt g hka);A6.cn rfl)
  .have e:k=l.length:=om
   subst e;refine wd AZ [] AA AA ?_;with_reducible repeat' first|constructor|intro hc
   refine⟨_,A6.refl _,PL _,_,_,rfl,rfl,?_⟩;simp only[Pz,MG g (P6.1 hg).1]
 .rintro r hr x H' rfl;refine .inl ⟨rfl,?_⟩;refine wd AH [] AA AA ?_;with_reducible repeat' first|constructor|intro hc
  exact⟨⟨[(6,.ptr 4 0 2)],[.c [.Oo g.to,.d (.by g.by_),.Oq g.harmed],.gone,.gone,.gone,.c [.sl 5 (l.eraseIdx a).length 3,.Oo n],.a (A0 (l.eraseIdx a))],Try.f31.ntmps⟩,(A6.ck rfl),Ou,_,_,rfl,rfl,rfl,rfl⟩
end Go.Proofs.Ytklaicomfolefaa
