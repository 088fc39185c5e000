/- Part 11 of a proof. Conditions: those that its theorems state. -/
import Derived.Test.YtmlaifbbpdanmaaV10
set_option linter.unusedSimpArgs false
set_option linter.unusedVariables false
set_option maxHeartbeats 40000000
set_option maxRecDepth 4000
namespace Go.Proofs.Ytmlaifbbpdanmaa
open Go.Gar
abbrev AR:QQ:=[0,1,2,3,4,5,6,7,8,9,18,19,20,27]
abbrev Ar:QQ:=[0,1,3,4,6,7,8,9,18]
theorem BQ(l:List AF)(n:Int):QL 30 [.d (Av.d ⟨l,n⟩)] [] (.fn (.func 31) [] [.ptr 0 0 2]) [.c [.d (A1 l),.QF n]]:=by
 refine zD A7 Try.func30 ?_;refine AC [0,1,2] ?_;with_reducible repeat' first|constructor|intro hc
 exact wE
theorem IU(cs:R8):QL 22 [.ptr 0 0 3] [.c cs] (.QG false) [.c cs]:=by
 refine zD A7 Try.func22 ?_;refine AC [2] ?_;with_reducible repeat' first|constructor|intro hc
 exact⟨_,A3.refl _,Qn _,_,_,rfl,rfl,rfl,rfl⟩
theorem NJ(t:Int)(y:A5)(h:Bool):QL 21 [.ptr 0 0 3,.ptr 1 0 3] [.c [.QF t,.d (.by y),.QG h],.c [.QF 0,.e0,.QG false]] (.QG false) [.c [.QF t,.d (.by y),.QG h],.c [.QF t,.d (.by y),.QG h]]:=by
 refine zD A7 Try.func21 ?_;refine AC [0,1,3] ?_;with_reducible repeat' first|constructor|intro hc
 exact wE
def tkc(g:AF)(a k:Nat):R8:=if a<k then[.QF g.to,.d (.by g.by_),.QG g.harmed]else[.QF 0,.e0,.QG false]
theorem PD(g:AF)(a k m:Nat):AV.oks m (tkc g a k)=true:=by
 unfold tkc;split<;>rfl
variable {a k:Nat}
theorem NM(g:AF)(h:¬a<k):tkc g a k=[.QF 0,.e0,.QG false]:=Rw h
theorem NL(g:AF)(h:a<k):tkc g a k=[.QF g.to,.d (.by g.by_),.QG g.harmed]:=Rf h
theorem PC(g:AF)(h:k≠a):tkc g a (k+1)=tkc g a k:=by
 unfold tkc
 by_cases h1:a<k
 .rw[Rf h1,Rf om]
 .rw[Rw h1,Rw om]
theorem I5(l:List AF)(k:Nat){x:AF}(hx:l[k]? =some x):(l.take (k+1)).eraseIdx k=(l.take k).eraseIdx k:=by
 have hk:=(Qh.1 hx).1;have hl:(l.take k).length=k:=by rw[List.length_take];omega
 rw[Al hx,List.eraseIdx_append_of_length_le om,hl,Nat.sub_self];show l.take k++[]=_;rw[List.append_nil,List.eraseIdx_of_length_le om]
theorem I6(l:List AF)(a k:Nat){x:AF}(hx:l[k]? =some x)(h:k≠a):(l.take (k+1)).eraseIdx a=(l.take k).eraseIdx a++[x]:=by
 have hk:=(Qh.1 hx).1;rw[Al hx];rcases RJ a k with hlt|hge
 .rw[List.eraseIdx_append_of_lt_length (by simp;omega)]
 .rw[List.eraseIdx_of_length_le (by simp;omega),List.eraseIdx_of_length_le (by simp;omega)]
theorem K5(l:List AF)(n:Int)  (hl:l.length<=1000)(hs:small l):
  QL 20 [.d (Av.d ⟨l,n⟩),.QF (-1),.fn (.func 24) [] []] [] (.ag [.sl 4 (l).length 3,.QF n]) [.gone,.gone,.gone,.c [.sl 4 (l).length 3,.QF n],.a (A1 (l))]:=by
 refine zD A7 Try.func20 ?_;refine AC AR ?_ [] [1];with_reducible repeat' first|constructor|intro hc
 refine Dj T.get 5 7 4 5 ⟨[(0,.d (Av.d ⟨l,n⟩)),(1,.QF (-1)),(2,.fn (.func 24) [] []),(3,.ptr 0 0 2),(4,.ptr 1 0 1),(5,.ptr 2 0 1),(6,.ptr 3 0 2),(7,.ptr 5 0 2)],[.c [.d (A1 l),.QF n],.c [.QF (-1)],.c [.fn (.func 24) [] []],.c [.e0,.QF 0],.a (A1 []),.c [.sl 4 0 3,.QF n]],35⟩ mixed rfl rfl rfl ?_ ?_ ?_
 .refine AC AR ?_ [(0,5),(1,5),(0,7),(1,7)];with_reducible repeat' first|constructor|intro hc
  exact⟨rfl,.inl rfl⟩
 .refine AC AR ?_ [(0,5),(1,5),(2,5),(3,5),(0,6),(1,6)];with_reducible repeat' first|constructor|intro hc
  exact⟨rfl,.inr rfl⟩
 refine Fi AR ?_ (HY [] (BQ l n));with_reducible repeat' first|constructor|intro hc
 refine zG (K:=fun r _ H'=>H'=[.c [.d (A1 l),.QF n],.c [.QF (-1)],.c [.fn (.func 24) [] []],.c [.e0,.QF 0],.a (A1 (l)),.c [.sl 4 (l).length 3,.QF n],.c [.d (A1 l),.QF n],.lp r]) ?_ ?_
 .intro r hr;refine zT A7 Try.func31 ?_;refine AC Ar ?_;with_reducible repeat' first|constructor|intro hc
  have hk:=hr.ok (k:=7) rfl;refine AT (fun k=>k<=l.length) (fun k:Nat=>⟨[(0,.yl 7),(1,.ptr 6 0 2),(6,.d (A1 l)),(7,.QF l.length),(8,.QF k)],[.c [.d (A1 l),.QF n],.c [.QF (-1)],.c [.fn (.func 24) [] []],.c [.e0,.QF 0],.a (A1 (l.take (k))),.c [.sl 4 (l.take (k)).length 3,.QF n],.c [.d (A1 l),.QF n],.lp r],20⟩) (fun k=>l.length-k) 0 (RN _) ?_ (Qn _) ?_
  .exact(have nC:=trivial;A3.co rfl)
  intro k hkk;have htl:(l.take (k)).length<=1000:=by exact SC (List.length_take_le _ _) om
  by_cases hkl:k<l.length
  .obtain⟨x,hx⟩:=B1 hkl;have hb:=Ay hs hx;have e1:((k:Int)!= -1)=true:=by rw[bne_iff_ne];omega
   have ix1:=hx;refine Ex Ar ?_ (C0 (BU x hb));clear ix1;with_reducible repeat' first|constructor|intro hc
   refine Xy (x:=.QG true) (H':=[.c [.d (A1 l),.QF n],.c [.QF (-1)],.c [.fn (.func 24) [] []],.c [.e0,.QF 0],.a (A1 (l.take (k+1))),.c [.sl 4 (l.take (k+1)).length 3,.QF n],.c [.d (A1 l),.QF n],.lp r,.c [.QF x.to,.d (.by x.by_),.QG x.harmed],.c [.QF x.to,.d (.by x.by_),.QG x.harmed]]) (BN hr rfl rfl rfl ?_) rfl rfl rfl rfl rfl ?_
   .refine AC AR ?_;with_reducible repeat' first|constructor|intro hc
    refine zR ?_;refine B6 AR ?_ (C0 e1);with_reducible repeat' first|constructor|intro hc
    refine⟨_,A3.refl _,Sv _,rfl,rfl,?_⟩;simp only[Al hx,A1,Sl,Ru,TJ,AF.C1,RH,Rh,Qz,RY,Rj,Rt]
   .refine AC Ar ?_;with_reducible repeat' first|constructor|intro hc
    refine⟨k+1,hkl,om,Qn _,?_⟩;exact(have nC:=(Al hx);A3.cn rfl)
  .have e:k=l.length:=om
   subst e;refine AC Ar ?_;with_reducible repeat' first|constructor|intro hc
   refine⟨_,A3.refl _,Qn _,_,_,rfl,rfl,?_⟩;simp only[SK]
 .rintro r hr x H' rfl;refine .inl ⟨rfl,?_⟩;refine AC AR ?_;with_reducible repeat' first|constructor|intro hc
  exact wE
theorem J5(l:List AF)(n:Int)(a:Nat)(hl:l.length<=1000)(hs:small l):
  QL 20 [.d (Av.d ⟨l,n⟩),.QF a,.fn (.func 22) [] []] [] (.ag [.sl 4 (l.eraseIdx a).length 3,.QF n]) [.gone,.gone,.gone,.c [.sl 4 (l.eraseIdx a).length 3,.QF n],.a (A1 (l.eraseIdx a))]:=by
 refine zD A7 Try.func20 ?_;refine AC AR ?_ [] [1];with_reducible repeat' first|constructor|intro hc
 refine Dj T.get 5 7 4 5 ⟨[(0,.d (Av.d ⟨l,n⟩)),(1,.QF a),(2,.fn (.func 22) [] []),(3,.ptr 0 0 2),(4,.ptr 1 0 1),(5,.ptr 2 0 1),(6,.ptr 3 0 2),(7,.ptr 5 0 2)],[.c [.d (A1 l),.QF n],.c [.QF a],.c [.fn (.func 22) [] []],.c [.e0,.QF 0],.a (A1 []),.c [.sl 4 0 3,.QF n]],35⟩ mixed rfl rfl rfl ?_ ?_ ?_
 .refine AC AR ?_ [(0,5),(1,5),(0,7),(1,7)];with_reducible repeat' first|constructor|intro hc
  exact⟨rfl,.inl rfl⟩
 .refine AC AR ?_ [(0,5),(1,5),(2,5),(3,5),(0,6),(1,6)];with_reducible repeat' first|constructor|intro hc
  exact⟨rfl,.inr rfl⟩
 refine Fi AR ?_ (HY [] (BQ l n));with_reducible repeat' first|constructor|intro hc
 refine zG (K:=fun r _ H'=>H'=[.c [.d (A1 l),.QF n],.c [.QF a],.c [.fn (.func 22) [] []],.c [.e0,.QF 0],.a (A1 (l.eraseIdx a)),.c [.sl 4 (l.eraseIdx a).length 3,.QF n],.c [.d (A1 l),.QF n],.lp r]) ?_ ?_
 .intro r hr;refine zT A7 Try.func31 ?_;refine AC Ar ?_;with_reducible repeat' first|constructor|intro hc
  have hk:=hr.ok (k:=7) rfl;refine AT (fun k=>k<=l.length) (fun k:Nat=>⟨[(0,.yl 7),(1,.ptr 6 0 2),(6,.d (A1 l)),(7,.QF l.length),(8,.QF k)],[.c [.d (A1 l),.QF n],.c [.QF a],.c [.fn (.func 22) [] []],.c [.e0,.QF 0],.a (A1 ((l.take (k)).eraseIdx a)),.c [.sl 4 ((l.take (k)).eraseIdx a).length 3,.QF n],.c [.d (A1 l),.QF n],.lp r],20⟩) (fun k=>l.length-k) 0 (RN _) ?_ (Qn _) ?_
  .exact(have nC:=trivial;A3.co rfl)
  intro k hkk;have htl:((l.take (k)).eraseIdx a).length<=1000:=by exact SC (List.length_eraseIdx_le ..) (SC (List.length_take_le _ _) om)
  by_cases hkl:k<l.length
  .obtain⟨x,hx⟩:=B1 hkl;have hb:=Ay hs hx
   by_cases hka:k=a
   .subst hka;have e1:((k:Int)!=(k:Int))=false:=bne_self_eq_false' _;have ix1:=hx;refine Ex Ar ?_ (C0 (BU x hb));clear ix1;with_reducible repeat' first|constructor|intro hc
    refine Xy (x:=.QG true) (H':=[.c [.d (A1 l),.QF n],.c [.QF k],.c [.fn (.func 22) [] []],.c [.e0,.QF 0],.a (A1 ((l.take (k+1)).eraseIdx k)),.c [.sl 4 ((l.take (k+1)).eraseIdx k).length 3,.QF n],.c [.d (A1 l),.QF n],.lp r,.c [.QF x.to,.d (.by x.by_),.QG x.harmed],.c [.QF x.to,.d (.by x.by_),.QG x.harmed]]) (BN hr rfl rfl rfl ?_) rfl rfl rfl rfl rfl ?_
    .refine AC AR ?_;with_reducible repeat' first|constructor|intro hc
     refine zR ?_;refine HX AR ?_ (C0 e1) (HY [9] (IU [.QF x.to,.d (.by x.by_),.QG x.harmed]));with_reducible repeat' first|constructor|intro hc
     refine⟨_,A3.refl _,Sv _,rfl,rfl,?_⟩;simp only[I5 l k hx,A1,Sl,Ru,TJ,AF.C1,RH,Rh,Qz,RY,Rj,Rt]
    .refine AC Ar ?_;with_reducible repeat' first|constructor|intro hc
     refine⟨k+1,hkl,om,Qn _,?_⟩;exact(have nC:=(I5 l k hx);A3.cn rfl)
   .have e1:((k:Int)!=(a:Int))=true:=by rw[bne_iff_ne];omega
    have ix1:=hx;refine Ex Ar ?_ (C0 (BU x hb));clear ix1;with_reducible repeat' first|constructor|intro hc
    refine Xy (x:=.QG true) (H':=[.c [.d (A1 l),.QF n],.c [.QF a],.c [.fn (.func 22) [] []],.c [.e0,.QF 0],.a (A1 ((l.take (k+1)).eraseIdx a)),.c [.sl 4 ((l.take (k+1)).eraseIdx a).length 3,.QF n],.c [.d (A1 l),.QF n],.lp r,.c [.QF x.to,.d (.by x.by_),.QG x.harmed],.c [.QF x.to,.d (.by x.by_),.QG x.harmed]]) (BN hr rfl rfl rfl ?_) rfl rfl rfl rfl rfl ?_
    .refine AC AR ?_;with_reducible repeat' first|constructor|intro hc
     refine zR ?_;refine B6 AR ?_ (C0 e1);with_reducible repeat' first|constructor|intro hc
     refine⟨_,A3.refl _,Sv _,rfl,rfl,?_⟩;simp only[I6 l a k hx hka,A1,Sl,Ru,TJ,AF.C1,RH,Rh,Qz,RY,Rj,Rt]
    .refine AC Ar ?_;with_reducible repeat' first|constructor|intro hc
     refine⟨k+1,hkl,om,Qn _,?_⟩;exact(have nC:=(I6 l a k hx hka);A3.cn rfl)
  .have e:k=l.length:=om
   subst e;refine AC Ar ?_;with_reducible repeat' first|constructor|intro hc
   refine⟨_,A3.refl _,Qn _,_,_,rfl,rfl,?_⟩;simp only[SK]
 .rintro r hr x H' rfl;refine .inl ⟨rfl,?_⟩;refine AC AR ?_;with_reducible repeat' first|constructor|intro hc
  exact wE
theorem J7(l:List AF)(n:Int)(a:Nat)(g:AF)(hg:l[a]? =some g)(hl:l.length<=1000)(hs:small l):
  QL 20 [.d (Av.d ⟨l,n⟩),.QF a,.fn (.func 21) [] [.ptr 0 0 3]] [.c [.QF 0,.e0,.QG false]] (.ag [.sl 5 (l.eraseIdx a).length 3,.QF n]) [.c [.QF g.to,.d (.by g.by_),.QG g.harmed],.gone,.gone,.gone,.c [.sl 5 (l.eraseIdx a).length 3,.QF n],.a (A1 (l.eraseIdx a))]:=by
 refine zD A7 Try.func20 ?_;refine AC AR ?_ [] [1];with_reducible repeat' first|constructor|intro hc
 refine Dj T.get 5 7 5 6 ⟨[(0,.d (Av.d ⟨l,n⟩)),(1,.QF a),(2,.fn (.func 21) [] [.ptr 0 0 3]),(3,.ptr 1 0 2),(4,.ptr 2 0 1),(5,.ptr 3 0 1),(6,.ptr 4 0 2),(7,.ptr 6 0 2)],[.c [.QF 0,.e0,.QG false],.c [.d (A1 l),.QF n],.c [.QF a],.c [.fn (.func 21) [] [.ptr 0 0 3]],.c [.e0,.QF 0],.a (A1 []),.c [.sl 5 0 3,.QF n]],35⟩ mixed rfl rfl rfl ?_ ?_ ?_
 .refine AC AR ?_ [(0,5),(1,5),(0,7),(1,7)];with_reducible repeat' first|constructor|intro hc
  exact⟨rfl,.inl rfl⟩
 .refine AC AR ?_ [(0,5),(1,5),(2,5),(3,5),(0,6),(1,6)];with_reducible repeat' first|constructor|intro hc
  exact⟨rfl,.inr rfl⟩
 refine Fi AR ?_ (HY [] (BQ l n));with_reducible repeat' first|constructor|intro hc
 refine zG (K:=fun r _ H'=>H'=[.c [.QF g.to,.d (.by g.by_),.QG g.harmed],.c [.d (A1 l),.QF n],.c [.QF a],.c [.fn (.func 21) [] [.ptr 0 0 3]],.c [.e0,.QF 0],.a (A1 (l.eraseIdx a)),.c [.sl 5 (l.eraseIdx a).length 3,.QF n],.c [.d (A1 l),.QF n],.lp r]) ?_ ?_
 .intro r hr;refine zT A7 Try.func31 ?_;refine AC Ar ?_;with_reducible repeat' first|constructor|intro hc
  have hk:=RI (hr.ok (k:=8) rfl) (fun m k=>PD g a k m);refine AT (fun k=>k<=l.length) (fun k:Nat=>⟨[(0,.yl 8),(1,.ptr 7 0 2),(6,.d (A1 l)),(7,.QF l.length),(8,.QF k)],[.c (tkc g a (k)),.c [.d (A1 l),.QF n],.c [.QF a],.c [.fn (.func 21) [] [.ptr 0 0 3]],.c [.e0,.QF 0],.a (A1 ((l.take (k)).eraseIdx a)),.c [.sl 5 ((l.take (k)).eraseIdx a).length 3,.QF n],.c [.d (A1 l),.QF n],.lp r],20⟩) (fun k=>l.length-k) 0 (RN _) ?_ (Qn _) ?_
  .exact(have nC:=(NM g (Nat.not_lt_zero a));A3.co rfl)
  intro k hkk;have htl:((l.take (k)).eraseIdx a).length<=1000:=by exact SC (List.length_eraseIdx_le ..) (SC (List.length_take_le _ _) om)
  by_cases hkl:k<l.length
  .obtain⟨x,hx⟩:=B1 hkl;have hb:=Ay hs hx
   by_cases hka:k=a
   .subst hka;rw[hg]at hx;cases hx;have e1:((k:Int)!=(k:Int))=false:=bne_self_eq_false' _;rw[NM g (Nat.lt_irrefl k)];have ix1:=hg;refine Ex Ar ?_ (C0 (BU g hb));clear ix1;with_reducible repeat' first|constructor|intro hc
    refine Xy (x:=.QG true) (H':=[.c [.QF g.to,.d (.by g.by_),.QG g.harmed],.c [.d (A1 l),.QF n],.c [.QF k],.c [.fn (.func 21) [] [.ptr 0 0 3]],.c [.e0,.QF 0],.a (A1 ((l.take (k+1)).eraseIdx k)),.c [.sl 5 ((l.take (k+1)).eraseIdx k).length 3,.QF n],.c [.d (A1 l),.QF n],.lp r,.c [.QF g.to,.d (.by g.by_),.QG g.harmed],.c [.QF g.to,.d (.by g.by_),.QG g.harmed]]) (BN hr rfl rfl rfl ?_) rfl rfl rfl rfl rfl ?_
    .refine AC AR ?_;with_reducible repeat' first|constructor|intro hc
     refine zR ?_;refine HX AR ?_ (C0 e1) (HY [10,0] (NJ g.to g.by_ g.harmed));with_reducible repeat' first|constructor|intro hc
     refine⟨_,A3.refl _,Sv _,rfl,rfl,?_⟩;simp only[I5 l k hg,A1,Sl,Ru,TJ,AF.C1,RH,Rh,Qz,RY,Rj,Rt]
    .refine AC Ar ?_;with_reducible repeat' first|constructor|intro hc
     refine⟨k+1,hkl,om,Qn _,?_⟩;exact(have nC:=RI (I5 l k hg) (NL g (Nat.lt_succ_self k));A3.cn rfl)
   .have e1:((k:Int)!=(a:Int))=true:=by rw[bne_iff_ne];omega
    have ix1:=hx;refine Ex Ar ?_ (C0 (BU x hb));clear ix1;with_reducible repeat' first|constructor|intro hc
    refine Xy (x:=.QG true) (H':=[.c (tkc g a k),.c [.d (A1 l),.QF n],.c [.QF a],.c [.fn (.func 21) [] [.ptr 0 0 3]],.c [.e0,.QF 0],.a (A1 ((l.take (k+1)).eraseIdx a)),.c [.sl 5 ((l.take (k+1)).eraseIdx a).length 3,.QF n],.c [.d (A1 l),.QF n],.lp r,.c [.QF x.to,.d (.by x.by_),.QG x.harmed],.c [.QF x.to,.d (.by x.by_),.QG x.harmed]]) (BN hr rfl rfl rfl ?_) rfl rfl rfl rfl rfl ?_
    .refine AC AR ?_;with_reducible repeat' first|constructor|intro hc
     refine zR ?_;refine B6 AR ?_ (C0 e1);with_reducible repeat' first|constructor|intro hc
     refine⟨_,A3.refl _,Sv _,rfl,rfl,?_⟩;simp only[I6 l a k hx hka,A1,Sl,Ru,TJ,AF.C1,RH,Rh,Qz,RY,Rj,Rt]
    .refine AC Ar ?_;with_reducible repeat' first|constructor|intro hc
     refine⟨k+1,hkl,om,Qn _,?_⟩;exact(have nC:=RI (I6 l a k hx hka) (PC g hka);A3.cn rfl)
  .have e:k=l.length:=om
   subst e;refine AC Ar ?_;with_reducible repeat' first|constructor|intro hc
   refine⟨_,A3.refl _,Qn _,_,_,rfl,rfl,?_⟩;simp only[SK,NL g (Qh.1 hg).1]
 .rintro r hr x H' rfl;refine .inl ⟨rfl,?_⟩;refine AC AR ?_;with_reducible repeat' first|constructor|intro hc
  exact wE
theorem Kk(l:List AF)(n:Int)(hl:l.length<=1000)(hs:small l):QL 12 [.d (Av.d ⟨l,n⟩)] [] (.ag [.sl 6 l.length 3,.QF n]) [.gone,.c [.sl 6 l.length 3,.QF n],.gone,.gone,.gone,.gone,.a (A1 l)]:=by
 refine zD A7 Try.func12 ?_;refine Fi [0,1,2] ?_ (HY [] (K5 l n hl hs));with_reducible repeat' first|constructor|intro hc
 exact wE
theorem I9(b:Av)(hl:b.grams.length<=1000)(hs:small b.grams):QK 12 [b.d] b.d:=by
 refine K7 (Kk b.grams b.lost hl hs) ?_;simp[JB,F3,G6,Lt,JC,Av.d,AI]
theorem Kv(b:Av)(l:List AF)(hb:b.grams.length<=1000)(hbs:small b.grams)(hl:l.length<=1000)(hs:small l):QK 7 [b.d,A1 l] (Dt b l).d:=by
 obtain⟨gs,n⟩:=b;refine zF A7 Try.func7 ?_;refine Fi [0,1,2,4] ?_ (zd2 [] (Kk gs n hb hbs) [8] (P4 ⟨gs,n⟩ l hb hl hs));with_reducible repeat' first|constructor|intro hc
 exact L0 (RI @Av.d.eq_1 @A1.eq_1)
theorem CQ{b:Av}{BO:Int}(h:b.E9 BO=true):∃a:Nat,BO=a/\a<b.grams.length:=by
 simp only[Av.E9,Qk,Qv]at h;exact⟨BO.toNat,om,om⟩
def KL(b:Av)(BO:Int):Av×Int:=if b.E9 BO then(⟨b.grams.eraseIdx BO.toNat,IntKind.wrap .i64 (b.lost+1)⟩,0)else(b,2)
theorem Nx(b:Av)(BO:Int)(hb:b.grams.length<=1000)(hbs:small b.grams):QK 9 [b.d,.QO BO] (.tup [(KL b BO).1.d,.QO (KL b BO).2]):=by
 have hI:=Cy b BO;have hO:=I9 b hb hbs;refine zF A7 Try.func9 ?_;unfold KL
 cases h:b.E9 BO with
 |true=>
  obtain⟨a,rfl,ha⟩:=CQ h;obtain⟨gs,n⟩:=b;have wr:Lv [15]:=trivial;refine K4 [0,1,2,4,5,9] ?_ (C0 h) (C0 @hI) (HY [] (J5 gs n a hb hbs));clear wr;with_reducible repeat' first|constructor|intro hc
  exact L0 (RI @Av.d.eq_1 @A1.eq_1)
 |false=>
  obtain⟨gs,n⟩:=b;refine D2 [0,1,2,4,5,9] ?_ (C0 h) (Fz @hI @hO);with_reducible repeat' first|constructor|intro hc
  exact L0 (RI @Av.d.eq_1 @A1.eq_1)
def IG(b:Av)(BO:Int):Av×Int:=if b.E9 BO then(Dt b [b.grams.getD BO.toNat De],0)else(b,2)
theorem NO(b:Av)(BO:Int)(hb:b.grams.length<=1000)(hbs:small b.grams):QK 10 [b.d,.QO BO] (.tup [(IG b BO).1.d,.QO (IG b BO).2]):=by
 have hI:=Cy b BO;have hO:=I9 b hb hbs;refine zF A7 Try.func10 ?_;unfold IG
 cases h:b.E9 BO with
 |true=>
  obtain⟨a,rfl,ha⟩:=CQ h;obtain⟨gs,n⟩:=b;replace ha:a<gs.length:=ha;obtain⟨x,hx⟩:=B1 ha;have hg:gs.getD a De=x:=by rw[Qy,hx];rfl
  have hS:=Kv ⟨gs,n⟩ [x] hb hbs sm (by intro g hg;simp at hg;subst hg;exact Ay hbs hx);have ix1:=hx;refine D2 [0,1,2,4,5,9] ?_ (C0 h) (Fz @hI @hS);clear ix1;with_reducible repeat' first|constructor|intro hc
  exact L0 (RI @Av.d.eq_1 (RI @A1.eq_1 hx))
 |false=>
  obtain⟨gs,n⟩:=b;refine D2 [0,1,2,4,5,9] ?_ (C0 h) (Fz @hI @hO);with_reducible repeat' first|constructor|intro hc
  exact L0 (RI @Av.d.eq_1 @A1.eq_1)
def takeB(b:Av)(BO:Int):Av×AF×Bool:=if b.E9 BO then(⟨b.grams.eraseIdx BO.toNat,b.lost⟩,b.grams.getD BO.toNat De,true)else(b,De,false)
theorem Kz(b:Av)(BO:Int)(hb:b.grams.length<=1000)(hbs:small b.grams):QK 8 [b.d,.QO BO] (.tup [(takeB b BO).1.d,(takeB b BO).2.1.d,.b (takeB b BO).2.2]):=by
 have hI:=Cy b BO;have hO:=I9 b hb hbs;refine zF A7 Try.func8 ?_;unfold takeB
 cases h:b.E9 BO with
 |true=>
  obtain⟨a,rfl,ha⟩:=CQ h;obtain⟨gs,n⟩:=b;replace ha:a<gs.length:=ha;obtain⟨x,hx⟩:=B1 ha;have hg:gs.getD a De=x:=by rw[Qy,hx];rfl
  refine K4 [0,1,2,4,5,6,7,11] ?_ (C0 h) (C0 @hI) (HY [3] (J7 gs n a x hx hb hbs)) [(1,2)];with_reducible repeat' first|constructor|intro hc
  exact L0 (RI @Av.d.eq_1 (RI @A1.eq_1 (RI hx (RI @AF.d.eq_1 @AF.C1.eq_1))))
 |false=>
  obtain⟨gs,n⟩:=b;refine D2 [0,1,2,4,5,6,7,11] ?_ (C0 h) (Fz @hI @hO);with_reducible repeat' first|constructor|intro hc
  exact L0 (RI @Av.d.eq_1 (RI @A1.eq_1 (RI @AF.d.eq_1 (RI @AF.C1.eq_1 @De.eq_1))))
end Go.Proofs.Ytmlaifbbpdanmaa
