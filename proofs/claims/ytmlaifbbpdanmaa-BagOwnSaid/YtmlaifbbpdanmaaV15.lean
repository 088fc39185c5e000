/- Part 15 of a proof. Conditions: those that its theorems state. -/
import Derived.Test.YtmlaifbbpdanmaaV12
import Derived.Test.YtmlaifbbpdanmaaV13
set_option linter.unusedSimpArgs false
set_option linter.unusedVariables false
set_option maxHeartbeats 40000000
set_option maxRecDepth 4000
namespace Go.Proofs.Ytmlaifbbpdanmaa
open Go.Gar
abbrev BW:QQ:=[0,1,2,3,4,5,6,7,8,9,18,19,20,27]
abbrev F2:QQ:=[0,1,3,4,6,7,8,9,18]
theorem Oz(t:Int)(b N:Nat)(y:A5)(h:Bool)(i:Nat)(m:Int)(hi:i<y.length)(hl:y.length<=100000):QL 23 [.ptr 0 0 3,.ptr 1 0 1,.ptr 2 0 1] [.c [.QF t,.d (.raw (.slice (some ⟨b,0,none⟩) y.length N)),.QG h],.c [.QF i],.c [.QH m],.D5 b N y] (.QG true)
  [.c [.QF t,.d (.raw (.slice (some ⟨b,0,none⟩) y.length N)),.QG true],.c [.QF i],.c [.QH m],.D5 b N (Cx y i m)]:=by
 have hx:=Ch (y.getD i 0) m;unfold FL at hx;have e0:((i:Int)).toNat=i:=SQ i;refine zD A7 Try.func23 ?_;have sb:No 2:=trivial;refine B6 [0,1,2,4] ?_ (C0 e0);clear sb;with_reducible repeat' first|constructor|intro hc
 exact⟨_,A3.refl _,Qn _,_,_,rfl,rfl,rfl,by simp only[SE];rfl⟩
theorem Ll(l:List AF)(n:Int)(a:Nat)(g:AF)(hg:l[a]? =some g)(i:Nat)(m:Int)(hi:i<g.by_.length)(hl:l.length<=1000)(hs:small l):
  Bv Try.prog 20 [.d (Av.d ⟨l,n⟩),.QF a,.fn (.func 23) [] [.ptr 0 0 1,.ptr 1 0 1]] [.c [.QF i],.c [.QH m]] fun y K=>∃z:List (R6)×Ct,(AS z.1 z.2/\z.1.length<=l.length)/\y= .ag [.sl 6 z.1.length 3,.QF n]/\K=[.c [.QF i],.c [.QH m],.gone,.gone,.gone,.c [.sl 6 z.1.length 3,.QF n],.a (.sl 3 z.1),.gone,.gone,.many z.2]:=by
 refine zT A7 Try.func20 ?_;refine AC BW ?_ [] [1];with_reducible repeat' first|constructor|intro hc
 refine Dj T.get 5 7 6 7 ⟨[(0,.d (Av.d ⟨l,n⟩)),(1,.QF a),(2,.fn (.func 23) [] [.ptr 0 0 1,.ptr 1 0 1]),(3,.ptr 2 0 2),(4,.ptr 3 0 1),(5,.ptr 4 0 1),(6,.ptr 5 0 2),(7,.ptr 7 0 2)],[.c [.QF i],.c [.QH m],.c [.d (A1 l),.QF n],.c [.QF a],.c [.fn (.func 23) [] [.ptr 0 0 1,.ptr 1 0 1]],.c [.e0,.QF 0],.a (A1 []),.c [.sl 6 0 3,.QF n]],35⟩ mixed rfl rfl rfl ?_ ?_ ?_
 .refine AC BW ?_ [(0,5),(1,5),(0,7),(1,7)];with_reducible repeat' first|constructor|intro hc
  exact⟨rfl,.inl rfl⟩
 .refine AC BW ?_ [(0,5),(1,5),(2,5),(3,5),(0,6),(1,6)];with_reducible repeat' first|constructor|intro hc
  exact⟨rfl,.inr rfl⟩
 refine Fi BW ?_ (HY [] (BQ l n));with_reducible repeat' first|constructor|intro hc
 refine Ae A3.Fp sm ?_;dsimp only[List.cons_append,List.nil_append];refine zG (K:=fun r _ H'=>∃(cs:List (R6))(rs:Ct),(AS cs rs/\cs.length<=l.length)/\H'=[.c [.QF i],.c [.QH m],.c [.d (A1 l),.QF n],.c [.QF a],.c [.fn (.func 23) [] [.ptr 0 0 1,.ptr 1 0 1]],.c [.e0,.QF 0],.a (.sl 3 cs),.c [.sl 6 cs.length 3,.QF n],.c [.d (A1 l),.QF n],.many rs,.lp r]) ?_ ?_
 .intro r hr;refine zT A7 Try.func31 ?_;refine AC F2 ?_;with_reducible repeat' first|constructor|intro hc
  have hk:=hr.ok (k:=10) rfl;refine AT (fun z:Nat×List (R6)×Ct=>z.1<=l.length/\z.2.1.length<=z.1/\AS z.2.1 z.2.2) (fun z=>⟨[(0,.yl 10),(1,.ptr 8 0 2),(6,.d (A1 l)),(7,.QF l.length),(8,.QF z.1)],[.c [.QF i],.c [.QH m],.c [.d (A1 l),.QF n],.c [.QF a],.c [.fn (.func 23) [] [.ptr 0 0 1,.ptr 1 0 1]],.c [.e0,.QF 0],.a (.sl 3 z.2.1),.c [.sl 6 z.2.1.length 3,.QF n],.c [.d (A1 l),.QF n],.many z.2.2,.lp r],20⟩) (fun z=>l.length-z.1) (0,[],[]) ⟨RN _,Qn _,AS.nil _⟩ ?_ (Qn _) ?_
  .exact A3.ck rfl
  rintro⟨k,cs,rs⟩ ⟨h1,h2,h3⟩;dsimp only at h1 h2 h3|-
  by_cases hkl:k<l.length
  .obtain⟨x,hx⟩:=B1 hkl;have hb:=Ay hs hx
   by_cases hka:k=a
   .subst hka;have e1:((k:Int)!=(k:Int))=false:=bne_self_eq_false' _;obtain rfl:x=g:=Option.some.inj (hx.symm.trans hg);have hxi:=hi;have nS:=Rk
    repeat'(first|((with_reducible refine sg ?_);first|with_reducible rfl|((with_reducible refine CO ?_);first|kernel_rfl|rfl|(simp[B9,Bc,nS];done))|with_reducible refine CM ?_ ?_|with_reducible exact Ri _|with_reducible exact AP _|((with_reducible refine RQ ?_);first|omega|(simp only[BB,nS];omega))|decide|(simp[BB,slc,AJ,D.one,Ac,AV.one,nS];done)|(simp[BB,nS];omega))|((with_reducible refine Fg ?_);first|(refine AZ rfl ?_;refine Fa A7 rfl rfl rfl rfl ?_)|(refine BM rfl ?_;refine IH A7 rfl rfl rfl rfl rfl (RF _) (Ag hx) ?_)|refine Xq A7 rfl rfl rfl rfl ?_ ?_|refine Xn [0,1,3,4,6,7,8,9,18] rfl ?_|refine Xa A7 rfl rfl rfl rfl rfl ?_ ?_|refine Xw A7 rfl rfl rfl rfl ?_ ?_)|refine BD ?_|refine AQ ?_|(refine XE (A':=fun z=> .d (.agg [.QO x.to,.raw z.1,.b x.harmed])) (B':=fun z=>[.c [.QF i],.c [.QH m],.c [.d (A1 l),.QF n],.c [.QF k],.c [.fn (.func 23) [] [.ptr 0 0 1,.ptr 1 0 1]],.c [.e0,.QF 0],.a (.sl 3 cs),.c [.sl 6 cs.length 3,.QF n],.c [.d (A1 l),.QF n],.many (rs++[z.2]),.lp r,.c [.QF x.to,.d (.by x.by_),.QG x.harmed],.gone,.c [.QF x.to,.sl 14 x.by_.length 1,.QG x.harmed],.gone]) [9] (C5 x rs hb) rfl rfl rfl ⟨rfl,trivial⟩ rfl rfl rfl (fun _=>rfl) (fun _=>rfl) (fun _=>rfl) (fun z hz=> ?_))|refine Ao ?_|refine BC ?_|refine AY ?_|refine An ?_|refine AO rfl ?_|refine AN rfl ?_|(refine Aj rfl (fun hc=> ?_) (fun hc=> ?_)<;>(try simp only[CV]at hc)<;>(try(exfalso;omega))))
    obtain⟨u,q⟩:=z
    obtain⟨b,N,rfl,rfl,hN1,hN2⟩:∃b N,u= .slice (some ⟨b,0,none⟩) x.by_.length N/\q=some (b,N,x.by_)/\x.by_.length<=N/\N<=maxLen:=by
     rcases hz with h|⟨h,_⟩
     .exact h
     .rw[h]at hxi;exact absurd hxi (Nat.not_lt_zero i)
    refine Xy (x:=.QG true) (H':=[.c [.QF i],.c [.QH m],.c [.d (A1 l),.QF n],.c [.QF k],.c [.fn (.func 23) [] [.ptr 0 0 1,.ptr 1 0 1]],.c [.e0,.QF 0],.a (.sl 3 (cs++[[.QO x.to,.raw (.slice (some ⟨b,0,none⟩) x.by_.length N),.b true]])),.c [.sl 6 (cs.length+1) 3,.QF n],.c [.d (A1 l),.QF n],.many (rs++[some (b,N,Cx x.by_ i m)]),.lp r,.c [.QF x.to,.d (.by x.by_),.QG x.harmed],.gone,.c [.QF x.to,.sl 14 x.by_.length 1,.QG x.harmed],.gone,.c [.QF x.to,.d (.raw (.slice (some ⟨b,0,none⟩) x.by_.length N)),.QG true],.gone]) (BN hr rfl rfl rfl ?_) rfl rfl rfl rfl rfl ?_
    .refine AC BW ?_;with_reducible repeat' first|constructor|intro hc
     refine zR ?_;refine AC BW ?_ [] [5];with_reducible repeat' first|constructor|intro hc
     refine Ae (A3.Bl (b:=b) (N:=N) (l:=x.by_) 9 rs.length rfl sm) sm ?_;simp only[CU];refine HX BW ?_ (C0 e1) (HY [15,0,1,16] (Oz x.to b N x.by_ x.harmed i m hxi hb)) [] [6];with_reducible repeat' first|constructor|intro hc
     refine Ae (A3.Gl 16 9 rs.length rfl rfl sm) sm ?_;simp only[CU];have key:(((rs++[some (b,N,x.by_)]).set rs.length none).set rs.length (some (b,N,Cx x.by_ i m)))=rs++[some (b,N,Cx x.by_ i m)]:=by simp
     rw[key];refine AC BW ?_;with_reducible repeat' first|constructor|intro hc
     exact⟨_,A3.refl _,QI,rfl,rfl,by simp only[RH,Qz,RY,Rj,Rt,RZ]⟩
    .refine AC F2 ?_;with_reducible repeat' first|constructor|intro hc
     refine⟨(k+1,(cs++[[.QO x.to,.raw (.slice (some ⟨b,0,none⟩) x.by_.length N),.b true]]),rs++[some (b,N,Cx x.by_ i m)]),⟨hkl,(by show(cs++[_]).length<=k+1;rw[RH];exact Nat.succ_le_succ h2),h3.snoc (l:=Cx x.by_ i m) (.inl ⟨b,N,by rw[E3],rfl,by rw[E3];exact hN1,hN2⟩) (by rw[E3];exact hb) x.to true⟩,(by show l.length-(k+1)<l.length-k;omega),Qn _,?_⟩;exact A3.ck rfl
   .have e1:((k:Int)!=(a:Int))=true:=by rw[bne_iff_ne];omega
    have nS:=Rk
    repeat'(first|((with_reducible refine sg ?_);first|with_reducible rfl|((with_reducible refine CO ?_);first|kernel_rfl|rfl|(simp[B9,Bc,nS];done))|with_reducible refine CM ?_ ?_|with_reducible exact Ri _|with_reducible exact AP _|((with_reducible refine RQ ?_);first|omega|(simp only[BB,nS];omega))|decide|(simp[BB,slc,AJ,D.one,Ac,AV.one,nS];done)|(simp[BB,nS];omega))|((with_reducible refine Fg ?_);first|(refine AZ rfl ?_;refine Fa A7 rfl rfl rfl rfl ?_)|(refine BM rfl ?_;refine IH A7 rfl rfl rfl rfl rfl (RF _) (Ag hx) ?_)|refine Xq A7 rfl rfl rfl rfl ?_ ?_|refine Xn [0,1,3,4,6,7,8,9,18] rfl ?_|refine Xa A7 rfl rfl rfl rfl rfl ?_ ?_|refine Xw A7 rfl rfl rfl rfl ?_ ?_)|refine BD ?_|refine AQ ?_|(refine XE (A':=fun z=> .d (.agg [.QO x.to,.raw z.1,.b x.harmed])) (B':=fun z=>[.c [.QF i],.c [.QH m],.c [.d (A1 l),.QF n],.c [.QF a],.c [.fn (.func 23) [] [.ptr 0 0 1,.ptr 1 0 1]],.c [.e0,.QF 0],.a (.sl 3 cs),.c [.sl 6 cs.length 3,.QF n],.c [.d (A1 l),.QF n],.many (rs++[z.2]),.lp r,.c [.QF x.to,.d (.by x.by_),.QG x.harmed],.gone,.c [.QF x.to,.sl 14 x.by_.length 1,.QG x.harmed],.gone]) [9] (C5 x rs hb) rfl rfl rfl ⟨rfl,trivial⟩ rfl rfl rfl (fun _=>rfl) (fun _=>rfl) (fun _=>rfl) (fun z hz=> ?_))|refine Ao ?_|refine BC ?_|refine AY ?_|refine An ?_|refine AO rfl ?_|refine AN rfl ?_|(refine Aj rfl (fun hc=> ?_) (fun hc=> ?_)<;>(try simp only[CV]at hc)<;>(try(exfalso;omega))))
    refine Xy (x:=.QG true) (H':=[.c [.QF i],.c [.QH m],.c [.d (A1 l),.QF n],.c [.QF a],.c [.fn (.func 23) [] [.ptr 0 0 1,.ptr 1 0 1]],.c [.e0,.QF 0],.a (.sl 3 (cs++[[.QO x.to,.raw z.1,.b x.harmed]])),.c [.sl 6 (cs.length+1) 3,.QF n],.c [.d (A1 l),.QF n],.many (rs++[z.2]),.lp r,.c [.QF x.to,.d (.by x.by_),.QG x.harmed],.gone,.c [.QF x.to,.sl 14 x.by_.length 1,.QG x.harmed],.gone,.c [.QF x.to,.d (.raw z.1),.QG x.harmed]]) (BN hr rfl rfl rfl ?_) rfl rfl rfl rfl rfl ?_
    .refine AC BW ?_;with_reducible repeat' first|constructor|intro hc
     refine zR ?_;refine B6 BW ?_ (C0 e1);with_reducible repeat' first|constructor|intro hc
     exact⟨_,A3.refl _,Sv _,rfl,rfl,by simp only[RH,Qz,RY,Rj,Rt,RZ]⟩
    .refine AC F2 ?_;with_reducible repeat' first|constructor|intro hc
     refine⟨(k+1,(cs++[[.QO x.to,.raw z.1,.b x.harmed]]),rs++[z.2]),⟨hkl,(by show(cs++[_]).length<=k+1;rw[RH];exact Nat.succ_le_succ h2),h3.snoc hz hb x.to x.harmed⟩,(by show l.length-(k+1)<l.length-k;omega),Qn _,?_⟩;exact A3.ck rfl
  .have e:k=l.length:=om
   subst e;refine AC F2 ?_;with_reducible repeat' first|constructor|intro hc
   exact⟨_,A3.refl _,Qn _,_,_,rfl,rfl,cs,rs,⟨h3,h2⟩,rfl⟩
 .rintro r hr x H' ⟨cs,rs,h1,rfl⟩;refine .inl ⟨rfl,?_⟩;refine AC BW ?_;with_reducible repeat' first|constructor|intro hc
  exact⟨⟨[(6,.ptr 5 0 2)],[.c [.QF i],.c [.QH m],.gone,.gone,.gone,.c [.sl 6 cs.length 3,.QF n],.a (.sl 3 cs),.gone,.gone,.many rs],Try.f20.ntmps⟩,(A3.ck rfl),QI,_,_,rfl,rfl,(cs,rs),h1,rfl,rfl⟩
end Go.Proofs.Ytmlaifbbpdanmaa
