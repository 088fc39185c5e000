/- Part 13 of a proof. Conditions: those that its theorems state. -/
import Derived.Test.YtmlaifbbpdanmaaV11
set_option linter.unusedSimpArgs false
set_option linter.unusedVariables false
set_option maxHeartbeats 40000000
set_option maxRecDepth 4000
namespace Go.Proofs.Ytmlaifbbpdanmaa
open Go.Gar
abbrev As:QQ:=[0,1,2,3,4,5,6,7,8,9,18,19,20,27]
abbrev Cs:QQ:=[0,1,3,4,6,7,8,9,18]
abbrev Row:=Option (Nat×Nat×A5)
abbrev Ct:=List Row
def E8(u:Value)(rs:Ct):Prop:=(∃a,u= .slice a 0 0)\/∃b N l,u= .slice (some ⟨b,0,none⟩) l.length N/\some (b,N,l)∈rs/\l.length<=100000
def PV(c:R6)(rs:Ct):Prop:=∃t u h,c=[.QO t,.raw u,.b h]/\E8 u rs
def AS(cs:List (R6))(rs:Ct):Prop:=∀c∈cs,PV c rs
theorem F5.u{u:Value}{l:A5}{r:Row}(h:F5 u l r)(hl:l.length<=100000)(rs:Ct):E8 u (rs++[r]):=by
 rcases h with⟨b,N,rfl,rfl,h1,h2⟩|⟨rfl,rfl,a,rfl⟩
 .exact .inr ⟨b,N,l,rfl,sm,hl⟩
 .exact .inl ⟨a,rfl⟩
theorem E8.more{u:Value}{rs:Ct}(h:E8 u rs)(r:Row):E8 u (rs++[r]):=by
 rcases h with h|⟨b,N,l,h1,h2,h3⟩
 .exact .inl h
 .exact .inr ⟨b,N,l,h1,List.mem_append_left _ h2,h3⟩
theorem AS.more{cs:List (R6)}{rs:Ct}(h:AS cs rs)(r:Row):AS cs (rs++[r]):=fun c hc=>by
 obtain⟨t,u,b,e,k⟩:=h c hc;exact⟨t,u,b,e,k.more r⟩
theorem AS.snoc{cs:List (R6)}{rs:Ct}(h:AS cs rs){u:Value}{l:A5}{r:Row}(hv:F5 u l r)(hl:l.length<=100000)(t:Int)(b:Bool):AS (cs++[[.QO t,.raw u,.b b]]) (rs++[r]):=fun c hc=>by
 rcases TI.1 hc with hc|hc
 .exact h.more r c hc
 .rw[List.mem_singleton.1 hc];exact⟨t,u,b,rfl,F5.u hv hl rs⟩
theorem AS.nil(rs:Ct):AS [] rs:=fun _ h=>by cases h
theorem Kt(l:A5)(h:l.length<=100000):∃z:Value×Row,F5 z.1 l z.2:=⟨(.slice (some ⟨0,0,none⟩) l.length l.length,some (0,l.length,l)),.inl ⟨0,l.length,rfl,rfl,Qn _,SC h (by decide)⟩⟩
theorem C5(x:AF)(rs:Ct)(hb:x.by_.length<=100000):Bv Try.prog 29 [.d (AF.d x)] [.many rs] fun y K=>∃z:Value×Row,F5 z.1 x.by_ z.2/\y= .d (.agg [.QO x.to,.raw z.1,.b x.harmed])/\
  K=[.many (rs++[z.2]),.gone,.c [.QF x.to,.sl 3 x.by_.length 1,.QG x.harmed],.gone]:=by
 obtain⟨t,l,c⟩:=x;have h:QL 29 [.d (AF.d ⟨t,l,c⟩)] [.many rs] (.ag [.QF t,.sl 3 l.length 1,.QG c]) [.many rs,.gone,.c [.QF t,.sl 3 l.length 1,.QG c],.a (.by l)]:=Df.ren (H2:=[.many rs]) [] (FX t l c hb) rfl trivial rfl rfl;exact Bv.OR (id:=3) (ob:=0) h rfl rfl
theorem NS(l:List AF)(n:Int)(hl:l.length<=1000)(hs:small l):
  Bv Try.prog 20 [.d (Av.d ⟨l,n⟩),.QF (-1),.fn (.func 24) [] []] [] fun y K=>∃z:List (R6)×Ct,(AS z.1 z.2/\z.1.length<=l.length)/\y= .ag [.sl 4 z.1.length 3,.QF n]/\K=[.gone,.gone,.gone,.c [.sl 4 z.1.length 3,.QF n],.a (.sl 3 z.1),.gone,.gone,.many z.2]:=by
 refine zT A7 Try.func20 ?_;refine AC As ?_ [] [1];with_reducible repeat' first|constructor|intro hc
 refine Dj T.get 5 7 4 5 ⟨[(0,.d (Av.d ⟨l,n⟩)),(1,.QF (-1)),(2,.fn (.func 24) [] []),(3,.ptr 0 0 2),(4,.ptr 1 0 1),(5,.ptr 2 0 1),(6,.ptr 3 0 2),(7,.ptr 5 0 2)],[.c [.d (A1 l),.QF n],.c [.QF (-1)],.c [.fn (.func 24) [] []],.c [.e0,.QF 0],.a (A1 []),.c [.sl 4 0 3,.QF n]],35⟩ mixed rfl rfl rfl ?_ ?_ ?_
 .refine AC As ?_ [(0,5),(1,5),(0,7),(1,7)];with_reducible repeat' first|constructor|intro hc
  exact⟨rfl,.inl rfl⟩
 .refine AC As ?_ [(0,5),(1,5),(2,5),(3,5),(0,6),(1,6)];with_reducible repeat' first|constructor|intro hc
  exact⟨rfl,.inr rfl⟩
 refine Fi As ?_ (HY [] (BQ l n));with_reducible repeat' first|constructor|intro hc
 refine Ae A3.Fp sm ?_;dsimp only[List.cons_append,List.nil_append];refine zG (K:=fun r _ H'=>∃(cs:List (R6))(rs:Ct),(AS cs rs/\cs.length<=l.length)/\H'=[.c [.d (A1 l),.QF n],.c [.QF (-1)],.c [.fn (.func 24) [] []],.c [.e0,.QF 0],.a (.sl 3 cs),.c [.sl 4 cs.length 3,.QF n],.c [.d (A1 l),.QF n],.many rs,.lp r]) ?_ ?_
 .intro r hr;refine zT A7 Try.func31 ?_;refine AC Cs ?_;with_reducible repeat' first|constructor|intro hc
  have hk:=hr.ok (k:=8) rfl;refine AT (fun z:Nat×List (R6)×Ct=>z.1<=l.length/\z.2.1.length<=z.1/\AS z.2.1 z.2.2) (fun z=>⟨[(0,.yl 8),(1,.ptr 6 0 2),(6,.d (A1 l)),(7,.QF l.length),(8,.QF z.1)],[.c [.d (A1 l),.QF n],.c [.QF (-1)],.c [.fn (.func 24) [] []],.c [.e0,.QF 0],.a (.sl 3 z.2.1),.c [.sl 4 z.2.1.length 3,.QF n],.c [.d (A1 l),.QF n],.many z.2.2,.lp r],20⟩) (fun z=>l.length-z.1) (0,[],[]) ⟨RN _,Qn _,AS.nil _⟩ ?_ (Qn _) ?_
  .exact A3.ck rfl
  rintro⟨k,cs,rs⟩ ⟨h1,h2,h3⟩;dsimp only at h1 h2 h3|-
  by_cases hkl:k<l.length
  .obtain⟨x,hx⟩:=B1 hkl;have hb:=Ay hs hx;have e1:((k:Int)!= -1)=true:=by rw[bne_iff_ne];omega
   have nS:=Rk
   repeat'(first|((with_reducible refine sg ?_);first|with_reducible rfl|((with_reducible refine CO ?_);first|kernel_rfl|rfl|(simp[B9,Bc,nS];done))|with_reducible refine CM ?_ ?_|with_reducible exact Ri _|with_reducible exact AP _|((with_reducible refine RQ ?_);first|omega|(simp only[BB,nS];omega))|decide|(simp[BB,slc,AJ,D.one,Ac,AV.one,nS];done)|(simp[BB,nS];omega))|((with_reducible refine Fg ?_);first|(refine AZ rfl ?_;refine Fa A7 rfl rfl rfl rfl ?_)|(refine BM rfl ?_;refine IH A7 rfl rfl rfl rfl rfl (RF _) (Ag hx) ?_)|refine Xq A7 rfl rfl rfl rfl ?_ ?_|refine Xn [0,1,3,4,6,7,8,9,18] rfl ?_|refine Xa A7 rfl rfl rfl rfl rfl ?_ ?_|refine Xw A7 rfl rfl rfl rfl ?_ ?_)|refine BD ?_|refine AQ ?_|(refine XE (A':=fun z=> .d (.agg [.QO x.to,.raw z.1,.b x.harmed])) (B':=fun z=>[.c [.d (A1 l),.QF n],.c [.QF (-1)],.c [.fn (.func 24) [] []],.c [.e0,.QF 0],.a (.sl 3 cs),.c [.sl 4 cs.length 3,.QF n],.c [.d (A1 l),.QF n],.many (rs++[z.2]),.lp r,.c [.QF x.to,.d (.by x.by_),.QG x.harmed],.gone,.c [.QF x.to,.sl 12 x.by_.length 1,.QG x.harmed],.gone]) [7] (C5 x rs hb) rfl rfl rfl ⟨rfl,trivial⟩ rfl rfl rfl (fun _=>rfl) (fun _=>rfl) (fun _=>rfl) (fun z hz=> ?_))|refine Ao ?_|refine BC ?_|refine AY ?_|refine An ?_|refine AO rfl ?_|refine AN rfl ?_|(refine Aj rfl (fun hc=> ?_) (fun hc=> ?_)<;>(try simp only[CV]at hc)<;>(try(exfalso;omega))))
   refine Xy (x:=.QG true) (H':=[.c [.d (A1 l),.QF n],.c [.QF (-1)],.c [.fn (.func 24) [] []],.c [.e0,.QF 0],.a (.sl 3 (cs++[[.QO x.to,.raw z.1,.b x.harmed]])),.c [.sl 4 (cs.length+1) 3,.QF n],.c [.d (A1 l),.QF n],.many (rs++[z.2]),.lp r,.c [.QF x.to,.d (.by x.by_),.QG x.harmed],.gone,.c [.QF x.to,.sl 12 x.by_.length 1,.QG x.harmed],.gone,.c [.QF x.to,.d (.raw z.1),.QG x.harmed]]) (BN hr rfl rfl rfl ?_) rfl rfl rfl rfl rfl ?_
   .refine AC As ?_;with_reducible repeat' first|constructor|intro hc
    refine zR ?_;refine B6 As ?_ (C0 e1);with_reducible repeat' first|constructor|intro hc
    exact⟨_,A3.refl _,Sv _,rfl,rfl,by simp only[RH,Qz,RY,Rj,Rt,RZ]⟩
   .refine AC Cs ?_;with_reducible repeat' first|constructor|intro hc
    refine⟨(k+1,(cs++[[.QO x.to,.raw z.1,.b x.harmed]]),rs++[z.2]),⟨hkl,(by show(cs++[_]).length<=k+1;rw[RH];exact Nat.succ_le_succ h2),h3.snoc hz hb x.to x.harmed⟩,(by show l.length-(k+1)<l.length-k;omega),Qn _,?_⟩;exact A3.ck rfl
  .have e:k=l.length:=om
   subst e;refine AC Cs ?_;with_reducible repeat' first|constructor|intro hc
   exact⟨_,A3.refl _,Qn _,_,_,rfl,rfl,cs,rs,⟨h3,h2⟩,rfl⟩
 .rintro r hr x H' ⟨cs,rs,h1,rfl⟩;refine .inl ⟨rfl,?_⟩;refine AC As ?_;with_reducible repeat' first|constructor|intro hc
  exact⟨⟨[(6,.ptr 3 0 2)],[.gone,.gone,.gone,.c [.sl 4 cs.length 3,.QF n],.a (.sl 3 cs),.gone,.gone,.many rs],Try.f20.ntmps⟩,(A3.ck rfl),QI,_,_,rfl,rfl,(cs,rs),h1,rfl,rfl⟩
theorem Lk(l:List AF)(n:Int)(a:Nat)(hl:l.length<=1000)(hs:small l):
  Bv Try.prog 20 [.d (Av.d ⟨l,n⟩),.QF a,.fn (.func 22) [] []] [] fun y K=>∃z:List (R6)×Ct,(AS z.1 z.2/\z.1.length<=l.length)/\y= .ag [.sl 4 z.1.length 3,.QF n]/\K=[.gone,.gone,.gone,.c [.sl 4 z.1.length 3,.QF n],.a (.sl 3 z.1),.gone,.gone,.many z.2]:=by
 refine zT A7 Try.func20 ?_;refine AC As ?_ [] [1];with_reducible repeat' first|constructor|intro hc
 refine Dj T.get 5 7 4 5 ⟨[(0,.d (Av.d ⟨l,n⟩)),(1,.QF a),(2,.fn (.func 22) [] []),(3,.ptr 0 0 2),(4,.ptr 1 0 1),(5,.ptr 2 0 1),(6,.ptr 3 0 2),(7,.ptr 5 0 2)],[.c [.d (A1 l),.QF n],.c [.QF a],.c [.fn (.func 22) [] []],.c [.e0,.QF 0],.a (A1 []),.c [.sl 4 0 3,.QF n]],35⟩ mixed rfl rfl rfl ?_ ?_ ?_
 .refine AC As ?_ [(0,5),(1,5),(0,7),(1,7)];with_reducible repeat' first|constructor|intro hc
  exact⟨rfl,.inl rfl⟩
 .refine AC As ?_ [(0,5),(1,5),(2,5),(3,5),(0,6),(1,6)];with_reducible repeat' first|constructor|intro hc
  exact⟨rfl,.inr rfl⟩
 refine Fi As ?_ (HY [] (BQ l n));with_reducible repeat' first|constructor|intro hc
 refine Ae A3.Fp sm ?_;dsimp only[List.cons_append,List.nil_append];refine zG (K:=fun r _ H'=>∃(cs:List (R6))(rs:Ct),(AS cs rs/\cs.length<=l.length)/\H'=[.c [.d (A1 l),.QF n],.c [.QF a],.c [.fn (.func 22) [] []],.c [.e0,.QF 0],.a (.sl 3 cs),.c [.sl 4 cs.length 3,.QF n],.c [.d (A1 l),.QF n],.many rs,.lp r]) ?_ ?_
 .intro r hr;refine zT A7 Try.func31 ?_;refine AC Cs ?_;with_reducible repeat' first|constructor|intro hc
  have hk:=hr.ok (k:=8) rfl;refine AT (fun z:Nat×List (R6)×Ct=>z.1<=l.length/\z.2.1.length<=z.1/\AS z.2.1 z.2.2) (fun z=>⟨[(0,.yl 8),(1,.ptr 6 0 2),(6,.d (A1 l)),(7,.QF l.length),(8,.QF z.1)],[.c [.d (A1 l),.QF n],.c [.QF a],.c [.fn (.func 22) [] []],.c [.e0,.QF 0],.a (.sl 3 z.2.1),.c [.sl 4 z.2.1.length 3,.QF n],.c [.d (A1 l),.QF n],.many z.2.2,.lp r],20⟩) (fun z=>l.length-z.1) (0,[],[]) ⟨RN _,Qn _,AS.nil _⟩ ?_ (Qn _) ?_
  .exact A3.ck rfl
  rintro⟨k,cs,rs⟩ ⟨h1,h2,h3⟩;dsimp only at h1 h2 h3|-
  by_cases hkl:k<l.length
  .obtain⟨x,hx⟩:=B1 hkl;have hb:=Ay hs hx
   by_cases hka:k=a
   .subst hka;have e1:((k:Int)!=(k:Int))=false:=bne_self_eq_false' _;have nS:=Rk
    repeat'(first|((with_reducible refine sg ?_);first|with_reducible rfl|((with_reducible refine CO ?_);first|kernel_rfl|rfl|(simp[B9,Bc,nS];done))|with_reducible refine CM ?_ ?_|with_reducible exact Ri _|with_reducible exact AP _|((with_reducible refine RQ ?_);first|omega|(simp only[BB,nS];omega))|decide|(simp[BB,slc,AJ,D.one,Ac,AV.one,nS];done)|(simp[BB,nS];omega))|((with_reducible refine Fg ?_);first|(refine AZ rfl ?_;refine Fa A7 rfl rfl rfl rfl ?_)|(refine BM rfl ?_;refine IH A7 rfl rfl rfl rfl rfl (RF _) (Ag hx) ?_)|refine Xq A7 rfl rfl rfl rfl ?_ ?_|refine Xn [0,1,3,4,6,7,8,9,18] rfl ?_|refine Xa A7 rfl rfl rfl rfl rfl ?_ ?_|refine Xw A7 rfl rfl rfl rfl ?_ ?_)|refine BD ?_|refine AQ ?_|(refine XE (A':=fun z=> .d (.agg [.QO x.to,.raw z.1,.b x.harmed])) (B':=fun z=>[.c [.d (A1 l),.QF n],.c [.QF k],.c [.fn (.func 22) [] []],.c [.e0,.QF 0],.a (.sl 3 cs),.c [.sl 4 cs.length 3,.QF n],.c [.d (A1 l),.QF n],.many (rs++[z.2]),.lp r,.c [.QF x.to,.d (.by x.by_),.QG x.harmed],.gone,.c [.QF x.to,.sl 12 x.by_.length 1,.QG x.harmed],.gone]) [7] (C5 x rs hb) rfl rfl rfl ⟨rfl,trivial⟩ rfl rfl rfl (fun _=>rfl) (fun _=>rfl) (fun _=>rfl) (fun z hz=> ?_))|refine Ao ?_|refine BC ?_|refine AY ?_|refine An ?_|refine AO rfl ?_|refine AN rfl ?_|(refine Aj rfl (fun hc=> ?_) (fun hc=> ?_)<;>(try simp only[CV]at hc)<;>(try(exfalso;omega))))
    refine Xy (x:=.QG true) (H':=[.c [.d (A1 l),.QF n],.c [.QF k],.c [.fn (.func 22) [] []],.c [.e0,.QF 0],.a (.sl 3 cs),.c [.sl 4 cs.length 3,.QF n],.c [.d (A1 l),.QF n],.many (rs++[z.2]),.lp r,.c [.QF x.to,.d (.by x.by_),.QG x.harmed],.gone,.c [.QF x.to,.sl 12 x.by_.length 1,.QG x.harmed],.gone,.c [.QF x.to,.d (.raw z.1),.QG x.harmed]]) (BN hr rfl rfl rfl ?_) rfl rfl rfl rfl rfl ?_
    .refine AC As ?_;with_reducible repeat' first|constructor|intro hc
     refine zR ?_;refine HX As ?_ (C0 e1) (HY [13] (IU [.QF x.to,.d (.raw z.1),.QG x.harmed]));with_reducible repeat' first|constructor|intro hc
     exact⟨_,A3.refl _,Sv _,rfl,rfl,rfl⟩
    .refine AC Cs ?_;with_reducible repeat' first|constructor|intro hc
     refine⟨(k+1,cs,rs++[z.2]),⟨hkl,(by show cs.length<=k+1;omega),h3.more z.2⟩,(by show l.length-(k+1)<l.length-k;omega),Qn _,?_⟩;exact A3.ck rfl
   .have e1:((k:Int)!=(a:Int))=true:=by rw[bne_iff_ne];omega
    have nS:=Rk
    repeat'(first|((with_reducible refine sg ?_);first|with_reducible rfl|((with_reducible refine CO ?_);first|kernel_rfl|rfl|(simp[B9,Bc,nS];done))|with_reducible refine CM ?_ ?_|with_reducible exact Ri _|with_reducible exact AP _|((with_reducible refine RQ ?_);first|omega|(simp only[BB,nS];omega))|decide|(simp[BB,slc,AJ,D.one,Ac,AV.one,nS];done)|(simp[BB,nS];omega))|((with_reducible refine Fg ?_);first|(refine AZ rfl ?_;refine Fa A7 rfl rfl rfl rfl ?_)|(refine BM rfl ?_;refine IH A7 rfl rfl rfl rfl rfl (RF _) (Ag hx) ?_)|refine Xq A7 rfl rfl rfl rfl ?_ ?_|refine Xn [0,1,3,4,6,7,8,9,18] rfl ?_|refine Xa A7 rfl rfl rfl rfl rfl ?_ ?_|refine Xw A7 rfl rfl rfl rfl ?_ ?_)|refine BD ?_|refine AQ ?_|(refine XE (A':=fun z=> .d (.agg [.QO x.to,.raw z.1,.b x.harmed])) (B':=fun z=>[.c [.d (A1 l),.QF n],.c [.QF a],.c [.fn (.func 22) [] []],.c [.e0,.QF 0],.a (.sl 3 cs),.c [.sl 4 cs.length 3,.QF n],.c [.d (A1 l),.QF n],.many (rs++[z.2]),.lp r,.c [.QF x.to,.d (.by x.by_),.QG x.harmed],.gone,.c [.QF x.to,.sl 12 x.by_.length 1,.QG x.harmed],.gone]) [7] (C5 x rs hb) rfl rfl rfl ⟨rfl,trivial⟩ rfl rfl rfl (fun _=>rfl) (fun _=>rfl) (fun _=>rfl) (fun z hz=> ?_))|refine Ao ?_|refine BC ?_|refine AY ?_|refine An ?_|refine AO rfl ?_|refine AN rfl ?_|(refine Aj rfl (fun hc=> ?_) (fun hc=> ?_)<;>(try simp only[CV]at hc)<;>(try(exfalso;omega))))
    refine Xy (x:=.QG true) (H':=[.c [.d (A1 l),.QF n],.c [.QF a],.c [.fn (.func 22) [] []],.c [.e0,.QF 0],.a (.sl 3 (cs++[[.QO x.to,.raw z.1,.b x.harmed]])),.c [.sl 4 (cs.length+1) 3,.QF n],.c [.d (A1 l),.QF n],.many (rs++[z.2]),.lp r,.c [.QF x.to,.d (.by x.by_),.QG x.harmed],.gone,.c [.QF x.to,.sl 12 x.by_.length 1,.QG x.harmed],.gone,.c [.QF x.to,.d (.raw z.1),.QG x.harmed]]) (BN hr rfl rfl rfl ?_) rfl rfl rfl rfl rfl ?_
    .refine AC As ?_;with_reducible repeat' first|constructor|intro hc
     refine zR ?_;refine B6 As ?_ (C0 e1);with_reducible repeat' first|constructor|intro hc
     exact⟨_,A3.refl _,Sv _,rfl,rfl,by simp only[RH,Qz,RY,Rj,Rt,RZ]⟩
    .refine AC Cs ?_;with_reducible repeat' first|constructor|intro hc
     refine⟨(k+1,(cs++[[.QO x.to,.raw z.1,.b x.harmed]]),rs++[z.2]),⟨hkl,(by show(cs++[_]).length<=k+1;rw[RH];exact Nat.succ_le_succ h2),h3.snoc hz hb x.to x.harmed⟩,(by show l.length-(k+1)<l.length-k;omega),Qn _,?_⟩;exact A3.ck rfl
  .have e:k=l.length:=om
   subst e;refine AC Cs ?_;with_reducible repeat' first|constructor|intro hc
   exact⟨_,A3.refl _,Qn _,_,_,rfl,rfl,cs,rs,⟨h3,h2⟩,rfl⟩
 .rintro r hr x H' ⟨cs,rs,h1,rfl⟩;refine .inl ⟨rfl,?_⟩;refine AC As ?_;with_reducible repeat' first|constructor|intro hc
  exact⟨⟨[(6,.ptr 3 0 2)],[.gone,.gone,.gone,.c [.sl 4 cs.length 3,.QF n],.a (.sl 3 cs),.gone,.gone,.many rs],Try.f20.ntmps⟩,(A3.ck rfl),QI,_,_,rfl,rfl,(cs,rs),h1,rfl,rfl⟩
end Go.Proofs.Ytmlaifbbpdanmaa
