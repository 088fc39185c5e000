/- Part 14 of a proof. Conditions: those that its theorems state. -/
import Derived.Test.YtmlaifbbpdanmaaV13
set_option linter.unusedSimpArgs false
set_option linter.unusedVariables false
set_option linter.unnecessarySimpa false
set_option maxHeartbeats 40000000
set_option maxRecDepth 4000
namespace Go.Proofs.Ytmlaifbbpdanmaa
open Go.Gar
abbrev C6:QQ:=[0,1,2,3,4,5,6,7,8,9,18,19,20,27]
abbrev F1:QQ:=[0,1,3,4,6,7,8,9,18]
def Oa:Option (Int×Value×Bool)->R8
 |some (t,u,h)=>[.d (.i .i64 t),.d (.raw u),.d (.b h)]
 |none=>[.d (.i .i64 0),.e0,.d (.b false)]
theorem P9(o:Option (Int×Value×Bool))(m:Nat):AV.oks m (Oa o)=true:=by
 rcases o with _|⟨t,u,h⟩<;>rfl
def NW(a k:Nat)(o:Option (Int×Value×Bool))(rs:Ct):Prop:=(a<k->∃t u h,o=some (t,u,h)/\E8 u rs)/\(¬a<k->o=none)
variable {rs:Ct}
theorem NW.zero{a:Nat}:NW a 0 none rs:=⟨fun h=>absurd h (Nat.not_lt_zero a),fun _=>rfl⟩
theorem NW.ne{a k:Nat}{o:Option (Int×Value×Bool)}(h:NW a k o rs)(hk:k≠a)(r:Row):NW a (k+1) o (rs++[r]):=
 ⟨fun h'=>by obtain⟨t,u,b,e,q⟩:=h.1 om;exact⟨t,u,b,e,q.more r⟩,fun h'=>h.2 om⟩
theorem NW.eq{k:Nat}{u:Value}(h:E8 u rs)(t:Int)(b:Bool):NW k (k+1) (some (t,u,b)) rs:=⟨fun _=>⟨t,u,b,rfl,h⟩,fun h'=>absurd (Nat.lt_succ_self k) h'⟩
theorem P8(t:Int)(u:Value)(h:Bool):QL 21 [.ptr 0 0 3,.ptr 1 0 3] [.c [.QF t,.d (.raw u),.QG h],.c [.QF 0,.e0,.QG false]] (.QG false) [.c [.QF t,.d (.raw u),.QG h],.c [.QF t,.d (.raw u),.QG h]]:=by
 refine zD A7 Try.func21 ?_;refine AC [0,1,3] ?_;with_reducible repeat' first|constructor|intro hc
 exact wE
theorem Lm(l:List AF)(n:Int)(a:Nat)(ha:a<l.length)(hl:l.length<=1000)(hs:small l):
  Bv Try.prog 20 [.d (Av.d ⟨l,n⟩),.QF a,.fn (.func 21) [] [.ptr 0 0 3]] [.c [.QF 0,.e0,.QG false]] fun y K=>∃z:List (R6)×Ct×Int×Value×Bool,(AS z.1 z.2.1/\z.1.length<=l.length/\E8 z.2.2.2.1 z.2.1)/\y= .ag [.sl 5 z.1.length 3,.QF n]/\K=[.c [.QF z.2.2.1,.d (.raw z.2.2.2.1),.QG z.2.2.2.2],.gone,.gone,.gone,.c [.sl 5 z.1.length 3,.QF n],.a (.sl 3 z.1),.gone,.gone,.many z.2.1]:=by
 refine zT A7 Try.func20 ?_;refine AC C6 ?_ [] [1];with_reducible repeat' first|constructor|intro hc
 refine Dj T.get 5 7 5 6 ⟨[(0,.d (Av.d ⟨l,n⟩)),(1,.QF a),(2,.fn (.func 21) [] [.ptr 0 0 3]),(3,.ptr 1 0 2),(4,.ptr 2 0 1),(5,.ptr 3 0 1),(6,.ptr 4 0 2),(7,.ptr 6 0 2)],[.c [.QF 0,.e0,.QG false],.c [.d (A1 l),.QF n],.c [.QF a],.c [.fn (.func 21) [] [.ptr 0 0 3]],.c [.e0,.QF 0],.a (A1 []),.c [.sl 5 0 3,.QF n]],35⟩ mixed rfl rfl rfl ?_ ?_ ?_
 .refine AC C6 ?_ [(0,5),(1,5),(0,7),(1,7)];with_reducible repeat' first|constructor|intro hc
  exact⟨rfl,.inl rfl⟩
 .refine AC C6 ?_ [(0,5),(1,5),(2,5),(3,5),(0,6),(1,6)];with_reducible repeat' first|constructor|intro hc
  exact⟨rfl,.inr rfl⟩
 refine Fi C6 ?_ (HY [] (BQ l n));with_reducible repeat' first|constructor|intro hc
 refine Ae A3.Fp sm ?_;dsimp only[List.cons_append,List.nil_append];refine zG (K:=fun r _ H'=>∃(cs:List (R6))(rs:Ct)(t:Int)(u:Value)(h:Bool),(AS cs rs/\cs.length<=l.length/\E8 u rs)/\H'=[.c (Oa (some (t,u,h))),.c [.d (A1 l),.QF n],.c [.QF a],.c [.fn (.func 21) [] [.ptr 0 0 3]],.c [.e0,.QF 0],.a (.sl 3 cs),.c [.sl 5 cs.length 3,.QF n],.c [.d (A1 l),.QF n],.many rs,.lp r]) ?_ ?_
 .intro r hr;refine zT A7 Try.func31 ?_;refine AC F1 ?_;with_reducible repeat' first|constructor|intro hc
  have hk:=RI (hr.ok (k:=9) rfl) P9;refine AT (fun z:Nat×List (R6)×Ct×Option (Int×Value×Bool)=>z.1<=l.length/\z.2.1.length<=z.1/\AS z.2.1 z.2.2.1/\NW a z.1 z.2.2.2 z.2.2.1) (fun z=>⟨[(0,.yl 9),(1,.ptr 7 0 2),(6,.d (A1 l)),(7,.QF l.length),(8,.QF z.1)],[.c (Oa z.2.2.2),.c [.d (A1 l),.QF n],.c [.QF a],.c [.fn (.func 21) [] [.ptr 0 0 3]],.c [.e0,.QF 0],.a (.sl 3 z.2.1),.c [.sl 5 z.2.1.length 3,.QF n],.c [.d (A1 l),.QF n],.many z.2.2.1,.lp r],20⟩) (fun z=>l.length-z.1) (0,[],[],none) ⟨RN _,Qn _,AS.nil _,NW.zero⟩ ?_ (Qn _) ?_
  .exact A3.ck rfl
  rintro⟨k,cs,rs,o⟩ ⟨h1,h2,h3,h4⟩;dsimp only at h1 h2 h3 h4|-
  by_cases hkl:k<l.length
  .obtain⟨x,hx⟩:=B1 hkl;have hb:=Ay hs hx
   by_cases hka:k=a
   .subst hka;have e1:((k:Int)!=(k:Int))=false:=bne_self_eq_false' _;obtain rfl:o=none:=h4.2 (Nat.lt_irrefl k);have nS:=Rk
    repeat'(first|((with_reducible refine sg ?_);first|with_reducible rfl|((with_reducible refine CO ?_);first|kernel_rfl|rfl|(simp[B9,Bc,nS];done))|with_reducible refine CM ?_ ?_|with_reducible exact Ri _|with_reducible exact AP _|((with_reducible refine RQ ?_);first|omega|(simp only[BB,nS];omega))|decide|(simp[BB,slc,AJ,D.one,Ac,AV.one,nS];done)|(simp[BB,nS];omega))|((with_reducible refine Fg ?_);first|(refine AZ rfl ?_;refine Fa A7 rfl rfl rfl rfl ?_)|(refine BM rfl ?_;refine IH A7 rfl rfl rfl rfl rfl (RF _) (Ag hx) ?_)|refine Xq A7 rfl rfl rfl rfl ?_ ?_|refine Xn [0,1,3,4,6,7,8,9,18] rfl ?_|refine Xa A7 rfl rfl rfl rfl rfl ?_ ?_|refine Xw A7 rfl rfl rfl rfl ?_ ?_)|refine BD ?_|refine AQ ?_|(refine XE (A':=fun z=> .d (.agg [.QO x.to,.raw z.1,.b x.harmed])) (B':=fun z=>[.c (Oa none),.c [.d (A1 l),.QF n],.c [.QF k],.c [.fn (.func 21) [] [.ptr 0 0 3]],.c [.e0,.QF 0],.a (.sl 3 cs),.c [.sl 5 cs.length 3,.QF n],.c [.d (A1 l),.QF n],.many (rs++[z.2]),.lp r,.c [.QF x.to,.d (.by x.by_),.QG x.harmed],.gone,.c [.QF x.to,.sl 13 x.by_.length 1,.QG x.harmed],.gone]) [8] (C5 x rs hb) rfl rfl rfl ⟨rfl,trivial⟩ rfl rfl rfl (fun _=>rfl) (fun _=>rfl) (fun _=>rfl) (fun z hz=> ?_))|refine Ao ?_|refine BC ?_|refine AY ?_|refine An ?_|refine AO rfl ?_|refine AN rfl ?_|(refine Aj rfl (fun hc=> ?_) (fun hc=> ?_)<;>(try simp only[CV]at hc)<;>(try(exfalso;omega))))
    refine Xy (x:=.QG true) (H':=[.c (Oa (some (x.to,z.1,x.harmed))),.c [.d (A1 l),.QF n],.c [.QF k],.c [.fn (.func 21) [] [.ptr 0 0 3]],.c [.e0,.QF 0],.a (.sl 3 cs),.c [.sl 5 cs.length 3,.QF n],.c [.d (A1 l),.QF n],.many (rs++[z.2]),.lp r,.c [.QF x.to,.d (.by x.by_),.QG x.harmed],.gone,.c [.QF x.to,.sl 13 x.by_.length 1,.QG x.harmed],.gone,.c [.QF x.to,.d (.raw z.1),.QG x.harmed]]) (BN hr rfl rfl rfl ?_) rfl rfl rfl rfl rfl ?_
    .refine AC C6 ?_;with_reducible repeat' first|constructor|intro hc
     refine zR ?_;refine HX C6 ?_ (C0 e1) (HY [14,0] (P8 x.to z.1 x.harmed));with_reducible repeat' first|constructor|intro hc
     exact⟨_,A3.refl _,Sv _,rfl,rfl,rfl⟩
    .refine AC F1 ?_;with_reducible repeat' first|constructor|intro hc
     refine⟨(k+1,cs,rs++[z.2],(some (x.to,z.1,x.harmed))),⟨hkl,(by show cs.length<=k+1;omega),h3.more z.2,NW.eq (F5.u hz hb rs) x.to x.harmed⟩,(by show l.length-(k+1)<l.length-k;omega),Qn _,?_⟩;exact A3.ck rfl
   .have e1:((k:Int)!=(a:Int))=true:=by rw[bne_iff_ne];omega
    have nS:=Rk
    repeat'(first|((with_reducible refine sg ?_);first|with_reducible rfl|((with_reducible refine CO ?_);first|kernel_rfl|rfl|(simp[B9,Bc,nS];done))|with_reducible refine CM ?_ ?_|with_reducible exact Ri _|with_reducible exact AP _|((with_reducible refine RQ ?_);first|omega|(simp only[BB,nS];omega))|decide|(simp[BB,slc,AJ,D.one,Ac,AV.one,nS];done)|(simp[BB,nS];omega))|((with_reducible refine Fg ?_);first|(refine AZ rfl ?_;refine Fa A7 rfl rfl rfl rfl ?_)|(refine BM rfl ?_;refine IH A7 rfl rfl rfl rfl rfl (RF _) (Ag hx) ?_)|refine Xq A7 rfl rfl rfl rfl ?_ ?_|refine Xn [0,1,3,4,6,7,8,9,18] rfl ?_|refine Xa A7 rfl rfl rfl rfl rfl ?_ ?_|refine Xw A7 rfl rfl rfl rfl ?_ ?_)|refine BD ?_|refine AQ ?_|(refine XE (A':=fun z=> .d (.agg [.QO x.to,.raw z.1,.b x.harmed])) (B':=fun z=>[.c (Oa o),.c [.d (A1 l),.QF n],.c [.QF a],.c [.fn (.func 21) [] [.ptr 0 0 3]],.c [.e0,.QF 0],.a (.sl 3 cs),.c [.sl 5 cs.length 3,.QF n],.c [.d (A1 l),.QF n],.many (rs++[z.2]),.lp r,.c [.QF x.to,.d (.by x.by_),.QG x.harmed],.gone,.c [.QF x.to,.sl 13 x.by_.length 1,.QG x.harmed],.gone]) [8] (C5 x rs hb) rfl rfl rfl ⟨rfl,trivial⟩ rfl rfl rfl (fun _=>rfl) (fun _=>rfl) (fun _=>rfl) (fun z hz=> ?_))|refine Ao ?_|refine BC ?_|refine AY ?_|refine An ?_|refine AO rfl ?_|refine AN rfl ?_|(refine Aj rfl (fun hc=> ?_) (fun hc=> ?_)<;>(try simp only[CV]at hc)<;>(try(exfalso;omega))))
    refine Xy (x:=.QG true) (H':=[.c (Oa o),.c [.d (A1 l),.QF n],.c [.QF a],.c [.fn (.func 21) [] [.ptr 0 0 3]],.c [.e0,.QF 0],.a (.sl 3 (cs++[[.QO x.to,.raw z.1,.b x.harmed]])),.c [.sl 5 (cs.length+1) 3,.QF n],.c [.d (A1 l),.QF n],.many (rs++[z.2]),.lp r,.c [.QF x.to,.d (.by x.by_),.QG x.harmed],.gone,.c [.QF x.to,.sl 13 x.by_.length 1,.QG x.harmed],.gone,.c [.QF x.to,.d (.raw z.1),.QG x.harmed]]) (BN hr rfl rfl rfl ?_) rfl rfl rfl rfl rfl ?_
    .refine AC C6 ?_;with_reducible repeat' first|constructor|intro hc
     refine zR ?_;refine B6 C6 ?_ (C0 e1);with_reducible repeat' first|constructor|intro hc
     exact⟨_,A3.refl _,Sv _,rfl,rfl,by simp only[RH,Qz,RY,Rj,Rt,RZ]⟩
    .refine AC F1 ?_;with_reducible repeat' first|constructor|intro hc
     refine⟨(k+1,(cs++[[.QO x.to,.raw z.1,.b x.harmed]]),rs++[z.2],o),⟨hkl,(by show(cs++[_]).length<=k+1;rw[RH];exact Nat.succ_le_succ h2),h3.snoc hz hb x.to x.harmed,h4.ne hka z.2⟩,(by show l.length-(k+1)<l.length-k;omega),Qn _,?_⟩;exact A3.ck rfl
  .have e:k=l.length:=om
   subst e;refine AC F1 ?_;with_reducible repeat' first|constructor|intro hc
   obtain⟨t,u,h,rfl,hu⟩:=h4.1 ha;exact⟨_,A3.refl _,Qn _,_,_,rfl,rfl,cs,rs,t,u,h,⟨h3,h2,hu⟩,rfl⟩
 .rintro r hr x H' ⟨cs,rs,t,u,h,h1,rfl⟩;refine .inl ⟨rfl,?_⟩;simp only[Oa];refine AC C6 ?_;with_reducible repeat' first|constructor|intro hc
  exact⟨⟨[(6,.ptr 4 0 2)],[.c [.QF t,.d (.raw u),.QG h],.gone,.gone,.gone,.c [.sl 5 cs.length 3,.QF n],.a (.sl 3 cs),.gone,.gone,.many rs],Try.f20.ntmps⟩,(A3.ck rfl),QI,_,_,rfl,rfl,(cs,rs,t,u,h),h1,rfl,rfl⟩
end Go.Proofs.Ytmlaifbbpdanmaa
namespace Go.Proofs.Ytmlaifbbpdanmaa
open Go.Gar
variable {rs:Ct}{l l':A5}
theorem E8.upd{u:Value}{j b N:Nat}(h:E8 u rs)(hj:rs[j]? =some (some (b,N,l)))(hl:l'.length=l.length):E8 u (rs.set j (some (b,N,l'))):=by
 have hjl:j<rs.length:=(Qh.1 hj).1;rcases h with h|⟨b2,N2,l2,h1,h2,h3⟩
 .exact .inl h
 .obtain⟨j2,h4⟩:=SN h2
  by_cases e:j2=j
  .subst e;rw[hj]at h4;cases h4;exact .inr ⟨b,N,l',by rw[hl];exact h1,Ro (i:=j2) (by rw[Qs hjl]),om⟩
  .exact .inr ⟨b2,N2,l2,h1,Ro (i:=j2) (by rw[RG (Ne.symm e)];exact h4),h3⟩
variable {cs:List (R6)}
theorem AS.upd{j b N:Nat}(h:AS cs rs)(hj:rs[j]? =some (some (b,N,l)))(hl:l'.length=l.length):AS cs (rs.set j (some (b,N,l'))):=fun c hc=>by
 obtain⟨t,u,x,e,k⟩:=h c hc;exact⟨t,u,x,e,k.upd hj hl⟩
theorem AS.to(h:AS cs rs){k:Nat}{t:Int}{u:Value}{x:Bool}(hk:cs[k]? =some [.QO t,.raw u,.b x])(t':Int):AS (cs.set k [.QO t',.raw u,.b x]) rs:=fun c hc=>by
 rcases TK hc with hc|rfl
 .exact h c hc
 .obtain⟨t0,u0,x0,e,q⟩:=h _ (Ro hk);cases e;exact⟨t',u,x,rfl,q⟩
theorem AS.get(h:AS cs rs){k:Nat}(hk:k<cs.length):∃t u x,cs[k]? =some [.QO t,.raw u,.b x]/\E8 u rs:=by
 obtain⟨t,u,x,e,q⟩:=h cs[k] (List.getElem_mem hk);exact⟨t,u,x,by rw[Qm hk,e],q⟩
theorem E1{es:List (R6)}{sz:Nat}(ho:∀e∈es,e.length=sz):∀{a:Nat}{e:R6}{k:Nat}{d:D},es[a]? =some e->e[k]? =some d->es.flatten[a*sz+k]? =some d:=by
 induction es with
 |nil=>intro a e k d h _;simp at h
 |cons c r ih=>
  intro a e k d h hk;have hc:=ho c sm;have hkl:k<e.length:=(Qh.1 hk).1
  cases a with
  |zero=>
   simp at h;subst h;rw[Rx,Nat.zero_mul,RZ,Qq hkl];exact hk
  |succ a=>
   have h:r[a]? =some e:=by simpa using h
   rw[Rx,Qx (by rw[hc,SA];omega),hc];have:(a+1)*sz+k-sz=a*sz+k:=by rw[SA];omega
   rw[this];exact ih (fun x hx=>ho x (by simp[hx])) h hk
theorem AS.three(h:AS cs rs):∀e∈cs,e.length=3:=fun c hc=>by
 obtain⟨t,u,x,e,_⟩:=h c hc;rw[e];rfl
def CY(y:A5)(j:Nat):A5:=y.set j (UInt8.ofNat (C7 .xor .u8 ((y.getD j 0).toNat:Int) 255).toNat)
theorem CB(y:A5)(j:Nat):(CY y j).length=y.length:=by simp[CY]
end Go.Proofs.Ytmlaifbbpdanmaa
