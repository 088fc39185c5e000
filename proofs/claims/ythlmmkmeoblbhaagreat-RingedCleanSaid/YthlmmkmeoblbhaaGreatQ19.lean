/- Part 19 of a proof. Conditions: those that its theorems state. -/
import Derived.Test.YthlmmkmeoblbhaaGreatQ18
set_option linter.unusedSimpArgs false
set_option linter.unusedVariables false
set_option linter.unnecessarySimpa false
set_option maxHeartbeats 40000000
set_option maxRecDepth 4000
namespace Go.Proofs.YthlmmkmeoblbhaaGreat
namespace Bg
open Go.Gar
open Nd (Af)
abbrev RE:BK:=[0,1,2,4,5,11,26]
theorem MB(b:Dr)(hl:b.grams.length<=1000)(hs:small b.grams):yA 38 [b.d] b.d:=by
 refine GE (Z7 b.grams b.lost hl hs) ?_;simp[N4,EA,Ev,C4,JH,Dr.d,B3]
theorem Ia(b:Dr)(l:List Af)(hb:b.grams.length<=1000)(hbs:small b.grams)(hl:l.length<=1000)(hs:small l):yA 85 [b.d,Ba l] (I4 b l).d:=by
 obtain⟨gs,n⟩:=b;replace hb:gs.length<=1000:=hb;refine zF AK Tryz.func85 ?_;refine Cd RE ?_ (E8 [] (Z7 gs n hb hbs));with_reducible repeat' first|constructor|intro hc
 refine BY (fun k=>k<=l.length) (fun k:Nat=>⟨[(1,.d (Ba l)),(2,.ptr 0 0 2),(4,.ptr 1 0 2),(5,.y5 k)],[.c [.sl 4 (I4 ⟨gs,n⟩ (l.take k)).grams.length 3,.y5 ((I4 ⟨gs,n⟩ (l.take k)).lost)],.c [.e0,.y5 0],.gone,.gone,.a (Ba (I4 ⟨gs,n⟩ (l.take k)).grams)],42⟩) (fun k=>l.length-k) 0 (yx _) ?_ y9 ?_
 .exact A5.ck rfl
 intro k hk;have hle:=ri ⟨gs,n⟩ (l.take k);rw[q09]at hle;replace hle:(I4 ⟨gs,n⟩ (l.take k)).grams.length<=gs.length+min k l.length:=hle
 by_cases hkl:k<l.length
 .obtain⟨x,hx⟩:=AS hkl;have hxb:=Gw hs hx;have hn:=gw ⟨gs,n⟩ hx;generalize I4 ⟨gs,n⟩ (l.take k)=c at*
  by_cases hA:c.grams.length<400/\x.by_.length<=120
  .rw[sS hA]at hn;have ix1:=hx;refine AP RE ?_ (AQ (KN x hxb));clear ix1;with_reducible repeat' first|constructor|intro hc
   all_goals first
    |(exfalso;omega)
    |skip
   refine⟨k+1,hkl,om,yV _,?_⟩;exact(have nC:=yg hn (yg @Ba.eq_1 @Nd.Af.A1.eq_1);A5.cn rfl)
  .rw[ou hA]at hn;have ix1:=hx;have wr:Lv [29]:=trivial;refine AP RE ?_ (AQ (KN x hxb));clear wr ix1;with_reducible repeat' first|constructor|intro hc
   all_goals first
    |(exfalso;omega)
    |(refine⟨k+1,hkl,om,yV _,?_⟩;exact(have nC:=hn;A5.cn rfl))
 .have e:k=l.length:=om
  subst e;rw[zU]at *;refine A9 RE ?_;with_reducible repeat' first|constructor|intro hc
  exact BO (yg @Dr.d.eq_1 @Ba.eq_1)
theorem fU{α:Type}(l:List α)(a:Nat):l.eraseIdx a=l.take a++l.drop (a+1):=List.eraseIdx_eq_take_drop_succ _ _
theorem NI{l:List Af}{n Ck:Int}(h:Dr.OD ⟨l,n⟩ Ck=false):Ck<0\/(l.length:Int)<=Ck:=by
 simp only[Dr.OD,q0f,zn]at h;omega
theorem ZC(b:Dr)(Ck:Int)(hb:b.grams.length<=1000)(hbs:small b.grams):yA 86 [b.d,.yE Ck] (.tup [(takeB b Ck).1.d,(takeB b Ck).2.1.d,.b (takeB b Ck).2.2]):=by
 have hO:=MB b hb hbs;obtain⟨gs,n⟩:=b;replace hb:gs.length<=1000:=hb;refine zF AK Tryz.func86 ?_;unfold takeB
 cases h:Dr.OD ⟨gs,n⟩ Ck with
 |true=>
  obtain⟨a,rfl,ha⟩:=HO h;replace ha:a<gs.length:=ha;obtain⟨x,hx⟩:=AS ha;have hg:gs.getD a Fx=x:=by rw[zJ,hx];rfl
  have hE:=fU gs a;simp only[q0m,hg,zx];have g0:decide ((a:Int)<0)=false:=yY om;have g1:decide ((a:Int)>=(gs.length:Int))=false:=yY om;have ix1:=hx;have ow:Lv [31]:=trivial;refine AD [0,1,2,4,5,6,7,18] ?_ (B1 g0 g1) (AQ @hO) [(6,5),(7,5)] [6];clear ow ix1;with_reducible repeat' first|constructor|intro hc
  have e1:((a:Int)+1).toNat=a+1:=om
  rw[e1];refine A9 [0,1,2,4,5,6,7,18] ?_ [(1,2)];with_reducible repeat' first|constructor|intro hc
  refine⟨_,_,rfl,rfl,?_⟩;simp[E5,B3,B8,Aq,Dr.d,Ba,hx,Nd.Af.d,Nd.Af.A1,hE,zS,List.map_take,List.map_drop]
 |false=>
  have hx:=NI h;refine AP [0,1,2,4,5,6,7,18] ?_ (AQ @hO);with_reducible repeat' first|constructor|intro hc
  all_goals first
   |(exfalso;omega)
   |(refine⟨_,_,rfl,rfl,?_⟩;simp[E5,B3,B8,Aq,Dr.d,Ba,Nd.Af.d,Nd.Af.A1,Fx];done)
theorem TP(b:Dr)(Ck:Int)(hb:b.grams.length<=1000)(hbs:small b.grams):yA 89 [b.d,.yE Ck] (.tup [(Ke b Ck).1.d,.yE (Ke b Ck).2]):=by
 have hT:=ZC b Ck hb hbs;obtain⟨gs,n⟩:=b;replace hb:gs.length<=1000:=hb;refine zF AK Tryz.func89 ?_;unfold Ke;unfold takeB at hT
 cases h:Dr.OD ⟨gs,n⟩ Ck with
 |true=>
  rw[h]at hT;simp only[zx]at hT|-;generalize gs.eraseIdx Ck.toNat=r at *;generalize gs.getD Ck.toNat Fx=x at *;unfold Nd.Af.d Nd.Af.A1 at hT;have wr:Lv [21]:=trivial;refine AP [0,1,2,4,5,6,8,17] ?_ (AQ @hT);clear wr;with_reducible repeat' first|constructor|intro hc
  exact BO (yg @Dr.d.eq_1 @Ba.eq_1)
 |false=>
  rw[h]at hT;simp only[q0F,zo]at hT|-;unfold Nd.Af.d Nd.Af.A1 Fx at hT;refine AP [0,1,2,4,5,6,8,17] ?_ (AQ @hT);with_reducible repeat' first|constructor|intro hc
  exact BO (yg @Dr.d.eq_1 @Ba.eq_1)
theorem iT(b:Dr)(Ck:Int)(hb:b.grams.length<=1000)(hbs:small b.grams):yA 90 [b.d,.yE Ck] (.tup [(Hn b Ck).1.d,.yE (Hn b Ck).2]):=by
 have hO:=MB b hb hbs;obtain⟨gs,n⟩:=b;replace hb:gs.length<=1000:=hb;refine zF AK Tryz.func90 ?_;unfold Hn
 cases h:Dr.OD ⟨gs,n⟩ Ck with
 |true=>
  obtain⟨a,rfl,ha⟩:=HO h;replace ha:a<gs.length:=ha;obtain⟨x,hx⟩:=AS ha;have hg:gs.getD a Fx=x:=by rw[zJ,hx];rfl
  have hS:=Ia ⟨gs,n⟩ [x] hb hbs sm (by intro g hg;simp at hg;subst hg;exact Gw hbs hx);simp only[q0m,hg,zx];generalize I4 ⟨gs,n⟩ [x]=p at *;have g0:decide ((a:Int)<0)=false:=yY om;have g1:decide ((a:Int)>=(gs.length:Int))=false:=yY om;have ix1:=hx;refine AD [0,1,2,4,5,14] ?_ (B1 g0 g1) (AQ @hS);clear ix1;with_reducible repeat' first|constructor|intro hc
  all_goals first
   |(exfalso;omega)
   |(refine⟨_,_,rfl,rfl,?_⟩;simp[E5,B3,B8,Aq,Dr.d,Ba];done)
 |false=>
  have hx:=NI h;refine AP [0,1,2,4,5,14] ?_ (AQ @hO);with_reducible repeat' first|constructor|intro hc
  all_goals first
   |(exfalso;omega)
   |(refine⟨_,_,rfl,rfl,?_⟩;simp[E5,B3,B8,Aq,Dr.d,Ba];done)
abbrev KS:BK:=[0,1,2,3,4,8,9,47]
theorem oD{l:List Af}{a:Nat}{x:Af}(hx:l[a]? =some x)(b N:Nat):(F8 l a x b N l.length)[a]? =some (TV x b N):=by
 unfold F8;have ha:a<l.length:=(yZ.1 hx).1;rw[zU,q08 (by simpa using ha)]
theorem flat_get{es:List (yo)}{sz:Nat}(ho:∀e∈es,e.length=sz):∀{a:Nat}{e:yo}{k:Nat}{d:D},es[a]? =some e->e[k]? =some d->es.flatten[a*sz+k]? =some d:=by
 induction es with
 |nil=>intro a e k d h _;simp at h
 |cons c r ih=>
  intro a e k d h hk;have hc:=ho c sm;have hkl:k<e.length:=(yZ.1 hk).1
  cases a with
  |zero=>
   simp at h;subst h;rw[q0U,Nat.zero_mul,q0M,zW hkl];exact hk
  |succ a=>
   have h:r[a]? =some e:=by simpa using h
   rw[q0U,zl (by rw[hc,q0i];omega),hc];have:(a+1)*sz+k-sz=a*sz+k:=by rw[q0i];omega
   rw[this];exact ih (fun x hx=>ho x (by simp[hx])) h hk
theorem TW(l:List Af)(a:Nat)(x:Af)(b N k:Nat):∀e∈F8 l a x b N k,e.length=3:=by
 intro e he;rcases q0t he with h|rfl
 .obtain⟨g,_,rfl⟩:=q0q.1 h;rfl
 .rfl
theorem nT(l:List Af)(n:Int)(hl:l.length<=1000)(hs:small l)(a:Nat)(x:Af)(hx:l[a]? =some x)(i:Nat)(hi:i<x.by_.length)(m:Int)(hh:x.harmed=false)(hm:(m==0)=false):
  yA 91 [Dr.d ⟨l,n⟩,.yE a,.yE i,.i .u8 m] (.tup [Dr.d ⟨l.set a (O9 x i m),n⟩,.yE 0]):=by
 have ha:a<l.length:=(yZ.1 hx).1;have hxb:=Gw hs hx;refine GE (x:=.tup [.ag [.sl 4 l.length 3,.y5 n],.y5 0]) (H:=[.gone,.c [.sl 4 l.length 3,.y5 n],.gone,.gone,.a (Ba (l.set a (O9 x i m)))]) ?_ ?_
 .refine zD AK Tryz.func91 ?_;have nS:=zi
  repeat'(first|((with_reducible refine sg ?_);first|with_reducible rfl|((with_reducible refine UC ?_);first|kernel_rfl|rfl|(simp[Hi,Ku,nS];done))|with_reducible refine PD ?_ ?_|with_reducible exact q1L _|with_reducible exact FR _|((with_reducible refine yX ?_);first|omega|(simp only[Mm,nS];omega))|decide|(simp[Mm,slc,Do,D.one,GF,AV.one,nS];done)|(simp[Mm,nS];omega))|((with_reducible refine qS ?_);first|(refine Hx rfl ?_;refine pu AK rfl rfl rfl rfl ?_)|refine Xq AK rfl rfl rfl rfl ?_ ?_|refine Xn [0,1,2,3,4,8,9,47] rfl ?_|refine Xa AK rfl rfl rfl rfl rfl ?_ ?_|refine Xw AK rfl rfl rfl rfl ?_ ?_|refine Xs rfl rfl rfl ?_|(refine Rl rfl rfl (fun hc=> ?_) (fun hc=> ?_)<;>(fail_if_success (with_reducible first|exact tF hc|exact fT hc))<;>(try simp only[Q3]at hc)<;>(try(exfalso;omega))))|((with_reducible refine vg ?_);first|(refine Lm rfl ?_;refine vZ AK rfl rfl (fun _=>rfl) rfl rfl ?_)|refine Yp AK rfl rfl (fun _=>rfl) rfl rfl ?_ ?_|refine Yq rfl rfl rfl rfl rfl ?_ ?_|refine Ys rfl rfl rfl rfl ?_|refine Ya AK rfl rfl rfl rfl rfl rfl ?_ ?_|refine Yw AK rfl rfl rfl rfl rfl ?_ ?_|refine Yn [0,1,2,3,4,8,9,47] [] mixed AK (by kernel_rfl) zi rfl ?_|(refine Rm rfl rfl (fun hc=> ?_) (fun hc=> ?_)<;>(fail_if_success (with_reducible first|exact tF hc|exact fT hc))<;>(try simp only[Q3]at hc)<;>(try(exfalso;omega))))|refine Mo ?_|refine JP [2] rfl ?_|refine Ri [2] T.get rfl ?_|(refine wa (fun _ _=> .ag [.sl 4 l.length 3,.y5 n]) (fun b N=>[.c [.d (Ba l),.y5 n],.c [.e0,.y5 0],.gone,.c [.sl 4 (F8 l a x b N l.length).length 3,.y5 n],.a (.sl 3 (F8 l a x b N l.length)),.gone,.gone,.gone,.HW b N x.by_]) (s4 l n hl hs a x hx om) rfl rfl rfl (fun _ _=>rfl) (fun _ _=>rfl) (fun _ _=>rfl) (fun b N hbN=> ?_))|refine JJ ?_|refine Mn ?_|refine H7 ?_|refine JI ?_|refine FQ rfl ?_|refine FP rfl ?_|(refine IJ rfl (fun hc=> ?_) (fun hc=> ?_)<;>(try simp only[Q3]at hc)<;>(try(exfalso;omega))))
  have hr1:(F8 l a x b N l.length).length=l.length:=by rw[OX,zU]
  have hg:=oD hx b N;have hf:=@flat_get _ _ (TW l a x b N l.length) a
  have f1:(slc (.sl 3 (F8 l a x b N l.length))).getD (a*3+1) .np= .raw (.slice (some ⟨b,0,none⟩) x.by_.length N):=by
   have:=hf (k:=1) hg rfl;rw[zJ];show(List.flatten _)[_]?.getD _=_;rw[this];rfl
  have f2:(slc (.sl 3 (F8 l a x b N l.length))).getD (a*3+2) .np= .b false:=by
   have:=hf (k:=2) hg rfl;rw[zJ];show(List.flatten _)[_]?.getD _=_;rw[this,hh];rfl
  have f3:(F8 l a x b N l.length).getD a []=TV x b N:=by rw[zJ,hg];rfl
  generalize hrr:F8 l a x b N l.length=r at *;have e0:((a:Int)).toNat=a:=q0m a;have e0':((i:Int)).toNat=i:=q0m i;have g0:decide ((a:Int)<0)=false:=yY om;have g1:decide ((a:Int)>=(l.length:Int))=false:=yY om;have i0:decide ((i:Int)<0)=false:=yY om;have i1:decide ((i:Int)>=(x.by_.length:Int))=false:=yY om;refine Ae KS ?_ (zq10 e0 e0' hr1 f1 f2 g0 g1 i0 i1 hm);with_reducible repeat' first|constructor|intro hc
  .have hy:IT x.by_ i m=x.by_.set i (UInt8.ofNat (Cx .xor .u8 ((x.by_.getD i 0).toNat:Int) m).toNat):=rfl;rw[Nat.mul_one i,<-hy,f3];have hyl:=Uj x.by_ i m;have hT:=TW l a x b N l.length;rw[hrr]at hT;have ha':a<r.length:=om
   have hq:(r.set a ((TV x b N).set 2 (.b true)))[a]? =some [.yE x.to,.raw (.slice (some ⟨b,0,none⟩) x.by_.length N),.b true]:=by rw[q08 ha'];rfl
   have hQ:∀e∈r.set a ((TV x b N).set 2 (.b true)),e.length=3:=by
    intro e he;rcases q0t he with h|rfl
    .exact hT e h
    .rfl
   have hE:(l.set a (O9 x i m)).map Nd.Af.A1=(r.set a ((TV x b N).set 2 (.b true))).set a (((r.set a ((TV x b N).set 2 (.b true))).getD a []).set 1 (.by (IT x.by_ i m))):=by
    have e1:(r.set a ((TV x b N).set 2 (.b true))).getD a []=[.yE x.to,.raw (.slice (some ⟨b,0,none⟩) x.by_.length N),.b true]:=by rw[zJ,hq];rfl
    rw[e1,List.set_set,<-hrr];unfold F8;rw[zU,List.set_set,List.map_set];rfl
   generalize hG:r.set a ((TV x b N).set 2 (.b true))=G at *;have hp:=flat_get hQ (k:=1) hq rfl;rw[<-hyl]at hp;have hGl:a<G.length:=by rw[<-hG,q0y];exact ha'
   have hfs:=LD (.by (IT x.by_ i m)) (show 1<3 by decide) hQ hGl;rw[<-hE]at hfs
   have hz:∀e∈(l.set a (O9 x i m)).map Nd.Af.A1,e.length=3:=by
    intro e he;obtain⟨g,_,rfl⟩:=q0q.1 he;rfl
   have hn:((l.set a (O9 x i m)).map Nd.Af.A1).length=G.length:=by rw[zY,q0y,<-hG,q0y];omega
   refine⟨_,(A5.uX 8 4 (a*3+1) (b:=b) (N:=N) (l:=IT x.by_ i m) (sz:=3) (es:=G) (es':=(l.set a (O9 x i m)).map Nd.Af.A1) rfl rfl hp hfs hn hz).trans (fun _=>trivial) (A5.cut (S':=⟨[(8,.ptr 1 0 2),(9,.y5 0)],[.gone,.c [.sl 4 l.length 3,.y5 n],.gone,.gone,.a (Ba (l.set a (O9 x i m)))],_⟩) rfl ⟨rfl,rfl,trivial⟩ ?_ rfl rfl) ?_,yx _,_,_,rfl,rfl,rfl,rfl⟩
   .exact⟨.inl ⟨rfl,rfl⟩,.inr rfl,.inl ⟨rfl,rfl⟩,.inl ⟨rfl,rfl⟩,.inr rfl,trivial⟩
   .exact y9
  .have h1:=em (x.by_.getD i 0) m;unfold ZW at h1;simp only[Nat.mul_one,q1L,yX hi,yX h1.1,yX h1.2,q0g,zy,Bool.and_true]
   try rfl
 .simp[E5,B3,B8,Aq,Dr.d]
theorem nU(b:Dr)(Ck i m:Int)(hb:b.grams.length<=1000)(hbs:small b.grams):yA 91 [b.d,.yE Ck,.yE i,.i .u8 m] (.tup [(LI b Ck i m).1.d,.yE (LI b Ck i m).2]):=by
 have hO:=MB b hb hbs;obtain⟨gs,n⟩:=b;replace hb:gs.length<=1000:=hb;replace hbs:small gs:=hbs;unfold LI
 cases h:Dr.OD ⟨gs,n⟩ Ck with
 |true=>
  obtain⟨a,rfl,ha⟩:=HO h;replace ha:a<gs.length:=ha;obtain⟨x,hx⟩:=AS ha;have hg:gs.getD a Fx=x:=by rw[zJ,hx];rfl
  simp only[q0m,hg,zy];have g0:decide ((a:Int)<0)=false:=yY om;have g1:decide ((a:Int)>=(gs.length:Int))=false:=yY om
  cases hk:Sk x i m with
  |true=>
   simp only[Sk,yU,yc,q0H]at hk;obtain⟨⟨⟨h1,h2⟩,h3⟩,h4⟩:=hk;obtain⟨i',rfl⟩:∃k:Nat,i=k:=⟨i.toNat,om⟩;exact nT gs n hb hbs a x hx i' om m h3 h4
  |false=>
   simp only[Sk,q0f,zn,Bool.not_eq_false']at hk;refine zF AK Tryz.func91 ?_;obtain⟨xt,xb,xh⟩:=x
   have hk':i<0\/(xb.length:Int)<=i\/xh=true\/(m==0)=true:=by
    rcases hk with((hk|hk)|hk)|hk
    .exact .inl om
    .exact .inr (.inl (by replace hk:¬i<(xb.length:Int):=hk;omega))
    .exact .inr (.inr (.inl hk))
    .exact .inr (.inr (.inr hk))
   cases xh with
   |true=>
    have ix1:=hx;refine AD KS ?_ (B1 g0 g1) (AQ @hO);clear ix1;with_reducible repeat' first|constructor|intro hc
    all_goals first
     |(exfalso;omega)
     |(refine⟨_,_,rfl,rfl,?_⟩;simp[E5,B3,B8,Aq,Dr.d,Ba];done)
   |false=>
    cases e4:m==0 with
    |true=>
     have ix1:=hx;refine AD KS ?_ (DO g0 g1 e4) (AQ @hO);clear ix1;with_reducible repeat' first|constructor|intro hc
     all_goals first
      |(exfalso;omega)
      |(refine⟨_,_,rfl,rfl,?_⟩;simp[E5,B3,B8,Aq,Dr.d,Ba];done)
    |false=>
     have hk2:i<0\/(xb.length:Int)<=i:=by
      rcases hk' with h|h|h|h
      .exact .inl h
      .exact .inr h
      .cases h
      .rw[e4]at h;cases h
     rcases hk2 with hk2|hk2
     .have i0:decide (i<0)=true:=yX hk2;have ix1:=hx;refine AD KS ?_ (Hc g0 g1 e4 i0) (AQ @hO);clear ix1;with_reducible repeat' first|constructor|intro hc
      all_goals first
       |(exfalso;omega)
       |(refine⟨_,_,rfl,rfl,?_⟩;simp[E5,B3,B8,Aq,Dr.d,Ba];done)
     .have i0:decide (i<0)=false:=yY om;have i1:decide (i>=(xb.length:Int))=true:=yX om;have ix1:=hx;refine AD KS ?_ (Ll g0 g1 e4 i0 i1) (AQ @hO);clear ix1;with_reducible repeat' first|constructor|intro hc
      all_goals first
       |(exfalso;omega)
       |(refine⟨_,_,rfl,rfl,?_⟩;simp[E5,B3,B8,Aq,Dr.d,Ba];done)
 |false=>
  have hx:=NI h;refine zF AK Tryz.func91 ?_;simp only[q0Z,q0F,zo];rcases hx with hx|hx
  .have g0:decide (Ck<0)=true:=yX hx;refine AD KS ?_ (AQ g0) (AQ @hO);with_reducible repeat' first|constructor|intro hc
   all_goals first
    |(exfalso;omega)
    |(refine⟨_,_,rfl,rfl,?_⟩;simp[E5,B3,B8,Aq,Dr.d,Ba];done)
  .have g0:decide (Ck<0)=false:=yY om;have g1:decide (Ck>=(gs.length:Int))=true:=yX om;refine AD KS ?_ (B1 g0 g1) (AQ @hO);with_reducible repeat' first|constructor|intro hc
   all_goals first
    |(exfalso;omega)
    |(refine⟨_,_,rfl,rfl,?_⟩;simp[E5,B3,B8,Aq,Dr.d,Ba];done)
end Bg
end Go.Proofs.YthlmmkmeoblbhaaGreat
namespace Go.Proofs.YthlmmkmeoblbhaaGreat
open Go.Gar
abbrev Dm:BK:=[0,1,2,4,5,6,11,17,26,36,39,47]
theorem nP(v:AB)(d:Int)(hid:i64 v.id)(hli:∀y∈v.A8,i64 y)(hb:v.A2.length<=1000)(hl:v.A8.length<=1000):yA 248 [v.d,.yE d] (Ca v d).d:=by
 obtain⟨id,A2,A8,AO,f⟩:=v;replace hid:i64 id:=hid;replace hli:∀y∈A8,i64 y:=hli;replace hb:A2.length<=1000:=hb;replace hl:A8.length<=1000:=hl;have c1:=oY ⟨id,A2,A8,AO,f⟩ (by show A2.length<=100000;omega) (by show A8.length<=100000;omega);have c2:=Ie ⟨id,A2,A8,AO,f⟩ hid hli hb hl;have c4:=TP A8 d hl;have hR:Ca ⟨id,A2,A8,AO,f⟩ d=if AZ ⟨id,A2,A8,AO,f⟩&& !(decide (d∈A2))then⟨id,A2,E1 A8 d,if AO=d then -1 else AO,fun i=>if f i=d then -1 else f i⟩else⟨id,A2,A8,AO,f⟩:=rfl;refine zF AK Tryz.func248 ?_
 cases h:AZ ⟨id,A2,A8,AO,f⟩with
 |false=>
  rw[h]at c2 hR;rw[hR];refine AP Dm ?_ (B1 @c1 @c2);with_reducible repeat' first|constructor|intro hc
  exact BO (yg @AB.d.eq_1 @AB.A1.eq_1)
 |true=>
 rw[h]at c2 hR;refine AP Dm ?_ (B1 @c1 @c2);with_reducible repeat' first|constructor|intro hc
 refine BY (fun k=>k<=A2.length/\d∉A2.take k) (fun k:Nat=>⟨[(1,.y5 d),(2,.ptr 0 0 20),(4,.ptr 1 0 20),(5,.y5 k)],[.c [.y5 id,.yD A2,.yD A8,.y5 AO,.y5 (f 0),.y5 (f 1),.y5 (f 2),.y5 (f 3),.y5 (f 4),.y5 (f 5),.y5 (f 6),.y5 (f 7),.y5 (f 8),.y5 (f 9),.y5 (f 10),.y5 (f 11),.y5 (f 12),.y5 (f 13),.y5 (f 14),.y5 (f 15)],.c [.y5 0,.e0,.e0,.y5 0,.y5 0,.y5 0,.y5 0,.y5 0,.y5 0,.y5 0,.y5 0,.y5 0,.y5 0,.y5 0,.y5 0,.y5 0,.y5 0,.y5 0,.y5 0,.y5 0]],52⟩) (fun k=>A2.length-k) 0 ⟨yx _,sm⟩ ?_ (yV _) ?_
 .exact A5.ck rfl
 rintro k ⟨hk,hpre⟩
 by_cases hkl:k<A2.length
 .obtain⟨p,hp⟩:=AS hkl;have gp:=BQ hp
  by_cases e:p=d
  .have hm:d∈A2:=e▸zM hp;rw[yX hm]at hR;rw[hR];have g:=B6 e;refine Ae Dm ?_ (B1 gp g);with_reducible repeat' first|constructor|intro hc
   exact BO (yg @AB.d.eq_1 @AB.A1.eq_1)
  .have g:=eq_false' e
   have hn:d∉A2.take (k+1):=by
    rw[AM hp];intro hm;rcases q04.mp hm with hm|hm
    .exact hpre hm
    .exact e (q00.mp hm).symm
   refine Ae Dm ?_ (B1 gp g);with_reducible repeat' first|constructor|intro hc
   refine⟨k+1,⟨hkl,hn⟩,om,yV _,?_⟩;exact A5.ck rfl
 have e0:k=A2.length:=om
 subst e0;rw[zU]at hpre;rw[yY hpre]at hR
 by_cases h3:AO=d
 .have f3:=B6 h3;rw[zN h3]at hR;refine AD Dm ?_ (AQ f3) (AQ @c4);with_reducible repeat' first|constructor|intro hc
  refine BY (P6 f d) (fun x=>⟨[(1,.y5 d),(2,.ptr 0 0 20),(4,.ptr 1 0 20),(6,.y5 x.1)],[.c [.y5 id,.yD A2,.yD (E1 A8 d),.y5 (-1),.y5 (x.2 0),.y5 (x.2 1),.y5 (x.2 2),.y5 (x.2 3),.y5 (x.2 4),.y5 (x.2 5),.y5 (x.2 6),.y5 (x.2 7),.y5 (x.2 8),.y5 (x.2 9),.y5 (x.2 10),.y5 (x.2 11),.y5 (x.2 12),.y5 (x.2 13),.y5 (x.2 14),.y5 (x.2 15)],.c [.y5 0,.e0,.e0,.y5 0,.y5 0,.y5 0,.y5 0,.y5 0,.y5 0,.y5 0,.y5 0,.y5 0,.y5 0,.y5 0,.y5 0,.y5 0,.y5 0,.y5 0,.y5 0,.y5 0]],52⟩) (fun x=>16-x.1) (0,f) ss ?_ (yV _) ?_
  .exact A5.ck rfl
  rintro⟨k,h⟩ hi;have hk:k<=16:=hi.1
  by_cases hk2:k<16
  .have e3:=hi.at
   by_cases e:f k=d
   .have g:=B6 e;have hn:=hi.yes hk2 e;rcases YO hk2 with rfl|rfl|rfl|rfl|rfl|rfl|rfl|rfl|rfl|rfl|rfl|rfl|rfl|rfl|rfl|rfl
    all_goals
     refine Ae Dm ?_ (B1 g e3);with_reducible repeat' first|constructor|intro hc
     refine⟨_,hn,(by dsimp only;omega),yV _,?_⟩;exact A5.ck rfl
   .have g:=eq_false' e;have hn:=hi.no hk2 e;rcases YO hk2 with rfl|rfl|rfl|rfl|rfl|rfl|rfl|rfl|rfl|rfl|rfl|rfl|rfl|rfl|rfl|rfl
    all_goals
     refine Ae Dm ?_ (B1 g e3);with_reducible repeat' first|constructor|intro hc
     refine⟨_,hn,(by dsimp only;omega),yV _,?_⟩;exact A5.ck rfl
  .have e16:k=16:=om
   subst e16;refine A9 Dm ?_;with_reducible repeat' first|constructor|intro hc
   refine⟨_,_,rfl,rfl,?_⟩;simp[E5,B3,B8,Aq,hR,AB.d,AB.A1,hi.end 0 (by decide),hi.end 1 (by decide),hi.end 2 (by decide),hi.end 3 (by decide),hi.end 4 (by decide),hi.end 5 (by decide),hi.end 6 (by decide),hi.end 7 (by decide),hi.end 8 (by decide),hi.end 9 (by decide),hi.end 10 (by decide),hi.end 11 (by decide),hi.end 12 (by decide),hi.end 13 (by decide),hi.end 14 (by decide),hi.end 15 (by decide)]
 .have f3:=eq_false' h3;rw[zO h3]at hR;refine AD Dm ?_ (AQ f3) (AQ @c4);with_reducible repeat' first|constructor|intro hc
  refine BY (P6 f d) (fun x=>⟨[(1,.y5 d),(2,.ptr 0 0 20),(4,.ptr 1 0 20),(6,.y5 x.1)],[.c [.y5 id,.yD A2,.yD (E1 A8 d),.y5 AO,.y5 (x.2 0),.y5 (x.2 1),.y5 (x.2 2),.y5 (x.2 3),.y5 (x.2 4),.y5 (x.2 5),.y5 (x.2 6),.y5 (x.2 7),.y5 (x.2 8),.y5 (x.2 9),.y5 (x.2 10),.y5 (x.2 11),.y5 (x.2 12),.y5 (x.2 13),.y5 (x.2 14),.y5 (x.2 15)],.c [.y5 0,.e0,.e0,.y5 0,.y5 0,.y5 0,.y5 0,.y5 0,.y5 0,.y5 0,.y5 0,.y5 0,.y5 0,.y5 0,.y5 0,.y5 0,.y5 0,.y5 0,.y5 0,.y5 0]],52⟩) (fun x=>16-x.1) (0,f) ss ?_ (yV _) ?_
  .exact A5.ck rfl
  rintro⟨k,h⟩ hi;have hk:k<=16:=hi.1
  by_cases hk2:k<16
  .have e3:=hi.at
   by_cases e:f k=d
   .have g:=B6 e;have hn:=hi.yes hk2 e;rcases YO hk2 with rfl|rfl|rfl|rfl|rfl|rfl|rfl|rfl|rfl|rfl|rfl|rfl|rfl|rfl|rfl|rfl
    all_goals
     refine Ae Dm ?_ (B1 g e3);with_reducible repeat' first|constructor|intro hc
     refine⟨_,hn,(by dsimp only;omega),yV _,?_⟩;exact A5.ck rfl
   .have g:=eq_false' e;have hn:=hi.no hk2 e;rcases YO hk2 with rfl|rfl|rfl|rfl|rfl|rfl|rfl|rfl|rfl|rfl|rfl|rfl|rfl|rfl|rfl|rfl
    all_goals
     refine Ae Dm ?_ (B1 g e3);with_reducible repeat' first|constructor|intro hc
     refine⟨_,hn,(by dsimp only;omega),yV _,?_⟩;exact A5.ck rfl
  .have e16:k=16:=om
   subst e16;refine A9 Dm ?_;with_reducible repeat' first|constructor|intro hc
   refine⟨_,_,rfl,rfl,?_⟩;simp[E5,B3,B8,Aq,hR,AB.d,AB.A1,hi.end 0 (by decide),hi.end 1 (by decide),hi.end 2 (by decide),hi.end 3 (by decide),hi.end 4 (by decide),hi.end 5 (by decide),hi.end 6 (by decide),hi.end 7 (by decide),hi.end 8 (by decide),hi.end 9 (by decide),hi.end 10 (by decide),hi.end 11 (by decide),hi.end 12 (by decide),hi.end 13 (by decide),hi.end 14 (by decide),hi.end 15 (by decide)]
end Go.Proofs.YthlmmkmeoblbhaaGreat
namespace Go.Proofs.YthlmmkmeoblbhaaGreat
namespace Nd
open Go.Gar
open Wi (AE BE Ay AU C2)
abbrev MU:BK:=[0,1,2,3,4,5,6,7,8,15,20,47]
abbrev X9:BK:=[0,1,2,3,4,6,7,17,28]
theorem dq(x:Int):∀(l:Ao)(n:Nat)(a:Int),rT x (An x a) (FC.makR x a l n)=true
 |[],n,a=>by unfold FC.makR;rfl
 |p::r,0,a=>by unfold FC.makR;rfl
 |p::r,n+1,a=>by
  unfold FC.makR;split
  .rename_i h;rw[rT,h,dq x r n p];rfl
  .rfl
theorem gK(x s:Int)(l:Ao):CB x (FC x s l)=true:=by
 unfold CB;rw[yX (mY x s l),zy];unfold FC;split
 .rename_i h;rw[yU,yc]at h;have h1:=Cq h.1
  have h2:An x s>0:=by
   have:=h.2;unfold C9 at this;unfold An;omega
  rw[rT,dq,h.1,yX h2];rfl
 .rfl
structure RV' (v:AB):Prop where
 id:i64 v.id
 l:∀y∈v.A8,i64 y
 b:v.A2.length<=1000
 n:v.A8.length<=1000
 p:i64 v.AO
theorem eD{id n:Int}(h:Eu id n=true):i64 n:=by
 by_cases e:n= -1
 .subst e;unfold i64;omega
 .exact DW (Yh h e)
variable {v:AB}
theorem Lb(h:AZ v=true):RV' v:=by
 obtain⟨h1,h2,h3,h4,_⟩:=Bz h;unfold CB at h3;rw[yU,yc]at h3;unfold CZ at h2;simp only[yU,yc]at h2;exact⟨DW h1,fun y hy=>DW ((ZB _ _ _ h3.2).1 y hy).1,om,om,eD h4⟩
theorem OV(h:AZ v=true):yA 77 [v.d] (.b true):=by
 have r:=Lb h;have:=Ie v r.id r.l r.b r.n;rw[h]at this;exact this
theorem nh(h:AZ v=true):yA 71 [v.d] v.d:=by
 have r:=Lb h;exact VR v (q0E r.b (by decide)) (q0E r.n (by decide))
theorem Yy(h:AZ v=true):yA 145 [v.d] (.yE (FJ v)):=by
 have r:=Lb h;exact bb v r.id r.l r.b r.n
theorem tM(h:AZ v=true)(d:Int):yA 248 [v.d,.yE d] (Ca v d).d:=by
 have r:=Lb h;exact nP v d r.id r.l r.b r.n
variable {A3 BN:Int}
theorem s7(hs:Ci A3 BN=true)(h:A3=1\/A3=2\/A3=3):yA 286 [.agg [.i .u8 A3,.yE BN]] (.i .u8 A3):=by
 have c1:=LZ A3 BN;rw[hs]at c1;refine zF AK Tryz.func286 ?_;rcases h with rfl|rfl|rfl
 all_goals
  refine AP [0,1,2,3,11] ?_ (AQ @c1);with_reducible repeat' first|constructor|intro hc
  exact zE
theorem TU(hs:Ci A3 BN=true)(h:A3=1\/A3=2\/A3=3):yA 251 [.agg [.i .u8 A3,.yE BN]] (Ey (Kc A3 BN)):=by
 have c1:=s7 hs h;refine zF AK Tryz.func251 ?_;rcases h with rfl|rfl|rfl
 all_goals
  refine AP [0,1,2,3,6] ?_ (AQ @c1);with_reducible repeat' first|constructor|intro hc
  exact BO (yg @Ey.eq_1 (yg @Kc.eq_1 (yg @Rr.eq_1 (yg @IL.eq_1 @AN.eq_1))))
theorem ed(hv:AZ v=true){p:Int}(h:p=1\/p=2\/p=3):Ci p (FJ v)=true:=by
 unfold Ci;rw[zO om,<-CU,(Nx hv).1,yX om];rfl
theorem bI(hv:AZ v=true)(hs:Ci A3 BN=true):yA 190 [v.d,.agg [.i .u8 A3,.yE BN]] (.tup [.agg [.i .u8 (CX v A3 BN).1.1,.yE (CX v A3 BN).1.2],Ey (CX v A3 BN).2]):=by
 have c1:=OV hv;have c2:=LZ A3 BN;have c3:=Yy hv;have c4:=TU (ed hv (.inl rfl)) (.inl rfl);have hT:CX v A3 BN=if decide (A3=0)=true then((1,FJ v),Kc 1 (FJ v))else((A3,BN),[]):=by unfold CX;rw[hv,hs];rfl
 rw[hs]at c2;rw[hT];generalize FJ v=p at *;obtain⟨id,A2,A8,AO,f⟩:=v;refine zF AK Tryz.func190 ?_;unfold AB.d AB.A1 at*
 by_cases h:A3=0
 .subst h;clear hT;refine AP [0,1,2,3,4,5,18] ?_ (Hc @c1 @c2 @c3 @c4) [(0,2)];with_reducible repeat' first|constructor|intro hc
  exact zE
 .have f1:=Bp h;rw[yY h];clear hT;refine AD [0,1,2,3,4,5,18] ?_ (AQ f1) (B1 @c1 @c2);with_reducible repeat' first|constructor|intro hc
  exact BO @Ey.eq_1
variable {m:AE}
theorem bV(hv:AZ v=true)(hs:Ci A3 BN=true)(hm:m.A8.length<9223372036854775807):yA 266 [v.d,.agg [.i .u8 A3,.yE BN],m.d] (.b (U9 v A3 BN m)):=by
 have c1:=OV hv;have c2:=LZ A3 BN;have c3:=Wi.EH m hm;have hT:U9 v A3 BN m=(decide (A3≠0)&&(decide (m.AG=(if A3=3 then 9 else 7))&&(decide (m.Ax=BN)&&(decide (m.dst=v.id)&&m.right)))):=rfl;rw[hs]at c2;generalize U9 v A3 BN m=R at *;generalize m.right=r at *;obtain⟨id,A2,A8,AO,f⟩:=v;refine zF AK Tryz.func266 ?_;unfold AB.d AB.A1 Wi.AE.d Wi.AE.A1 at *;dsimp only at *;refine AP [0,1,2,3,4,5,6,38,41] ?_ (DO @c1 @c2 @c3);with_reducible repeat' first|constructor|intro hc
 all_goals(clear c1 c2 c3;refine⟨_,_,rfl,rfl,?_⟩;simp only[E5];refine congrArg D.b ?_;rw[hT];clear hT;grind)
theorem Pq(h:m.right=true):m.has=true:=by
 unfold AE.right at h;simp only[yU]at h;exact h.2.2
theorem sE(h:m.right=true)(hk:m.AG=7):(m.AO= -1\/BG m.AO=true)/\∀y∈m.A8,i64 y:=by
 have hh:=Pq h;unfold AE.has at hh;simp only[hk,show ¬((7:Int)=4)by decide,show ¬((7:Int)=5)by decide,show ¬((7:Int)=6)by decide,zo,zx]at hh;rw[yU,q0G,yc]at hh;refine⟨hh.1.imp id fun e=>by rw[CU];exact e,fun y hy=> ?_⟩;have h3:=hh.2;unfold Wi.F7 Wi.Fu at h3;simp only[yU,q0I]at h3;exact DW (by rw[CU];exact(h3.1.1 y hy).1)
theorem iS(hv:AZ v=true)(hs:Ci A3 BN=true)(h0:0<=A3)(hm:m.A8.length<9223372036854775807):
  yA 212 [v.d,.agg [.i .u8 A3,.yE BN],m.d] (.tup [(D1 v A3 BN m).1.A4.d,.agg [.i .u8 (D1 v A3 BN m).1.A3,.yE (D1 v A3 BN m).1.BN],Ey (D1 v A3 BN m).2]):=by
 have c1:=nh hv;have c2:=bV (A3:=A3) (BN:=BN) hv hs hm
 have hT:D1 v A3 BN m=if U9 v A3 BN m=true then(if A3=3 then(⟨v,0,0⟩,[])else if A3=1/\m.AO≠ -1/\Dt v.id m.AO m.Ax=true then(⟨FB v (FC v.id m.Ax m.A8),2,m.AO⟩,Kc 2 m.AO)else(⟨FB v (FC v.id m.Ax m.A8),3,FJ (FB v (FC v.id m.Ax m.A8))⟩,Kc 3 (FJ (FB v (FC v.id m.Ax m.A8)))))else(⟨v,A3,BN⟩,[]):=by
  unfold D1;rw[hv,hs,zy,zy]
 cases hc:U9 v A3 BN m with
 |false=>
  rw[hc]at c2 hT;replace hT:D1 v A3 BN m=(⟨v,A3,BN⟩,[]):=hT;rw[hT];clear hT hc;obtain⟨id,A2,A8,AO,f⟩:=v;refine zF AK Tryz.func212 ?_;unfold AB.d AB.A1 Wi.AE.d Wi.AE.A1 at *;dsimp only at *;refine AP MU ?_ (B1 @c1 @c2) [(1,2)];with_reducible repeat' first|constructor|intro hc
  exact BO @Ey.eq_1
 |true=>
 rw[hc,zN rfl]at hT;rw[hc]at c2;have hq:=hc;unfold U9 at hq;simp only[yU,yc,ne_eq]at hq;obtain⟨q1,q2,q3,q4,q5⟩:=hq
 by_cases h3:A3=3
 .subst h3;rw[zN rfl]at hT;rw[hT];clear hT hc q1 q2;obtain⟨id,A2,A8,AO,f⟩:=v;refine zF AK Tryz.func212 ?_;unfold AB.d AB.A1 Wi.AE.d Wi.AE.A1 at *;dsimp only at *;refine AP MU ?_ (B1 @c1 @c2) [(1,2)];with_reducible repeat' first|constructor|intro hc
  exact BO @Ey.eq_1
 rw[zO h3]at hT q2;have f3:=eq_false' h3;obtain⟨_,p1,p2,_⟩:=Tf q5;obtain⟨g1,g2⟩:=sE q5 q2;have rv:=Lb hv;have c3:=nd v.id m.Ax m.A8 rv.id (DW (by rw[CU];exact p1)) g2 (by have:=DZ q5;unfold Co at this;exact this)
 have hw:FB v (FC v.id m.Ax m.A8)=⟨v.id,v.A2,FC v.id m.Ax m.A8,v.AO,v.f⟩:=by
  unfold FB;rw[hv,gK];rfl
 have hwr:AZ ⟨v.id,v.A2,FC v.id m.Ax m.A8,v.AO,v.f⟩=true:=by rw[<-hw];exact(Ly v _).right hv
 rw[hw]at hT;have c4:=Yy hwr;have c5:=TU (ed hwr (.inr (.inr rfl))) (.inr (.inr rfl));generalize FJ ⟨v.id,v.A2,FC v.id m.Ax m.A8,v.AO,v.f⟩=fi at *;generalize FC v.id m.Ax m.A8=ml at*
 by_cases hb:A3=1/\m.AO≠ -1
 .obtain⟨b1,b2⟩:=hb;subst b1;have hpl:BG m.AO=true:=g1.resolve_left b2;have hpn:=Cq hpl;have c6:=cK v.id m.AO m.Ax rv.id (DW hpl) (DW (by rw[CU];exact p1));have c7:=TU (A3:=2) (BN:=m.AO) (by unfold Ci;rw[zO (by decide),<-CU,hpl];rfl) (.inr (.inl rfl));have f4:decide (m.AO>=0)=true:=yX hpn.1
  cases hB:Dt v.id m.AO m.Ax with
  |true=>
   rw[hB]at c6 hT;rw[zN ⟨rfl,b2,rfl⟩]at hT;rw[hT];clear hT hc q1 q2 hw hwr;obtain⟨id,A2,A8,AO,f⟩:=v;refine zF AK Tryz.func212 ?_;unfold AB.d AB.A1 Wi.AE.d Wi.AE.A1 at *;dsimp only at *;refine AD MU ?_ (B1 f3 f4) (jT @c1 @c2 @c3 @c4 @c5 @c6 @c7) [(0,5),(1,4),(2,4)];with_reducible repeat' first|constructor|intro hc
   exact zE
  |false=>
   rw[hB]at c6 hT;rw[zO (fun e=>by cases e.2.2)]at hT;rw[hT];clear hT hc q1 q2 hw hwr;obtain⟨id,A2,A8,AO,f⟩:=v;refine zF AK Tryz.func212 ?_;unfold AB.d AB.A1 Wi.AE.d Wi.AE.A1 at *;dsimp only at *;refine AD MU ?_ (B1 f3 f4) (jS @c1 @c2 @c3 @c4 @c5 @c6) [(0,5),(1,4),(2,4)];with_reducible repeat' first|constructor|intro hc
   exact zE
 .rw[zO (fun e=>hb ⟨e.1,e.2.1⟩)]at hT;rw[hT]
  have f4:A3=1->decide (m.AO>=0)=false:=fun e=>by
   have:m.AO= -1:=q1A fun h=>hb ⟨e,h⟩;rw[this];rfl
  clear hT hc q2 hw hwr;obtain⟨id,A2,A8,AO,f⟩:=v;refine zF AK Tryz.func212 ?_;unfold AB.d AB.A1 Wi.AE.d Wi.AE.A1 at *;dsimp only at*
  by_cases h1:A3=1
  .have f5:=f4 h1;subst h1;refine AD MU ?_ (B1 f3 f5) (Ll @c1 @c2 @c3 @c4 @c5) [(0,5),(1,4),(2,4)];with_reducible repeat' first|constructor|intro hc
   exact zE
  .have f5:=eq_false' h1;refine AD MU ?_ (B1 f3 f5) (Ll @c1 @c2 @c3 @c4 @c5) [(0,5),(1,4),(2,4)];with_reducible repeat' first|constructor|intro hc
   exact zE
theorem iB(hv:AZ v=true)(hs:Ci A3 BN=true)(d:Int):yA 249 [v.d,.agg [.i .u8 A3,.yE BN],.yE d] (.tup [(Dw v A3 BN d).A4.d,.agg [.i .u8 (Dw v A3 BN d).A3,.yE (Dw v A3 BN d).BN]]):=by
 have c1:=nh hv;have c2:=OV hv;have c3:=LZ A3 BN;have c4:=tM hv d;have hT:Dw v A3 BN d=if A3≠0/\BN=d then⟨Ca v d,0,0⟩else⟨Ca v d,A3,BN⟩:=by unfold Dw;rw[hv,hs];rfl
 rw[hs]at c3;rw[hT];generalize Ca v d=w at *;clear hT hs;obtain⟨id,A2,A8,AO,f⟩:=v;obtain⟨id',base',list',pred',f'⟩:=w;refine zF AK Tryz.func249 ?_;unfold AB.d AB.A1 at *;dsimp only at*
 by_cases h1:A3=0
 .subst h1;rw[zO (fun e=>e.1 rfl)];refine AP X9 ?_ (Hc @c1 @c2 @c3 @c4) [(3,4)];with_reducible repeat' first|constructor|intro hc
  exact zE
 .have f1:=Bp h1
  by_cases h2:BN=d
  .have f2:=B6 h2;rw[zN ⟨h1,h2⟩];refine AD X9 ?_ (B1 f1 f2) (Hc @c1 @c2 @c3 @c4) [(3,4)];with_reducible repeat' first|constructor|intro hc
   exact zE
  .have f2:=eq_false' h2;rw[zO (fun e=>h2 e.2)];refine AD X9 ?_ (B1 f1 f2) (Hc @c1 @c2 @c3 @c4) [(3,4)];with_reducible repeat' first|constructor|intro hc
   exact zE
theorem bJ(hv:AZ v=true)(x:Int):yA 263 [v.d,.yE x] (.b (Is v x)):=by
 have c1:=OV hv;have rv:=Lb hv;have hT:Is v x=((BG x&&decide (x≠v.id))&&(decide (v.AO= -1)||Dt v.AO x v.id)):=rfl
 by_cases hx:BG x=true
 .have c2:=cK v.AO x v.id rv.p (DW hx) rv.id;have hp:=Cq hx;rw[hx]at hT;generalize Dt v.AO x v.id=bt at *;generalize Is v x=R at *;obtain⟨id,A2,A8,AO,f⟩:=v;refine zF AK Tryz.func263 ?_;unfold AB.d AB.A1 at *;dsimp only at *;refine AP [0,1,2,4] ?_ (B1 @c1 @c2);with_reducible repeat' first|constructor|intro hc
  all_goals(clear c1 c2;refine⟨_,_,rfl,rfl,?_⟩;simp only[E5];refine congrArg D.b ?_;rw[hT];clear hT;grind)
 .rw[Bool.not_eq_true]at hx;rw[hx]at hT;replace hT:Is v x=false:=hT;rw[hT];have hn:¬(0<=x/\x<65536):=by simpa[BG]using hx
  clear hT;obtain⟨id,A2,A8,AO,f⟩:=v;refine zF AK Tryz.func263 ?_;unfold AB.d AB.A1 at *;dsimp only at*
  by_cases h0:0<=x
  .have f1:decide (x>=0)=true:=yX h0;have f2:decide (x<65536)=false:=yY om;refine AD [0,1,2,4] ?_ (B1 f1 f2) (AQ @c1);with_reducible repeat' first|constructor|intro hc
   exact zE
  .have f1:decide (x>=0)=false:=yY h0;refine AD [0,1,2,4] ?_ (AQ f1) (AQ @c1);with_reducible repeat' first|constructor|intro hc
   exact zE
theorem bO(hv:AZ v=true)(x:Int):yA 204 [v.d,.is [x]] (HC v x).d:=by
 have c1:=nh hv;have c2:=bJ hv x;have hT:HC v x=if Is v x=true then{v with AO:=x}else v:=by unfold HC;rw[hv];rfl
 rw[hT];generalize Is v x=b at *;clear hT;obtain⟨id,A2,A8,AO,f⟩:=v;refine zF AK Tryz.func204 ?_;unfold AB.d AB.A1 at *;dsimp only at*
 cases b with
 |true=>
  have un:No 2:=trivial;refine AP [0,1,2,4,5,11,19] ?_ (B1 @c1 @c2);clear un;with_reducible repeat' first|constructor|intro hc
  exact zE
 |false=>
  have un:No 2:=trivial;refine AP [0,1,2,4,5,11,19] ?_ (B1 @c1 @c2);clear un;with_reducible repeat' first|constructor|intro hc
  exact zE
theorem i9(hv:AZ v=true):yA 191 [v.d] (.tup [.yE (LW v).1,.b (LW v).2]):=by
 have c1:=OV hv;have hT:LW v=if decide (v.AO≠ -1)=true then(v.AO,true)else(0,false):=by unfold LW;rw[hv];rfl
 have ho:=(Bz hv).2.2.2.1;have hp:v.AO≠ -1->0<=v.AO:=fun h=>(Cq (Yh ho h)).1
 rw[hT];clear hT ho;obtain⟨id,A2,A8,AO,f⟩:=v;refine zF AK Tryz.func191 ?_;unfold AB.d AB.A1 at *;dsimp only at*
 by_cases h:AO= -1
 .subst h;refine AP [0,1,2,3,11] ?_ (AQ @c1);with_reducible repeat' first|constructor|intro hc
  exact zE
 .have f1:decide (AO<0)=false:=yY (by have:=hp h;omega);rw[yX h];refine AD [0,1,2,3,11] ?_ (AQ f1) (AQ @c1);with_reducible repeat' first|constructor|intro hc
  exact zE
end Nd
end Go.Proofs.YthlmmkmeoblbhaaGreat
