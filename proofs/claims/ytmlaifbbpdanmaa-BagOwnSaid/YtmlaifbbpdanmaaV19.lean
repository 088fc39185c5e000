/- Part 19 of a proof. Conditions: those that its theorems state. -/
import Derived.Test.YtmlaifbbpdanmaaV17
import Derived.Test.YtmlaifbbpdanmaaV18
set_option linter.unusedSimpArgs false
set_option linter.unusedVariables false
set_option maxHeartbeats 40000000
set_option maxRecDepth 4000
namespace Go.Proofs.Ytmlaifbbpdanmaa
open Go.Gar
abbrev A9:QQ:=[0,1,2,3,4,5,8,9,10,11,12,13,15,17,19,22,23,24,25,39,89,90,91,92,99,115,141]
theorem L9(b:Av)(g:AF)(BO i:Int):QK 3 [b.d,g.d,.QO BO,.QO i] (.b true):=by
 have hG:=Mk b;have hW:=NR;refine zF A7 Try.func3 ?_
 by_cases h1:b.grams.length<=40
 .cases h2:b.great with
  |true=>
   refine D2 A9 ?_ (C0 h2) (Fz @hG @hW);with_reducible repeat' first|constructor|intro hc
   all_goals first
    |(exfalso;omega)
    |(refine⟨_,_,rfl,rfl,?_⟩;simp[L1,AI,Af,AX,Av.d];done)
  |false=>
   obtain⟨hb',hsm⟩:=Ml h2;have hb:b.grams.length<=1000:=SC hb' (by decide)
   by_cases h3:g.by_.length<=300
   .have hsg:small [g]:=fun y hy=>by rw[List.mem_singleton.1 hy];exact SC h3 (by decide)
    have hS:QK 13 [b.d,b.d] (.b true):=by
     have h:=Iw b b om;rwa [RQ rfl]at h
    have hGr:QK 14 [g.d,g.d] (.b true):=by
     have h:=Ht g g;rwa [RQ rfl]at h
    have hO:QK 6 [b.d] b.d:=K7 (NA b.grams b.lost hb hsm) (by simp[JB,F3,G6,Lt,JC,Av.d,AI]);have nS:=h2
    repeat'(first|((with_reducible refine sg ?_);first|with_reducible rfl|((with_reducible refine CO ?_);first|kernel_rfl|rfl|(simp[B9,Bc,nS];done))|with_reducible refine CM ?_ ?_|with_reducible exact Ri _|with_reducible exact AP _|((with_reducible refine RQ ?_);first|omega|(simp only[BB,nS];omega))|decide|(simp[BB,slc,AJ,D.one,Ac,AV.one,nS];done)|(simp[BB,nS];omega))|((with_reducible refine Fg ?_);first|(refine AZ rfl ?_;refine Fa A7 rfl rfl rfl rfl ?_)|refine Xq A7 rfl rfl rfl rfl ?_ ?_|refine Xn [0,1,2,3,4,5,8,9,10,11,12,13,15,17,19,22,23,24,25,39,89,90,91,92,99,115,141] rfl ?_|refine XF (hG) rfl rfl rfl rfl ?_|refine XF (hO) rfl rfl rfl rfl ?_|refine Xa A7 rfl rfl rfl rfl rfl ?_ ?_|refine Xw A7 rfl rfl rfl rfl ?_ ?_|refine Xs rfl rfl rfl ?_|(refine D3 rfl rfl (fun hc=> ?_) (fun hc=> ?_)<;>(fail_if_success (with_reducible first|exact tF hc|exact fT hc))<;>(try simp only[CV]at hc)<;>(try(exfalso;omega))))|((with_reducible refine LP ?_);first|(refine Bb rfl ?_;refine L5 A7 rfl rfl (fun _=>rfl) rfl rfl ?_)|refine Yp A7 rfl rfl (fun _=>rfl) rfl rfl ?_ ?_|refine Yq rfl rfl rfl rfl rfl ?_ ?_|refine Ys rfl rfl rfl rfl ?_|refine YF (hG) rfl rfl rfl rfl rfl ?_|refine YF (hO) rfl rfl rfl rfl rfl ?_|refine Ya A7 rfl rfl rfl rfl rfl rfl ?_ ?_|refine Yw A7 rfl rfl rfl rfl rfl ?_ ?_|refine Yn [0,1,2,3,4,5,8,9,10,11,12,13,15,17,19,22,23,24,25,39,89,90,91,92,99,115,141] [(0,9),(1,9),(3,9),(4,9),(6,9),(7,9)] mixed A7 (by kernel_rfl) (by simp only[Au];repeat'(first|exact Rk|refine RI ?_ ?_|exact⟨_,rfl,rfl⟩|(refine⟨_,rfl,?_⟩;simp[BB,AI,AU];omega)|rfl)) rfl ?_|(refine DT rfl rfl (fun hc=> ?_) (fun hc=> ?_)<;>(fail_if_success (with_reducible first|exact tF hc|exact fT hc))<;>(try simp only[CV]at hc)<;>(try(exfalso;omega))))|refine BD ?_|refine AQ ?_|refine D7 T.get ?_|(refine XE (A':=fun s=> .ag [.sl 4 s.1.length 3,.QF s.2.2.1]) (B':=fun s=>[.c [.d (A1 b.grams),.QF b.lost],.c [.QF g.to,.d (.by g.by_),.QG g.harmed],.c [.d (A1 b.grams),.QF b.lost],.c [.QF g.to,.d (.by g.by_),.QG g.harmed],.a (.sl 3 s.1),.many s.2.1]) [] (OV b.grams b.lost [g] hb hsm sm hsg) rfl rfl rfl trivial rfl rfl rfl (fun _=>rfl) (fun _=>rfl) (fun _=>rfl) (fun s hs=> ?_))|(refine XE (A':=fun x=> .tup [.ag [.sl 7 x.1.length 3,.QF x.2.2.1],.d (.agg [.QO x.2.2.2.1,.raw x.2.2.2.2.1,.b x.2.2.2.2.2.1]),.QG x.2.2.2.2.2.2]) (B':=fun x=>[.c [.d (A1 b.grams),.QF b.lost],.c [.QF g.to,.d (.by g.by_),.QG g.harmed],.c [.d (A1 b.grams),.QF b.lost],.c [.QF g.to,.d (.by g.by_),.QG g.harmed],.a (.sl 3 s.1),.many s.2.1,.c [.sl 4 s.1.length 3,.QF s.2.2.1],.a (.sl 3 x.1),.many x.2.1]) [] (Q6 b.grams b.lost BO hb hsm) rfl rfl rfl trivial rfl rfl rfl (fun _=>rfl) (fun _=>rfl) (fun _=>rfl) (fun x hx=> ?_))|(refine XE (A':=fun p=> .tup [.ag [.sl 11 p.1.length 3,.QF p.2.2.1],.QF p.2.2.2]) (B':=fun p=>[.c [.d (A1 b.grams),.QF b.lost],.c [.QF g.to,.d (.by g.by_),.QG g.harmed],.c [.d (A1 b.grams),.QF b.lost],.c [.QF g.to,.d (.by g.by_),.QG g.harmed],.a (.sl 3 s.1),.many s.2.1,.c [.sl 4 s.1.length 3,.QF s.2.2.1],.a (.sl 3 x.1),.many x.2.1,.c [.sl 7 x.1.length 3,.QF x.2.2.1],.c [.QF x.2.2.2.1,.d (.raw x.2.2.2.2.1),.QG x.2.2.2.2.2.1],.a (.sl 3 p.1),.many p.2.1]) [] (Po b.grams b.lost BO hb hsm) rfl rfl rfl trivial rfl rfl rfl (fun _=>rfl) (fun _=>rfl) (fun _=>rfl) (fun p hp=> ?_))|(refine XE (A':=fun q=> .tup [.ag [.sl 14 q.1.length 3,.QF q.2.2.1],.QF q.2.2.2]) (B':=fun q=>[.c [.d (A1 b.grams),.QF b.lost],.c [.QF g.to,.d (.by g.by_),.QG g.harmed],.c [.d (A1 b.grams),.QF b.lost],.c [.QF g.to,.d (.by g.by_),.QG g.harmed],.a (.sl 3 s.1),.many s.2.1,.c [.sl 4 s.1.length 3,.QF s.2.2.1],.a (.sl 3 x.1),.many x.2.1,.c [.sl 7 x.1.length 3,.QF x.2.2.1],.c [.QF x.2.2.2.1,.d (.raw x.2.2.2.2.1),.QG x.2.2.2.2.2.1],.a (.sl 3 p.1),.many p.2.1,.c [.sl 11 p.1.length 3,.QF p.2.2.1],.a (.sl 3 q.1),.many q.2.1]) [] (PE b.grams b.lost BO hb hsm) rfl rfl rfl trivial rfl rfl rfl (fun _=>rfl) (fun _=>rfl) (fun _=>rfl) (fun q hq=> ?_))|(refine XE (A':=fun r=> .tup [.ag [.sl 17 r.1.length 3,.QF r.2.2.1],.QF r.2.2.2]) (B':=fun r=>[.c [.d (A1 b.grams),.QF b.lost],.c [.QF g.to,.d (.by g.by_),.QG g.harmed],.c [.d (A1 b.grams),.QF b.lost],.c [.QF g.to,.d (.by g.by_),.QG g.harmed],.a (.sl 3 s.1),.many s.2.1,.c [.sl 4 s.1.length 3,.QF s.2.2.1],.a (.sl 3 x.1),.many x.2.1,.c [.sl 7 x.1.length 3,.QF x.2.2.1],.c [.QF x.2.2.2.1,.d (.raw x.2.2.2.2.1),.QG x.2.2.2.2.2.1],.a (.sl 3 p.1),.many p.2.1,.c [.sl 11 p.1.length 3,.QF p.2.2.1],.a (.sl 3 q.1),.many q.2.1,.c [.sl 14 q.1.length 3,.QF q.2.2.1],.a (.sl 3 r.1),.many r.2.1]) [] (Ps b.grams b.lost BO i 1 hb hsm) rfl rfl rfl trivial rfl rfl rfl (fun _=>rfl) (fun _=>rfl) (fun _=>rfl) (fun r hr=> ?_))|(refine YEF [(9,.QF 0)] (A':=fun o=> .ag [.sl 20 o.1.length 3,.QF o.2.2.1]) (B':=fun o=>[.c [.d (A1 b.grams),.QF b.lost],.c [.QF g.to,.d (.by g.by_),.QG g.harmed],.c [.d (A1 b.grams),.QF b.lost],.c [.QF g.to,.d (.by g.by_),.QG g.harmed],.a (.sl 3 s.1),.many s.2.1,.c [.sl 4 s.1.length 3,.QF s.2.2.1],.a (.sl 3 x.1),.many x.2.1,.c [.sl 7 x.1.length 3,.QF x.2.2.1],.c [.QF x.2.2.2.1,.d (.raw x.2.2.2.2.1),.QG x.2.2.2.2.2.1],.a (.sl 3 p.1),.many p.2.1,.c [.sl 11 p.1.length 3,.QF p.2.2.1],.a (.sl 3 q.1),.many q.2.1,.c [.sl 14 q.1.length 3,.QF q.2.2.1],.a (.sl 3 r.1),.many r.2.1,.c [.sl 17 r.1.length 3,.QF r.2.2.1],.a (.sl 3 o.1),.many o.2.1]) [] (I7 b.grams b.lost hb hsm) ⟨([],[],0,0),AS.nil _,RN _⟩ A7 mixed rfl rfl rfl rfl trivial rfl rfl rfl (fun _=>rfl) (fun _=>rfl) (fun _=>rfl) (fun o ho=> ?_))|(refine Ybs A7 rfl rfl rfl rfl rfl rfl rfl ?_ rfl)|(refine YnEF [_,_,_] rfl [4,5,9,10,13,89,90,91] [(0,6),(1,6),(2,6),(3,6),(4,6)] (by kernel_rfl) ⟨⟨_,rfl,rfl,rfl⟩,trivial⟩ ⟨⟨_,rfl,rfl⟩,⟨_,rfl,rfl⟩,⟨_,rfl,rfl⟩,⟨_,rfl,rfl⟩,⟨_,rfl,rfl⟩,trivial⟩ rfl ?_)|refine Ao ?_|refine BC ?_|refine AY ?_|refine An ?_|refine AO rfl ?_|refine AN rfl ?_|(refine Aj rfl (fun hc=> ?_) (fun hc=> ?_)<;>(try simp only[CV]at hc)<;>(try(exfalso;omega))))
    all_goals try(exfalso;omega)
    refine Cd 7 ?_;refine AC A9 ?_;with_reducible repeat' first|constructor|intro hc
    refine AT (fun z:Nat×List (R6)×Ct=>z.1<=s.1.length/\z.2.1.length=s.1.length/\AS z.2.1 z.2.2) (fun z=>⟨[(4,.ptr 0 0 2),(5,.ptr 1 0 3),(9,.ptr 2 0 2),(10,.ptr 3 0 3),(13,.ptr 10 0 3),(89,.bs 22 0 6 2 12),(90,.QF 6),(91,.QF 0),(22,.ptr 23 0 2),(23,.QF z.1)],[.c [.d (A1 b.grams),.QF b.lost],.c [.QF g.to,.d (.by g.by_),.QG g.harmed],.c [.d (A1 b.grams),.QF b.lost],.c [.QF g.to,.d (.by g.by_),.QG g.harmed],.a (.sl 3 z.2.1),.many z.2.2,.c [.sl 4 s.1.length 3,.QF s.2.2.1],.a (.sl 3 x.1),.many x.2.1,.c [.sl 7 x.1.length 3,.QF x.2.2.1],.c [.QF x.2.2.2.1,.d (.raw x.2.2.2.2.1),.QG x.2.2.2.2.2.1],.a (.sl 3 p.1),.many p.2.1,.c [.sl 11 p.1.length 3,.QF p.2.2.1],.a (.sl 3 q.1),.many q.2.1,.c [.sl 14 q.1.length 3,.QF q.2.2.1],.a (.sl 3 r.1),.many r.2.1,.c [.sl 17 r.1.length 3,.QF r.2.2.1],.a (.sl 3 o.1),.many o.2.1,.c [.sl 4 s.1.length 3,.QF s.2.2.1,.sl 7 x.1.length 3,.QF x.2.2.1,.sl 11 p.1.length 3,.QF p.2.2.1,.sl 14 q.1.length 3,.QF q.2.2.1,.sl 17 r.1.length 3,.QF r.2.2.1,.sl 20 o.1.length 3,.QF o.2.2.1],.c [.sl 4 s.1.length 3,.QF s.2.2.1]],165⟩) (fun z=>s.1.length-z.1) (0,s.1,s.2.1) ⟨RN _,rfl,hs.1⟩ ?_ (Qn _) ?_
    .exact A3.ck rfl
    rintro⟨k0,c0,q0⟩ ⟨i1,i2,i3⟩;dsimp only at i1 i2 i3|-
    have hbv:s.1.length<=100:=by
     have:=hs.2;simp only[Qz,RY]at this;omega
    by_cases hk:k0<s.1.length
    .obtain⟨t1,u1,b1,e1,w1⟩:=i3.get (by rw[i2];exact hk);have f0:c0.getD k0 []=[.QO t1,.raw u1,.b b1]:=by rw[Qy,e1];rfl
     have i2r:=i2.symm;refine B6 A9 ?_ (C0 f0);with_reducible repeat' first|constructor|intro hc
     have r3:=i3.to e1 (-9);have l3:(c0.set k0 [.QO (-9),.raw u1,.b b1]).length=s.1.length:=by rw[SS,i2]
     have e3:(c0.set k0 [.QO (-9),.raw u1,.b b1])[k0]? =some [.QO (-9),.raw u1,.b b1]:=by rw[Qs (by rw[i2];exact hk)]
     rw[f0];have e4:([.QO t1,.raw u1,.b b1]:R6).set 0 (.QO (-9))=[.QO (-9),.raw u1,.b b1]:=rfl;rw[e4];generalize c0.set k0 [.QO (-9),.raw u1,.b b1]=C at*
     have f1:(slc (.sl 3 C)).getD (k0*3+1) .np= .raw u1:=by
      have:=E1 r3.three (k:=1) e3 rfl;rw[Qy];show(List.flatten _)[_]?.getD _=_;rw[this];rfl
     rcases w1 with⟨a1,rfl⟩|⟨bb,NN,ll,rfl,hm,hL⟩
     .refine Cd 1 ?_;refine B6 A9 ?_ (Fz f1 l3);with_reducible repeat' first|constructor|intro hc
      refine⟨(k0+1,C,q0),⟨hk,l3,r3⟩,(by show s.1.length-(k0+1)<s.1.length-k0;omega),Qn _,?_⟩;exact A3.ck rfl
     .obtain⟨jr,hj⟩:=SN hm;refine Ae (A3.Bl (b:=bb) (N:=NN) (l:=ll) 5 jr rfl hj) sm ?_;simp only[CU];refine AT (fun z:Nat×A5=>z.1<=ll.length/\z.2.length=ll.length) (fun z=>⟨[(4,.ptr 0 0 2),(5,.ptr 1 0 3),(9,.ptr 2 0 2),(10,.ptr 3 0 3),(13,.ptr 10 0 3),(89,.bs 22 0 6 2 12),(90,.QF 6),(91,.QF 0),(22,.ptr 23 0 2),(23,.QF k0),(24,.QF z.1)],[.c [.d (A1 b.grams),.QF b.lost],.c [.QF g.to,.d (.by g.by_),.QG g.harmed],.c [.d (A1 b.grams),.QF b.lost],.c [.QF g.to,.d (.by g.by_),.QG g.harmed],.a (.sl 3 C),.many (q0.set jr none),.c [.sl 4 s.1.length 3,.QF s.2.2.1],.a (.sl 3 x.1),.many x.2.1,.c [.sl 7 x.1.length 3,.QF x.2.2.1],.c [.QF x.2.2.2.1,.d (.raw x.2.2.2.2.1),.QG x.2.2.2.2.2.1],.a (.sl 3 p.1),.many p.2.1,.c [.sl 11 p.1.length 3,.QF p.2.2.1],.a (.sl 3 q.1),.many q.2.1,.c [.sl 14 q.1.length 3,.QF q.2.2.1],.a (.sl 3 r.1),.many r.2.1,.c [.sl 17 r.1.length 3,.QF r.2.2.1],.a (.sl 3 o.1),.many o.2.1,.c [.sl 4 s.1.length 3,.QF s.2.2.1,.sl 7 x.1.length 3,.QF x.2.2.1,.sl 11 p.1.length 3,.QF p.2.2.1,.sl 14 q.1.length 3,.QF q.2.2.1,.sl 17 r.1.length 3,.QF r.2.2.1,.sl 20 o.1.length 3,.QF o.2.2.1],.c [.sl 4 s.1.length 3,.QF s.2.2.1],.D5 bb NN z.2],165⟩) (fun z=>ll.length-z.1) (0,ll) ⟨RN _,rfl⟩ ?_ (Qn _) ?_
      .exact A3.ck rfl
      rintro⟨j1,y1⟩ ⟨j2,j3⟩;dsimp only at j2 j3|-
      by_cases hj1:j1<ll.length
      .have hj1y:j1<y1.length:=om
       have hxr:=Ch (y1.getD j1 0) 255;unfold FL at hxr;have e0:((j1:Int)).toNat=j1:=SQ j1;have sb:No 2:=trivial;refine B6 A9 ?_ (Na f1 l3 e0);clear sb;with_reducible repeat' first|constructor|intro hc
       refine⟨(j1+1,CY y1 j1),⟨hj1,by rw[CB];exact j3⟩,(by show ll.length-(j1+1)<ll.length-j1;omega),Qn _,?_⟩;rw[SE];exact(have nC:=@CY.eq_1;A3.cn rfl)
      .have e:j1=ll.length:=om
       subst e;refine B6 A9 ?_ (Fz f1 l3) [] [15];with_reducible repeat' first|constructor|intro hc
       refine Ae (A3.Gl 24 5 jr rfl rfl (by rw[Qs (Qh.1 hj).1])) sm ?_;simp only[CU,List.set_set];refine AC A9 ?_;with_reducible repeat' first|constructor|intro hc
       refine⟨(k0+1,C,q0.set jr (some (bb,NN,y1))),⟨hk,l3,r3.upd hj j3⟩,(by show s.1.length-(k0+1)<s.1.length-k0;omega),Qn _,?_⟩;exact A3.ck rfl
    .have e:k0=s.1.length:=om
     subst e;refine AC A9 ?_;with_reducible repeat' first|constructor|intro hc
     refine AT (fun z:Nat×List (R6)×Ct=>z.1<=x.1.length/\z.2.1.length=x.1.length/\AS z.2.1 z.2.2/\E8 x.2.2.2.2.1 z.2.2) (fun z=>⟨[(4,.ptr 0 0 2),(5,.ptr 1 0 3),(9,.ptr 2 0 2),(10,.ptr 3 0 3),(13,.ptr 10 0 3),(89,.bs 22 0 6 2 12),(90,.QF 6),(91,.QF 1),(22,.ptr 24 0 2),(23,.QF z.1)],[.c [.d (A1 b.grams),.QF b.lost],.c [.QF g.to,.d (.by g.by_),.QG g.harmed],.c [.d (A1 b.grams),.QF b.lost],.c [.QF g.to,.d (.by g.by_),.QG g.harmed],.a (.sl 3 c0),.many q0,.c [.sl 4 s.1.length 3,.QF s.2.2.1],.a (.sl 3 z.2.1),.many z.2.2,.c [.sl 7 x.1.length 3,.QF x.2.2.1],.c [.QF x.2.2.2.1,.d (.raw x.2.2.2.2.1),.QG x.2.2.2.2.2.1],.a (.sl 3 p.1),.many p.2.1,.c [.sl 11 p.1.length 3,.QF p.2.2.1],.a (.sl 3 q.1),.many q.2.1,.c [.sl 14 q.1.length 3,.QF q.2.2.1],.a (.sl 3 r.1),.many r.2.1,.c [.sl 17 r.1.length 3,.QF r.2.2.1],.a (.sl 3 o.1),.many o.2.1,.c [.sl 4 s.1.length 3,.QF s.2.2.1,.sl 7 x.1.length 3,.QF x.2.2.1,.sl 11 p.1.length 3,.QF p.2.2.1,.sl 14 q.1.length 3,.QF q.2.2.1,.sl 17 r.1.length 3,.QF r.2.2.1,.sl 20 o.1.length 3,.QF o.2.2.1],.c [.sl 4 s.1.length 3,.QF s.2.2.1],.c [.sl 7 x.1.length 3,.QF x.2.2.1]],165⟩) (fun z=>x.1.length-z.1) (0,x.1,x.2.1) ⟨RN _,rfl,hx.1,hx.2.2⟩ ?_ (Qn _) ?_
     .exact A3.ck rfl
     rintro⟨k1,c1,q1⟩ ⟨i1,i2,i3,i4⟩;dsimp only at i1 i2 i3 i4|-
     have hbv:x.1.length<=100:=by
      have:=hx.2.1;omega
     by_cases hk:k1<x.1.length
     .obtain⟨t1,u1,b1,e1,w1⟩:=i3.get (by rw[i2];exact hk);have f0:c1.getD k1 []=[.QO t1,.raw u1,.b b1]:=by rw[Qy,e1];rfl
      have i2r:=i2.symm;refine B6 A9 ?_ (C0 f0);with_reducible repeat' first|constructor|intro hc
      have r3:=i3.to e1 (-9);have l3:(c1.set k1 [.QO (-9),.raw u1,.b b1]).length=x.1.length:=by rw[SS,i2]
      have e3:(c1.set k1 [.QO (-9),.raw u1,.b b1])[k1]? =some [.QO (-9),.raw u1,.b b1]:=by rw[Qs (by rw[i2];exact hk)]
      rw[f0];have e4:([.QO t1,.raw u1,.b b1]:R6).set 0 (.QO (-9))=[.QO (-9),.raw u1,.b b1]:=rfl;rw[e4];generalize c1.set k1 [.QO (-9),.raw u1,.b b1]=C at*
      have f1:(slc (.sl 3 C)).getD (k1*3+1) .np= .raw u1:=by
       have:=E1 r3.three (k:=1) e3 rfl;rw[Qy];show(List.flatten _)[_]?.getD _=_;rw[this];rfl
      rcases w1 with⟨a1,rfl⟩|⟨bb,NN,ll,rfl,hm,hL⟩
      .refine Cd 1 ?_;refine B6 A9 ?_ (Fz f1 l3);with_reducible repeat' first|constructor|intro hc
       refine⟨(k1+1,C,q1),⟨hk,l3,r3,i4⟩,(by show x.1.length-(k1+1)<x.1.length-k1;omega),Qn _,?_⟩;exact A3.ck rfl
      .obtain⟨jr,hj⟩:=SN hm;refine Ae (A3.Bl (b:=bb) (N:=NN) (l:=ll) 8 jr rfl hj) sm ?_;simp only[CU];refine AT (fun z:Nat×A5=>z.1<=ll.length/\z.2.length=ll.length) (fun z=>⟨[(4,.ptr 0 0 2),(5,.ptr 1 0 3),(9,.ptr 2 0 2),(10,.ptr 3 0 3),(13,.ptr 10 0 3),(89,.bs 22 0 6 2 12),(90,.QF 6),(91,.QF 1),(22,.ptr 24 0 2),(23,.QF k1),(24,.QF z.1)],[.c [.d (A1 b.grams),.QF b.lost],.c [.QF g.to,.d (.by g.by_),.QG g.harmed],.c [.d (A1 b.grams),.QF b.lost],.c [.QF g.to,.d (.by g.by_),.QG g.harmed],.a (.sl 3 c0),.many q0,.c [.sl 4 s.1.length 3,.QF s.2.2.1],.a (.sl 3 C),.many (q1.set jr none),.c [.sl 7 x.1.length 3,.QF x.2.2.1],.c [.QF x.2.2.2.1,.d (.raw x.2.2.2.2.1),.QG x.2.2.2.2.2.1],.a (.sl 3 p.1),.many p.2.1,.c [.sl 11 p.1.length 3,.QF p.2.2.1],.a (.sl 3 q.1),.many q.2.1,.c [.sl 14 q.1.length 3,.QF q.2.2.1],.a (.sl 3 r.1),.many r.2.1,.c [.sl 17 r.1.length 3,.QF r.2.2.1],.a (.sl 3 o.1),.many o.2.1,.c [.sl 4 s.1.length 3,.QF s.2.2.1,.sl 7 x.1.length 3,.QF x.2.2.1,.sl 11 p.1.length 3,.QF p.2.2.1,.sl 14 q.1.length 3,.QF q.2.2.1,.sl 17 r.1.length 3,.QF r.2.2.1,.sl 20 o.1.length 3,.QF o.2.2.1],.c [.sl 4 s.1.length 3,.QF s.2.2.1],.c [.sl 7 x.1.length 3,.QF x.2.2.1],.D5 bb NN z.2],165⟩) (fun z=>ll.length-z.1) (0,ll) ⟨RN _,rfl⟩ ?_ (Qn _) ?_
       .exact A3.ck rfl
       rintro⟨j1,y1⟩ ⟨j2,j3⟩;dsimp only at j2 j3|-
       by_cases hj1:j1<ll.length
       .have hj1y:j1<y1.length:=om
        have hxr:=Ch (y1.getD j1 0) 255;unfold FL at hxr;have e0:((j1:Int)).toNat=j1:=SQ j1;have sb:No 2:=trivial;refine B6 A9 ?_ (Na f1 l3 e0);clear sb;with_reducible repeat' first|constructor|intro hc
        refine⟨(j1+1,CY y1 j1),⟨hj1,by rw[CB];exact j3⟩,(by show ll.length-(j1+1)<ll.length-j1;omega),Qn _,?_⟩;rw[SE];exact(have nC:=@CY.eq_1;A3.cn rfl)
       .have e:j1=ll.length:=om
        subst e;refine B6 A9 ?_ (Fz f1 l3) [] [15];with_reducible repeat' first|constructor|intro hc
        refine Ae (A3.Gl 25 8 jr rfl rfl (by rw[Qs (Qh.1 hj).1])) sm ?_;simp only[CU,List.set_set];refine AC A9 ?_;with_reducible repeat' first|constructor|intro hc
        refine⟨(k1+1,C,q1.set jr (some (bb,NN,y1))),⟨hk,l3,r3.upd hj j3,i4.upd hj j3⟩,(by show x.1.length-(k1+1)<x.1.length-k1;omega),Qn _,?_⟩;exact A3.ck rfl
     .have e:k1=x.1.length:=om
      subst e;refine AC A9 ?_;with_reducible repeat' first|constructor|intro hc
      refine AT (fun z:Nat×List (R6)×Ct=>z.1<=p.1.length/\z.2.1.length=p.1.length/\AS z.2.1 z.2.2) (fun z=>⟨[(4,.ptr 0 0 2),(5,.ptr 1 0 3),(9,.ptr 2 0 2),(10,.ptr 3 0 3),(13,.ptr 10 0 3),(89,.bs 22 0 6 2 12),(90,.QF 6),(91,.QF 2),(22,.ptr 25 0 2),(23,.QF z.1)],[.c [.d (A1 b.grams),.QF b.lost],.c [.QF g.to,.d (.by g.by_),.QG g.harmed],.c [.d (A1 b.grams),.QF b.lost],.c [.QF g.to,.d (.by g.by_),.QG g.harmed],.a (.sl 3 c0),.many q0,.c [.sl 4 s.1.length 3,.QF s.2.2.1],.a (.sl 3 c1),.many q1,.c [.sl 7 x.1.length 3,.QF x.2.2.1],.c [.QF x.2.2.2.1,.d (.raw x.2.2.2.2.1),.QG x.2.2.2.2.2.1],.a (.sl 3 z.2.1),.many z.2.2,.c [.sl 11 p.1.length 3,.QF p.2.2.1],.a (.sl 3 q.1),.many q.2.1,.c [.sl 14 q.1.length 3,.QF q.2.2.1],.a (.sl 3 r.1),.many r.2.1,.c [.sl 17 r.1.length 3,.QF r.2.2.1],.a (.sl 3 o.1),.many o.2.1,.c [.sl 4 s.1.length 3,.QF s.2.2.1,.sl 7 x.1.length 3,.QF x.2.2.1,.sl 11 p.1.length 3,.QF p.2.2.1,.sl 14 q.1.length 3,.QF q.2.2.1,.sl 17 r.1.length 3,.QF r.2.2.1,.sl 20 o.1.length 3,.QF o.2.2.1],.c [.sl 4 s.1.length 3,.QF s.2.2.1],.c [.sl 7 x.1.length 3,.QF x.2.2.1],.c [.sl 11 p.1.length 3,.QF p.2.2.1]],165⟩) (fun z=>p.1.length-z.1) (0,p.1,p.2.1) ⟨RN _,rfl,hp.1⟩ ?_ (Qn _) ?_
      .exact A3.ck rfl
      rintro⟨k2,c2,q2⟩ ⟨i1,i2,i3⟩;dsimp only at i1 i2 i3|-
      have hbv:p.1.length<=100:=by
       have:=hp.2;omega
      by_cases hk:k2<p.1.length
      .obtain⟨t1,u1,b1,e1,w1⟩:=i3.get (by rw[i2];exact hk);have f0:c2.getD k2 []=[.QO t1,.raw u1,.b b1]:=by rw[Qy,e1];rfl
       have i2r:=i2.symm;refine B6 A9 ?_ (C0 f0);with_reducible repeat' first|constructor|intro hc
       have r3:=i3.to e1 (-9);have l3:(c2.set k2 [.QO (-9),.raw u1,.b b1]).length=p.1.length:=by rw[SS,i2]
       have e3:(c2.set k2 [.QO (-9),.raw u1,.b b1])[k2]? =some [.QO (-9),.raw u1,.b b1]:=by rw[Qs (by rw[i2];exact hk)]
       rw[f0];have e4:([.QO t1,.raw u1,.b b1]:R6).set 0 (.QO (-9))=[.QO (-9),.raw u1,.b b1]:=rfl;rw[e4];generalize c2.set k2 [.QO (-9),.raw u1,.b b1]=C at*
       have f1:(slc (.sl 3 C)).getD (k2*3+1) .np= .raw u1:=by
        have:=E1 r3.three (k:=1) e3 rfl;rw[Qy];show(List.flatten _)[_]?.getD _=_;rw[this];rfl
       rcases w1 with⟨a1,rfl⟩|⟨bb,NN,ll,rfl,hm,hL⟩
       .refine Cd 1 ?_;refine B6 A9 ?_ (Fz f1 l3);with_reducible repeat' first|constructor|intro hc
        refine⟨(k2+1,C,q2),⟨hk,l3,r3⟩,(by show p.1.length-(k2+1)<p.1.length-k2;omega),Qn _,?_⟩;exact A3.ck rfl
       .obtain⟨jr,hj⟩:=SN hm;refine Ae (A3.Bl (b:=bb) (N:=NN) (l:=ll) 12 jr rfl hj) sm ?_;simp only[CU];refine AT (fun z:Nat×A5=>z.1<=ll.length/\z.2.length=ll.length) (fun z=>⟨[(4,.ptr 0 0 2),(5,.ptr 1 0 3),(9,.ptr 2 0 2),(10,.ptr 3 0 3),(13,.ptr 10 0 3),(89,.bs 22 0 6 2 12),(90,.QF 6),(91,.QF 2),(22,.ptr 25 0 2),(23,.QF k2),(24,.QF z.1)],[.c [.d (A1 b.grams),.QF b.lost],.c [.QF g.to,.d (.by g.by_),.QG g.harmed],.c [.d (A1 b.grams),.QF b.lost],.c [.QF g.to,.d (.by g.by_),.QG g.harmed],.a (.sl 3 c0),.many q0,.c [.sl 4 s.1.length 3,.QF s.2.2.1],.a (.sl 3 c1),.many q1,.c [.sl 7 x.1.length 3,.QF x.2.2.1],.c [.QF x.2.2.2.1,.d (.raw x.2.2.2.2.1),.QG x.2.2.2.2.2.1],.a (.sl 3 C),.many (q2.set jr none),.c [.sl 11 p.1.length 3,.QF p.2.2.1],.a (.sl 3 q.1),.many q.2.1,.c [.sl 14 q.1.length 3,.QF q.2.2.1],.a (.sl 3 r.1),.many r.2.1,.c [.sl 17 r.1.length 3,.QF r.2.2.1],.a (.sl 3 o.1),.many o.2.1,.c [.sl 4 s.1.length 3,.QF s.2.2.1,.sl 7 x.1.length 3,.QF x.2.2.1,.sl 11 p.1.length 3,.QF p.2.2.1,.sl 14 q.1.length 3,.QF q.2.2.1,.sl 17 r.1.length 3,.QF r.2.2.1,.sl 20 o.1.length 3,.QF o.2.2.1],.c [.sl 4 s.1.length 3,.QF s.2.2.1],.c [.sl 7 x.1.length 3,.QF x.2.2.1],.c [.sl 11 p.1.length 3,.QF p.2.2.1],.D5 bb NN z.2],165⟩) (fun z=>ll.length-z.1) (0,ll) ⟨RN _,rfl⟩ ?_ (Qn _) ?_
        .exact A3.ck rfl
        rintro⟨j1,y1⟩ ⟨j2,j3⟩;dsimp only at j2 j3|-
        by_cases hj1:j1<ll.length
        .have hj1y:j1<y1.length:=om
         have hxr:=Ch (y1.getD j1 0) 255;unfold FL at hxr;have e0:((j1:Int)).toNat=j1:=SQ j1;have sb:No 2:=trivial;refine B6 A9 ?_ (Na f1 l3 e0);clear sb;with_reducible repeat' first|constructor|intro hc
         refine⟨(j1+1,CY y1 j1),⟨hj1,by rw[CB];exact j3⟩,(by show ll.length-(j1+1)<ll.length-j1;omega),Qn _,?_⟩;rw[SE];exact(have nC:=@CY.eq_1;A3.cn rfl)
        .have e:j1=ll.length:=om
         subst e;refine B6 A9 ?_ (Fz f1 l3) [] [15];with_reducible repeat' first|constructor|intro hc
         refine Ae (A3.Gl 26 12 jr rfl rfl (by rw[Qs (Qh.1 hj).1])) sm ?_;simp only[CU,List.set_set];refine AC A9 ?_;with_reducible repeat' first|constructor|intro hc
         refine⟨(k2+1,C,q2.set jr (some (bb,NN,y1))),⟨hk,l3,r3.upd hj j3⟩,(by show p.1.length-(k2+1)<p.1.length-k2;omega),Qn _,?_⟩;exact A3.ck rfl
      .have e:k2=p.1.length:=om
       subst e;refine AC A9 ?_;with_reducible repeat' first|constructor|intro hc
       refine AT (fun z:Nat×List (R6)×Ct=>z.1<=q.1.length/\z.2.1.length=q.1.length/\AS z.2.1 z.2.2) (fun z=>⟨[(4,.ptr 0 0 2),(5,.ptr 1 0 3),(9,.ptr 2 0 2),(10,.ptr 3 0 3),(13,.ptr 10 0 3),(89,.bs 22 0 6 2 12),(90,.QF 6),(91,.QF 3),(22,.ptr 26 0 2),(23,.QF z.1)],[.c [.d (A1 b.grams),.QF b.lost],.c [.QF g.to,.d (.by g.by_),.QG g.harmed],.c [.d (A1 b.grams),.QF b.lost],.c [.QF g.to,.d (.by g.by_),.QG g.harmed],.a (.sl 3 c0),.many q0,.c [.sl 4 s.1.length 3,.QF s.2.2.1],.a (.sl 3 c1),.many q1,.c [.sl 7 x.1.length 3,.QF x.2.2.1],.c [.QF x.2.2.2.1,.d (.raw x.2.2.2.2.1),.QG x.2.2.2.2.2.1],.a (.sl 3 c2),.many q2,.c [.sl 11 p.1.length 3,.QF p.2.2.1],.a (.sl 3 z.2.1),.many z.2.2,.c [.sl 14 q.1.length 3,.QF q.2.2.1],.a (.sl 3 r.1),.many r.2.1,.c [.sl 17 r.1.length 3,.QF r.2.2.1],.a (.sl 3 o.1),.many o.2.1,.c [.sl 4 s.1.length 3,.QF s.2.2.1,.sl 7 x.1.length 3,.QF x.2.2.1,.sl 11 p.1.length 3,.QF p.2.2.1,.sl 14 q.1.length 3,.QF q.2.2.1,.sl 17 r.1.length 3,.QF r.2.2.1,.sl 20 o.1.length 3,.QF o.2.2.1],.c [.sl 4 s.1.length 3,.QF s.2.2.1],.c [.sl 7 x.1.length 3,.QF x.2.2.1],.c [.sl 11 p.1.length 3,.QF p.2.2.1],.c [.sl 14 q.1.length 3,.QF q.2.2.1]],165⟩) (fun z=>q.1.length-z.1) (0,q.1,q.2.1) ⟨RN _,rfl,hq.1⟩ ?_ (Qn _) ?_
       .exact A3.ck rfl
       rintro⟨k3,c3,q3⟩ ⟨i1,i2,i3⟩;dsimp only at i1 i2 i3|-
       have hbv:q.1.length<=100:=by
        have:=hq.2;omega
       by_cases hk:k3<q.1.length
       .obtain⟨t1,u1,b1,e1,w1⟩:=i3.get (by rw[i2];exact hk);have f0:c3.getD k3 []=[.QO t1,.raw u1,.b b1]:=by rw[Qy,e1];rfl
        have i2r:=i2.symm;refine B6 A9 ?_ (C0 f0);with_reducible repeat' first|constructor|intro hc
        have r3:=i3.to e1 (-9);have l3:(c3.set k3 [.QO (-9),.raw u1,.b b1]).length=q.1.length:=by rw[SS,i2]
        have e3:(c3.set k3 [.QO (-9),.raw u1,.b b1])[k3]? =some [.QO (-9),.raw u1,.b b1]:=by rw[Qs (by rw[i2];exact hk)]
        rw[f0];have e4:([.QO t1,.raw u1,.b b1]:R6).set 0 (.QO (-9))=[.QO (-9),.raw u1,.b b1]:=rfl;rw[e4];generalize c3.set k3 [.QO (-9),.raw u1,.b b1]=C at*
        have f1:(slc (.sl 3 C)).getD (k3*3+1) .np= .raw u1:=by
         have:=E1 r3.three (k:=1) e3 rfl;rw[Qy];show(List.flatten _)[_]?.getD _=_;rw[this];rfl
        rcases w1 with⟨a1,rfl⟩|⟨bb,NN,ll,rfl,hm,hL⟩
        .refine Cd 1 ?_;refine B6 A9 ?_ (Fz f1 l3);with_reducible repeat' first|constructor|intro hc
         refine⟨(k3+1,C,q3),⟨hk,l3,r3⟩,(by show q.1.length-(k3+1)<q.1.length-k3;omega),Qn _,?_⟩;exact A3.ck rfl
        .obtain⟨jr,hj⟩:=SN hm;refine Ae (A3.Bl (b:=bb) (N:=NN) (l:=ll) 15 jr rfl hj) sm ?_;simp only[CU];refine AT (fun z:Nat×A5=>z.1<=ll.length/\z.2.length=ll.length) (fun z=>⟨[(4,.ptr 0 0 2),(5,.ptr 1 0 3),(9,.ptr 2 0 2),(10,.ptr 3 0 3),(13,.ptr 10 0 3),(89,.bs 22 0 6 2 12),(90,.QF 6),(91,.QF 3),(22,.ptr 26 0 2),(23,.QF k3),(24,.QF z.1)],[.c [.d (A1 b.grams),.QF b.lost],.c [.QF g.to,.d (.by g.by_),.QG g.harmed],.c [.d (A1 b.grams),.QF b.lost],.c [.QF g.to,.d (.by g.by_),.QG g.harmed],.a (.sl 3 c0),.many q0,.c [.sl 4 s.1.length 3,.QF s.2.2.1],.a (.sl 3 c1),.many q1,.c [.sl 7 x.1.length 3,.QF x.2.2.1],.c [.QF x.2.2.2.1,.d (.raw x.2.2.2.2.1),.QG x.2.2.2.2.2.1],.a (.sl 3 c2),.many q2,.c [.sl 11 p.1.length 3,.QF p.2.2.1],.a (.sl 3 C),.many (q3.set jr none),.c [.sl 14 q.1.length 3,.QF q.2.2.1],.a (.sl 3 r.1),.many r.2.1,.c [.sl 17 r.1.length 3,.QF r.2.2.1],.a (.sl 3 o.1),.many o.2.1,.c [.sl 4 s.1.length 3,.QF s.2.2.1,.sl 7 x.1.length 3,.QF x.2.2.1,.sl 11 p.1.length 3,.QF p.2.2.1,.sl 14 q.1.length 3,.QF q.2.2.1,.sl 17 r.1.length 3,.QF r.2.2.1,.sl 20 o.1.length 3,.QF o.2.2.1],.c [.sl 4 s.1.length 3,.QF s.2.2.1],.c [.sl 7 x.1.length 3,.QF x.2.2.1],.c [.sl 11 p.1.length 3,.QF p.2.2.1],.c [.sl 14 q.1.length 3,.QF q.2.2.1],.D5 bb NN z.2],165⟩) (fun z=>ll.length-z.1) (0,ll) ⟨RN _,rfl⟩ ?_ (Qn _) ?_
         .exact A3.ck rfl
         rintro⟨j1,y1⟩ ⟨j2,j3⟩;dsimp only at j2 j3|-
         by_cases hj1:j1<ll.length
         .have hj1y:j1<y1.length:=om
          have hxr:=Ch (y1.getD j1 0) 255;unfold FL at hxr;have e0:((j1:Int)).toNat=j1:=SQ j1;have sb:No 2:=trivial;refine B6 A9 ?_ (Na f1 l3 e0);clear sb;with_reducible repeat' first|constructor|intro hc
          refine⟨(j1+1,CY y1 j1),⟨hj1,by rw[CB];exact j3⟩,(by show ll.length-(j1+1)<ll.length-j1;omega),Qn _,?_⟩;rw[SE];exact(have nC:=@CY.eq_1;A3.cn rfl)
         .have e:j1=ll.length:=om
          subst e;refine B6 A9 ?_ (Fz f1 l3) [] [15];with_reducible repeat' first|constructor|intro hc
          refine Ae (A3.Gl 27 15 jr rfl rfl (by rw[Qs (Qh.1 hj).1])) sm ?_;simp only[CU,List.set_set];refine AC A9 ?_;with_reducible repeat' first|constructor|intro hc
          refine⟨(k3+1,C,q3.set jr (some (bb,NN,y1))),⟨hk,l3,r3.upd hj j3⟩,(by show q.1.length-(k3+1)<q.1.length-k3;omega),Qn _,?_⟩;exact A3.ck rfl
       .have e:k3=q.1.length:=om
        subst e;refine AC A9 ?_;with_reducible repeat' first|constructor|intro hc
        refine AT (fun z:Nat×List (R6)×Ct=>z.1<=r.1.length/\z.2.1.length=r.1.length/\AS z.2.1 z.2.2) (fun z=>⟨[(4,.ptr 0 0 2),(5,.ptr 1 0 3),(9,.ptr 2 0 2),(10,.ptr 3 0 3),(13,.ptr 10 0 3),(89,.bs 22 0 6 2 12),(90,.QF 6),(91,.QF 4),(22,.ptr 27 0 2),(23,.QF z.1)],[.c [.d (A1 b.grams),.QF b.lost],.c [.QF g.to,.d (.by g.by_),.QG g.harmed],.c [.d (A1 b.grams),.QF b.lost],.c [.QF g.to,.d (.by g.by_),.QG g.harmed],.a (.sl 3 c0),.many q0,.c [.sl 4 s.1.length 3,.QF s.2.2.1],.a (.sl 3 c1),.many q1,.c [.sl 7 x.1.length 3,.QF x.2.2.1],.c [.QF x.2.2.2.1,.d (.raw x.2.2.2.2.1),.QG x.2.2.2.2.2.1],.a (.sl 3 c2),.many q2,.c [.sl 11 p.1.length 3,.QF p.2.2.1],.a (.sl 3 c3),.many q3,.c [.sl 14 q.1.length 3,.QF q.2.2.1],.a (.sl 3 z.2.1),.many z.2.2,.c [.sl 17 r.1.length 3,.QF r.2.2.1],.a (.sl 3 o.1),.many o.2.1,.c [.sl 4 s.1.length 3,.QF s.2.2.1,.sl 7 x.1.length 3,.QF x.2.2.1,.sl 11 p.1.length 3,.QF p.2.2.1,.sl 14 q.1.length 3,.QF q.2.2.1,.sl 17 r.1.length 3,.QF r.2.2.1,.sl 20 o.1.length 3,.QF o.2.2.1],.c [.sl 4 s.1.length 3,.QF s.2.2.1],.c [.sl 7 x.1.length 3,.QF x.2.2.1],.c [.sl 11 p.1.length 3,.QF p.2.2.1],.c [.sl 14 q.1.length 3,.QF q.2.2.1],.c [.sl 17 r.1.length 3,.QF r.2.2.1]],165⟩) (fun z=>r.1.length-z.1) (0,r.1,r.2.1) ⟨RN _,rfl,hr.1⟩ ?_ (Qn _) ?_
        .exact A3.ck rfl
        rintro⟨k4,c4,q4⟩ ⟨i1,i2,i3⟩;dsimp only at i1 i2 i3|-
        have hbv:r.1.length<=100:=by
         have:=hr.2;omega
        by_cases hk:k4<r.1.length
        .obtain⟨t1,u1,b1,e1,w1⟩:=i3.get (by rw[i2];exact hk);have f0:c4.getD k4 []=[.QO t1,.raw u1,.b b1]:=by rw[Qy,e1];rfl
         have i2r:=i2.symm;refine B6 A9 ?_ (C0 f0);with_reducible repeat' first|constructor|intro hc
         have r3:=i3.to e1 (-9);have l3:(c4.set k4 [.QO (-9),.raw u1,.b b1]).length=r.1.length:=by rw[SS,i2]
         have e3:(c4.set k4 [.QO (-9),.raw u1,.b b1])[k4]? =some [.QO (-9),.raw u1,.b b1]:=by rw[Qs (by rw[i2];exact hk)]
         rw[f0];have e4:([.QO t1,.raw u1,.b b1]:R6).set 0 (.QO (-9))=[.QO (-9),.raw u1,.b b1]:=rfl;rw[e4];generalize c4.set k4 [.QO (-9),.raw u1,.b b1]=C at*
         have f1:(slc (.sl 3 C)).getD (k4*3+1) .np= .raw u1:=by
          have:=E1 r3.three (k:=1) e3 rfl;rw[Qy];show(List.flatten _)[_]?.getD _=_;rw[this];rfl
         rcases w1 with⟨a1,rfl⟩|⟨bb,NN,ll,rfl,hm,hL⟩
         .refine Cd 1 ?_;refine B6 A9 ?_ (Fz f1 l3);with_reducible repeat' first|constructor|intro hc
          refine⟨(k4+1,C,q4),⟨hk,l3,r3⟩,(by show r.1.length-(k4+1)<r.1.length-k4;omega),Qn _,?_⟩;exact A3.ck rfl
         .obtain⟨jr,hj⟩:=SN hm;refine Ae (A3.Bl (b:=bb) (N:=NN) (l:=ll) 18 jr rfl hj) sm ?_;simp only[CU];refine AT (fun z:Nat×A5=>z.1<=ll.length/\z.2.length=ll.length) (fun z=>⟨[(4,.ptr 0 0 2),(5,.ptr 1 0 3),(9,.ptr 2 0 2),(10,.ptr 3 0 3),(13,.ptr 10 0 3),(89,.bs 22 0 6 2 12),(90,.QF 6),(91,.QF 4),(22,.ptr 27 0 2),(23,.QF k4),(24,.QF z.1)],[.c [.d (A1 b.grams),.QF b.lost],.c [.QF g.to,.d (.by g.by_),.QG g.harmed],.c [.d (A1 b.grams),.QF b.lost],.c [.QF g.to,.d (.by g.by_),.QG g.harmed],.a (.sl 3 c0),.many q0,.c [.sl 4 s.1.length 3,.QF s.2.2.1],.a (.sl 3 c1),.many q1,.c [.sl 7 x.1.length 3,.QF x.2.2.1],.c [.QF x.2.2.2.1,.d (.raw x.2.2.2.2.1),.QG x.2.2.2.2.2.1],.a (.sl 3 c2),.many q2,.c [.sl 11 p.1.length 3,.QF p.2.2.1],.a (.sl 3 c3),.many q3,.c [.sl 14 q.1.length 3,.QF q.2.2.1],.a (.sl 3 C),.many (q4.set jr none),.c [.sl 17 r.1.length 3,.QF r.2.2.1],.a (.sl 3 o.1),.many o.2.1,.c [.sl 4 s.1.length 3,.QF s.2.2.1,.sl 7 x.1.length 3,.QF x.2.2.1,.sl 11 p.1.length 3,.QF p.2.2.1,.sl 14 q.1.length 3,.QF q.2.2.1,.sl 17 r.1.length 3,.QF r.2.2.1,.sl 20 o.1.length 3,.QF o.2.2.1],.c [.sl 4 s.1.length 3,.QF s.2.2.1],.c [.sl 7 x.1.length 3,.QF x.2.2.1],.c [.sl 11 p.1.length 3,.QF p.2.2.1],.c [.sl 14 q.1.length 3,.QF q.2.2.1],.c [.sl 17 r.1.length 3,.QF r.2.2.1],.D5 bb NN z.2],165⟩) (fun z=>ll.length-z.1) (0,ll) ⟨RN _,rfl⟩ ?_ (Qn _) ?_
          .exact A3.ck rfl
          rintro⟨j1,y1⟩ ⟨j2,j3⟩;dsimp only at j2 j3|-
          by_cases hj1:j1<ll.length
          .have hj1y:j1<y1.length:=om
           have hxr:=Ch (y1.getD j1 0) 255;unfold FL at hxr;have e0:((j1:Int)).toNat=j1:=SQ j1;have sb:No 2:=trivial;refine B6 A9 ?_ (Na f1 l3 e0);clear sb;with_reducible repeat' first|constructor|intro hc
           refine⟨(j1+1,CY y1 j1),⟨hj1,by rw[CB];exact j3⟩,(by show ll.length-(j1+1)<ll.length-j1;omega),Qn _,?_⟩;rw[SE];exact(have nC:=@CY.eq_1;A3.cn rfl)
          .have e:j1=ll.length:=om
           subst e;refine B6 A9 ?_ (Fz f1 l3) [] [15];with_reducible repeat' first|constructor|intro hc
           refine Ae (A3.Gl 28 18 jr rfl rfl (by rw[Qs (Qh.1 hj).1])) sm ?_;simp only[CU,List.set_set];refine AC A9 ?_;with_reducible repeat' first|constructor|intro hc
           refine⟨(k4+1,C,q4.set jr (some (bb,NN,y1))),⟨hk,l3,r3.upd hj j3⟩,(by show r.1.length-(k4+1)<r.1.length-k4;omega),Qn _,?_⟩;exact A3.ck rfl
        .have e:k4=r.1.length:=om
         subst e;refine AC A9 ?_;with_reducible repeat' first|constructor|intro hc
         refine AT (fun z:Nat×List (R6)×Ct=>z.1<=o.1.length/\z.2.1.length=o.1.length/\AS z.2.1 z.2.2) (fun z=>⟨[(4,.ptr 0 0 2),(5,.ptr 1 0 3),(9,.ptr 2 0 2),(10,.ptr 3 0 3),(13,.ptr 10 0 3),(89,.bs 22 0 6 2 12),(90,.QF 6),(91,.QF 5),(22,.ptr 28 0 2),(23,.QF z.1)],[.c [.d (A1 b.grams),.QF b.lost],.c [.QF g.to,.d (.by g.by_),.QG g.harmed],.c [.d (A1 b.grams),.QF b.lost],.c [.QF g.to,.d (.by g.by_),.QG g.harmed],.a (.sl 3 c0),.many q0,.c [.sl 4 s.1.length 3,.QF s.2.2.1],.a (.sl 3 c1),.many q1,.c [.sl 7 x.1.length 3,.QF x.2.2.1],.c [.QF x.2.2.2.1,.d (.raw x.2.2.2.2.1),.QG x.2.2.2.2.2.1],.a (.sl 3 c2),.many q2,.c [.sl 11 p.1.length 3,.QF p.2.2.1],.a (.sl 3 c3),.many q3,.c [.sl 14 q.1.length 3,.QF q.2.2.1],.a (.sl 3 c4),.many q4,.c [.sl 17 r.1.length 3,.QF r.2.2.1],.a (.sl 3 z.2.1),.many z.2.2,.c [.sl 4 s.1.length 3,.QF s.2.2.1,.sl 7 x.1.length 3,.QF x.2.2.1,.sl 11 p.1.length 3,.QF p.2.2.1,.sl 14 q.1.length 3,.QF q.2.2.1,.sl 17 r.1.length 3,.QF r.2.2.1,.sl 20 o.1.length 3,.QF o.2.2.1],.c [.sl 4 s.1.length 3,.QF s.2.2.1],.c [.sl 7 x.1.length 3,.QF x.2.2.1],.c [.sl 11 p.1.length 3,.QF p.2.2.1],.c [.sl 14 q.1.length 3,.QF q.2.2.1],.c [.sl 17 r.1.length 3,.QF r.2.2.1],.c [.sl 20 o.1.length 3,.QF o.2.2.1]],165⟩) (fun z=>o.1.length-z.1) (0,o.1,o.2.1) ⟨RN _,rfl,ho.1⟩ ?_ (Qn _) ?_
         .exact A3.ck rfl
         rintro⟨k5,c5,q5⟩ ⟨i1,i2,i3⟩;dsimp only at i1 i2 i3|-
         have hbv:o.1.length<=100:=by
          have:=ho.2;omega
         by_cases hk:k5<o.1.length
         .obtain⟨t1,u1,b1,e1,w1⟩:=i3.get (by rw[i2];exact hk);have f0:c5.getD k5 []=[.QO t1,.raw u1,.b b1]:=by rw[Qy,e1];rfl
          have i2r:=i2.symm;refine B6 A9 ?_ (C0 f0);with_reducible repeat' first|constructor|intro hc
          have r3:=i3.to e1 (-9);have l3:(c5.set k5 [.QO (-9),.raw u1,.b b1]).length=o.1.length:=by rw[SS,i2]
          have e3:(c5.set k5 [.QO (-9),.raw u1,.b b1])[k5]? =some [.QO (-9),.raw u1,.b b1]:=by rw[Qs (by rw[i2];exact hk)]
          rw[f0];have e4:([.QO t1,.raw u1,.b b1]:R6).set 0 (.QO (-9))=[.QO (-9),.raw u1,.b b1]:=rfl;rw[e4];generalize c5.set k5 [.QO (-9),.raw u1,.b b1]=C at*
          have f1:(slc (.sl 3 C)).getD (k5*3+1) .np= .raw u1:=by
           have:=E1 r3.three (k:=1) e3 rfl;rw[Qy];show(List.flatten _)[_]?.getD _=_;rw[this];rfl
          rcases w1 with⟨a1,rfl⟩|⟨bb,NN,ll,rfl,hm,hL⟩
          .refine Cd 1 ?_;refine B6 A9 ?_ (Fz f1 l3);with_reducible repeat' first|constructor|intro hc
           refine⟨(k5+1,C,q5),⟨hk,l3,r3⟩,(by show o.1.length-(k5+1)<o.1.length-k5;omega),Qn _,?_⟩;exact A3.ck rfl
          .obtain⟨jr,hj⟩:=SN hm;refine Ae (A3.Bl (b:=bb) (N:=NN) (l:=ll) 21 jr rfl hj) sm ?_;simp only[CU];refine AT (fun z:Nat×A5=>z.1<=ll.length/\z.2.length=ll.length) (fun z=>⟨[(4,.ptr 0 0 2),(5,.ptr 1 0 3),(9,.ptr 2 0 2),(10,.ptr 3 0 3),(13,.ptr 10 0 3),(89,.bs 22 0 6 2 12),(90,.QF 6),(91,.QF 5),(22,.ptr 28 0 2),(23,.QF k5),(24,.QF z.1)],[.c [.d (A1 b.grams),.QF b.lost],.c [.QF g.to,.d (.by g.by_),.QG g.harmed],.c [.d (A1 b.grams),.QF b.lost],.c [.QF g.to,.d (.by g.by_),.QG g.harmed],.a (.sl 3 c0),.many q0,.c [.sl 4 s.1.length 3,.QF s.2.2.1],.a (.sl 3 c1),.many q1,.c [.sl 7 x.1.length 3,.QF x.2.2.1],.c [.QF x.2.2.2.1,.d (.raw x.2.2.2.2.1),.QG x.2.2.2.2.2.1],.a (.sl 3 c2),.many q2,.c [.sl 11 p.1.length 3,.QF p.2.2.1],.a (.sl 3 c3),.many q3,.c [.sl 14 q.1.length 3,.QF q.2.2.1],.a (.sl 3 c4),.many q4,.c [.sl 17 r.1.length 3,.QF r.2.2.1],.a (.sl 3 C),.many (q5.set jr none),.c [.sl 4 s.1.length 3,.QF s.2.2.1,.sl 7 x.1.length 3,.QF x.2.2.1,.sl 11 p.1.length 3,.QF p.2.2.1,.sl 14 q.1.length 3,.QF q.2.2.1,.sl 17 r.1.length 3,.QF r.2.2.1,.sl 20 o.1.length 3,.QF o.2.2.1],.c [.sl 4 s.1.length 3,.QF s.2.2.1],.c [.sl 7 x.1.length 3,.QF x.2.2.1],.c [.sl 11 p.1.length 3,.QF p.2.2.1],.c [.sl 14 q.1.length 3,.QF q.2.2.1],.c [.sl 17 r.1.length 3,.QF r.2.2.1],.c [.sl 20 o.1.length 3,.QF o.2.2.1],.D5 bb NN z.2],165⟩) (fun z=>ll.length-z.1) (0,ll) ⟨RN _,rfl⟩ ?_ (Qn _) ?_
           .exact A3.ck rfl
           rintro⟨j1,y1⟩ ⟨j2,j3⟩;dsimp only at j2 j3|-
           by_cases hj1:j1<ll.length
           .have hj1y:j1<y1.length:=om
            have hxr:=Ch (y1.getD j1 0) 255;unfold FL at hxr;have e0:((j1:Int)).toNat=j1:=SQ j1;have sb:No 2:=trivial;refine B6 A9 ?_ (Na f1 l3 e0);clear sb;with_reducible repeat' first|constructor|intro hc
            refine⟨(j1+1,CY y1 j1),⟨hj1,by rw[CB];exact j3⟩,(by show ll.length-(j1+1)<ll.length-j1;omega),Qn _,?_⟩;rw[SE];exact(have nC:=@CY.eq_1;A3.cn rfl)
           .have e:j1=ll.length:=om
            subst e;refine B6 A9 ?_ (Fz f1 l3) [] [15];with_reducible repeat' first|constructor|intro hc
            refine Ae (A3.Gl 29 21 jr rfl rfl (by rw[Qs (Qh.1 hj).1])) sm ?_;simp only[CU,List.set_set];refine AC A9 ?_;with_reducible repeat' first|constructor|intro hc
            refine⟨(k5+1,C,q5.set jr (some (bb,NN,y1))),⟨hk,l3,r3.upd hj j3⟩,(by show o.1.length-(k5+1)<o.1.length-k5;omega),Qn _,?_⟩;exact A3.ck rfl
         .have e:k5=o.1.length:=om
          subst e;refine AC A9 ?_;with_reducible repeat' first|constructor|intro hc
          rcases i4 with⟨a1,hu⟩|⟨bb,NN,ll,hu,hm,hL⟩
          .rw[hu];refine Cd 1 ?_;refine Ex A9 ?_ (Na @hS @hGr @hW);with_reducible repeat' first|constructor|intro hc
           all_goals(refine⟨_,_,rfl,rfl,?_⟩;simp[L1,AI,Af,AX,Av.d])
          .obtain⟨jr,hj⟩:=SN hm;rw[hu];refine Ae (A3.Bl (b:=bb) (N:=NN) (l:=ll) 8 jr rfl hj) sm ?_;simp only[CU];refine AT (fun z:Nat×A5=>z.1<=ll.length/\z.2.length=ll.length) (fun z=>⟨[(4,.ptr 0 0 2),(5,.ptr 1 0 3),(9,.ptr 2 0 2),(10,.ptr 3 0 3),(13,.ptr 10 0 3),(25,.QF z.1)],[.c [.d (A1 b.grams),.QF b.lost],.c [.QF g.to,.d (.by g.by_),.QG g.harmed],.c [.d (A1 b.grams),.QF b.lost],.c [.QF g.to,.d (.by g.by_),.QG g.harmed],.a (.sl 3 c0),.many q0,.c [.sl 4 s.1.length 3,.QF s.2.2.1],.a (.sl 3 c1),.many (q1.set jr none),.c [.sl 7 x.1.length 3,.QF x.2.2.1],.c [.QF x.2.2.2.1,.d (.raw (.slice (some ⟨bb,0,none⟩) ll.length NN)),.QG x.2.2.2.2.2.1],.a (.sl 3 c2),.many q2,.c [.sl 11 p.1.length 3,.QF p.2.2.1],.a (.sl 3 c3),.many q3,.c [.sl 14 q.1.length 3,.QF q.2.2.1],.a (.sl 3 c4),.many q4,.c [.sl 17 r.1.length 3,.QF r.2.2.1],.a (.sl 3 c5),.many q5,.c [.sl 4 s.1.length 3,.QF s.2.2.1,.sl 7 x.1.length 3,.QF x.2.2.1,.sl 11 p.1.length 3,.QF p.2.2.1,.sl 14 q.1.length 3,.QF q.2.2.1,.sl 17 r.1.length 3,.QF r.2.2.1,.sl 20 o.1.length 3,.QF o.2.2.1],.c [.sl 4 s.1.length 3,.QF s.2.2.1],.c [.sl 7 x.1.length 3,.QF x.2.2.1],.c [.sl 11 p.1.length 3,.QF p.2.2.1],.c [.sl 14 q.1.length 3,.QF q.2.2.1],.c [.sl 17 r.1.length 3,.QF r.2.2.1],.c [.sl 20 o.1.length 3,.QF o.2.2.1],.D5 bb NN z.2],165⟩) (fun z=>ll.length-z.1) (0,ll) ⟨RN _,rfl⟩ ?_ (Qn _) ?_
           .exact A3.ck rfl
           rintro⟨j1,y1⟩ ⟨j2,j3⟩;dsimp only at j2 j3|-
           by_cases hj1:j1<ll.length
           .have hj1y:j1<y1.length:=om
            have hxr:=Ch (y1.getD j1 0) 255;unfold FL at hxr;have e0:((j1:Int)).toNat=j1:=SQ j1;have sb:No 2:=trivial;refine B6 A9 ?_ (C0 e0);clear sb;with_reducible repeat' first|constructor|intro hc
            refine⟨(j1+1,CY y1 j1),⟨hj1,by rw[CB];exact j3⟩,(by show ll.length-(j1+1)<ll.length-j1;omega),Qn _,?_⟩;rw[SE];exact(have nC:=@CY.eq_1;A3.cn rfl)
           .have e:j1=ll.length:=om
            subst e;refine Ex A9 ?_ (Na @hS @hGr @hW);with_reducible repeat' first|constructor|intro hc
            all_goals(refine⟨_,_,rfl,rfl,?_⟩;simp[L1,AI,Af,AX,Av.d])
   .refine D2 A9 ?_ (C0 h2) (Fz @hG @hW);with_reducible repeat' first|constructor|intro hc
    all_goals first
     |(exfalso;omega)
     |(refine⟨_,_,rfl,rfl,?_⟩;simp[L1,AI,Af,AX,Av.d];done)
 .refine Ex A9 ?_ (C0 @hW);with_reducible repeat' first|constructor|intro hc
  all_goals first
   |(exfalso;omega)
   |(refine⟨_,_,rfl,rfl,?_⟩;simp[L1,AI,Af,AX,Av.d];done)
end Go.Proofs.Ytmlaifbbpdanmaa
