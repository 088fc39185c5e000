/- Part 30 of a proof. Conditions: those that its theorems state. -/
import Derived.Test.YtkljbfejbakooaaGreatDoorT22
set_option linter.unusedSimpArgs false
set_option linter.unusedVariables false
set_option maxHeartbeats 40000000
set_option maxRecDepth 4000
namespace Go.Proofs.YtkljbfejbakooaaGreatDoor
namespace Wi
open Go.Gar
abbrev ED:Aw:=[0,2,3,4,5,6,10,23,34]
def Ev(b:AJ):AC×Int:=
 if 46<b.length then(AN,12)else match GO AN b with
 |none=>(AN,12)
 |some (m,r)=>match HG m r with
  |none=>(AN,12)
  |some (m',r')=>if r'=[]/\m'.right=true then(m',0)else(AN,12)
theorem IM:∀(k:Nat)(b:AJ)(acc:Ad),(Df k b acc).1.length<=k+acc.length/\(Df k b acc).2.1.length<=b.length
 |0,b,acc=>by simp[Df]
 |k+1,b,acc=>by
  simp only[Df];split
  .have ih:=IM k (Bl b).2.1 (acc++[((Bl b).1:Int)]);have hl:=Hs b;simp only[y9,xw,yI]at ih;omega
  .simp
variable {b r:AJ}{l:Ad}
theorem mE(h:KJ b=some (l,r)):l.length<=255/\r.length<=b.length:=by
 have e:=Mo h;unfold BZ at e;split at e
 .simp at e
 .rename_i m q;have hl:=IM m.toNat q [];rw[e]at hl;have:=m.toNat_lt;simp only[yI,xw]at hl|-;omega
variable {m:AC}
theorem Xm{m':AC}(h:HG m b=some (m',r))(hl:m.A8.length<=255):m'.A8.length<=255/\r.length<=b.length:=by
 unfold HG at h;split at h
 .split at h
  .cases h
  .rename_i n b1 h1;split at h
   .cases h
   .rename_i g b2 h2;have:=Bb h1;have:=P8 h2;cases h;exact⟨hl,om⟩
 split at h
 .split at h
  .cases h
  .rename_i x b1 h1;have:=U0 h1;cases h;exact⟨hl,om⟩
 split at h
 .split at h
  .cases h
  .rename_i x b1 h1;have:=Lh h1;cases h;exact⟨hl,om⟩
 split at h
 .split at h
  .cases h
  .rename_i n b1 h1;split at h
   .cases h
   .rename_i g b2 h2;have:=Bb h1;have:=mE h2;cases h;exact⟨this.1,om⟩
 split at h
 .split at h
  .cases h
  .rename_i n b1 h1;split at h
   .cases h
   .rename_i g b2 h2;have:=Bb h1;have:=P8 h2;cases h;exact⟨hl,om⟩
 split at h
 .split at h
  .cases h
  .rename_i n b1 h1;have:=Bb h1;cases h;exact⟨hl,om⟩
 split at h
 .split at h
  .cases h
  .rename_i n b1 h1;have:=Bb h1;split at h
   .split at h
    .cases h
    .rename_i x b2 h2;have:=U0 h2;cases h;exact⟨hl,om⟩
   .cases h;exact⟨hl,om⟩
 .cases h;exact⟨hl,om⟩
theorem Mn(h:GO AN b=some (m,r)):0<=m.AR/\m.AR<13/\m.A8=[]:=by
 unfold GO at h;split at h
 .cases h
 rename_i k b1 h1;split at h
 .cases h
 split at h
 .cases h
 rename_i c b2 h2;split at h
 .cases h
 rename_i s b3 h3;split at h
 .cases h
 rename_i d b4 h4;simp only[xJ,xZ]at h;obtain⟨rfl,rfl⟩:=h;exact⟨by show(0:Int)<=(k:Int);omega,by show(k:Int)<13;omega,rfl⟩
abbrev fv:AV:=.tup [.ag zC,.wo 12]
abbrev mK:xS:=[.c zC,.c [.wo 12]]
theorem rN(b:AJ)(h:46<b.length):xC 117 [.d (.by b)] [] fv mK:=by
 refine Fx (g:=179) (xs:=[.ptr 0 0 15,.ptr 1 0 1]) AF Tryz.func117 rfl rfl xA ?_;refine Ka AF rfl rfl rfl rfl rfl ?_ rfl;refine Ka AF rfl rfl rfl rfl rfl ?_ rfl;refine EM ?_;refine Fq AF rfl rfl rfl rfl ?_ rfl;refine F1 rfl rfl rfl rfl rfl rfl ⟨_,Tryz.func179,rfl,rfl⟩ rfl ?_;refine wd ED [] A4 A4 ?_;with_reducible repeat' first|constructor|intro hc
 refine⟨_,GQ _ _ _ _ _ _ _ _ _ _ _ _ _ _ _ _ _ 12,?_⟩;exact⟨⟨[(2,.ptr 0 0 15),(3,.ptr 1 0 1)],mK,Tryz.f117.ntmps⟩,(A6.ck rfl),xQ _,_,_,rfl,rfl,rfl,rfl⟩
theorem rO(b:AJ)(hb:b.length<=46)(h:GO AN b=none):xC 117 [.d (.by b)] [] fv mK:=by
 have c1:=oy AN b om h;unfold hH at c1;simp only[mC,AN,AY]at c1;refine Fx (g:=179) (xs:=[.ptr 0 0 15,.ptr 1 0 1]) AF Tryz.func117 rfl rfl xA ?_;refine Ka AF rfl rfl rfl rfl rfl ?_ rfl;refine Ka AF rfl rfl rfl rfl rfl ?_ rfl;refine EM ?_;refine Fq AF rfl rfl rfl rfl ?_ rfl;refine F1 rfl rfl rfl rfl rfl rfl ⟨_,Tryz.func179,rfl,rfl⟩ rfl ?_;refine wd ED [5] A4 A4 ?_;with_reducible repeat' first|constructor|intro hc
 refine BC (A6.JF 0 9 (.is []) rfl rfl rfl rfl trivial) sm ?_;have x1:=Ds.mk [2,0] (c1);refine wd ED [] A4 A4 ?_;clear x1;refine⟨_,GQ _ _ _ _ _ _ _ _ _ _ _ _ _ _ _ _ _ 12,?_⟩;exact⟨⟨[(2,.ptr 0 0 15),(3,.ptr 1 0 1)],mK,Tryz.f117.ntmps⟩,(A6.ck rfl),xQ _,_,_,rfl,rfl,rfl,rfl⟩
theorem rP(b:AJ)(hb:b.length<=46)(m:AC)(r:AJ)(h:GO AN b=some (m,r))(h2:HG m r=none):xC 117 [.d (.by b)] [] fv mK:=by
 have c1:=V3 AN b om m r h;have l1:=PC h;obtain⟨hk1,hk2,hk3⟩:=Mn h;have c2:=PG m r;have c3:=pX m r om h2;have hs:special m.AR:=Classical.byContradiction fun hs=>by rw[L6 m r hs]at h2;cases h2
 unfold special at hs;obtain⟨k,c,s,d,ky,sl,dn,pl,pr,l,⟨ik,iv,ir,ig⟩,co⟩:=m;unfold hH at c1;simp only[mC,Zg,AN,AY]at *;unfold gH gX at c3;simp only[mC,S9]at c3;refine Fx (g:=179) (xs:=[.ptr 0 0 15,.ptr 1 0 1]) AF Tryz.func117 rfl rfl xA ?_;refine Ka AF rfl rfl rfl rfl rfl ?_ rfl;refine Ka AF rfl rfl rfl rfl rfl ?_ rfl;refine EM ?_;refine Fq AF rfl rfl rfl rfl ?_ rfl;refine F1 rfl rfl rfl rfl rfl rfl ⟨_,Tryz.func179,rfl,rfl⟩ rfl ?_;refine wd ED [5] A4 A4 ?_;with_reducible repeat' first|constructor|intro hc
 refine BC (A6.JF 0 9 (.is []) rfl rfl rfl rfl trivial) sm ?_;clear h h2;rcases hs with rfl|rfl|rfl|rfl|rfl|rfl|rfl
 all_goals(
  simp only[Int.reduceEq,yG,yC]at c3;have d1:=Ds.mk [2,0] (c1);have d2:=Ds.mk [0,2] (c2);have x1:=Ds.mk [4,3,0,2] (c3);refine wd ED [] A4 A4 ?_ [(1,0),(2,0)];clear x1 d2 d1;refine⟨_,GQ _ _ _ _ _ _ _ _ _ _ _ _ _ _ _ _ _ 12,?_⟩
  exact⟨⟨[(2,.ptr 0 0 15),(3,.ptr 1 0 1)],mK,Tryz.f117.ntmps⟩,(A6.ck rfl),xQ _,_,_,rfl,rfl,rfl,rfl⟩)
theorem rQ(b:AJ)(hb:b.length<=46)(m m':AC)(r r':AJ)(h:GO AN b=some (m,r))(h2:HG m r=some (m',r'))(h3:¬(r'=[]/\m'.right=true)):xC 117 [.d (.by b)] [] fv mK:=by
 have c1:=V3 AN b om m r h;have l1:=PC h;obtain⟨hk1,hk2,hk3⟩:=Mn h;have c2:=PG m r;have hl:=Xm h2 (by rw[hk3];simp);have cR:=CX m' om
 by_cases hs:special m.AR
 .have c3:=cU m r om m' r' h2 hs;unfold special at hs;obtain⟨k,c,s,d,ky,sl,dn,pl,pr,l,⟨ik,iv,ir,ig⟩,co⟩:=m;obtain⟨k',c',s',d',ky',sl',dn',pl',pr',l',⟨ik',iv',ir',ig'⟩,co'⟩:=m';unfold hH at c1;unfold gH at c3;unfold AC.d AC.A0 at cR;simp only[mC,Zg,AN,AY,S9]at *;refine Fx (g:=179) (xs:=[.ptr 0 0 15,.ptr 1 0 1]) AF Tryz.func117 rfl rfl xA ?_;refine Ka AF rfl rfl rfl rfl rfl ?_ rfl;refine Ka AF rfl rfl rfl rfl rfl ?_ rfl;refine EM ?_;refine Fq AF rfl rfl rfl rfl ?_ rfl;refine F1 rfl rfl rfl rfl rfl rfl ⟨_,Tryz.func179,rfl,rfl⟩ rfl ?_;refine wd ED [5] A4 A4 ?_;with_reducible repeat' first|constructor|intro hc
  refine BC (A6.JF 0 9 (.is []) rfl rfl rfl rfl trivial) sm ?_;clear h h2
  by_cases hr:r'=[]
  .subst hr
   have hR:(AC.mk k' c' s' d' ky' sl' dn' pl' pr' l' ⟨ik',iv',ir',ig'⟩ co').right=false:=by
    cases hq:(AC.mk k' c' s' d' ky' sl' dn' pl' pr' l' ⟨ik',iv',ir',ig'⟩ co').right with
    |false=>rfl
    |true=>exact absurd ⟨rfl,hq⟩ h3
   rw[hR]at cR;rcases hs with rfl|rfl|rfl|rfl|rfl|rfl|rfl
   all_goals(
    simp only[Int.reduceEq,yG,yC]at c3;have d1:=Ds.mk [2,0] (c1);have d2:=Ds.mk [0,2] (c2);have d3:=Ds.mk [4,3,0,2] (c3);refine wd ED [] A4 (AM @cR) ?_ [(1,0),(2,0)];clear d3 d2 d1;refine⟨_,GQ _ _ _ _ _ _ _ _ _ _ _ _ _ _ _ _ _ 12,?_⟩
    exact⟨⟨[(2,.ptr 0 0 15),(3,.ptr 1 0 1)],mK,Tryz.f117.ntmps⟩,(A6.ck rfl),xQ _,_,_,rfl,rfl,rfl,rfl⟩)
  .have hpos:0<r'.length:=List.length_pos_iff.2 hr;rcases hs with rfl|rfl|rfl|rfl|rfl|rfl|rfl
   all_goals(
    simp only[Int.reduceEq,yG,yC]at c3;have d1:=Ds.mk [2,0] (c1);have d2:=Ds.mk [0,2] (c2);have d3:=Ds.mk [4,3,0,2] (c3);refine wd ED [] A4 (AM @cR) ?_ [(1,0),(2,0)];clear d3 d2 d1;with_reducible repeat' first|constructor|intro hc
    refine⟨_,GQ _ _ _ _ _ _ _ _ _ _ _ _ _ _ _ _ _ 12,?_⟩
    exact⟨⟨[(2,.ptr 0 0 15),(3,.ptr 1 0 1)],mK,Tryz.f117.ntmps⟩,(A6.ck rfl),xQ _,_,_,rfl,rfl,rfl,rfl⟩)
 .rw[L6 m r hs]at h2;simp only[xJ,xZ]at h2;obtain⟨rfl,rfl⟩:=h2;unfold special at hs;obtain⟨k,c,s,d,ky,sl,dn,pl,pr,l,⟨ik,iv,ir,ig⟩,co⟩:=m;unfold hH at c1;unfold AC.d AC.A0 at cR;simp only[mC,Zg,AN,AY]at *;have hs:k=0\/k=1\/k=2\/k=3\/k=8\/k=9:=om
  refine Fx (g:=179) (xs:=[.ptr 0 0 15,.ptr 1 0 1]) AF Tryz.func117 rfl rfl xA ?_;refine Ka AF rfl rfl rfl rfl rfl ?_ rfl;refine Ka AF rfl rfl rfl rfl rfl ?_ rfl;refine EM ?_;refine Fq AF rfl rfl rfl rfl ?_ rfl;refine F1 rfl rfl rfl rfl rfl rfl ⟨_,Tryz.func179,rfl,rfl⟩ rfl ?_;refine wd ED [5] A4 A4 ?_;with_reducible repeat' first|constructor|intro hc
  refine BC (A6.JF 0 9 (.is []) rfl rfl rfl rfl trivial) sm ?_;clear h
  by_cases hr:r=[]
  .subst hr
   have hR:(AC.mk k c s d ky sl dn pl pr l ⟨ik,iv,ir,ig⟩ co).right=false:=by
    cases hq:(AC.mk k c s d ky sl dn pl pr l ⟨ik,iv,ir,ig⟩ co).right with
    |false=>rfl
    |true=>exact absurd ⟨rfl,hq⟩ h3
   rw[hR]at cR;rcases hs with rfl|rfl|rfl|rfl|rfl|rfl
   all_goals(
    have d1:=Ds.mk [2,0] (c1);have d2:=Ds.mk [0,2] (c2);refine wd ED [] A4 (AM @cR) ?_ [(1,0),(2,0)];clear d2 d1;refine⟨_,GQ _ _ _ _ _ _ _ _ _ _ _ _ _ _ _ _ _ 12,?_⟩
    exact⟨⟨[(2,.ptr 0 0 15),(3,.ptr 1 0 1)],mK,Tryz.f117.ntmps⟩,(A6.ck rfl),xQ _,_,_,rfl,rfl,rfl,rfl⟩)
  .have hpos:0<r.length:=List.length_pos_iff.2 hr;rcases hs with rfl|rfl|rfl|rfl|rfl|rfl
   all_goals(
    have d1:=Ds.mk [2,0] (c1);have d2:=Ds.mk [0,2] (c2);refine wd ED [] A4 (AM @cR) ?_ [(1,0),(2,0)];clear d2 d1;with_reducible repeat' first|constructor|intro hc
    refine⟨_,GQ _ _ _ _ _ _ _ _ _ _ _ _ _ _ _ _ _ 12,?_⟩
    exact⟨⟨[(2,.ptr 0 0 15),(3,.ptr 1 0 1)],mK,Tryz.f117.ntmps⟩,(A6.ck rfl),xQ _,_,_,rfl,rfl,rfl,rfl⟩)
abbrev MJ:Aw:=[0,2,3,4,5,6,10,23,34]
theorem iL(b:AJ)(hb:b.length<=46)(m m':AC)(r:AJ)(h:GO AN b=some (m,r))(h2:HG m r=some (m',[]))(h3:m'.right=true):xC 117 [.d (.by b)] [] (.tup [.d m'.d,.wo 0]) [.c (mC m'),.c [.wo 0]]:=by
 have c1:=V3 AN b om m r h;have l1:=PC h;obtain⟨hk1,hk2,hk3⟩:=Mn h;have c2:=PG m r;have hl:=Xm h2 (by rw[hk3];simp);have cR:=CX m' om;rw[h3]at cR
 by_cases hs:special m.AR
 .have c3:=cU m r om m' [] h2 hs;unfold special at hs;obtain⟨k,c,s,d,ky,sl,dn,pl,pr,l,⟨ik,iv,ir,ig⟩,co⟩:=m;obtain⟨k',c',s',d',ky',sl',dn',pl',pr',l',⟨ik',iv',ir',ig'⟩,co'⟩:=m';unfold hH at c1;unfold gH at c3;unfold AC.d AC.A0 at cR|-;simp only[mC,Zg,AN,AY,S9]at *;refine Fx (g:=179) (xs:=[.ptr 0 0 15,.ptr 1 0 1]) AF Tryz.func117 rfl rfl xA ?_;refine Ka AF rfl rfl rfl rfl rfl ?_ rfl;refine Ka AF rfl rfl rfl rfl rfl ?_ rfl;refine EM ?_;refine Fq AF rfl rfl rfl rfl ?_ rfl;refine F1 rfl rfl rfl rfl rfl rfl ⟨_,Tryz.func179,rfl,rfl⟩ rfl ?_;refine wd MJ [5] A4 A4 ?_;with_reducible repeat' first|constructor|intro hc
  refine BC (A6.JF 0 9 (.is []) rfl rfl rfl rfl trivial) sm ?_;clear h h2;rcases hs with rfl|rfl|rfl|rfl|rfl|rfl|rfl
  all_goals(
   simp only[Int.reduceEq,yG,yC]at c3;have d1:=Ds.mk [2,0] (c1);have d2:=Ds.mk [0,2] (c2);have d3:=Ds.mk [4,3,0,2] (c3);refine wd MJ [] A4 (AM @cR) ?_ [(1,0),(2,0)];clear d3 d2 d1;refine⟨_,TI _,?_⟩
   exact⟨⟨[(2,.ptr 0 0 15),(3,.ptr 1 0 1)],[.c (mC ⟨k',c',s',d',ky',sl',dn',pl',pr',l',⟨ik',iv',ir',ig'⟩,co'⟩),.c [.wo 0]],Tryz.f117.ntmps⟩,(A6.ck rfl),xQ _,_,_,rfl,rfl,rfl,rfl⟩)
 .rw[L6 m r hs]at h2;simp only[xJ,xZ]at h2;obtain⟨rfl,rfl⟩:=h2;unfold special at hs;obtain⟨k,c,s,d,ky,sl,dn,pl,pr,l,⟨ik,iv,ir,ig⟩,co⟩:=m;unfold hH at c1;unfold AC.d AC.A0 at cR|-;simp only[mC,Zg,AN,AY]at *;have hs:k=0\/k=1\/k=2\/k=3\/k=8\/k=9:=om
  refine Fx (g:=179) (xs:=[.ptr 0 0 15,.ptr 1 0 1]) AF Tryz.func117 rfl rfl xA ?_;refine Ka AF rfl rfl rfl rfl rfl ?_ rfl;refine Ka AF rfl rfl rfl rfl rfl ?_ rfl;refine EM ?_;refine Fq AF rfl rfl rfl rfl ?_ rfl;refine F1 rfl rfl rfl rfl rfl rfl ⟨_,Tryz.func179,rfl,rfl⟩ rfl ?_;refine wd MJ [5] A4 A4 ?_;with_reducible repeat' first|constructor|intro hc
  refine BC (A6.JF 0 9 (.is []) rfl rfl rfl rfl trivial) sm ?_;clear h;rcases hs with rfl|rfl|rfl|rfl|rfl|rfl
  all_goals(
   have d1:=Ds.mk [2,0] (c1);have d2:=Ds.mk [0,2] (c2);refine wd MJ [] A4 (AM @cR) ?_ [(1,0),(2,0)];clear d2 d1;refine⟨_,TI _,?_⟩
   exact⟨⟨[(2,.ptr 0 0 15),(3,.ptr 1 0 1)],[.c (mC ⟨_,c,s,d,ky,sl,dn,pl,pr,l,⟨ik,iv,ir,ig⟩,co⟩),.c [.wo 0]],Tryz.f117.ntmps⟩,(A6.ck rfl),xQ _,_,_,rfl,rfl,rfl,rfl⟩)
theorem NT{H:xS}:Cq H fv (.tup [AN.d,.i .i64 12]):=by
 simp[fv,zC,AN,AY,AC.d,AC.A0,HY,OS,DL,Dz,Cy,OT,Bd,BK,B0]
theorem o0(b:AJ):xB 117 [.by b] (.tup [(Ev b).1.d,.i .i64 (Ev b).2]):=by
 by_cases h0:46<b.length
 .have e:Ev b=(AN,12):=if_pos h0;rw[e];exact FT (ds:=[.by b]) (rN b h0) NT
 cases h1:GO AN b with
 |none=>
  have e:Ev b=(AN,12):=by unfold Ev;rw[if_neg h0,h1]
  rw[e];exact FT (ds:=[.by b]) (rO b om h1) NT
 |some p=>
 obtain⟨m,r⟩:=p
 cases h2:HG m r with
 |none=>
  have e:Ev b=(AN,12):=by unfold Ev;rw[if_neg h0,h1];simp only[h2]
  rw[e];exact FT (ds:=[.by b]) (rP b om m r h1 h2) NT
 |some p=>
 obtain⟨m',r'⟩:=p
 by_cases h3:r'=[]/\m'.right=true
 .have e:Ev b=(m',0):=by unfold Ev;rw[if_neg h0,h1];simp only[h2];rw[if_pos h3]
  rw[e];obtain⟨rfl,h4⟩:=h3;refine FT (ds:=[.by b]) (iL b om m m' r h1 h2 h4) ?_;simp[HY,DL,Dz,Cy]
 .have e:Ev b=(AN,12):=by unfold Ev;rw[if_neg h0,h1];simp only[h2];rw[if_neg h3]
  rw[e];exact FT (ds:=[.by b]) (rQ b om m m' r r' h1 h2 h3) NT
theorem DU{n:Nat}:DR b=some (n,r)↔b=CR n++r/\n<=1099511627776:=by
 constructor
 .intro h;exact Tw (JS h)
 .rintro⟨rfl,hn⟩;unfold DR;rw[UF n r hn];simp
theorem Lg{s:AJ}:Im b=some (s,r)↔b=Cf s++r/\s.length<=255:=by
 constructor
 .intro h;have e:=Mp h;rcases KL b with⟨s',r',h1,h2,h3⟩|h1
  .rw[h1]at e;simp only[xZ,and_true]at e;obtain⟨rfl,rfl⟩:=e;exact⟨h2,h3⟩
  .rw[h1]at e;simp at e
 .rintro⟨rfl,hs⟩;unfold Im Cf;rw[PR s r hs];simp
theorem Tx:KJ b=some (l,r)↔b=(UInt8.ofNat l.length::Ac l)++r/\l.length<=255/\l.all fits=true:=by
 constructor
 .intro h;have e:=Mo h;rcases Q5 b with⟨l',r',h1,h2,h3,h4⟩|⟨e',h1,h2⟩
  .rw[h1]at e;simp only[xZ,and_true]at e;obtain⟨rfl,rfl⟩:=e;exact⟨h2,h3,h4⟩
  .rw[h1]at e;simp at e;exact absurd e.2.2 h2
 .rintro⟨rfl,hl,hf⟩;unfold KJ;rw[Tq l r hl hf];simp
def sA(b:Bool):Nat:=if b then 1 else 0
theorem QD(b:Bool):Dl b=(sA b:Nat):=by cases b<;>rfl
theorem Lf{g:Bool}:GN b=some (g,r)↔b=CR (sA g)++r:=by
 constructor
 .intro h;unfold GN at h;split at h
  .rename_i n r' hn;split at h
   .cases h
   .rename_i h1;simp only[xJ,xZ]at h;obtain⟨rfl,rfl⟩:=h;obtain⟨e,_⟩:=DU.1 hn;rw[e]
    have:n=sA (n==1):=by
     have:n=0\/n=1:=om
     rcases this with rfl|rfl<;>rfl
    rw[<-this]
  .cases h
 .rintro rfl;unfold GN;rw[DU.2 ⟨rfl,by cases g<;>decide⟩];cases g<;>rfl
variable {n:Int}
theorem Bq(h:fits n=true):((n.toNat:Nat):Int)=n/\n.toNat<=1099511627776:=by
 simp[fits]at h;omega
theorem E9(h:fits n=true)(r:AJ):DR (Ac [n]++r)=some (n.toNat,r):=by
 rw[DU];exact⟨by simp[Ac],(Bq h).2⟩
theorem P9(g:Bool)(r:AJ):GN (Ac [Dl g]++r)=some (g,r):=by
 rw[Lf,QD];simp[Ac]
theorem SP(x:AK):CN x=Cf x.AH++(Ac [x.B2]++(Ac [x.AZ]++Ac [Dl x.gone])):=by simp[CN,Ac]
theorem U1(x:AK)(hk:x.AH.length<=255)(hv:fits x.B2=true)(hn:fits x.AZ=true)(r:AJ):HT (CN x++r)=some (x,r):=by
 unfold HT;rw[SP,yB,Lg.2 ⟨rfl,hk⟩];simp only;rw[yB,E9 hv];simp only;rw[yB,E9 hn];simp only;rw[P9];simp only[(Bq hv).1,(Bq hn).1]
theorem Tz{x:AK}(h:HT b=some (x,r)):b=CN x++r:=by
 unfold HT at h;split at h
 .cases h
 rename_i k b1 h1;split at h
 .cases h
 rename_i v b2 h2;split at h
 .cases h
 rename_i n b3 h3;split at h
 .cases h
 rename_i g b4 h4;simp only[xJ,xZ]at h;obtain⟨rfl,rfl⟩:=h;rw[(Lg.1 h1).1,(DU.1 h2).1,(DU.1 h3).1,Lf.1 h4,SP];simp[Ac,QD]
theorem fb(m:AC)(hk:0<=m.AR/\m.AR<13)(h1:fits m.Aa=true)(h2:fits m.As=true)(h3:fits m.dst=true)(r:AJ):GO AN (Ac [m.AR,m.Aa,m.As,m.dst]++r)=some (m.empty,r):=by
 have hkf:fits m.AR=true:=Dv om;have e:Ac [m.AR,m.Aa,m.As,m.dst]++r=Ac [m.AR]++(Ac [m.Aa]++(Ac [m.As]++(Ac [m.dst]++r))):=by simp[Ac]
 unfold GO;rw[e,E9 hkf];simp only;rw[if_neg om,E9 h1];simp only;rw[E9 h2];simp only;rw[E9 h3];simp only[(Bq hkf).1,(Bq h1).1,(Bq h2).1,(Bq h3).1];rfl
theorem fa(h:GO AN b=some (m,r)):b=Ac [m.AR,m.Aa,m.As,m.dst]++r/\m=m.empty:=by
 unfold GO at h;split at h
 .cases h
 rename_i k b1 h1;split at h
 .cases h
 split at h
 .cases h
 rename_i c b2 h2;split at h
 .cases h
 rename_i s b3 h3;split at h
 .cases h
 rename_i d b4 h4;simp only[xJ,xZ]at h;obtain⟨rfl,rfl⟩:=h;refine⟨?_,rfl⟩;rw[(DU.1 h1).1,(DU.1 h2).1,(DU.1 h3).1,(DU.1 h4).1];simp[Ac]
theorem ff(m:AC)(h:m.right=true):HG m.empty (CK m)=some (m,[]):=by
 obtain⟨_,_,_,_,hb,hh⟩:=Hj h;clear h;obtain⟨k,c,s,d,ky,sl,dn,pl,pr,l,⟨ik,iv,ir,ig⟩,co⟩:=m;unfold HG CK;simp only[AC.empty]at hb|-;unfold AC.bare AC.has at *;simp only at hb hh
 by_cases h4:k=4
 .subst h4;simp only[yG,AC.mk.injEq,AY,AK.mk.injEq]at hb hh|-;rw[show Ac [ky,Dl sl]=Ac [ky]++(Ac [Dl sl]++[])by simp[Ac],E9 (CQ hh)];simp only;rw[P9];simp only[(Bq (CQ hh)).1]
  simp_all
 by_cases h5:k=5
 .subst h5;simp only[Int.reduceEq,yC,yG,AC.mk.injEq,AY,AK.mk.injEq]at hb hh|-;obtain⟨a1,a2,a3⟩:=HP hh;rw[show CN ⟨ik,iv,ir,ig⟩=CN ⟨ik,iv,ir,ig⟩++[]by simp,U1 _ a1 a2 a3]
  simp_all
 by_cases h6:k=6
 .subst h6;simp only[Int.reduceEq,yC,yG,AC.mk.injEq,AY,AK.mk.injEq,xI,xK]at hb hh|-;obtain⟨a1,a2,a3⟩:=HP hh.1;rw[show Cf ik=Cf ik++[]by simp,Lg.2 ⟨rfl,a1⟩]
  simp_all
 by_cases h7:k=7
 .subst h7;simp only[Int.reduceEq,yC,yG,AC.mk.injEq,AY,AK.mk.injEq,xI,yL,xK]at hb hh|-;obtain⟨b1,b2⟩:=L5 hh.2
  have hf:fits (pr+1)=true:=by
   rcases hh.1 with h|h
   .subst h;rfl
   .exact Dv (by have:=FD h;omega)
  rw[E9 hf];simp only;rw[show UInt8.ofNat l.length::Ac l=(UInt8.ofNat l.length::Ac l)++[]by simp,Tx.2 ⟨rfl,om,b2⟩];simp only[(Bq hf).1];have:pr+1-1=pr:=om
  simp_all
 by_cases h10:k=10
 .subst h10;simp only[Int.reduceEq,yC,yG,AC.mk.injEq,AY,AK.mk.injEq]at hb hh|-;rw[show Ac [pl,Dl dn]=Ac [pl]++(Ac [Dl dn]++[])by simp[Ac],E9 (CQ hh)];simp only;rw[P9];simp only[(Bq (CQ hh)).1]
  simp_all
 by_cases h11:k=11
 .subst h11;simp only[Int.reduceEq,yC,yG,AC.mk.injEq,AY,AK.mk.injEq,yL,xK]at hb hh|-;have hf:fits co=true:=by rcases hh with h|h<;>rw[h]<;>rfl
  rw[show Ac [co]=Ac [co]++[]by simp,E9 hf];simp only[(Bq hf).1]
  simp_all
 by_cases h12:k=12
 .subst h12;simp only[Int.reduceEq,yC,yG,AC.mk.injEq,AY,AK.mk.injEq,yL,xI,xK]at hb hh|-;rcases hh with⟨h0,h1⟩|⟨h0,h1⟩
  .subst h0;obtain⟨a1,a2,a3⟩:=HP h1;rw[E9 rfl];simp only[yG];rw[show CN ⟨ik,iv,ir,ig⟩=CN ⟨ik,iv,ir,ig⟩++[]by simp];simp only[show Int.toNat 0=0 from rfl,yG];rw[U1 _ a1 a2 a3]
   simp_all
  .subst h0;rw[E9 rfl]
   simp_all
 simp only[h4,h5,h6,h7,h10,h11,h12,yC,AC.mk.injEq]at hb|-
 simp_all
theorem fe{m':AC}(h:HG m b=some (m',r)):b=CK m'++r/\m'.AR=m.AR/\m'.Aa=m.Aa/\m'.As=m.As/\m'.dst=m.dst:=by
 unfold HG at h
 by_cases h4:m.AR=4
 .rw[if_pos h4]at h;split at h
  .cases h
  rename_i n b1 h1;split at h
  .cases h
  rename_i g b2 h2;simp only[xJ,xZ]at h;obtain⟨rfl,rfl⟩:=h;refine⟨?_,rfl,rfl,rfl,rfl⟩;rw[(DU.1 h1).1,Lf.1 h2];simp[CK,h4,Ac,QD]
 rw[if_neg h4]at h
 by_cases h5:m.AR=5
 .rw[if_pos h5]at h;split at h
  .cases h
  rename_i x b1 h1;simp only[xJ,xZ]at h;obtain⟨rfl,rfl⟩:=h;refine⟨?_,rfl,rfl,rfl,rfl⟩;rw[Tz h1];simp[CK,h5]
 rw[if_neg h5]at h
 by_cases h6:m.AR=6
 .rw[if_pos h6]at h;split at h
  .cases h
  rename_i x b1 h1;simp only[xJ,xZ]at h;obtain⟨rfl,rfl⟩:=h;refine⟨?_,rfl,rfl,rfl,rfl⟩;rw[(Lg.1 h1).1];simp[CK,h6]
 rw[if_neg h6]at h
 by_cases h7:m.AR=7
 .rw[if_pos h7]at h;split at h
  .cases h
  rename_i n b1 h1;split at h
  .cases h
  rename_i l b2 h2;simp only[xJ,xZ]at h;obtain⟨rfl,rfl⟩:=h;refine⟨?_,rfl,rfl,rfl,rfl⟩;have e:((n:Int)-1+1).toNat=n:=om
  rw[(DU.1 h1).1,(Tx.1 h2).1];simp[CK,h7,Ac,e]
 rw[if_neg h7]at h
 by_cases h10:m.AR=10
 .rw[if_pos h10]at h;split at h
  .cases h
  rename_i n b1 h1;split at h
  .cases h
  rename_i g b2 h2;simp only[xJ,xZ]at h;obtain⟨rfl,rfl⟩:=h;refine⟨?_,rfl,rfl,rfl,rfl⟩;rw[(DU.1 h1).1,Lf.1 h2];simp[CK,h10,Ac,QD]
 rw[if_neg h10]at h
 by_cases h11:m.AR=11
 .rw[if_pos h11]at h;split at h
  .cases h
  rename_i n b1 h1;simp only[xJ,xZ]at h;obtain⟨rfl,rfl⟩:=h;refine⟨?_,rfl,rfl,rfl,rfl⟩;rw[(DU.1 h1).1];simp[CK,h11,Ac]
 rw[if_neg h11]at h
 by_cases h12:m.AR=12
 .rw[if_pos h12]at h;split at h
  .cases h
  rename_i n b1 h1;split at h
  .rename_i hn;subst hn;split at h
   .cases h
   rename_i x b2 h2;simp only[xJ,xZ]at h;obtain⟨rfl,rfl⟩:=h;refine⟨?_,rfl,rfl,rfl,rfl⟩;rw[(DU.1 h1).1,Tz h2];simp[CK,h12,Ac]
  .rename_i hn;simp only[xJ,xZ]at h;obtain⟨rfl,rfl⟩:=h;refine⟨?_,rfl,rfl,rfl,rfl⟩;rw[(DU.1 h1).1];simp[CK,h12,Ac,hn]
 rw[if_neg h12]at h;simp only[xJ,xZ]at h;obtain⟨rfl,rfl⟩:=h;refine⟨?_,rfl,rfl,rfl,rfl⟩;simp[CK,h4,h5,h6,h7,h10,h11,h12]
theorem aR{n k:Nat}(h:n<256^k):size n<=k:=by
 rcases yO k (size n)with h2|h2
 .have:=size_pos.2 h2;rw[Nat.div_eq_of_lt h]at this;omega
 .exact h2
theorem Ce(k:Nat)(h:n<((256^k:Nat):Int)):(CR n.toNat).length<=k+1:=by
 have:size n.toNat<=k:=by
  rcases zu n.toNat with h0|h0
  .rw[h0];exact zB (by decide) (xQ k)
  .exact aR om
 simp[CR,IU];omega
theorem Li{x:AK}(h:BE x=true):(CN x).length<=31:=by
 simp only[BE,xI,isVal,Bc,xK]at h;obtain⟨⟨⟨h1,h2⟩,⟨h3,h4⟩⟩,⟨h5,h6⟩⟩:=h;have a1:=Ce (n:=x.B2) 3 om;have a2:=Ce (n:=x.AZ) 3 om;have a3:=Ce (n:=Dl x.gone) 1 (by cases x.gone<;>decide);simp only[CN,Cf,Ac,y9,xw,yI];omega
theorem fM(h:m.right=true):(CK m).length<=32:=by
 obtain⟨_,_,_,_,_,hh⟩:=Hj h;unfold CK;unfold AC.has at hh
 by_cases h4:m.AR=4
 .rw[if_pos h4]at hh|-;have:=FD hh;have a1:=Ce (n:=m.AH) 2 om;have a3:=Ce (n:=Dl m.B4) 1 (by cases m.B4<;>decide);simp only[Ac,y9,yI];omega
 rw[if_neg h4]at hh|-
 by_cases h5:m.AR=5
 .rw[if_pos h5]at hh|-;have:=Li hh;omega
 rw[if_neg h5]at hh|-
 by_cases h6:m.AR=6
 .rw[if_pos h6]at hh|-;simp only[xI]at hh;have:=hh.1;simp only[BE,Bc,xI,xK]at this;simp only[Cf,xw];omega
 rw[if_neg h6]at hh|-
 by_cases h7:m.AR=7
 .rw[if_pos h7]at hh|-;simp only[xI,yL,xK]at hh
  have hp:m.AG+1<16777216:=by
   rcases hh.1 with h|h
   .omega
   .have:=FD h;omega
  have a1:=Ce (n:=m.AG+1) 3 om;have hL:=L5 hh.2
  have hall:∀l:Ad,GF m.As l=true->(Ac l).length<=3*l.length:=by
   intro l
   induction l with
   |nil=>simp[Ac]
   |cons x r ih=>
    intro hr;simp only[GF,yj,xI]at hr;have:=FD hr.1.1;have a2:=Ce (n:=x) 2 om;have:=ih hr.2;simp only[Ac,y9,xw];omega
  have h2:=hh.2;simp only[Et,xI]at h2;have:=hall m.A8 h2.1.1;simp only[Ac,y9,yI,xw];omega
 rw[if_neg h7]at hh|-
 by_cases h10:m.AR=10
 .rw[if_pos h10]at hh|-;have:=FD hh;have a1:=Ce (n:=m.AT) 2 om;have a3:=Ce (n:=Dl m.done) 1 (by cases m.done<;>decide);simp only[Ac,y9,yI];omega
 rw[if_neg h10]at hh|-
 by_cases h11:m.AR=11
 .rw[if_pos h11]at hh|-;simp only[yL,xK]at hh;have a1:=Ce (n:=m.AQ) 1 (by rcases hh with h|h<;>rw[h]<;>decide);simp only[Ac,y9,yI];omega
 rw[if_neg h11]at hh|-
 by_cases h12:m.AR=12
 .rw[if_pos h12]at hh|-;simp only[yL,xI,xK]at hh;rcases hh with⟨h0,h1⟩|⟨h0,h1⟩
  .have:=Li h1;rw[if_pos h0,h0];have e:(Ac [0]).length=1:=by decide
   simp only[y9];omega
  .rw[if_neg om,h0]
   decide
 rw[if_neg h12];simp
theorem L9(h:m.right=true):(By m).length<=46:=by
 have hm:=fM h;obtain⟨⟨h1,h2⟩,⟨h3,h4⟩,_,⟨h5,h6⟩,_,_⟩:=Hj h;have ha:=NC h;have:=FD h3;have:=FD h4;have a1:=Ce (n:=m.AR) 1 om;have a2:=Ce (n:=m.Aa) 5 om;have a3:=Ce (n:=m.As) 2 om;have a4:=Ce (n:=m.dst) 2 om;simp only[By,Ac,y9,yI];omega
theorem Y7(h:m.right=true):Ev (By m)=(m,0):=by
 have hl:=L9 h;obtain⟨⟨h1,h2⟩,⟨h3,h4⟩,_,⟨h5,h6⟩,_,_⟩:=Hj h;have ha:=NC h;unfold Ev;rw[if_neg om];unfold By;rw[fb m ⟨om,h2⟩ (Dv om) (CQ h3) (CQ h4)];simp only[ff m h,h,and_self,yG]
theorem mU{e:Int}(h:Ev b=(m,e)):(e=0/\m.right=true/\By m=b)\/(e=12/\m=AN):=by
 unfold Ev at h;split at h
 .cases h;exact .inr ⟨rfl,rfl⟩
 split at h
 .cases h;exact .inr ⟨rfl,rfl⟩
 rename_i m1 r h1;split at h
 .cases h;exact .inr ⟨rfl,rfl⟩
 rename_i m2 r2 h2;split at h
 .rename_i h3;cases h;refine .inl ⟨rfl,h3.2,?_⟩;obtain⟨e1,e2⟩:=fa h1;obtain⟨g1,g2,g3,g4,g5⟩:=fe h2;unfold By;rw[g2,g3,g4,g5,e1,g1,h3.1,yK]
 .cases h;exact .inr ⟨rfl,rfl⟩
end Wi
end Go.Proofs.YtkljbfejbakooaaGreatDoor
