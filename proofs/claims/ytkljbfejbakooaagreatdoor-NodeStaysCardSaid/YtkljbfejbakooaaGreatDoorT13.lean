/- Part 13 of a proof. Conditions: those that its theorems state. -/
import Derived.Test.YtkljbfejbakooaaGreatDoorT12
import Derived.Sort.Walk0
set_option linter.unusedSimpArgs false
set_option linter.unusedVariables false
set_option linter.unnecessarySimpa false
set_option maxHeartbeats 40000000
set_option maxRecDepth 4000
namespace Go.Proofs.YtkljbfejbakooaaGreatDoor
open Go.Gar
abbrev D7:Aw:=[0,1,2,3,21,23,24,37]
def vC(id:Int)(AB A8:Ad)(AG:Int)(f:Nat->Int):xD:=[.wo id,.xG AB,.xG A8,.wo AG,.wo (f 0),.wo (f 1),.wo (f 2),.wo (f 3),.wo (f 4),.wo (f 5),.wo (f 6),.wo (f 7),.wo (f 8),.wo (f 9),.wo (f 10),.wo (f 11),.wo (f 12),.wo (f 13),.wo (f 14),.wo (f 15)]
theorem pP(id:Int)(AB A8:Ad)(AG:Int)(f:Nat->Int):xC 162 [.d (AD.d ⟨id,AB,A8,AG,f⟩)] [] (.fn (.func 240) [] [.ptr 0 0 20]) [.c [.wo id,.xG AB,.xG A8,.wo AG,.wo (f 0),.wo (f 1),.wo (f 2),.wo (f 3),.wo (f 4),.wo (f 5),.wo (f 6),.wo (f 7),.wo (f 8),.wo (f 9),.wo (f 10),.wo (f 11),.wo (f 12),.wo (f 13),.wo (f 14),.wo (f 15)]]:=by
 refine zD AF Tryz.func162 ?_;refine wd [0,1,2] [] A4 A4 ?_;exact⟨_,(A6.ck rfl),xQ _,_,_,rfl,rfl,rfl,rfl⟩
theorem Sx(v:AD)(hb:v.AB.length<=9223372036854775807)(hl:v.A8.length<=9223372036854775807):xB 93 [v.d] (.b (Al v)):=by
 obtain⟨id,AB,A8,AG,f⟩:=v;replace hb:AB.length<=9223372036854775807:=hb;replace hl:A8.length<=9223372036854775807:=hl;have c1:=I9 id;have c2:=TC AB hb;have c3:=Rl id A8 hl;have c4:=I9;have hR:Al ⟨id,AB,A8,AG,f⟩=(((BW id&&Cl AB)&&CO id A8)&&(FO id AG&&(E3 f).all (FO id))):=rfl;refine zF AF Tryz.func93 ?_
 cases h1:BW id with
 |false=>
  rw[h1]at c1 hR;refine wd D7 [] A4 (AM @c1) ?_ [] true;exact BL hR
 |true=>
 rw[h1]at c1 hR
 cases h2:Cl AB with
 |false=>
  rw[h2]at c2 hR;refine wd D7 [] A4 (Ax @c1 @c2) ?_ [] true;exact BL hR
 |true=>
 rw[h2]at c2 hR
 cases h3:CO id A8 with
 |false=>
  rw[h3]at c3 hR;refine wd D7 [] A4 (Ci @c1 @c2 @c3) ?_ [] true;exact BL hR
 |true=>
 rw[h3]at c3 hR;simp only[zh,yF]at hR;have d1:=Ds.mk [] (pP id AB A8 AG f);refine wd D7 [] A4 (Ci @c1 @c2 @c3) ?_ [] true;clear d1
 refine zG (K:=fun r _ H'=>((FO id AG&&(E3 f).all (FO id))=true/\H'=[.c (vC id AB A8 AG f),.c (vC id AB A8 AG f),.lp r])\/
  ((FO id AG&&(E3 f).all (FO id))=false/\H'=[.c (vC id AB A8 AG f),.c (vC id AB A8 AG f),.lp (r.left (.goto 0))])) ?_ ?_
 .intro r hr
  have hT:∀n,FO id n=true->YT Tryz.prog 2 [.wo n] [.c (vC id AB A8 AG f),.c (vC id AB A8 AG f),.lp r] fun x K=>x= .wu true/\K=[.c (vC id AB A8 AG f),.c (vC id AB A8 AG f),.lp r]:=by
   intro n hn;have d1:=I9 n;unfold vC;refine BD hr rfl rfl rfl ?_
   by_cases h5:n= -1
   .have f1:=C2 h5;refine wd D7 [] A4 A4 ?_ [] true;refine zR ?_;refine wd D7 [] (AM f1) A4 ?_ [] true;exact⟨_,A6.refl _,xH _,rfl,rfl,rfl⟩
   .have f1:=C4 h5;simp only[FO,h5,q0M,zJ,xI,xK]at hn;rw[hn.1]at d1;have f2:=eq_false' hn.2;refine wd D7 [] A4 A4 ?_ [] true;refine zR ?_;refine wd D7 [] (Ax f1 f2) (AM @d1) ?_ [] true;exact⟨_,A6.refl _,xH _,rfl,rfl,rfl⟩
  have hF:∀n,FO id n=false->YT Tryz.prog 2 [.wo n] [.c (vC id AB A8 AG f),.c (vC id AB A8 AG f),.lp r] fun x K=>x= .wu false/\K=[.c (vC id AB A8 AG f),.c (vC id AB A8 AG f),.lp (r.left (.goto 0))]:=by
   intro n hn;have d1:=I9 n;unfold vC;refine BD hr rfl rfl rfl ?_;have h5:n≠ -1:=fun h=>by subst h;simp[FO]at hn
   have f1:=C4 h5;simp only[FO,h5,q0M,zJ,Bool.and_eq_false_iff,zK,ne_eq,Classical.not_not]at hn
   cases hp:BW n with
   |false=>
    rw[hp]at d1;refine wd D7 [] A4 A4 ?_ [] true;refine zR ?_;refine wd D7 [] (AM f1) (AM @d1) ?_ [] true;exact⟨_,A6.refl _,xH _,rfl,rfl,rfl⟩
   |true=>
    rw[hp]at d1 hn;have f2:=AS (hn.resolve_left (fun h=>by cases h));refine wd D7 [] A4 A4 ?_ [] true;refine zR ?_;refine wd D7 [] (Ax f1 f2) (AM @d1) ?_ [] true;exact⟨_,A6.refl _,xH _,rfl,rfl,rfl⟩
  refine zT AF Tryz.func240 ?_;unfold vC at *;have g1T:=@hT;have g1F:=@hF;have un:No 17:=trivial;refine wd [0,1,4,9,11,12,13,18] [] A4 A4 ?_;clear un g1F g1T;with_reducible repeat' first|constructor|intro hc
  all_goals first
   |exact⟨_,A6.refl _,xH _,_,_,rfl,rfl,.inl ⟨by rw[f_all];simp only[*,zh],rfl⟩⟩
   |exact⟨_,A6.refl _,xH _,_,_,rfl,rfl,.inr ⟨by rw[f_all];simp only[*,zY,zN,zy,yF],rfl⟩⟩
 .rintro r hr y H' (⟨h,rfl⟩|⟨h,rfl⟩)
  .refine .inl ⟨rfl,?_⟩;rw[h]at hR;unfold vC;refine wd D7 [] A4 A4 ?_ [] true;exact BL hR
  .refine .inr ⟨.goto 0,rfl,?_⟩;rw[h]at hR;unfold vC;refine wd D7 [] A4 A4 ?_ [] true;exact BL hR
theorem BV(v:AD)(hb:v.AB.length<=1000)(hl:v.A8.length<=1000):xB 93 [v.d] (.b (Al v)):=Sx v (zB hb (by decide)) (zB hl (by decide))
abbrev Hy:Aw:=[0,1,2,3,5,7,8,9,10,31]
def I2(id best b:Int):Int:=if b≠id/\(best<0\/B1 id b<B1 id best)then b else best
def J8(id:Int)(l:Ad):Int:=l.foldl (I2 id) (-1)
def W8(AH out b:Int):Int:=if B1 AH b<B1 AH out then Cp b else out
def vq(AH:Int):Ad->Int
 |[]=>0
 |a::l=>(a::l).foldl (W8 AH) (Cp a)
variable {l:Ad}{k:Nat}
theorem ZF{α:Type}(g:α->Int->α)(s:α){p:Int}(hp:l[k]? =some p):(l.take (k+1)).foldl g s=g ((l.take k).foldl g s) p:=by
 rw[Au hp,q04];rfl
theorem dc(v:AD)(hb:v.AB.length<=100000):xB 139 [v.d] (.i .i64 (J8 v.id v.AB)):=by
 obtain⟨id,AB,A8,AG,f⟩:=v;replace hb:AB.length<=100000:=hb;show Go.Gar.Fn _ _ _ (.i .i64 (J8 id AB));refine zF AF Tryz.func139 ?_;refine wd Hy [] A4 A4 ?_;refine BS (fun k=>k<=AB.length) (fun k:Nat=>⟨[(1,.ptr 0 0 20),(3,.wo ((AB.take k).foldl (I2 id) (-1))),(7,.xG AB),(8,.wo AB.length),(9,.wo k)],[.c (vC id AB A8 AG f)],35⟩) (fun k=>AB.length-k) 0 (xQ _) ?_ (xH _) ?_
 .exact A6.ck rfl
 intro k hk;unfold vC
 by_cases hkl:k<AB.length
 .obtain⟨p,hp⟩:=BB hkl;have gp:=DX hp;have hs:=ZF (I2 id) (-1) hp;generalize hB:(AB.take k).foldl (I2 id) (-1)=best at *;have c1:=Iu id p;have c2:=Iu id best
  by_cases h1:p=id
  .have f1:=C2 h1;have hs':(AB.take (k+1)).foldl (I2 id) (-1)=best:=by rw[hs];simp[I2,h1]
   refine wd Hy [] (Ax gp f1) (Ax @c1 @c2) ?_;with_reducible repeat' first|constructor|intro hc
   refine⟨k+1,hkl,om,xH _,?_⟩;exact(have nC:=hs';A6.cn rfl)
  have f1:=C4 h1
  by_cases h2:best<0
  .have f2:decide (best<0)=true:=xM h2;have hs':(AB.take (k+1)).foldl (I2 id) (-1)=p:=by rw[hs];simp[I2,h1,h2]
   refine wd Hy [] (Ci gp f1 f2) (Ax @c1 @c2) ?_;with_reducible repeat' first|constructor|intro hc
   refine⟨k+1,hkl,om,xH _,?_⟩;exact(have nC:=hs';A6.cn rfl)
  have f2:decide (best<0)=false:=xO h2
  by_cases h3:B1 id p<B1 id best
  .have f3:decide (B1 id p<B1 id best)=true:=xM h3;have hs':(AB.take (k+1)).foldl (I2 id) (-1)=p:=by rw[hs];simp[I2,h1,h3]
   refine wd Hy [] (KQ gp f1 f2 f3) (Ax @c1 @c2) ?_;with_reducible repeat' first|constructor|intro hc
   refine⟨k+1,hkl,om,xH _,?_⟩;exact(have nC:=hs';A6.cn rfl)
  .have f3:decide (B1 id p<B1 id best)=false:=xO h3;have hs':(AB.take (k+1)).foldl (I2 id) (-1)=best:=by rw[hs];simp[I2,h2,h3]
   refine wd Hy [] (KQ gp f1 f2 f3) (Ax @c1 @c2) ?_;with_reducible repeat' first|constructor|intro hc
   refine⟨k+1,hkl,om,xH _,?_⟩;exact(have nC:=hs';A6.cn rfl)
 .have e:k=AB.length:=om
  subst e;rw[yD];refine wd Hy [] A4 A4 ?_;with_reducible repeat' first|constructor|intro hc
  exact BL @J8.eq_1
variable {id:Int}
theorem Ym{best out b:Int}(hid:BW id=true)(hb:BW b=true)(h:(best= -1/\out=id)\/(best=out/\best≠id/\BW best=true)):
  (I2 id best b= -1/\W8 (id+1) out b=id)\/(I2 id best b=W8 (id+1) out b/\I2 id best b≠id/\BW (I2 id best b)=true):=by
 have h1:=FG hid;have h2:=FG hb;rcases h with⟨rfl,rfl⟩|⟨rfl,h3,h4⟩
 .by_cases e:b=out
  .subst e;left;refine⟨by simp[I2],?_⟩;simp[W8]
  .right;have ea:I2 out (-1) b=b:=by simp[I2,e]
   have eo:W8 (out+1) out b=b:=by
    unfold W8;rw[if_pos (show B1 (out+1) b<B1 (out+1) out by unfold B1;omega)];unfold Cp;omega
   rw[ea,eo];exact⟨rfl,e,hb⟩
 .have h5:=FG h4;right
  by_cases e:b=id
  .subst e;have ea:I2 b best b=best:=by simp[I2]
   have eo:W8 (b+1) best b=best:=by
    unfold W8;rw[if_neg (show ¬B1 (b+1) b<B1 (b+1) best by unfold B1;omega)]
   rw[ea,eo];exact⟨rfl,h3,h4⟩
  .by_cases e2:B1 id b<B1 id best
   .have ea:I2 id best b=b:=by simp[I2,e,e2]
    have eo:W8 (id+1) best b=b:=by
     unfold W8;rw[if_pos (show B1 (id+1) b<B1 (id+1) best by unfold B1 at *;omega)];unfold Cp;omega
    rw[ea,eo];exact⟨rfl,e,hb⟩
   .have hn:¬best<0:=om
    have ea:I2 id best b=best:=by simp[I2,e2,hn]
    have eo:W8 (id+1) best b=best:=by
     unfold W8;rw[if_neg (show ¬B1 (id+1) b<B1 (id+1) best by unfold B1 at *;omega)]
    rw[ea,eo];exact⟨rfl,h3,h4⟩
theorem qY{id:Int}(hid:BW id=true):∀(l:Ad)(best out:Int),(∀y∈l,BW y=true)->((best= -1/\out=id)\/(best=out/\best≠id/\BW best=true))->
  ((l.foldl (I2 id) best= -1/\l.foldl (W8 (id+1)) out=id)\/(l.foldl (I2 id) best=l.foldl (W8 (id+1)) out/\l.foldl (I2 id) best≠id/\BW (l.foldl (I2 id) best)=true))
 |[],best,out,_,h=>h
 |b::l,best,out,hl,h=>by
  simp only[zH];exact qY hid l _ _ (fun y hy=>hl y (yQ _ hy)) (Ym hid (hl b (yT ..)) h)
theorem qX{id:Int}(hid:BW id=true):∀(l:Ad)(best:Int),(∀y∈l,BW y=true)->best≠ -1->l.foldl (I2 id) best≠ -1
 |[],best,_,h=>h
 |b::l,best,hl,h=>by
  simp only[zH];refine qX hid l _ (fun y hy=>hl y (yQ _ hy)) ?_;have:=FG (hl b (yT ..));unfold I2;split<;>omega
theorem US{id:Int}(hid:BW id=true):∀(l:Ad)(best:Int),(∀y∈l,BW y=true)->(∃y∈l,y≠id)->l.foldl (I2 id) best≠ -1
 |[],best,_,⟨y,hy,_⟩=>by cases hy
 |b::l,best,hl,⟨y,hy,hne⟩=>by
  simp only[zH];have hb:=FG (hl b (yT ..))
  by_cases e:b=id
  .rcases yP.mp hy with rfl|hy
   .exact absurd e hne
   .exact US hid l _ (fun y hy=>hl y (yQ _ hy)) ⟨y,hy,hne⟩
  .refine qX hid l _ (fun y hy=>hl y (yQ _ hy)) ?_;unfold I2;split
   .omega
   .intro h;rename_i h1;exact h1 ⟨e,.inl om⟩
theorem Md:∀(l:Ad)(f:Int),bT f l=true->∀y∈l,BW y=true/\y>f
 |[],f,_,y,hy=>by cases hy
 |a::r,f,h,y,hy=>by
  simp only[bT,xI,xK]at h;rcases yP.mp hy with rfl|hy
  .exact h.1
  .have:=Md r a h.2 y hy;exact⟨this.1,om⟩
theorem PI(h:Cl l=true):∀y∈l,BW y=true:=by
 simp only[Cl,xI]at h;exact fun y hy=>(Md l _ h.2 y hy).1
theorem SZ(h:Cl l=true)(id:Int):∃y∈l,y≠id:=by
 simp only[Cl,xI,xK]at h
 match l,h with
 |a::b::r,h=>
  have h1:=Md _ _ h.2
  have h2:bT a (b::r)=true:=by
   have:=h.2;simp only[bT,xI]at this|-;exact this.2
  have h3:=(Md _ _ h2 b (yT ..)).2
  by_cases e:a=id
  .exact⟨b,sm,om⟩
  .exact⟨a,sm,e⟩
 |[a],h=>exact absurd h.1.1 (show ¬2<=1 by decide)
 |[],h=>exact absurd h.1.1 (by decide)
theorem R0(hid:BW id=true)(h:Cl l=true):J8 id l=vq (id+1) l/\BW (J8 id l)=true/\J8 id l≠id:=by
 have hp:=PI h;have hs:=US hid l (-1) hp (SZ h id)
 match l with
 |[]=>exact absurd rfl hs
 |a::r=>
  have ha:=FG (hp a (yT ..));have e:Cp a=a:=by unfold Cp;omega
  have h0:W8 (id+1) a a=a:=by simp[W8,e]
  have hS:vq (id+1) (a::r)=r.foldl (W8 (id+1)) a:=by
   show(a::r).foldl (W8 (id+1)) (Cp a)=_;rw[e,zH,h0]
  have hA:J8 id (a::r)=r.foldl (I2 id) (I2 id (-1) a):=rfl;rw[hS,hA]
  have hR:(I2 id (-1) a= -1/\a=id)\/(I2 id (-1) a=a/\I2 id (-1) a≠id/\BW (I2 id (-1) a)=true):=by
   by_cases e2:a=id
   .left;exact⟨by simp[I2,e2],e2⟩
   .right;have e3:I2 id (-1) a=a:=by simp[I2,e2]
    rw[e3];exact⟨rfl,e2,hp a (yT ..)⟩
  rcases qY hid r _ _ (fun y hy=>hp y (yQ _ hy)) hR with h1|h1
  .exact absurd h1.1 hs
  .exact⟨h1.1,h1.2.2,h1.2.1⟩
def vp(a:Int):Ad->Int
 |[]=>a
 |b::_=>b
def FK(v:AD):Int:=if Al v then vp (J8 v.id v.AB) v.A8 else -1
theorem Cw{v:AD}(h:Al v=true):BW v.id=true/\Cl v.AB=true/\CO v.id v.A8=true/\FO v.id v.AG=true/\(E3 v.f).all (FO v.id)=true:=by
 simp only[Al,xI]at h;exact⟨h.1.1.1,h.1.1.2,h.1.2,h.2.1,h.2.2⟩
theorem JZ(v:AD)(hb:v.AB.length<=1000)(hl:v.A8.length<=1000):xB 53 [v.d] (.i .i64 (FK v)):=by
 obtain⟨id,AB,A8,AG,f⟩:=v;have c1:=BV ⟨id,AB,A8,AG,f⟩ hb hl;have c2:=dc ⟨id,AB,A8,AG,f⟩ om;have c3:=i9 A8 (by have:A8.length<=1000:=hl;omega);refine zF AF Tryz.func53 ?_
 cases h:Al ⟨id,AB,A8,AG,f⟩with
 |false=>
  have hT:FK ⟨id,AB,A8,AG,f⟩= -1:=by unfold FK;rw[h];rfl
  rw[h]at c1;refine wd [0,1,2,3,4,7,14] [] A4 (AM @c1) ?_;exact BL hT
 |true=>
  have hT:FK ⟨id,AB,A8,AG,f⟩=vp (J8 id AB) A8:=by unfold FK;rw[h];rfl
  rw[h]at c1;rw[hT]
  cases A8 with
  |nil=>
   refine wd [0,1,2,3,4,7,14] [] A4 (Ci @c1 @c2 @c3) ?_;exact BL @vp.eq_1
  |cons a t=>
   refine wd [0,1,2,3,4,7,14] [] A4 (Ci @c1 @c2 @c3) ?_;refine⟨_,_,rfl,rfl,?_⟩;simp[IT,BK,Bd,B0,vp,firstT]
theorem im{id:Int}(hid:BW id=true):∀(l:Ad)(best:Int),(∀y∈l,BW y=true)->(best= -1\/(BW best=true/\best≠id))->
  (∀b,(b∈l\/(b=best/\best≠ -1))->b≠id->B1 id (l.foldl (I2 id) best)<=B1 id b)/\(l.foldl (I2 id) best=best\/l.foldl (I2 id) best∈l)
 |[],best,_,h=>by
  refine⟨fun b hb _=> ?_,.inl rfl⟩;rcases hb with hb|hb
  .cases hb
  .rw[hb.1];exact q0C _
 |a::l,best,hl,h=>by
  simp only[zH];have ha:=hl a (yT ..);have ha':=FG ha
  by_cases hc:a≠id/\(best<0\/B1 id a<B1 id best)
  .have e:I2 id best a=a:=if_pos hc;rw[e];obtain⟨g1,g2⟩:=im hid l a (fun y hy=>hl y (yQ _ hy)) (.inr ⟨ha,hc.1⟩);have g3:=g1 a (.inr ⟨rfl,om⟩) hc.1;refine⟨fun b hb hne=> ?_,.inr (g2.elim (fun h=>by rw[h];exact yT ..) (yQ _))⟩;rcases hb with hb|⟨rfl,hb⟩
   .rcases yP.1 hb with rfl|hb
    .exact g3
    .exact g1 b (.inl hb) hne
   .rcases hc.2 with h3|h3
    .rcases h with h|h
     .exact absurd h hb
     .have:=FG h.1;omega
    .omega
  .have e:I2 id best a=best:=if_neg hc;rw[e];obtain⟨g1,g2⟩:=im hid l best (fun y hy=>hl y (yQ _ hy)) h;refine⟨fun b hb hne=> ?_,g2.elim .inl fun h=> .inr (yQ _ h)⟩;rcases hb with hb|hb
   .rcases yP.1 hb with rfl|hb
    .have h3:¬(best<0):=fun h4=>hc ⟨hne,.inl h4⟩;have h5:¬(B1 id b<B1 id best):=fun h4=>hc ⟨hne,.inr h4⟩
     have hbest:best≠ -1:=om
     have h6:=h.resolve_left hbest;have:=g1 best (.inr ⟨rfl,hbest⟩) h6.2;omega
    .exact g1 b (.inl hb) hne
   .exact g1 b (.inr hb) hne
theorem db(hid:BW id=true)(h:Cl l=true):(∀b∈l,b≠id->B1 id (J8 id l)<=B1 id b)/\J8 id l∈l:=by
 have hp:=PI h;have hs:=US hid l (-1) hp (SZ h id);obtain⟨h1,h2⟩:=im hid l (-1) hp (.inl rfl);exact⟨fun b hb hne=>h1 b (.inl hb) hne,h2.resolve_left hs⟩
theorem fE(f g:Nat->Int):Ix [.i .i64 (f 0),.i .i64 (f 1),.i .i64 (f 2),.i .i64 (f 3),.i .i64 (f 4),.i .i64 (f 5),.i .i64 (f 6),.i .i64 (f 7),.i .i64 (f 8),.i .i64 (f 9),.i .i64 (f 10),.i .i64 (f 11),.i .i64 (f 12),.i .i64 (f 13),.i .i64 (f 14),.i .i64 (f 15)] [.i .i64 (g 0),.i .i64 (g 1),.i .i64 (g 2),.i .i64 (g 3),.i .i64 (g 4),.i .i64 (g 5),.i .i64 (g 6),.i .i64 (g 7),.i .i64 (g 8),.i .i64 (g 9),.i .i64 (g 10),.i .i64 (g 11),.i .i64 (g 12),.i .i64 (g 13),.i .i64 (g 14),.i .i64 (g 15)]=decide (E3 f=E3 g):=by
 simp[Ix,eq1,E3,F2]
def dC(v w:AD):Bool:=decide (v.id=w.id)&&(decide (v.AB=w.AB)&&(decide (v.A8=w.A8)&&(decide (v.AG=w.AG)&&decide (E3 v.f=E3 w.f))))
theorem fy(v w:AD)(h1:v.AB.length<=100000)(h2:v.A8.length<=100000):xB 55 [v.d,w.d] (.b (dC v w)):=by
 obtain⟨i1,b1,l1,p1,f1⟩:=v;obtain⟨i2,b2,l2,p2,f2⟩:=w;have cB:=bw b1 b2 h1;have cL:=bw l1 l2 h2;have hF:=fE f1 f2;have hS:dC ⟨i1,b1,l1,p1,f1⟩ ⟨i2,b2,l2,p2,f2⟩=(decide (i1=i2)&&(decide (b1=b2)&&(decide (l1=l2)&&(decide (p1=p2)&&decide (E3 f1=E3 f2))))):=rfl;rw[hS];generalize decide (b1=b2)=bb at *;generalize decide (l1=l2)=bl at *;generalize decide (E3 f1=E3 f2)=bf at *;refine zF AF Tryz.func55 ?_
 by_cases e1:i1=i2
 .have g1:=AS e1;rw[xM e1]
  cases bb with
  |false=>
   refine wd [0,1,2,3,4] [] (AM g1) (AM @cB) ?_;exact zE
  |true=>
   cases bl with
   |false=>
    refine wd [0,1,2,3,4] [] (AM g1) (Ax @cB @cL) ?_;exact zE
   |true=>
    by_cases e2:p1=p2
    .have g2:=AS e2;rw[xM e2];refine wd [0,1,2,3,4] [] (Ci g1 g2 hF) (Ax @cB @cL) ?_;exact zE
    .have g2:=eq_false' e2;rw[xO e2];refine wd [0,1,2,3,4] [] (Ax g1 g2) (Ax @cB @cL) ?_;exact zE
 .have g1:=eq_false' e1;rw[xO e1];refine wd [0,1,2,3,4] [] (AM g1) A4 ?_;exact zE
def DY(v:AD)(l:Ad):AD:=if Al v&&CO v.id l then⟨v.id,v.AB,l,v.AG,v.f⟩else v
theorem dT(v:AD)(l:Ad)(hb:v.AB.length<=1000)(hv:v.A8.length<=1000)(hl:l.length<=1000):xB 204 [v.d,.is l] (DY v l).d:=by
 obtain⟨id,AB,A8,AG,f⟩:=v;replace hb:AB.length<=1000:=hb;replace hv:A8.length<=1000:=hv;have c1:=Hk ⟨id,AB,A8,AG,f⟩ (by show AB.length<=100000;omega) (by show A8.length<=100000;omega);have c2:=BV ⟨id,AB,A8,AG,f⟩ hb hv;have c3:=er id l hl;have c4:=Qo l om;have hL:DY ⟨id,AB,A8,AG,f⟩ l=if Al ⟨id,AB,A8,AG,f⟩&&CO id l then⟨id,AB,l,AG,f⟩else⟨id,AB,A8,AG,f⟩:=rfl;refine zF AF Tryz.func204 ?_
 cases h:Al ⟨id,AB,A8,AG,f⟩with
 |false=>
  rw[h]at c2 hL;rw[hL];refine wd [0,1,2,4,5,17] [] A4 (Ax @c1 @c2) ?_ [] true;exact BL (xU @AD.d.eq_1 @AD.A0.eq_1)
 |true=>
  rw[h]at c2 hL
  cases h2:CO id l with
  |false=>
   rw[h2]at c3 hL;rw[hL];refine wd [0,1,2,4,5,17] [] A4 (Ci @c1 @c2 @c3) ?_ [] true;exact BL (xU @AD.d.eq_1 @AD.A0.eq_1)
  |true=>
   rw[h2]at c3 hL;rw[hL];refine wd [0,1,2,4,5,17] [] A4 (KQ @c1 @c2 @c3 @c4) ?_ [] true;exact BL (xU @AD.d.eq_1 @AD.A0.eq_1)
abbrev Ec:Aw:=[0,1,2,4,5,6,7,18,27,30,31,32,37]
def BU(v:AD)(d:Int):AD:=if Al v&& !(decide (d∈v.AB))then⟨v.id,v.AB,C1 v.A8 d,if v.AG=d then -1 else v.AG,fun i=>if v.f i=d then -1 else v.f i⟩else v
def OR(f:Nat->Int)(d:Int)(x:Nat×(Nat->Int)):Prop:=x.1<=16/\∀i,x.2 i=if i<x.1 then(if f i=d then -1 else f i)else f i
variable {f:Nat->Int}{d:Int}
theorem qQ:OR f d (0,f):=⟨xQ _,fun i=>rfl⟩
variable {h:Nat->Int}
theorem OR.at(hi:OR f d (k,h)):h k=f k:=by
 have:=hi.2 k;simpa using this
theorem OR.yes(hi:OR f d (k,h))(hk:k<16)(e:f k=d):OR f d (k+1,fun i=>if i=k then -1 else h i):=by
 refine⟨hk,fun i=> ?_⟩;have:=hi.2 i;dsimp only at this|-
 by_cases e1:i=k
 .subst e1;simp[e]
 .rw[if_neg e1,this]
  by_cases e2:i<k
  .rw[if_pos e2,if_pos (show i<k+1 by omega)]
  .rw[if_neg e2,if_neg (show ¬i<k+1 by omega)]
theorem OR.no(hi:OR f d (k,h))(hk:k<16)(e:f k≠d):OR f d (k+1,h):=by
 refine⟨hk,fun i=> ?_⟩;have:=hi.2 i;dsimp only at this|-;rw[this]
 by_cases e1:i=k
 .subst e1;simp[e]
 .by_cases e2:i<k
  .rw[if_pos e2,if_pos (show i<k+1 by omega)]
  .rw[if_neg e2,if_neg (show ¬i<k+1 by omega)]
theorem OR.end(hi:OR f d (16,h))(i:Nat)(hk:i<16):h i=if f i=d then -1 else f i:=by
 have:=hi.2 i;rwa [if_pos (show i<16 from hk)]at this
theorem Q1(h:k<16):k=0\/k=1\/k=2\/k=3\/k=4\/k=5\/k=6\/k=7\/k=8\/k=9\/k=10\/k=11\/k=12\/k=13\/k=14\/k=15:=om
theorem IX(v:AD)(d:Int)(hb:v.AB.length<=1000)(hl:v.A8.length<=1000):xB 249 [v.d,.i .i64 d] (BU v d).d:=by
 obtain⟨id,AB,A8,AG,f⟩:=v;replace hb:AB.length<=1000:=hb;replace hl:A8.length<=1000:=hl;have c1:=Hk ⟨id,AB,A8,AG,f⟩ (by show AB.length<=100000;omega) (by show A8.length<=100000;omega);have c2:=BV ⟨id,AB,A8,AG,f⟩ hb hl;have c3:=IW AB d om;have c4:=nr A8 d hl;have hR:BU ⟨id,AB,A8,AG,f⟩ d=if Al ⟨id,AB,A8,AG,f⟩&& !(decide (d∈AB))then⟨id,AB,C1 A8 d,if AG=d then -1 else AG,fun i=>if f i=d then -1 else f i⟩else⟨id,AB,A8,AG,f⟩:=rfl;refine zF AF Tryz.func249 ?_
 cases h:Al ⟨id,AB,A8,AG,f⟩with
 |false=>
  rw[h]at c2 hR;rw[hR];refine wd Ec [] A4 (Ax @c1 @c2) ?_ [] true;exact BL (xU @AD.d.eq_1 @AD.A0.eq_1)
 |true=>
 rw[h]at c2 hR
 cases h2:decide (d∈AB)with
 |true=>
  rw[h2]at c3 hR;rw[hR];refine wd Ec [] A4 (Ci @c1 @c2 @c3) ?_ [] true;exact BL (xU @AD.d.eq_1 @AD.A0.eq_1)
 |false=>
 rw[h2]at c3 hR
 by_cases h3:AG=d
 .have f3:=AS h3;rw[if_pos h3]at hR;refine wd Ec [] (AM f3) (KQ @c1 @c2 @c3 @c4) ?_ [] true;refine BS (OR f d) (fun x=>⟨[(1,.wo d),(4,.ptr 1 0 20),(5,.ptr 2 0 20),(30,.d (.agg [.i .i64 (f 0),.i .i64 (f 1),.i .i64 (f 2),.i .i64 (f 3),.i .i64 (f 4),.i .i64 (f 5),.i .i64 (f 6),.i .i64 (f 7),.i .i64 (f 8),.i .i64 (f 9),.i .i64 (f 10),.i .i64 (f 11),.i .i64 (f 12),.i .i64 (f 13),.i .i64 (f 14),.i .i64 (f 15)])),(31,.wo x.1)],[.c [.wo id,.xG AB,.xG A8,.wo AG,.wo (f 0),.wo (f 1),.wo (f 2),.wo (f 3),.wo (f 4),.wo (f 5),.wo (f 6),.wo (f 7),.wo (f 8),.wo (f 9),.wo (f 10),.wo (f 11),.wo (f 12),.wo (f 13),.wo (f 14),.wo (f 15)],.c [.wo 0,.e0,.e0,.wo 0,.wo 0,.wo 0,.wo 0,.wo 0,.wo 0,.wo 0,.wo 0,.wo 0,.wo 0,.wo 0,.wo 0,.wo 0,.wo 0,.wo 0,.wo 0,.wo 0],.c [.wo id,.xG AB,.xG (C1 A8 d),.wo (-1),.wo (x.2 0),.wo (x.2 1),.wo (x.2 2),.wo (x.2 3),.wo (x.2 4),.wo (x.2 5),.wo (x.2 6),.wo (x.2 7),.wo (x.2 8),.wo (x.2 9),.wo (x.2 10),.wo (x.2 11),.wo (x.2 12),.wo (x.2 13),.wo (x.2 14),.wo (x.2 15)]],43⟩) (fun x=>16-x.1) (0,f) qQ ?_ (xH _) ?_
  .exact A6.ck rfl
  rintro⟨k,h⟩ hi;have hk:k<=16:=hi.1
  by_cases hk2:k<16
  .have e3:=hi.at
   by_cases e:f k=d
   .have g:=AS e;have hn:=hi.yes hk2 e;rcases Q1 hk2 with rfl|rfl|rfl|rfl|rfl|rfl|rfl|rfl|rfl|rfl|rfl|rfl|rfl|rfl|rfl|rfl
    all_goals
     refine wd Ec [] (Ax g e3) A4 ?_ [] true;refine⟨_,hn,(by dsimp only;omega),xH _,?_⟩;exact A6.ck rfl
   .have g:=eq_false' e;have hn:=hi.no hk2 e;rcases Q1 hk2 with rfl|rfl|rfl|rfl|rfl|rfl|rfl|rfl|rfl|rfl|rfl|rfl|rfl|rfl|rfl|rfl
    all_goals
     refine wd Ec [] (Ax g e3) A4 ?_ [] true;refine⟨_,hn,(by dsimp only;omega),xH _,?_⟩;exact A6.ck rfl
  .have e16:k=16:=om
   subst e16;refine wd Ec [] A4 A4 ?_ [] true;refine⟨_,_,rfl,rfl,?_⟩;simp[IT,BK,Bd,B0,hR,AD.d,AD.A0,hi.end 0 (by decide),hi.end 1 (by decide),hi.end 2 (by decide),hi.end 3 (by decide),hi.end 4 (by decide),hi.end 5 (by decide),hi.end 6 (by decide),hi.end 7 (by decide),hi.end 8 (by decide),hi.end 9 (by decide),hi.end 10 (by decide),hi.end 11 (by decide),hi.end 12 (by decide),hi.end 13 (by decide),hi.end 14 (by decide),hi.end 15 (by decide)]
 .have f3:=eq_false' h3;rw[if_neg h3]at hR;refine wd Ec [] (AM f3) (KQ @c1 @c2 @c3 @c4) ?_ [] true;refine BS (OR f d) (fun x=>⟨[(1,.wo d),(4,.ptr 1 0 20),(5,.ptr 2 0 20),(30,.d (.agg [.i .i64 (f 0),.i .i64 (f 1),.i .i64 (f 2),.i .i64 (f 3),.i .i64 (f 4),.i .i64 (f 5),.i .i64 (f 6),.i .i64 (f 7),.i .i64 (f 8),.i .i64 (f 9),.i .i64 (f 10),.i .i64 (f 11),.i .i64 (f 12),.i .i64 (f 13),.i .i64 (f 14),.i .i64 (f 15)])),(31,.wo x.1)],[.c [.wo id,.xG AB,.xG A8,.wo AG,.wo (f 0),.wo (f 1),.wo (f 2),.wo (f 3),.wo (f 4),.wo (f 5),.wo (f 6),.wo (f 7),.wo (f 8),.wo (f 9),.wo (f 10),.wo (f 11),.wo (f 12),.wo (f 13),.wo (f 14),.wo (f 15)],.c [.wo 0,.e0,.e0,.wo 0,.wo 0,.wo 0,.wo 0,.wo 0,.wo 0,.wo 0,.wo 0,.wo 0,.wo 0,.wo 0,.wo 0,.wo 0,.wo 0,.wo 0,.wo 0,.wo 0],.c [.wo id,.xG AB,.xG (C1 A8 d),.wo AG,.wo (x.2 0),.wo (x.2 1),.wo (x.2 2),.wo (x.2 3),.wo (x.2 4),.wo (x.2 5),.wo (x.2 6),.wo (x.2 7),.wo (x.2 8),.wo (x.2 9),.wo (x.2 10),.wo (x.2 11),.wo (x.2 12),.wo (x.2 13),.wo (x.2 14),.wo (x.2 15)]],43⟩) (fun x=>16-x.1) (0,f) qQ ?_ (xH _) ?_
  .exact A6.ck rfl
  rintro⟨k,h⟩ hi;have hk:k<=16:=hi.1
  by_cases hk2:k<16
  .have e3:=hi.at
   by_cases e:f k=d
   .have g:=AS e;have hn:=hi.yes hk2 e;rcases Q1 hk2 with rfl|rfl|rfl|rfl|rfl|rfl|rfl|rfl|rfl|rfl|rfl|rfl|rfl|rfl|rfl|rfl
    all_goals
     refine wd Ec [] (Ax g e3) A4 ?_ [] true;refine⟨_,hn,(by dsimp only;omega),xH _,?_⟩;exact A6.ck rfl
   .have g:=eq_false' e;have hn:=hi.no hk2 e;rcases Q1 hk2 with rfl|rfl|rfl|rfl|rfl|rfl|rfl|rfl|rfl|rfl|rfl|rfl|rfl|rfl|rfl|rfl
    all_goals
     refine wd Ec [] (Ax g e3) A4 ?_ [] true;refine⟨_,hn,(by dsimp only;omega),xH _,?_⟩;exact A6.ck rfl
  .have e16:k=16:=om
   subst e16;refine wd Ec [] A4 A4 ?_ [] true;refine⟨_,_,rfl,rfl,?_⟩;simp[IT,BK,Bd,B0,hR,AD.d,AD.A0,hi.end 0 (by decide),hi.end 1 (by decide),hi.end 2 (by decide),hi.end 3 (by decide),hi.end 4 (by decide),hi.end 5 (by decide),hi.end 6 (by decide),hi.end 7 (by decide),hi.end 8 (by decide),hi.end 9 (by decide),hi.end 10 (by decide),hi.end 11 (by decide),hi.end 12 (by decide),hi.end 13 (by decide),hi.end 14 (by decide),hi.end 15 (by decide)]
end Go.Proofs.YtkljbfejbakooaaGreatDoor
namespace Go.Proofs.YtkljbfejbakooaaGreatDoor
namespace Wi
open Go.Gar
abbrev FA:Aw:=[0,1,2,3,16,18,19,22,35]
abbrev MI:Aw:=[0,1,4,16,18,19,25,31,42,44,45,46,47,53]
def mG(m:AC)(r:Lp):xS:=[.c (mC m),.c (mC m),.lp r]
variable {l:Ad}
theorem il{k:Nat}(hk:k<l.length)(h:(l.take k).all Bp=true)(h2:Bp (l.getD k 0)=true):(l.take (k+1)).all Bp=true:=by
 rw[yV hk,List.all_append,h];rw[xu,xP hk]at h2;simpa using h2
theorem rk{k:Nat}(hk:k<l.length)(h2:Bp (l.getD k 0)=false):l.all Bp=false:=by
 rw[xu,xP hk]at h2;rw[List.all_eq_false];exact⟨_,q00 hk,by simpa using h2⟩
theorem dW(m:AC)(hl:m.A8.length<9223372036854775807):xB 124 [m.d] (.b (decide (1<=m.AR)&&decide (m.AR<13)&&m.holds&&m.GE&&(decide (m.As≠m.dst)&&(decide (m.Aa>m.asker*1048576)&&decide (m.Aa<=(m.asker+1)*1048576))&&decide (m.beside=AN)))):=by
 have hh:=kT m hl;have hb:=dq m;have hA:=fK m
 have hS:=o4 m.beside AN (by unfold AC.beside;repeat' split
                             all_goals first|exact hl|(show([]:Ad).length<9223372036854775807;decide))
 have hpl:=fj m;have hok:m.GE=(Bp m.As&&Bp m.dst&&(if m.AR=4 then Bp m.AH else if m.AR=10 then Bp m.AT else if m.AR=7 then(decide (m.AG= -1)||Bp m.AG)&&m.A8.all Bp else true)):=rfl
 have hAb:m.GE=true->0<=m.asker/\m.asker<65536:=by
  intro h;unfold AC.GE at h;simp only[xI]at h;unfold AC.asker;split
  .exact FD h.1.1
  .exact FD h.1.2
 unfold AC.d AC.A0 at hh hA hS hb hpl|-;simp only[AN,AY]at hS|-;generalize m.beside=B at *;generalize m.holds=hs at *;generalize m.asker=A at *;generalize m.GE=O at *;obtain⟨k,c,s,d,ky,sl,dn,pl,pr,l,⟨ik,iv,ir,ig⟩,co⟩:=m;simp only[mC]at *;refine zF AF Tryz.func124 ?_
 by_cases h1:decide (1<=k)&&decide (k<13)&&hs
 .simp only[xI,xK]at h1;obtain⟨⟨h11,h12⟩,h13⟩:=h1;rw[h13]at hh;have d1:=Ds.mk [] (hpl);refine wd FA [] A4 (AM @hh) ?_ [] true;clear d1;with_reducible repeat' first|constructor|intro hc
  refine zG (K:=fun r _ H'=>(O=true/\H'=mG (AC.mk k c s d ky sl dn pl pr l ⟨ik,iv,ir,ig⟩ co) r)\/
   (O=false/\H'=mG (AC.mk k c s d ky sl dn pl pr l ⟨ik,iv,ir,ig⟩ co) (r.left (.goto 0)))) ?_ ?_
  .intro r hr
   have hT:∀n,Bp n=true->YT Tryz.prog 2 [.wo n] (mG (AC.mk k c s d ky sl dn pl pr l ⟨ik,iv,ir,ig⟩ co) r) fun x K=>x= .wu true/\K=mG (AC.mk k c s d ky sl dn pl pr l ⟨ik,iv,ir,ig⟩ co) r:=by
    intro n hn;have d1:=Oy n;rw[hn]at d1;unfold mG mC;refine BD hr rfl rfl rfl ?_;refine wd FA [] A4 A4 ?_ [] true;refine zR ?_;refine wd FA [] A4 (AM @d1) ?_ [] true;exact⟨_,A6.refl _,xH _,rfl,rfl,rfl⟩
   have hF:∀n,Bp n=false->YT Tryz.prog 2 [.wo n] (mG (AC.mk k c s d ky sl dn pl pr l ⟨ik,iv,ir,ig⟩ co) r) fun x K=>x= .wu false/\K=mG (AC.mk k c s d ky sl dn pl pr l ⟨ik,iv,ir,ig⟩ co) (r.left (.goto 0)):=by
    intro n hn;have d1:=Oy n;rw[hn]at d1;unfold mG mC;refine BD hr rfl rfl rfl ?_;refine wd FA [] A4 A4 ?_ [] true;refine zR ?_;refine wd FA [] A4 (AM @d1) ?_ [] true;exact⟨_,A6.refl _,xH _,rfl,rfl,rfl⟩
   refine zT AF Tryz.func280 ?_;have hk:=hr.ok (k:=2) rfl;unfold mG mC at *;simp only at *;have g1T:=@hT;have g1F:=@hF;refine wd MI [] A4 A4 ?_;clear g1F g1T;with_reducible repeat' first|constructor|intro hc
   all_goals clear hh hA hS hb hpl
   all_goals try exact⟨_,A6.refl _,xH _,_,_,rfl,rfl,.inl ⟨by rw[hok];simp[*],rfl⟩⟩
   all_goals try exact⟨_,A6.refl _,xH _,_,_,rfl,rfl,.inr ⟨by rw[hok];simp[*],rfl⟩⟩
   all_goals(
    have hO:O=l.all Bp:=by rw[hok];simp[*]
    clear hok;refine BS (fun j=>j<=l.length/\(l.take j).all Bp=true) (fun j:Nat=>⟨[(0,.yl 2),(44,.xG l),(45,.wo l.length),(46,.wo j)],[.c [.wz k,.wo c,.wo s,.wo d,.wo ky,.wu sl,.wu dn,.wo pl,.wo pr,.xG l,.xE ik,.wo iv,.wo ir,.wu ig,.wo co],.c [.wz k,.wo c,.wo s,.wo d,.wo ky,.wu sl,.wu dn,.wo pl,.wo pr,.xG l,.xE ik,.wo iv,.wo ir,.wu ig,.wo co],.lp r],55⟩) (fun j=>l.length-j) 0 ⟨xQ _,sm⟩ ?_ (xH _) ?_
    .exact A6.ck rfl
    rintro j ⟨hj,hall⟩
    by_cases hjl:j<l.length
    .cases hp:Bp (l.getD j 0)with
     |true=>
      have h3:=il hjl hall hp;have h4:=hT _ hp;have q1:=@h4;refine wd MI [] A4 A4 ?_;clear q1;with_reducible repeat' first|constructor|intro hc
      refine⟨j+1,⟨hjl,h3⟩,om,xH _,?_⟩;exact A6.ck rfl
     |false=>
      have h4:=hF _ hp;have q1:=@h4;refine wd MI [] A4 A4 ?_;clear q1;with_reducible repeat' first|constructor|intro hc
      exact⟨_,A6.refl _,xH _,_,_,rfl,rfl,.inr ⟨by rw[hO];exact rk hjl hp,rfl⟩⟩
    .have e:j=l.length:=om
     subst e;rw[yD]at hall;refine wd MI [] A4 A4 ?_;with_reducible repeat' first|constructor|intro hc
     exact⟨_,A6.refl _,xH _,_,_,rfl,rfl,.inl ⟨by rw[hO];exact hall,rfl⟩⟩)
  .rintro r hr y H' (⟨h,rfl⟩|⟨h,rfl⟩)
   .refine .inl ⟨rfl,?_⟩;have hC:=Ol A c (hAb h);unfold mG mC;have z1:=@hS;refine wd FA [] A4 (Ci @hA @hC @hb) ?_ [] true;clear z1;with_reducible repeat' first|constructor|intro hc
    all_goals clear hh hA hS hb hpl hC
    all_goals(refine⟨_,_,rfl,rfl,?_⟩;simp_all[Cq]<;>omega)
   .refine .inr ⟨.goto 0,rfl,?_⟩;unfold mG mC;refine wd FA [] A4 A4 ?_ [] true;exact BL h
 .cases hs with
  |false=>
   refine wd FA [] A4 (AM @hh) ?_ [] true;with_reducible repeat' first|constructor|intro hc
   all_goals clear hh hA hS hb hpl
   all_goals(refine⟨_,_,rfl,rfl,?_⟩;simp_all[Cq])
  |true=>
   have h2:¬(1<=k/\k<13):=fun h=>h1 (by simp[h]);refine wd FA [] A4 (AM @hh) ?_ [] true;with_reducible repeat' first|constructor|intro hc
   all_goals clear hh hA hS hb hpl
   all_goals(refine⟨_,_,rfl,rfl,?_⟩;simp_all[Cq]<;>omega)
theorem fU(s:Int)(l:Ad):Et l s=((decide ((l.length:Int)<=3)&&apartB s l)&&l.all Bp):=by
 have h1:GF s l=(l.all Bp&&l.all (fun p=>decide (p≠s))):=by
  unfold GF
  induction l with
  |nil=>rfl
  |cons x r ih=>simp only[yj,ih];cases Bp x<;>cases decide (x≠s)<;>simp
 have h2:decide ((l.length:Int)<=3)=decide (l.length<=3):=by congr 1;simp;omega
 unfold Et apartB;rw[h1,h2];cases l.all Bp<;>cases l.all (fun p=>decide (p≠s))<;>cases decide l.Nodup<;>cases decide (l.length<=3)<;>rfl
theorem tO(m:AC):(decide (1<=m.AR)&&decide (m.AR<13)&&m.holds&&m.GE&&(decide (m.As≠m.dst)&&(decide (m.Aa>m.asker*1048576)&&decide (m.Aa<=(m.asker+1)*1048576))&&decide (m.beside=AN)))=m.right:=by
 have hc:(decide (m.Aa>m.asker*1048576)&&decide (m.Aa<=(m.asker+1)*1048576))=(decide (m.asker*1048576+1<=m.Aa)&&decide (m.Aa<m.asker*1048576+1+1048576)):=by
  have e1:(m.Aa>m.asker*1048576)=(m.asker*1048576+1<=m.Aa):=propext om;have e2:(m.Aa<=(m.asker+1)*1048576)=(m.Aa<m.asker*1048576+1+1048576):=propext om;simp only[e1,e2]
 have AH:(m.holds&&m.GE&&decide (m.beside=AN))=(Bp m.As&&Bp m.dst&&(decide (m.bare=m.empty)&&m.has)):=by
  obtain⟨k,c,s,d,ky,sl,dn,pl,pr,l,⟨ik,iv,ir,ig⟩,co⟩:=m;clear hc;simp only[AC.holds,AC.GE,AC.has,AC.bare,AC.beside,AC.empty,AN,AY]
  cases Bp s with
  |false=>simp
  |true=>
  cases Bp d with
  |false=>simp
  |true=>
  simp only[yF]
  by_cases h4:k=4
  .subst h4;simp;grind
  by_cases h5:k=5
  .subst h5;simp;grind
  by_cases h6:k=6
  .subst h6;simp;grind[BE,isVal]
  by_cases h7:k=7
  .subst h7;simp[fU];grind
  by_cases h10:k=10
  .subst h10;simp;grind
  by_cases h11:k=11
  .subst h11;simp;grind
  by_cases h12:k=12
  .subst h12;simp;grind
  simp[*]
 rw[hc];unfold AC.right AC.Iy
 revert AH
 cases m.holds<;>cases m.GE<;>cases decide (m.beside=AN)<;>cases Bp m.As<;>cases Bp m.dst<;>cases(decide (m.bare=m.empty)&&m.has)<;>simp[Bool.and_assoc]
theorem CX(m:AC)(hl:m.A8.length<9223372036854775807):xB 124 [m.d] (.b m.right):=by
 rw[<-tO];exact dW m hl
end Wi
end Go.Proofs.YtkljbfejbakooaaGreatDoor
namespace Go.Proofs.YtkljbfejbakooaaGreatDoor
namespace Nd
open Go.Gar
open Wi (AC Bp)
structure AW where
 id:Int
 Ao:AC
 BQ:Int
 ref:Int
 C0:Int
 BA:Int
def AW.A0(x:AW):ww:=[.i .i64 x.id,.i .u8 x.Ao.AR,.i .i64 x.Ao.Aa,.i .i64 x.Ao.As,.i .i64 x.Ao.dst,.i .i64 x.Ao.AH,.b x.Ao.B4,.b x.Ao.done,.i .i64 x.Ao.AT,.i .i64 x.Ao.AG,.is x.Ao.A8,.s x.Ao.A9.AH,.i .i64 x.Ao.A9.B2,.i .i64 x.Ao.A9.AZ,.b x.Ao.A9.gone,.i .i64 x.Ao.AQ,.i .u8 x.BQ,.i .i64 x.ref,.i .i64 x.C0,.i .i64 x.BA]
def AW.d(x:AW):D:=.agg x.A0
structure Calls where
 id:Int
 AU:Int
 op:List AW
abbrev Ag(l:List AW):D:=.sl 20 (l.map AW.A0)
def Calls.A0(c:Calls):ww:=[.i .i64 c.id,.i .i64 c.AU,Ag c.op]
def Calls.d(c:Calls):D:=.agg c.A0
structure Past where
 As:Int
 Aa:Int
 AE:AC
def Past.A0(p:Past):ww:=[.i .i64 p.As,.i .i64 p.Aa,.i .u8 p.AE.AR,.i .i64 p.AE.Aa,.i .i64 p.AE.As,.i .i64 p.AE.dst,.i .i64 p.AE.AH,.b p.AE.B4,.b p.AE.done,.i .i64 p.AE.AT,.i .i64 p.AE.AG,.is p.AE.A8,.s p.AE.A9.AH,.i .i64 p.AE.A9.B2,.i .i64 p.AE.A9.AZ,.b p.AE.A9.gone,.i .i64 p.AE.AQ]
def Past.d(p:Past):D:=.agg p.A0
abbrev B5(l:List Past):D:=.sl 17 (l.map Past.A0)
structure Bw where
 AH:Int
 Cj:Int
 Bn:Int
 B4:Bool
 CB:Bool
 AQ:Int
structure An where
 AL:Int
 A5:Int
 Ak:Bw
 A9:AK
 AO:Int
 left:Ad
 AQ:Int
def An.A0(j:An):ww:=[.i .u8 j.AL,.i .u8 j.A5,.i .i64 j.Ak.AH,.i .i64 j.Ak.Cj,.i .i64 j.Ak.Bn,.b j.Ak.B4,.b j.Ak.CB,.i .i64 j.Ak.AQ,.s j.A9.AH,.i .i64 j.A9.B2,.i .i64 j.A9.AZ,.b j.A9.gone,.i .i64 j.AO,.is j.left,.i .i64 j.AQ]
def An.d(j:An):D:=.agg j.A0
structure AA where
 A7:AD
 Aj:Int
 AX:Calls
 BO:List Past
 A5:Int
 B8:Int
 AP:An
 Ai:An
 Ah:An
 next:Int
 last:AJ
 keep:List AK
 bad:Int
def AA.A0(n:AA):ww:=n.A7.A0++(.i .i64 n.Aj::(n.AX.A0++(B5 n.BO:: .i .u8 n.A5:: .i .i64 n.B8::(n.AP.A0++(n.Ai.A0++(n.Ah.A0++[.i .i64 n.next,.s n.last,BX n.keep,.i .i64 n.bad]))))))
def AA.d(n:AA):D:=.agg n.A0
structure nq where
 nodes:List AA
 gone:Ad
 AB:Ad
 grams:List (ww)
 lost:Int
abbrev tN(l:List AA):D:=.sl 76 (l.map AA.A0)
def nq.A0(c:nq):ww:=[tN c.nodes,.is c.gone,.is c.AB,.sl 3 c.grams,.i .i64 c.lost]
def nq.d(c:nq):D:=.agg c.A0
def DJ(n:Int):Bool:=decide (0<=n)&&decide (n<=1099511627776)
theorem mh(n:Int):xB 77 [.i .i64 n] (.b (DJ n)):=by
 refine zF AF Tryz.func77 ?_;refine wd [0,2] [] A4 A4 ?_;with_reducible repeat' first|constructor|intro hc
 all_goals(refine⟨_,_,rfl,rfl,?_⟩;simp[Cq,DJ, *];try omega)
theorem On(n:Int):xB 231 [.i .i64 n] (.b (DJ n)):=by
 refine zF AF Tryz.func231 ?_;refine wd [0,2] [] A4 A4 ?_;with_reducible repeat' first|constructor|intro hc
 all_goals(refine⟨_,_,rfl,rfl,?_⟩;simp[Cq,DJ, *];try omega)
def CZ(A5 B8:Int):Bool:=if A5=0 then decide (B8=0)else decide (A5<=3)&&Bp B8
theorem mf(A5 B8:Int):xB 34 [.agg [.i .u8 A5,.i .i64 B8]] (.b (CZ A5 B8)):=by
 refine zF AF Tryz.func34 ?_;refine wd [0,1,2,5] [] A4 A4 ?_;with_reducible repeat' first|constructor|intro hc
 all_goals(refine⟨_,_,rfl,rfl,?_⟩;simp[Cq,CZ,Bp,F2, *];try omega)
theorem Qa(A5 B8:Int):xB 97 [.agg [.i .u8 A5,.i .i64 B8]] (.b (CZ A5 B8)):=by
 refine zF AF Tryz.func97 ?_;refine wd [0,1,2,5] [] A4 A4 ?_;with_reducible repeat' first|constructor|intro hc
 all_goals(refine⟨_,_,rfl,rfl,?_⟩;simp[Cq,CZ,Bp,F2, *];try omega)
def Gx(id n:Int):Int×Int:=if Bp id=true/\1<=n/\n<=1048576 then(id*1048576+n,0)else(0,2)
theorem UL(id n:Int):xB 54 [.i .i64 id,.i .i64 n] (.tup [.i .i64 (Gx id n).1,.i .i64 (Gx id n).2]):=by
 have h1:=Wi.Oy id;have hb:Bp id=true->0<=id/\id<65536:=Wi.FD;refine zF AF Tryz.func54 ?_
 cases h:Bp id with
 |false=>
  rw[h]at h1;refine wd [0,1,4,5,16] [] A4 (AM @h1) ?_ [] true
  all_goals(refine⟨_,_,rfl,rfl,?_⟩;simp[HY,DL,Dz,Cy,Gx,h])
 |true=>
  rw[h]at h1;have hb':=hb h;refine wd [0,1,4,5,16] [] A4 (AM @h1) ?_ [] true;with_reducible repeat' first|constructor|intro hc
  all_goals(refine⟨_,_,rfl,rfl,?_⟩;simp only[HY,DL,Dz,Cy,Gx,h,true_and,and_true];split<;>simp<;>omega)
end Nd
end Go.Proofs.YtkljbfejbakooaaGreatDoor
namespace Go.Proofs.YtkljbfejbakooaaGreatDoor
namespace Nd
open Go.Gar
open Wi (AC Bp BE)
abbrev Gf:Aw:=[0,2,3,5,6,8]
def B9(n:AA):xD:=.wo n.A7.id:: .xG n.A7.AB:: .xG n.A7.A8:: .wo n.A7.AG:: .wo (n.A7.f 0):: .wo (n.A7.f 1):: .wo (n.A7.f 2):: .wo (n.A7.f 3):: .wo (n.A7.f 4):: .wo (n.A7.f 5):: .wo (n.A7.f 6):: .wo (n.A7.f 7):: .wo (n.A7.f 8):: .wo (n.A7.f 9):: .wo (n.A7.f 10):: .wo (n.A7.f 11):: .wo (n.A7.f 12):: .wo (n.A7.f 13):: .wo (n.A7.f 14):: .wo (n.A7.f 15):: .wo n.Aj:: .wo n.AX.id:: .wo n.AX.AU:: .d (Ag n.AX.op):: .d (B5 n.BO):: .wz n.A5:: .wo n.B8:: .wz n.AP.AL:: .wz n.AP.A5:: .wo n.AP.Ak.AH:: .wo n.AP.Ak.Cj:: .wo n.AP.Ak.Bn:: .wu n.AP.Ak.B4:: .wu n.AP.Ak.CB:: .wo n.AP.Ak.AQ:: .xE n.AP.A9.AH:: .wo n.AP.A9.B2:: .wo n.AP.A9.AZ:: .wu n.AP.A9.gone:: .wo n.AP.AO:: .xG n.AP.left:: .wo n.AP.AQ:: .wz n.Ai.AL:: .wz n.Ai.A5:: .wo n.Ai.Ak.AH:: .wo n.Ai.Ak.Cj:: .wo n.Ai.Ak.Bn:: .wu n.Ai.Ak.B4:: .wu n.Ai.Ak.CB:: .wo n.Ai.Ak.AQ:: .xE n.Ai.A9.AH:: .wo n.Ai.A9.B2:: .wo n.Ai.A9.AZ:: .wu n.Ai.A9.gone:: .wo n.Ai.AO:: .xG n.Ai.left:: .wo n.Ai.AQ:: .wz n.Ah.AL:: .wz n.Ah.A5:: .wo n.Ah.Ak.AH:: .wo n.Ah.Ak.Cj:: .wo n.Ah.Ak.Bn:: .wu n.Ah.Ak.B4:: .wu n.Ah.Ak.CB:: .wo n.Ah.Ak.AQ:: .xE n.Ah.A9.AH:: .wo n.Ah.A9.B2:: .wo n.Ah.A9.AZ:: .wu n.Ah.A9.gone:: .wo n.Ah.AO:: .xG n.Ah.left:: .wo n.Ah.AQ:: .wo n.next:: .xE n.last:: .d (BX n.keep):: .wo n.bad::[]
theorem lg(n:AA)(k:Nat):AV.oks k (B9 n)=true:=rfl
abbrev nl(f:Nat):AV:=.fn (.func f) [] [.ptr 0 0 76]
abbrev Eu:xD:=[nl 89,nl 90,nl 91,nl 92,nl 94,nl 96,nl 98,nl 100,nl 102]
theorem nY(n:AA):xC 158 [.bs 1 0 9 1 9] [.c (B9 n),.c Eu] (.fn (.func 236) [] [.ptr 2 0 1]) [.c (B9 n),.c Eu,.c [.bs 1 0 9 1 9]]:=by
 refine zD AF Tryz.func158 ?_;unfold Eu nl;refine wd [0,1,2] [] A4 A4 ?_;exact⟨⟨[(2,.fn (.func 236) [] [.ptr 2 0 1])],[.c (B9 n),.c Eu,.c [.bs 1 0 9 1 9]],_⟩,(A6.ck rfl),xA,_,_,rfl,rfl,rfl,rfl⟩
theorem rj(n:AA)(b1 b2 b3 b4 b5 b6 b7 b8 b9:Bool)(h1:xC 89 [.ptr 0 0 76] [.c (B9 n)] (.wu b1) [.c (B9 n)])(h2:xC 90 [.ptr 0 0 76] [.c (B9 n)] (.wu b2) [.c (B9 n)])(h3:xC 91 [.ptr 0 0 76] [.c (B9 n)] (.wu b3) [.c (B9 n)])(h4:xC 92 [.ptr 0 0 76] [.c (B9 n)] (.wu b4) [.c (B9 n)])(h5:xC 94 [.ptr 0 0 76] [.c (B9 n)] (.wu b5) [.c (B9 n)])(h6:xC 96 [.ptr 0 0 76] [.c (B9 n)] (.wu b6) [.c (B9 n)])(h7:xC 98 [.ptr 0 0 76] [.c (B9 n)] (.wu b7) [.c (B9 n)])(h8:xC 100 [.ptr 0 0 76] [.c (B9 n)] (.wu b8) [.c (B9 n)])(h9:xC 102 [.ptr 0 0 76] [.c (B9 n)] (.wu b9) [.c (B9 n)]):
  xC 88 [.bs 1 0 9 1 9] [.c (B9 n),.c Eu] (.wu (b1&&(b2&&(b3&&(b4&&(b5&&(b6&&(b7&&(b8&&(b9)))))))))) [.c (B9 n),.c Eu]:=by
 obtain⟨B,hB⟩:∃B,(b1&&(b2&&(b3&&(b4&&(b5&&(b6&&(b7&&(b8&&(b9)))))))))=B:=⟨_,rfl⟩;rw[hB];refine BJ.drop (K:=[.c (B9 n),.c Eu,.c [.wu B]]) _ ?_ ⟨.inr rfl,.inr rfl,trivial⟩ rfl rfl rfl;refine zD AF Tryz.func88 ?_;have d1:=Ds.mk [0,1] (nY n);refine wd Gf [] A4 A4 ?_;clear d1;refine zG (K:=fun r _ H'=>(B=true/\H'=[.c (B9 n),.c Eu,.c [.wu false],.c [.bs 1 0 9 1 9],.lp r])\/(B=false/\H'=[.c (B9 n),.c Eu,.c [.wu false],.c [.bs 1 0 9 1 9],.lp (r.left .ret)])) ?_ ?_
 .intro r hr
  have hT:∀v:Bool,v=true->YT Tryz.prog 4 [.wu v] [.c (B9 n),.c Eu,.c [.wu false],.c [.bs 1 0 9 1 9],.lp r] fun x K=>x= .wu true/\K=[.c (B9 n),.c Eu,.c [.wu false],.c [.bs 1 0 9 1 9],.lp r]:=by
   rintro _ rfl;refine BD hr rfl rfl rfl ?_;refine wd Gf [] A4 A4 ?_;refine zR ?_;refine wd Gf [] A4 A4 ?_;exact⟨_,A6.refl _,xH _,rfl,rfl,rfl⟩
  have hF:∀v:Bool,v=false->YT Tryz.prog 4 [.wu v] [.c (B9 n),.c Eu,.c [.wu false],.c [.bs 1 0 9 1 9],.lp r] fun x K=>x= .wu false/\K=[.c (B9 n),.c Eu,.c [.wu false],.c [.bs 1 0 9 1 9],.lp (r.left .ret)]:=by
   rintro _ rfl;refine BD hr rfl rfl rfl ?_;refine wd Gf [] A4 A4 ?_;refine zR ?_;refine wd Gf [] A4 A4 ?_;exact⟨_,A6.refl _,xH _,rfl,rfl,rfl⟩
  refine zT AF Tryz.func236 ?_;have hk:=xU (lg n) (hr.ok (k:=4) rfl);have un:No 10:=trivial;have g1T:=@hT;have g1F:=@hF;have d1:=Ds.mk [0] (h1);have d2:=Ds.mk [0] (h2);have d3:=Ds.mk [0] (h3);have d4:=Ds.mk [0] (h4);have d5:=Ds.mk [0] (h5);have d6:=Ds.mk [0] (h6);have d7:=Ds.mk [0] (h7);have d8:=Ds.mk [0] (h8);have d9:=Ds.mk [0] (h9);refine wd [0,1,4,5,6,7,8,15] [] A4 A4 ?_;clear d9 d8 d7 d6 d5 d4 d3 d2 d1 g1F g1T un;with_reducible repeat' first|constructor|intro hc
  all_goals clear h1 h2 h3 h4 h5 h6 h7 h8 h9 hT hF
  all_goals first
   |(guard_hyp hc:b9=true;exact⟨⟨[],[.c (B9 n),.c Eu,.c [.d (.b false)],.c [.bs 1 0 9 1 9],.lp r],_⟩,(A6.ck rfl),xH _,_,_,rfl,rfl,.inl ⟨by rw[<-hB];simp only[*,zh],rfl⟩⟩)
   |exact⟨⟨[],[.c (B9 n),.c Eu,.c [.d (.b false)],.c [.bs 1 0 9 1 9],.lp (r.left .ret)],_⟩,(A6.ck rfl),xH _,_,_,rfl,rfl,.inr ⟨by rw[<-hB];simp only[*,zY,zN,zh],rfl⟩⟩
 .rintro r hr y H' (⟨h,rfl⟩|⟨h,rfl⟩)
  .refine .inl ⟨rfl,?_⟩;refine wd Gf [] A4 A4 ?_;exact⟨⟨[(2,.ptr 2 0 1)],[.c (B9 n),.c Eu,.c [.wu true]],_⟩,(A6.ck rfl),xA,_,_,rfl,rfl,by rw[h],by rw[h]⟩
  .refine .inr ⟨.ret,rfl,?_⟩;refine wd Gf [] A4 A4 ?_;exact⟨⟨[(2,.ptr 2 0 1)],[.c (B9 n),.c Eu,.c [.wu false]],_⟩,(A6.ck rfl),xA,_,_,rfl,rfl,by rw[h],by rw[h]⟩
theorem Rh(a x b:Int):xB 206 [.i .i64 a,.i .i64 x,.i .i64 b] (.b (Ee a x b)):=by
 have c1:=Iu a x;have c2:=Iu a b;refine zF AF Tryz.func206 ?_;have h1:B1 a b=0↔Cp a=Cp b:=by unfold B1 Cp;omega
 have h2:B1 a x>0↔Cp x≠Cp a:=by unfold B1 Cp;omega
 have hT:Ee a x b=if B1 a b=0 then decide (B1 a x>0)else decide (B1 a x>0/\B1 a x<B1 a b):=by
  unfold Ee
  by_cases h:B1 a b=0
  .rw[if_pos h,if_pos (h1.1 h)]
   by_cases h3:B1 a x>0
   .rw[xM h3,xM (h2.1 h3)]
   .rw[xO h3,xO (fun h4=>h3 (h2.2 h4))]
  .rw[if_neg h,if_neg (fun h4=>h (h1.2 h4))]
 generalize Ee a x b=R at *;clear h1 h2;generalize B1 a x=u at *;generalize B1 a b=w at *;refine wd [0,1,2,6,7,8,16] [] A4 (Ax @c1 @c2) ?_;with_reducible repeat' first|constructor|intro hc
 all_goals(clear c1 c2;refine⟨_,_,rfl,rfl,?_⟩;simp only[Cy];refine congrArg D.b ?_;rw[hT];clear hT;grind)
end Nd
end Go.Proofs.YtkljbfejbakooaaGreatDoor
