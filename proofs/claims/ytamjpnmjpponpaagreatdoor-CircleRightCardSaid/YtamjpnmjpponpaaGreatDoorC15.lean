/- Part 15 of a proof. Conditions: those that its theorems state. -/
import Derived.Test.YtamjpnmjpponpaaGreatDoorC13
set_option linter.unusedSimpArgs false
set_option linter.unusedVariables false
set_option linter.unnecessarySimpa false
set_option maxHeartbeats 40000000
set_option maxRecDepth 4000
namespace Go.Proofs.YtamjpnmjpponpaaGreatDoor
open Go.Gar
abbrev EP:BF:=[0,1,2,4,5,6,7,18,27,30,31,32,37]
def Bu(v:AG)(d:Int):AG:=if Aq v&& !(decide (d∈v.A6))then⟨v.id,v.A6,CO v.AB d,if v.AH=d then -1 else v.AH,fun i=>if v.f i=d then -1 else v.f i⟩else v
def Oj(f:Nat->Int)(d:Int)(x:Nat×(Nat->Int)):Prop:=x.1<=16/\∀i,x.2 i=if i<x.1 then(if f i=d then -1 else f i)else f i
variable {f:Nat->Int}{d:Int}
theorem sf:Oj f d (0,f):=⟨zi _,fun i=>rfl⟩
variable {k:Nat}{h:Nat->Int}
theorem Oj.at(hi:Oj f d (k,h)):h k=f k:=by
 have:=hi.2 k;simpa using this
theorem Oj.yes(hi:Oj f d (k,h))(hk:k<16)(e:f k=d):Oj f d (k+1,fun i=>if i=k then -1 else h i):=by
 refine⟨hk,fun i=> ?_⟩;have:=hi.2 i;dsimp only at this|-
 by_cases e1:i=k
 .subst e1;simp[e]
 .rw[zx e1,this]
  by_cases e2:i<k
  .rw[zn e2,zn (show i<k+1 by omega)]
  .rw[zx e2,zx (show ¬i<k+1 by omega)]
theorem Oj.no(hi:Oj f d (k,h))(hk:k<16)(e:f k≠d):Oj f d (k+1,h):=by
 refine⟨hk,fun i=> ?_⟩;have:=hi.2 i;dsimp only at this|-;rw[this]
 by_cases e1:i=k
 .subst e1;simp[e]
 .by_cases e2:i<k
  .rw[zn e2,zn (show i<k+1 by omega)]
  .rw[zx e2,zx (show ¬i<k+1 by omega)]
theorem Oj.end(hi:Oj f d (16,h))(i:Nat)(hk:i<16):h i=if f i=d then -1 else f i:=by
 have:=hi.2 i;rwa [zn (show i<16 from hk)]at this
theorem Mn(h:k<16):k=0\/k=1\/k=2\/k=3\/k=4\/k=5\/k=6\/k=7\/k=8\/k=9\/k=10\/k=11\/k=12\/k=13\/k=14\/k=15:=om
theorem LK(v:AG)(d:Int)(hb:v.A6.length<=1000)(hl:v.AB.length<=1000):yS 336 [v.d,.yX d] (Bu v d).d:=by
 obtain⟨id,A6,AB,AH,f⟩:=v;replace hb:A6.length<=1000:=hb;replace hl:AB.length<=1000:=hl;have c1:=HS ⟨id,A6,AB,AH,f⟩ (by show A6.length<=100000;omega) (by show AB.length<=100000;omega);have c2:=Bo ⟨id,A6,AB,AH,f⟩ hb hl;have c3:=Eb A6 d om;have c4:=pU AB d hl;have hR:Bu ⟨id,A6,AB,AH,f⟩ d=if Aq ⟨id,A6,AB,AH,f⟩&& !(decide (d∈A6))then⟨id,A6,CO AB d,if AH=d then -1 else AH,fun i=>if f i=d then -1 else f i⟩else⟨id,A6,AB,AH,f⟩:=rfl;refine zF AE Tryz.func336 ?_
 cases h:Aq ⟨id,A6,AB,AH,f⟩with
 |false=>
  rw[h]at c2 hR;rw[hR];refine AO EP ?_ (Au @c1 @c2);exact BW (zh @AG.d.eq_1 @AG.A4.eq_1)
 |true=>
 rw[h]at c2 hR
 cases h2:decide (d∈A6)with
 |true=>
  rw[h2]at c3 hR;rw[hR];refine AO EP ?_ (CP @c1 @c2 @c3);exact BW (zh @AG.d.eq_1 @AG.A4.eq_1)
 |false=>
 rw[h2]at c3 hR
 by_cases h3:AH=d
 .have f3:=AT h3;rw[zn h3]at hR;refine AJ EP ?_ (AK f3) (ME @c1 @c2 @c3 @c4);refine BX (Oj f d) (fun x=>⟨[(1,.yO d),(4,.ptr 1 0 20),(5,.ptr 2 0 20),(30,.d (.agg [.yX (f 0),.yX (f 1),.yX (f 2),.yX (f 3),.yX (f 4),.yX (f 5),.yX (f 6),.yX (f 7),.yX (f 8),.yX (f 9),.yX (f 10),.yX (f 11),.yX (f 12),.yX (f 13),.yX (f 14),.yX (f 15)])),(31,.yO x.1)],[.c [.yO id,.yV A6,.yV AB,.yO AH,.yO (f 0),.yO (f 1),.yO (f 2),.yO (f 3),.yO (f 4),.yO (f 5),.yO (f 6),.yO (f 7),.yO (f 8),.yO (f 9),.yO (f 10),.yO (f 11),.yO (f 12),.yO (f 13),.yO (f 14),.yO (f 15)],.c [.yO 0,.e0,.e0,.yO 0,.yO 0,.yO 0,.yO 0,.yO 0,.yO 0,.yO 0,.yO 0,.yO 0,.yO 0,.yO 0,.yO 0,.yO 0,.yO 0,.yO 0,.yO 0,.yO 0],.c [.yO id,.yV A6,.yV (CO AB d),.yO (-1),.yO (x.2 0),.yO (x.2 1),.yO (x.2 2),.yO (x.2 3),.yO (x.2 4),.yO (x.2 5),.yO (x.2 6),.yO (x.2 7),.yO (x.2 8),.yO (x.2 9),.yO (x.2 10),.yO (x.2 11),.yO (x.2 12),.yO (x.2 13),.yO (x.2 14),.yO (x.2 15)]],43⟩) (fun x=>16-x.1) (0,f) sf ?_ (zN _) ?_
  .exact A8.ck rfl
  rintro⟨k,h⟩ hi;have hk:k<=16:=hi.1
  by_cases hk2:k<16
  .have e3:=hi.at
   by_cases e:f k=d
   .have g:=AT e;have hn:=hi.yes hk2 e;rcases Mn hk2 with rfl|rfl|rfl|rfl|rfl|rfl|rfl|rfl|rfl|rfl|rfl|rfl|rfl|rfl|rfl|rfl
    all_goals
     refine Aj EP ?_ (Au g e3);refine⟨_,hn,(by dsimp only;omega),zN _,?_⟩;exact A8.ck rfl
   .have g:=eq_false' e;have hn:=hi.no hk2 e;rcases Mn hk2 with rfl|rfl|rfl|rfl|rfl|rfl|rfl|rfl|rfl|rfl|rfl|rfl|rfl|rfl|rfl|rfl
    all_goals
     refine Aj EP ?_ (Au g e3);refine⟨_,hn,(by dsimp only;omega),zN _,?_⟩;exact A8.ck rfl
  .have e16:k=16:=om
   subst e16;refine A9 EP ?_;refine⟨_,_,rfl,rfl,?_⟩;simp[LL,BP,Bl,BM,hR,AG.d,AG.A4,hi.end 0 (by decide),hi.end 1 (by decide),hi.end 2 (by decide),hi.end 3 (by decide),hi.end 4 (by decide),hi.end 5 (by decide),hi.end 6 (by decide),hi.end 7 (by decide),hi.end 8 (by decide),hi.end 9 (by decide),hi.end 10 (by decide),hi.end 11 (by decide),hi.end 12 (by decide),hi.end 13 (by decide),hi.end 14 (by decide),hi.end 15 (by decide)]
 .have f3:=eq_false' h3;rw[zx h3]at hR;refine AJ EP ?_ (AK f3) (ME @c1 @c2 @c3 @c4);refine BX (Oj f d) (fun x=>⟨[(1,.yO d),(4,.ptr 1 0 20),(5,.ptr 2 0 20),(30,.d (.agg [.yX (f 0),.yX (f 1),.yX (f 2),.yX (f 3),.yX (f 4),.yX (f 5),.yX (f 6),.yX (f 7),.yX (f 8),.yX (f 9),.yX (f 10),.yX (f 11),.yX (f 12),.yX (f 13),.yX (f 14),.yX (f 15)])),(31,.yO x.1)],[.c [.yO id,.yV A6,.yV AB,.yO AH,.yO (f 0),.yO (f 1),.yO (f 2),.yO (f 3),.yO (f 4),.yO (f 5),.yO (f 6),.yO (f 7),.yO (f 8),.yO (f 9),.yO (f 10),.yO (f 11),.yO (f 12),.yO (f 13),.yO (f 14),.yO (f 15)],.c [.yO 0,.e0,.e0,.yO 0,.yO 0,.yO 0,.yO 0,.yO 0,.yO 0,.yO 0,.yO 0,.yO 0,.yO 0,.yO 0,.yO 0,.yO 0,.yO 0,.yO 0,.yO 0,.yO 0],.c [.yO id,.yV A6,.yV (CO AB d),.yO AH,.yO (x.2 0),.yO (x.2 1),.yO (x.2 2),.yO (x.2 3),.yO (x.2 4),.yO (x.2 5),.yO (x.2 6),.yO (x.2 7),.yO (x.2 8),.yO (x.2 9),.yO (x.2 10),.yO (x.2 11),.yO (x.2 12),.yO (x.2 13),.yO (x.2 14),.yO (x.2 15)]],43⟩) (fun x=>16-x.1) (0,f) sf ?_ (zN _) ?_
  .exact A8.ck rfl
  rintro⟨k,h⟩ hi;have hk:k<=16:=hi.1
  by_cases hk2:k<16
  .have e3:=hi.at
   by_cases e:f k=d
   .have g:=AT e;have hn:=hi.yes hk2 e;rcases Mn hk2 with rfl|rfl|rfl|rfl|rfl|rfl|rfl|rfl|rfl|rfl|rfl|rfl|rfl|rfl|rfl|rfl
    all_goals
     refine Aj EP ?_ (Au g e3);refine⟨_,hn,(by dsimp only;omega),zN _,?_⟩;exact A8.ck rfl
   .have g:=eq_false' e;have hn:=hi.no hk2 e;rcases Mn hk2 with rfl|rfl|rfl|rfl|rfl|rfl|rfl|rfl|rfl|rfl|rfl|rfl|rfl|rfl|rfl|rfl
    all_goals
     refine Aj EP ?_ (Au g e3);refine⟨_,hn,(by dsimp only;omega),zN _,?_⟩;exact A8.ck rfl
  .have e16:k=16:=om
   subst e16;refine A9 EP ?_;refine⟨_,_,rfl,rfl,?_⟩;simp[LL,BP,Bl,BM,hR,AG.d,AG.A4,hi.end 0 (by decide),hi.end 1 (by decide),hi.end 2 (by decide),hi.end 3 (by decide),hi.end 4 (by decide),hi.end 5 (by decide),hi.end 6 (by decide),hi.end 7 (by decide),hi.end 8 (by decide),hi.end 9 (by decide),hi.end 10 (by decide),hi.end 11 (by decide),hi.end 12 (by decide),hi.end 13 (by decide),hi.end 14 (by decide),hi.end 15 (by decide)]
abbrev Hj:BF:=[0,1,2,3,5,7,8,9,10,31]
def J4(id best b:Int):Int:=if b≠id/\(best<0\/Ba id b<Ba id best)then b else best
def NH(id:Int)(l:Ai):Int:=l.foldl (J4 id) (-1)
def WN(AI out b:Int):Int:=if Ba AI b<Ba AI out then DN b else out
def xm(AI:Int):Ai->Int
 |[]=>0
 |a::l=>(a::l).foldl (WN AI) (DN a)
variable {l:Ai}
theorem Zm{α:Type}(g:α->Int->α)(s:α){p:Int}(hp:l[k]? =some p):(l.take (k+1)).foldl g s=g ((l.take k).foldl g s) p:=by
 rw[AY hp,q0o];rfl
theorem eu(v:AG)(hb:v.A6.length<=100000):yS 254 [v.d] (.yX (NH v.id v.A6)):=by
 obtain⟨id,A6,AB,AH,f⟩:=v;replace hb:A6.length<=100000:=hb;show Go.Gar.Fn _ _ _ (.yX (NH id A6));refine zF AE Tryz.func254 ?_;refine A9 Hj ?_;refine BX (fun k=>k<=A6.length) (fun k:Nat=>⟨[(1,.ptr 0 0 20),(3,.yO ((A6.take k).foldl (J4 id) (-1))),(7,.yV A6),(8,.yO A6.length),(9,.yO k)],[.c (vC id A6 AB AH f)],35⟩) (fun k=>A6.length-k) 0 (zi _) ?_ (zN _) ?_
 .exact A8.ck rfl
 intro k hk;unfold vC
 by_cases hkl:k<A6.length
 .obtain⟨p,hp⟩:=Ah hkl;have gp:=C5 hp;have hs:=Zm (J4 id) (-1) hp;generalize hB:(A6.take k).foldl (J4 id) (-1)=best at *;have c1:=Iu id p;have c2:=Iu id best
  by_cases h1:p=id
  .have f1:=C8 h1;have hs':(A6.take (k+1)).foldl (J4 id) (-1)=best:=by rw[hs];simp[J4,h1]
   refine AJ Hj ?_ (Au gp f1) (Au @c1 @c2);with_reducible repeat' first|constructor|intro hc
   refine⟨k+1,hkl,om,zN _,?_⟩;exact(have nC:=hs';A8.cn rfl)
  have f1:=CI h1
  by_cases h2:best<0
  .have f2:decide (best<0)=true:=zU h2;have hs':(A6.take (k+1)).foldl (J4 id) (-1)=p:=by rw[hs];simp[J4,h1,h2]
   refine AJ Hj ?_ (CP gp f1 f2) (Au @c1 @c2);with_reducible repeat' first|constructor|intro hc
   refine⟨k+1,hkl,om,zN _,?_⟩;exact(have nC:=hs';A8.cn rfl)
  have f2:decide (best<0)=false:=zQ h2
  by_cases h3:Ba id p<Ba id best
  .have f3:decide (Ba id p<Ba id best)=true:=zU h3;have hs':(A6.take (k+1)).foldl (J4 id) (-1)=p:=by rw[hs];simp[J4,h1,h3]
   refine AJ Hj ?_ (ME gp f1 f2 f3) (Au @c1 @c2);with_reducible repeat' first|constructor|intro hc
   refine⟨k+1,hkl,om,zN _,?_⟩;exact(have nC:=hs';A8.cn rfl)
  .have f3:decide (Ba id p<Ba id best)=false:=zQ h3;have hs':(A6.take (k+1)).foldl (J4 id) (-1)=best:=by rw[hs];simp[J4,h2,h3]
   refine AJ Hj ?_ (ME gp f1 f2 f3) (Au @c1 @c2);with_reducible repeat' first|constructor|intro hc
   refine⟨k+1,hkl,om,zN _,?_⟩;exact(have nC:=hs';A8.cn rfl)
 .have e:k=A6.length:=om
  subst e;rw[q06];refine A9 Hj ?_;with_reducible repeat' first|constructor|intro hc
  exact BW @NH.eq_1
theorem ZB{id best out b:Int}(hid:Bb id=true)(hb:Bb b=true)(h:(best= -1/\out=id)\/(best=out/\best≠id/\Bb best=true)):
  (J4 id best b= -1/\WN (id+1) out b=id)\/(J4 id best b=WN (id+1) out b/\J4 id best b≠id/\Bb (J4 id best b)=true):=by
 have h1:=Iz hid;have h2:=Iz hb;rcases h with⟨rfl,rfl⟩|⟨rfl,h3,h4⟩
 .by_cases e:b=out
  .subst e;left;refine⟨by simp[J4],?_⟩;simp[WN]
  .right;have ea:J4 out (-1) b=b:=by simp[J4,e]
   have eo:WN (out+1) out b=b:=by
    unfold WN;rw[zn (show Ba (out+1) b<Ba (out+1) out by unfold Ba;omega)];unfold DN;omega
   rw[ea,eo];exact⟨rfl,e,hb⟩
 .have h5:=Iz h4;right
  by_cases e:b=id
  .subst e;have ea:J4 b best b=best:=by simp[J4]
   have eo:WN (b+1) best b=best:=by
    unfold WN;rw[zx (show ¬Ba (b+1) b<Ba (b+1) best by unfold Ba;omega)]
   rw[ea,eo];exact⟨rfl,h3,h4⟩
  .by_cases e2:Ba id b<Ba id best
   .have ea:J4 id best b=b:=by simp[J4,e,e2]
    have eo:WN (id+1) best b=b:=by
     unfold WN;rw[zn (show Ba (id+1) b<Ba (id+1) best by unfold Ba at *;omega)];unfold DN;omega
    rw[ea,eo];exact⟨rfl,e,hb⟩
   .have hn:¬best<0:=om
    have ea:J4 id best b=best:=by simp[J4,e2,hn]
    have eo:WN (id+1) best b=best:=by
     unfold WN;rw[zx (show ¬Ba (id+1) b<Ba (id+1) best by unfold Ba at *;omega)]
    rw[ea,eo];exact⟨rfl,h3,h4⟩
theorem sr{id:Int}(hid:Bb id=true):∀(l:Ai)(best out:Int),(∀y∈l,Bb y=true)->((best= -1/\out=id)\/(best=out/\best≠id/\Bb best=true))->
  ((l.foldl (J4 id) best= -1/\l.foldl (WN (id+1)) out=id)\/(l.foldl (J4 id) best=l.foldl (WN (id+1)) out/\l.foldl (J4 id) best≠id/\Bb (l.foldl (J4 id) best)=true))
 |[],best,out,_,h=>h
 |b::l,best,out,hl,h=>by
  simp only[q0p];exact sr hid l _ _ (fun y hy=>hl y (q0P _ hy)) (ZB hid (hl b (q0J ..)) h)
theorem sq{id:Int}(hid:Bb id=true):∀(l:Ai)(best:Int),(∀y∈l,Bb y=true)->best≠ -1->l.foldl (J4 id) best≠ -1
 |[],best,_,h=>h
 |b::l,best,hl,h=>by
  simp only[q0p];refine sq hid l _ (fun y hy=>hl y (q0P _ hy)) ?_;have:=Iz (hl b (q0J ..));unfold J4;split<;>omega
theorem bi{id:Int}(hid:Bb id=true):∀(l:Ai)(best:Int),(∀y∈l,Bb y=true)->(∃y∈l,y≠id)->l.foldl (J4 id) best≠ -1
 |[],best,_,⟨y,hy,_⟩=>by cases hy
 |b::l,best,hl,⟨y,hy,hne⟩=>by
  simp only[q0p];have hb:=Iz (hl b (q0J ..))
  by_cases e:b=id
  .rcases q0O.mp hy with rfl|hy
   .exact absurd e hne
   .exact bi hid l _ (fun y hy=>hl y (q0P _ hy)) ⟨y,hy,hne⟩
  .refine sq hid l _ (fun y hy=>hl y (q0P _ hy)) ?_;unfold J4;split
   .omega
   .intro h;rename_i h1;exact h1 ⟨e,.inl om⟩
theorem Ur:∀(l:Ai)(f:Int),bT f l=true->∀y∈l,Bb y=true/\y>f
 |[],f,_,y,hy=>by cases hy
 |a::r,f,h,y,hy=>by
  simp only[bT,zO,zW]at h;rcases q0O.mp hy with rfl|hy
  .exact h.1
  .have:=Ur r a h.2 y hy;exact⟨this.1,om⟩
theorem iJ(h:Cn l=true):∀y∈l,Bb y=true:=by
 simp only[Cn,zO]at h;exact fun y hy=>(Ur l _ h.2 y hy).1
theorem av(h:Cn l=true)(id:Int):∃y∈l,y≠id:=by
 simp only[Cn,zO,zW]at h
 match l,h with
 |a::b::r,h=>
  have h1:=Ur _ _ h.2
  have h2:bT a (b::r)=true:=by
   have:=h.2;simp only[bT,zO]at this|-;exact this.2
  have h3:=(Ur _ _ h2 b (q0J ..)).2
  by_cases e:a=id
  .exact⟨b,sm,om⟩
  .exact⟨a,sm,e⟩
 |[a],h=>exact absurd h.1.1 (show ¬2<=1 by decide)
 |[],h=>exact absurd h.1.1 (by decide)
theorem Wj{id:Int}(hid:Bb id=true)(h:Cn l=true):NH id l=xm (id+1) l/\Bb (NH id l)=true/\NH id l≠id:=by
 have hp:=iJ h;have hs:=bi hid l (-1) hp (av h id)
 match l with
 |[]=>exact absurd rfl hs
 |a::r=>
  have ha:=Iz (hp a (q0J ..));have e:DN a=a:=by unfold DN;omega
  have h0:WN (id+1) a a=a:=by simp[WN,e]
  have hS:xm (id+1) (a::r)=r.foldl (WN (id+1)) a:=by
   show(a::r).foldl (WN (id+1)) (DN a)=_;rw[e,q0p,h0]
  have hA:NH id (a::r)=r.foldl (J4 id) (J4 id (-1) a):=rfl;rw[hS,hA]
  have hR:(J4 id (-1) a= -1/\a=id)\/(J4 id (-1) a=a/\J4 id (-1) a≠id/\Bb (J4 id (-1) a)=true):=by
   by_cases e2:a=id
   .left;exact⟨by simp[J4,e2],e2⟩
   .right;have e3:J4 id (-1) a=a:=by simp[J4,e2]
    rw[e3];exact⟨rfl,e2,hp a (q0J ..)⟩
  rcases sr hid r _ _ (fun y hy=>hp y (q0P _ hy)) hR with h1|h1
  .exact absurd h1.1 hs
  .exact⟨h1.1,h1.2.2,h1.2.1⟩
def yL(a:Int):Ai->Int
 |[]=>a
 |b::_=>b
def FM(v:AG):Int:=if Aq v then yL (NH v.id v.A6) v.AB else -1
theorem Dh{v:AG}(h:Aq v=true):Bb v.id=true/\Cn v.A6=true/\CU v.id v.AB=true/\F2 v.id v.AH=true/\(D6 v.f).all (F2 v.id)=true:=by
 simp only[Aq,zO]at h;exact⟨h.1.1.1,h.1.1.2,h.1.2,h.2.1,h.2.2⟩
theorem JX(v:AG)(hb:v.A6.length<=1000)(hl:v.AB.length<=1000):yS 178 [v.d] (.yX (FM v)):=by
 obtain⟨id,A6,AB,AH,f⟩:=v;have c1:=Bo ⟨id,A6,AB,AH,f⟩ hb hl;have c2:=eu ⟨id,A6,AB,AH,f⟩ om;have c3:=jF AB (by have:AB.length<=1000:=hl;omega);refine zF AE Tryz.func178 ?_
 cases h:Aq ⟨id,A6,AB,AH,f⟩with
 |false=>
  have hT:FM ⟨id,A6,AB,AH,f⟩= -1:=by unfold FM;rw[h];rfl
  rw[h]at c1;refine AO [0,1,2,3,4,7,14] ?_ (AK @c1);exact BW hT
 |true=>
  have hT:FM ⟨id,A6,AB,AH,f⟩=yL (NH id A6) AB:=by unfold FM;rw[h];rfl
  rw[h]at c1;rw[hT]
  cases AB with
  |nil=>
   refine AO [0,1,2,3,4,7,14] ?_ (CP @c1 @c2 @c3);exact BW @yL.eq_1
  |cons a t=>
   refine AO [0,1,2,3,4,7,14] ?_ (CP @c1 @c2 @c3);refine⟨_,_,rfl,rfl,?_⟩;simp[LL,BP,Bl,BM,yL,firstT]
end Go.Proofs.YtamjpnmjpponpaaGreatDoor
namespace Go.Proofs.YtamjpnmjpponpaaGreatDoor
namespace Wi
open Go.Gar
def gH(m:AF)(b:AL):z6:=[.c [.ptr 3 0 1],.c [.ptr 2 0 15],.c (mC m),.c [.d (.by b)]]
def gX:z6:=[.gone,.gone,.c uC,.gone]
theorem Kx{env:yv}{a b c:yr}{n:Nat}(hc:c.length=15):A8 ⟨env,[.c a,.c b,.c c,.gone],n⟩ ⟨[],gX,n⟩:=
 (A8.us (S:=⟨env,[.c a,.c b,.c c,.gone],n⟩) 2 15 rfl hc.symm).trans' (A8.cut (S':=⟨[],gX,n⟩) rfl trivial ⟨.inl ⟨rfl,rfl⟩,.inl ⟨rfl,rfl⟩,.inr rfl,.inr rfl,trivial⟩ rfl rfl) (zN _)
def JQ(m:AF)(b:AL):Option (AF×AL):=
 if m.AN=4 then match E0 b with
  |none=>none
  |some (n,b1)=>match Ig b1 with
   |none=>none
   |some (g,b2)=>some ({m with AI:=n,BA:=g},b2)
 else if m.AN=5 then match KU b with
  |none=>none
  |some (x,b1)=>some ({m with AC:=x},b1)
 else if m.AN=6 then match KV b with
  |none=>none
  |some (s,b1)=>some ({m with AC:=⟨s,m.AC.B4,m.AC.AZ,m.AC.gone⟩},b1)
 else if m.AN=7 then match E0 b with
  |none=>none
  |some (n,b1)=>match MU b1 with
   |none=>none
   |some (l,b2)=>some ({m with AH:=(n:Int)-1,AB:=l},b2)
 else if m.AN=10 then match E0 b with
  |none=>none
  |some (n,b1)=>match Ig b1 with
   |none=>none
   |some (g,b2)=>some ({m with AP:=n,done:=g},b2)
 else if m.AN=11 then match E0 b with
  |none=>none
  |some (n,b1)=>some ({m with Aa:=n},b1)
 else if m.AN=12 then match E0 b with
  |none=>none
  |some (n,b1)=>if n=0 then(match KU b1 with
   |none=>none
   |some (x,b2)=>some ({m with Aa:=0,AC:=x},b2))else some ({m with Aa:=n},b1)
 else some (m,b)
theorem dh{b r:AL}{n:Nat}(h:E0 b=some (n,r)):n<=1099511627776:=by
 have e:=PS h;unfold Cq at e;split at e
 .simp at e
 .split at e
  .simp at e
  .split at e
   .simp at e
   .split at e
    .simp at e
    .rename_i hh;simp only[zu]at e;simp only[not_or]at hh;rw[<-e.1];omega
theorem xr(m:AF)(b:AL)(hb:b.length<70368744177664)(n:Nat)(b1:AL)(h1:E0 b=some (n,b1))(g:Bool)(b2:AL)(h2:Ig b1=some (g,b2)):yT 345 [.ptr 0 0 1,.ptr 1 0 1] (gH m b) (.tup []) (gH {m with AI:=(n:Int),BA:=g} b2):=by
 have c1:=C1 b hb n b1 h1;have c2:=VD b1 (by have:=Bn h1;omega) g b2 h2;refine zD AE Tryz.func345 ?_;unfold gH rH mC at *;refine Ax [0,1] ?_ (H0 [3] c1 [3] c2) [(0,3),(0,5),(1,3),(1,5),(1,8),(4,3)];exact wE
theorem vG(m:AF)(b:AL)(hb:b.length<70368744177664)(h1:E0 b=none):MZ Tryz.prog 345 [.ptr 0 0 1,.ptr 1 0 1] (gH m b) (pF 12) gX:=by
 have c1:=Da b hb h1;refine zX AE Tryz.func345 ?_;unfold gH rH mC at *;have x1:=Ds.mk [3] (c1);refine A9 [0,1] ?_ [(0,3),(1,3),(4,3)];clear x1;exact⟨rfl,_,Kx rfl,zN _,rfl⟩
theorem vH(m:AF)(b:AL)(hb:b.length<70368744177664)(n:Nat)(b1:AL)(h1:E0 b=some (n,b1))(h2:Ig b1=none):MZ Tryz.prog 345 [.ptr 0 0 1,.ptr 1 0 1] (gH m b) (pF 12) gX:=by
 have c1:=C1 b hb n b1 h1;have c2:=VC b1 (by have:=Bn h1;omega) h2;refine zX AE Tryz.func345 ?_;unfold gH rH mC at *;have x1:=Ds.mk [3] (c2);refine Ax [0,1] ?_ (BJ [3] c1) [(0,3),(0,5),(1,3),(1,5),(4,3)];clear x1;exact⟨rfl,_,Kx rfl,zN _,rfl⟩
theorem xy(m:AF)(b:AL)(hb:b.length<70368744177664)(n:Nat)(b1:AL)(h1:E0 b=some (n,b1))(g:Bool)(b2:AL)(h2:Ig b1=some (g,b2)):yT 353 [.ptr 0 0 1,.ptr 1 0 1] (gH m b) (.tup []) (gH {m with AP:=(n:Int),done:=g} b2):=by
 have c1:=C1 b hb n b1 h1;have c2:=VD b1 (by have:=Bn h1;omega) g b2 h2;refine zD AE Tryz.func353 ?_;unfold gH rH mC at *;refine Ax [0,1] ?_ (H0 [3] c1 [3] c2) [(0,3),(0,5),(1,3),(1,5),(1,8),(4,3)];exact wE
theorem vM(m:AF)(b:AL)(hb:b.length<70368744177664)(h1:E0 b=none):MZ Tryz.prog 353 [.ptr 0 0 1,.ptr 1 0 1] (gH m b) (pF 12) gX:=by
 have c1:=Da b hb h1;refine zX AE Tryz.func353 ?_;unfold gH rH mC at *;have x1:=Ds.mk [3] (c1);refine A9 [0,1] ?_ [(0,3),(1,3),(4,3)];clear x1;exact⟨rfl,_,Kx rfl,zN _,rfl⟩
theorem vN(m:AF)(b:AL)(hb:b.length<70368744177664)(n:Nat)(b1:AL)(h1:E0 b=some (n,b1))(h2:Ig b1=none):MZ Tryz.prog 353 [.ptr 0 0 1,.ptr 1 0 1] (gH m b) (pF 12) gX:=by
 have c1:=C1 b hb n b1 h1;have c2:=VC b1 (by have:=Bn h1;omega) h2;refine zX AE Tryz.func353 ?_;unfold gH rH mC at *;have x1:=Ds.mk [3] (c2);refine Ax [0,1] ?_ (BJ [3] c1) [(0,3),(0,5),(1,3),(1,5),(4,3)];clear x1;exact⟨rfl,_,Kx rfl,zN _,rfl⟩
theorem xu(m:AF)(b:AL)(hb:b.length<70368744177664)(x:AS)(b1:AL)(h1:KU b=some (x,b1)):yT 347 [.ptr 0 0 1,.ptr 1 0 1] (gH m b) (.tup []) (gH {m with AC:=x} b1):=by
 have c1:=dj b hb x b1 h1;obtain⟨xk,xv,xn,xg⟩:=x;unfold AS.d AS.A4 at c1;refine zD AE Tryz.func347 ?_;unfold gH rH mC at *;refine Ax [0,1] ?_ (BJ [3] c1) [(0,2)];exact wE
theorem vI(m:AF)(b:AL)(hb:b.length<70368744177664)(h1:KU b=none):MZ Tryz.prog 347 [.ptr 0 0 1,.ptr 1 0 1] (gH m b) (pF 12) gX:=by
 have c1:=di b hb h1;refine zX AE Tryz.func347 ?_;unfold gH rH mC at *;have x1:=Ds.mk [3] (c1);refine A9 [0,1] ?_ [(0,2)];clear x1;exact⟨rfl,_,Kx rfl,zN _,rfl⟩
theorem xw(m:AF)(b:AL)(hb:b.length<70368744177664)(s b1:AL)(h1:KV b=some (s,b1)):yT 349 [.ptr 0 0 1,.ptr 1 0 1] (gH m b) (.tup []) (gH {m with AC:=⟨s,m.AC.B4,m.AC.AZ,m.AC.gone⟩} b1):=by
 have c1:=W6 b hb s b1 h1;refine zD AE Tryz.func349 ?_;unfold gH rH mC at *;refine Ax [0,1] ?_ (BJ [3] c1) [(0,2)];exact wE
theorem vJ(m:AF)(b:AL)(hb:b.length<70368744177664)(h1:KV b=none):MZ Tryz.prog 349 [.ptr 0 0 1,.ptr 1 0 1] (gH m b) (pF 12) gX:=by
 have c1:=eN b hb h1;refine zX AE Tryz.func349 ?_;unfold gH rH mC at *;have x1:=Ds.mk [3] (c1);refine A9 [0,1] ?_ [(0,2)];clear x1;exact⟨rfl,_,Kx rfl,zN _,rfl⟩
theorem xx(m:AF)(b:AL)(hb:b.length<70368744177664)(n:Nat)(b1:AL)(h1:E0 b=some (n,b1))(l:Ai)(b2:AL)(h2:MU b1=some (l,b2)):yT 351 [.ptr 0 0 1,.ptr 1 0 1] (gH m b) (.tup []) (gH {m with AH:=(n:Int)-1,AB:=l} b2):=by
 have c1:=C1 b hb n b1 h1;have c2:=VX b1 (by have:=Bn h1;omega) l b2 h2;have hn:=dh h1;refine zD AE Tryz.func351 ?_;unfold gH rH mC at *;refine Ax [0,1] ?_ (BJ [3] c1) [(0,2)] [1];refine Ax [0,1] ?_ (BJ [3] c2) [(0,2)];exact wE
theorem vK(m:AF)(b:AL)(hb:b.length<70368744177664)(h1:E0 b=none):MZ Tryz.prog 351 [.ptr 0 0 1,.ptr 1 0 1] (gH m b) (pF 12) gX:=by
 have c1:=Da b hb h1;refine zX AE Tryz.func351 ?_;unfold gH rH mC at *;have x1:=Ds.mk [3] (c1);refine A9 [0,1] ?_ [(0,2)] [1];clear x1;exact⟨rfl,_,Kx rfl,zN _,rfl⟩
theorem vL(m:AF)(b:AL)(hb:b.length<70368744177664)(n:Nat)(b1:AL)(h1:E0 b=some (n,b1))(h2:MU b1=none):MZ Tryz.prog 351 [.ptr 0 0 1,.ptr 1 0 1] (gH m b) (pF 12) gX:=by
 have c1:=C1 b hb n b1 h1;have c2:=rU b1 (by have:=Bn h1;omega) h2;have hn:=dh h1;refine zX AE Tryz.func351 ?_;unfold gH rH mC at *;refine Ax [0,1] ?_ (BJ [3] c1) [(0,2)] [1];have x1:=Ds.mk [3] (c2);refine A9 [0,1] ?_ [(0,2)];clear x1;exact⟨rfl,_,Kx rfl,zN _,rfl⟩
theorem xz(m:AF)(b:AL)(hb:b.length<70368744177664)(n:Nat)(b1:AL)(h1:E0 b=some (n,b1))  :yT 354 [.ptr 0 0 1,.ptr 1 0 1] (gH m b) (.tup []) (gH {m with Aa:=(n:Int)} b1):=by
 have c1:=C1 b hb n b1 h1;refine zD AE Tryz.func354 ?_;unfold gH rH mC at *;refine Ax [0,1] ?_ (BJ [3] c1) [(0,2)];exact wE
theorem vO(m:AF)(b:AL)(hb:b.length<70368744177664)(h1:E0 b=none):MZ Tryz.prog 354 [.ptr 0 0 1,.ptr 1 0 1] (gH m b) (pF 12) gX:=by
 have c1:=Da b hb h1;refine zX AE Tryz.func354 ?_;unfold gH rH mC at *;have x1:=Ds.mk [3] (c1);refine A9 [0,1] ?_ [(0,2)];clear x1;exact⟨rfl,_,Kx rfl,zN _,rfl⟩
theorem y3(m:AF)(b:AL)(hb:b.length<70368744177664)(n:Nat)(b1:AL)(h1:E0 b=some (n,b1))(hn:n≠0):yT 355 [.ptr 0 0 1,.ptr 1 0 1] (gH m b) (.tup []) (gH {m with Aa:=(n:Int)} b1):=by
 have c1:=C1 b hb n b1 h1;have f:=eq_false' (show(n:Int)≠0 by omega);refine zD AE Tryz.func355 ?_;unfold gH rH mC at *;refine Cd [0,1,11] ?_ (AK f) (BJ [3] c1) [(0,2)];exact wE
theorem vP(m:AF)(b:AL)(hb:b.length<70368744177664)(h1:E0 b=none):MZ Tryz.prog 355 [.ptr 0 0 1,.ptr 1 0 1] (gH m b) (pF 12) gX:=by
 have c1:=Da b hb h1;refine zX AE Tryz.func355 ?_;unfold gH rH mC at *;have x1:=Ds.mk [3] (c1);refine A9 [0,1,11] ?_ [(0,2)];clear x1;exact⟨rfl,_,Kx rfl,zN _,rfl⟩
theorem vR(m:AF)(b:AL)(hb:b.length<70368744177664)(b1:AL)(h1:E0 b=some (0,b1))(x:AS)(b2:AL)(h2:KU b1=some (x,b2)):yT 355 [.ptr 0 0 1,.ptr 1 0 1] (gH m b) (.tup []) (gH {m with Aa:=0,AC:=x} b2):=by
 have c1:=C1 b hb 0 b1 h1;have c2:=dj b1 (by have:=Bn h1;omega) x b2 h2;obtain⟨xk,xv,xn,xg⟩:=x;unfold AS.d AS.A4 at c2;refine zD AE Tryz.func355 ?_;unfold gH rH mC at *;refine Ax [0,1,11] ?_ (H0 [3] c1 [3] c2) [(0,2)];exact wE
theorem vQ(m:AF)(b:AL)(hb:b.length<70368744177664)(b1:AL)(h1:E0 b=some (0,b1))(h2:KU b1=none):MZ Tryz.prog 355 [.ptr 0 0 1,.ptr 1 0 1] (gH m b) (pF 12) gX:=by
 have c1:=C1 b hb 0 b1 h1;have c2:=di b1 (by have:=Bn h1;omega) h2;refine zX AE Tryz.func355 ?_;unfold gH rH mC at *;have x1:=Ds.mk [3] (c2);refine Ax [0,1,11] ?_ (BJ [3] c1) [(0,2)];clear x1;exact⟨rfl,_,Kx rfl,zN _,rfl⟩
end Wi
end Go.Proofs.YtamjpnmjpponpaaGreatDoor
namespace Go.Proofs.YtamjpnmjpponpaaGreatDoor
namespace Nd
open Go.Gar
open Wi (AF BV B7)
theorem SI(a x b:Int):yS 310 [.yX a,.yX x,.yX b] (.b (Kk a x b)):=by
 have c1:=Iu a x;have c2:=Iu a b;refine zF AE Tryz.func310 ?_;have h1:Ba a b=0↔DN a=DN b:=by unfold Ba DN;omega
 have h2:Ba a x>0↔DN x≠DN a:=by unfold Ba DN;omega
 have hT:Kk a x b=if Ba a b=0 then decide (Ba a x>0)else decide (Ba a x>0/\Ba a x<Ba a b):=by
  unfold Kk
  by_cases h:Ba a b=0
  .rw[zn h,zn (h1.1 h)]
   by_cases h3:Ba a x>0
   .rw[zU h3,zU (h2.1 h3)]
   .rw[zQ h3,zQ (fun h4=>h3 (h2.2 h4))]
  .rw[zx h,zx (fun h4=>h (h1.2 h4))]
 generalize Kk a x b=R at *;clear h1 h2;generalize Ba a x=u at *;generalize Ba a b=w at *;refine AO [0,1,2,6,7,8,16] ?_ (Au @c1 @c2);repeat'(apply zB<;>intro hc)
 all_goals(clear c1 c2;refine⟨_,_,rfl,rfl,?_⟩;simp only[C7];refine congrArg D.b ?_;rw[hT];clear hT;grind)
end Nd
end Go.Proofs.YtamjpnmjpponpaaGreatDoor
namespace Go.Proofs.YtamjpnmjpponpaaGreatDoor
open Go.Gar
theorem KE:∀(k:Nat)(r:AL)(acc:Ai),(HC k r acc).1.length<=acc.length+k
 |0,r,acc=>by simp[HC]
 |k+1,r,acc=>by
  simp only[HC];split
  .have:=KE k (Cq r).2.1 (acc++[((Cq r).1:Int)]);simp only[q04,q02,q0B]at this;omega
  .simp
end Go.Proofs.YtamjpnmjpponpaaGreatDoor
namespace Go.Proofs.YtamjpnmjpponpaaGreatDoor
namespace Wi
open Go.Gar
theorem bF{n k:Nat}(h:n<256^k):size n<=k:=by
 rcases q0C k (size n)with h2|h2
 .have:=size_pos.2 h2;rw[Nat.div_eq_of_lt h]at this;omega
 .exact h2
theorem Ci{n:Int}(k:Nat)(h:n<((256^k:Nat):Int)):(EH n.toNat).length<=k+1:=by
 have:size n.toNat<=k:=by
  rcases q1F n.toNat with h0|h0
  .rw[h0];exact q0L (by decide) (zi k)
  .exact bF om
 simp[EH,X3];omega
theorem UO{x:AS}(h:B7 x=true):(Q2 x).length<=31:=by
 simp only[B7,zO,isVal,Bp,zW]at h;obtain⟨⟨⟨h1,h2⟩,⟨h3,h4⟩⟩,⟨h5,h6⟩⟩:=h;have a1:=Ci (n:=x.B4) 3 om;have a2:=Ci (n:=x.AZ) 3 om;have a3:=Ci (n:=MF x.gone) 1 (by cases x.gone<;>decide);simp only[Q2,O9,Bi,q04,q02,q0B];omega
theorem gf{m:AF}(h:m.right=true):(dS m).length<=32:=by
 obtain⟨_,_,_,_,_,hh⟩:=Qo h;unfold dS;unfold AF.has at hh
 by_cases h4:m.AN=4
 .rw[zn h4]at hh|-;have:=GC hh;have a1:=Ci (n:=m.AI) 2 om;have a3:=Ci (n:=MF m.BA) 1 (by cases m.BA<;>decide);simp only[Bi,q04,q0B];omega
 rw[zx h4]at hh|-
 by_cases h5:m.AN=5
 .rw[zn h5]at hh|-;have:=UO hh;omega
 rw[zx h5]at hh|-
 by_cases h6:m.AN=6
 .rw[zn h6]at hh|-;simp only[zO]at hh;have:=hh.1;simp only[B7,Bp,zO,zW]at this;simp only[O9,q02];omega
 rw[zx h6]at hh|-
 by_cases h7:m.AN=7
 .rw[zn h7]at hh|-;simp only[zO,q0j,zW]at hh
  have hp:m.AH+1<16777216:=by
   rcases hh.1 with h|h
   .omega
   .have:=GC h;omega
  have a1:=Ci (n:=m.AH+1) 3 om;have hL:=Y4 hh.2
  have hall:∀l:Ai,Fw m.B8 l=true->(Bi l).length<=3*l.length:=by
   intro l
   induction l with
   |nil=>simp[Bi]
   |cons x r ih=>
    intro hr;simp only[Fw,q15,zO]at hr;have:=GC hr.1.1;have a2:=Ci (n:=x) 2 om;have:=ih hr.2;simp only[Bi,q04,q02];omega
  have h2:=hh.2;simp only[F1,zO]at h2;have:=hall m.AB h2.1.1;simp only[Bi,q04,q0B,q02];omega
 rw[zx h7]at hh|-
 by_cases h10:m.AN=10
 .rw[zn h10]at hh|-;have:=GC hh;have a1:=Ci (n:=m.AP) 2 om;have a3:=Ci (n:=MF m.done) 1 (by cases m.done<;>decide);simp only[Bi,q04,q0B];omega
 rw[zx h10]at hh|-
 by_cases h11:m.AN=11
 .rw[zn h11]at hh|-;simp only[q0j,zW]at hh;have a1:=Ci (n:=m.Aa) 1 (by rcases hh with h|h<;>rw[h]<;>decide);simp only[Bi,q04,q0B];omega
 rw[zx h11]at hh|-
 by_cases h12:m.AN=12
 .rw[zn h12]at hh|-;simp only[q0j,zO,zW]at hh;rcases hh with⟨h0,h1⟩|⟨h0,h1⟩
  .have:=UO h1;rw[zn h0,h0];have e:(Bi [0]).length=1:=by decide
   simp only[q04];omega
  .rw[zx om,h0]
   decide
 rw[zx h12];simp
theorem nk{m:AF}(h:m.right=true):(PT m).length<=46:=by
 have hm:=gf h;obtain⟨⟨h1,h2⟩,⟨h3,h4⟩,_,⟨h5,h6⟩,_,_⟩:=Qo h;have ha:=bp h;have:=GC h3;have:=GC h4;have a1:=Ci (n:=m.AN) 1 om;have a2:=Ci (n:=m.Ae) 5 om;have a3:=Ci (n:=m.B8) 2 om;have a4:=Ci (n:=m.dst) 2 om;simp only[PT,Bi,q04,q0B];omega
end Wi
end Go.Proofs.YtamjpnmjpponpaaGreatDoor
