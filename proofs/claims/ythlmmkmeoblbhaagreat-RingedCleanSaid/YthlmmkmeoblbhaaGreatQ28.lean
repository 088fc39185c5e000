/- Part 28 of a proof. Conditions: those that its theorems state. -/
import Derived.Test.YthlmmkmeoblbhaaGreatQ27
set_option linter.unusedSimpArgs false
set_option linter.unusedVariables false
set_option linter.unnecessarySimpa false
set_option maxHeartbeats 40000000
set_option maxRecDepth 4000
namespace Go.Proofs.YthlmmkmeoblbhaaGreat
namespace Nd
open Go.Gar
open Wi (AE BE Ay CG Ac)
set_option maxRecDepth 8000
abbrev HJ:BK:=[0,1,2,3,4,5,6,7,8,27,31,46,51]
abbrev I5:BK:=[0,1,2,4,5,6,8,9,10,31,55]
def vj(c:CS):yz:=[.gone,.a (.is c.gone),.gone,.gone,.gone,.a (A7 c.nodes)]
theorem UT(l:Ao)(p:Int)(h:l.length<=1000):yB 46 [.sl 0 l.length 1,.y5 p] [.a (.is l)] (.y7 (decide (p∈l))) [.a (.is l)]:=
 Fn.read (L5 l p om) rfl (by simp only[Ea,D5];exact⟨_,_,rfl,⟨rfl,rfl⟩,_,_,rfl,rfl,rfl⟩)
theorem wo{α:Type}(l:List α)(k:Nat){x:α}(hx:l[k]? =some x):(l.take (k+1)).eraseIdx k=(l.take k).eraseIdx k:=by
 have hk:=(yZ.1 hx).1;rw[AM hx,List.eraseIdx_append_of_length_le (by rw[q09];omega),q09,Nat.min_eq_left om,Nat.sub_self,List.eraseIdx_of_length_le (l:=l.take k) (by rw[q09];omega)];simp
theorem wt{α:Type}(l:List α)(a k:Nat){x:α}(hx:l[k]? =some x)(h:k≠a):(l.take (k+1)).eraseIdx a=(l.take k).eraseIdx a++[x]:=by
 have hk:=(yZ.1 hx).1;have hl:(l.take k).length=k:=by rw[q09];omega
 rw[AM hx]
 by_cases h1:a<k
 .rw[List.eraseIdx_append_of_lt_length om]
 .rw[List.eraseIdx_of_length_le (by rw[yw];simp only[yu,zI];omega),List.eraseIdx_of_length_le om]
theorem qV(c:CS)(p:Int)(lv:Bool)(hg:DX c.nodes p=none\/p∈c.A2\/c.gone.length>=1000):GL c p lv=(c,2):=by
 unfold GL
 cases hi:DX c.nodes p with
 |none=>rfl
 |some i=>
  dsimp only;rw[zN];rcases hg with e|e
  .rw[hi]at e;cases e
  .exact e
theorem o5(c:CS)(s:Step)(h:CW c)(hg:DX c.nodes s.a=none\/s.a∈c.A2\/c.gone.length>=1000):
  yB 50 [.ag (cX c 0 1),.d s.d] [.a (A7 c.nodes),.a (.is c.gone)] (.tup [.ag (cX c 0 1),.y5 2]) [.a (A7 c.nodes),.a (.is c.gone)]:=by
 have hl:=h.len';have d1:=JX c s.a hl.1;rw[M3]at d1;have c2:=L5 c.A2 s.a om;refine zC AK Tryz.func50 ?_;clear h;unfold cX Step.d Step.A1 at*
 cases hi:DX c.nodes s.a with
 |none=>
  rw[hi]at d1;dsimp only at d1;refine Cd HJ ?_ (E8 [0,1] d1);with_reducible repeat' first|constructor|intro hc
  exact EZ
 |some i=>
  rw[hi]at d1;dsimp only at d1;have f1:decide ((i:Int)<0)=false:=yY om
  by_cases hb:s.a∈c.A2
  .rw[yX hb]at c2;refine EL HJ ?_ (AQ f1) (AQ @c2) (E8 [0,1] d1);with_reducible repeat' first|constructor|intro hc
   exact EZ
  .rw[yY hb]at c2
   have f2:decide ((c.gone.length:Int)>=1000)=true:=yX (by
    rcases hg with e|e|e
    .rw[hi]at e;cases e
    .exact absurd e hb
    .omega)
   refine EL HJ ?_ (B1 f1 f2) (AQ @c2) (E8 [0,1] d1);with_reducible repeat' first|constructor|intro hc
   exact EZ
theorem iQ(c:CS)(s:Step)(h:CW c)(hk:s.AG=8\/s.AG=9){i:Nat}(hi:DX c.nodes s.a=some i)(hb:s.a∉c.A2)(hg:c.gone.length<1000):
  yB 50 [.ag (cX c 0 1),.d s.d] [.a (A7 c.nodes),.a (.is c.gone)] (.tup [.ag (cX (GL c s.a (decide (s.AG=9))).1 5 1),.y5 0]) (vj (GL c s.a (decide (s.AG=9))).1):=by
 have hl:=h.len';have d1:=JX c s.a hl.1;rw[M3,hi]at d1;have c2:=L5 c.A2 s.a om;rw[yY hb]at c2;obtain⟨n,h1,h2,h3,_⟩:=h.node hi;have hlt:=(yZ.1 h1).1;have f1:decide ((i:Int)<0)=false:=yY om;have f2:decide ((c.gone.length:Int)>=1000)=false:=yY om
 have hT:(GL c s.a (decide (s.AG=9))).1=⟨c.nodes.eraseIdx i,c.gone++[s.a],c.A2,if decide (s.AG=9)=true then Bg.I4 c.bag (GP n)else c.bag⟩:=by
  unfold GL;rw[hi];dsimp only;rw[zO (fun e=>e.elim hb (fun e=>om)),h2]
 rw[hT];clear hT;have c3:=Z4 h3
 have c4:=Bg.Ia c.bag (GP n) om h.b.sm' (by
   have:=(Uq h3).1;have:=(CI.1 (Al.1 h3.r).2.2.2.2.2.2.1).1
   omega) (IS (mP h3))
 clear h hb h2 hi h3;generalize Bg.I4 c.bag (GP n)=b1 at *;generalize GP n=g at *;obtain⟨nodes,gone,A2,bag⟩:=c;obtain⟨AG,a,sb,sc,y,it⟩:=s;dsimp only at *;obtain⟨B,hB⟩:∃B,B=(if decide (AG=9)=true then b1 else bag):=⟨_,rfl⟩;rw[<-hB];have hE:(nodes.take nodes.length).eraseIdx i=nodes.eraseIdx i:=by rw[zU]
 rw[<-hE];refine zC AK Tryz.func50 ?_;unfold vj;unfold Bg.Dr.d A6.d A6.A1 AB.A1 Calls.A1 B5.A1 at *;unfold cX Step.d Step.A1 at *;simp only[zA,zK]at *;rcases hk with rfl|rfl
 case' inl=>
  replace hB:B=bag:=hB;subst hB;clear c3 c4;refine EL HJ ?_ (B1 f1 f2) (AQ @c2) (E8 [0,1] d1) [] [4];with_reducible repeat' first|constructor|intro hc
  refine Av (A5.freeze 0 (x:=A7 nodes) rfl) (by rw[Dq];exact yV _) ?_;simp only[NE,Eg,AF.FK,AV.FK,AV.F3,LO,Nat.reduceEqDiff,Nat.reduceAdd,decide_true,q1J,B3,zY,zx,zo,reduceCtorEq];refine A9 HJ ?_;with_reducible repeat' first|constructor|intro hc
 case' inr=>
  replace hB:B=b1:=hB;subst hB;refine EL HJ ?_ (B1 f1 f2) (AQ @c2) (E8 [0,1] d1) [] [4];with_reducible repeat' first|constructor|intro hc
  refine Av (A5.freeze 0 (x:=A7 nodes) rfl) (by rw[Dq];exact yV _) ?_;simp only[NE,Eg,AF.FK,AV.FK,AV.F3,LO,Nat.reduceEqDiff,Nat.reduceAdd,decide_true,q1J,B3,zY,zx,zo,reduceCtorEq];have ix1:=h1;refine AP HJ ?_ (B1 @c3 @c4);clear ix1;with_reducible repeat' first|constructor|intro hc
 all_goals
  refine Av (A5.EQ 7 (.sl 76 []) rfl rfl rfl (by simp[Aq])) sm ?_;refine CO (fun k=>k<=nodes.length) (fun k:Nat=>[(7,.sl 5 ((nodes.take k).eraseIdx i).length 76),(8,.y5 k)]) (fun k=>[(5,.a (A7 ((nodes.take k).eraseIdx i)))]) (fun k=>nodes.length-k) 0 (yx _) (fun _=>rfl) (fun _=>rfl) ?_ ?_
  .exact A5.ck rfl
  intro k hk;have htl:((nodes.take k).eraseIdx i).length<=k:=q0E (List.length_eraseIdx_le ..) (q0Q _ _)
  by_cases hkl:k<nodes.length
  .obtain⟨x,hx⟩:=AS hkl
   by_cases hki:k=i
   .have hn:=wo nodes k hx;have g1:((k:Int)!=(i:Int))=false:=BJ om;rw[hki]at hn;refine Ae HJ ?_ (AQ g1);with_reducible repeat' first|constructor|intro hc
    refine⟨k+1,hkl,om,yV _,?_⟩;rw[hki];exact A5.cut rfl (by repeat'(first|exact zi|refine yg (by(first|rfl|((with_reducible_and_instances refine congrArg (fun z=>some (AV.d (D.i _ z))) ?_);omega)|(refine congrArg (fun z=>some (AV.d (D.i _ z))) (?_:(_:Int)=_);omega)|(refine congrArg some ?_;simp only[hn];done)|(refine congrArg some ?_;simp[hn];done))) ?_)) (by repeat'(first|exact zi|refine yg (q0D rfl) ?_|refine yg (q0w ⟨rfl,rfl⟩) ?_|refine yg (q0D (by simp only[hn])) ?_|refine yg (q0D (by simp[hn])) ?_)) (by first|rfl|(simp(decide:=true) [Ai,AF.ok,AV.oks,AV.ok,hk];done)) rfl
   .have hn:=wt nodes i k hx hki;have g1:((k:Int)!=(i:Int))=true:=Bp om;have ix1:=hx;refine Ae HJ ?_ (AQ g1);clear ix1;with_reducible repeat' first|constructor|intro hc
    refine⟨k+1,hkl,om,yV _,?_⟩;exact A5.cut rfl (by repeat'(first|exact zi|refine yg (by(first|rfl|((with_reducible_and_instances refine congrArg (fun z=>some (AV.d (D.i _ z))) ?_);omega)|(refine congrArg (fun z=>some (AV.d (D.i _ z))) (?_:(_:Int)=_);omega)|(refine congrArg some ?_;simp only[hn,A7,zS,zV,zh,A6.A1,AB.A1,Calls.A1,B5.A1,zA,zK,yw,yu,zI,zY];done)|(refine congrArg some ?_;simp[hn,A7,zS,zV,zh,A6.A1,AB.A1,Calls.A1,B5.A1,zA,zK,yw,yu,zI,zY];done))) ?_)) (by repeat'(first|exact zi|refine yg (q0D rfl) ?_|refine yg (q0w ⟨rfl,rfl⟩) ?_|refine yg (q0D (by simp only[hn,A7,zS,zV,zh,A6.A1,AB.A1,Calls.A1,B5.A1,zA,zK,yw,yu,zI,zY])) ?_|refine yg (q0D (by simp[hn,A7,zS,zV,zh,A6.A1,AB.A1,Calls.A1,B5.A1,zA,zK,yw,yu,zI,zY])) ?_)) (by first|rfl|(simp(decide:=true) [Ai,AF.ok,AV.oks,AV.ok,hk];done)) rfl
  .have e:k=nodes.length:=om
   subst e;refine A9 HJ ?_;with_reducible repeat' first|constructor|intro hc
   exact EZ
theorem dx{p:Int}{A2:Ao}(hp:BE p=true)(hb:Ga A2=true):I3 p A2=De p A2:=by
 obtain⟨e,h,_⟩:=T7 hp hb;have h0:(newT p A2).2=0:=q1A fun hn=>by unfold De at e;rw[zO hn]at e;cases e
 have e1:De p A2=(⟨(newT p A2).1,0,⟨p,0,[]⟩,[],0,0,Hb,Hb,Hb,0,[],[],0⟩,0):=by unfold De;rw[zN h0,zN hp]
 have hc:Bc ⟨p,0,[]⟩=true:=by
  have h1:=h.cB.1;rw[e1]at h1;exact h1
 have hn:newC p=(⟨p,0,[]⟩,0):=by unfold newC;rw[zN hc]
 unfold I3;rw[hn,e1,zN ⟨h0,rfl⟩]
variable {c:CS}
theorem uI(h:CW c){p:Int}{k:Nat}(hk:k<=c.nodes.length)(h1:∀j y,j<k->c.nodes[j]? =some y->y.A4.id<p)(h2:∀y,c.nodes[k]? =some y->¬y.A4.id<p):U7 c.nodes p c.nodes.length=k:=by
 obtain⟨a1,a2,a3⟩:=Ru c.nodes p c.nodes.length;rcases Nat.lt_trichotomy (U7 c.nodes p c.nodes.length) k with hlt|he|hgt
 .exfalso;obtain⟨y,hy⟩:=AS (xs:=c.nodes) (k:=U7 c.nodes p c.nodes.length) om;have:=a2 _ (yV _) om;rw[getD_at hy]at this;exact this (h1 _ y hlt hy)
 .exact he
 .exfalso;obtain⟨y,hy⟩:=AS (xs:=c.nodes) (k:=k) om;obtain⟨z,hz⟩:=AS (xs:=c.nodes) (k:=U7 c.nodes p c.nodes.length-1) om;have hlast:=a3 om;rw[getD_at hz]at hlast
  by_cases e:k=U7 c.nodes p c.nodes.length-1
  .rw[<-e]at hz;rw[hy]at hz;cases hz;exact h2 y hy hlast
  .have:=X6 h.n.r (Qr hy) (Qr hz) om;exact h2 y hy om
theorem nY(c:CS)(p:Int)(h:CW c)(hj:QM c p=false):
  yB 49 [.ag (cX c 0 1),.y5 p] [.a (A7 c.nodes),.a (.is c.gone)] (.tup [.ag (cX c 0 1),.y5 2]) [.a (A7 c.nodes),.a (.is c.gone)]:=by
 have hl:=h.len';have q1:=JX c p hl.1;have q2:=UT c.gone p om;have c1:=Fi p;have hge:decide (E3 (GZ p) c.nodes>=0)=By c.nodes p:=GM (GZ p) c.nodes;unfold QM at hj;clear h;generalize E3 (GZ p) c.nodes=z at *;generalize By c.nodes p=b1 at *;generalize BE p=b2 at *;generalize decide (p∈c.gone)=b3 at *;refine zC AK Tryz.func49 ?_;unfold cX at*
 have f12:decide ((c.nodes.length:Int)>=12)= !decide (c.nodes.length<12):=by
  rw[Bool.eq_iff_iff];simp;omega
 generalize decide (c.nodes.length<12)=b4 at*
 cases b2 with
 |false=>
  refine EL I5 ?_ (B1 hge f12) (AQ @c1) (QZ [0,1] q1 [1] q2);with_reducible repeat' first|constructor|intro hc
  exact EZ
 |true=>
 cases b1 with
 |true=>
  refine EL I5 ?_ (B1 hge f12) (AQ @c1) (QZ [0,1] q1 [1] q2);with_reducible repeat' first|constructor|intro hc
  exact EZ
 |false=>
 cases b3 with
 |true=>
  refine EL I5 ?_ (B1 hge f12) (AQ @c1) (QZ [0,1] q1 [1] q2);with_reducible repeat' first|constructor|intro hc
  exact EZ
 |false=>
 cases b4 with
 |true=>cases hj
 |false=>
  refine EL I5 ?_ (B1 hge f12) (AQ @c1) (QZ [0,1] q1 [1] q2);with_reducible repeat' first|constructor|intro hc
  exact EZ
theorem iF(c:CS)(p:Int)(h:CW c)(hj:QM c p=true):
  yB 49 [.ag (cX c 0 1),.y5 p] [.a (A7 c.nodes),.a (.is c.gone)] (.tup [.ag (cX (HP c p).1 5 1),.y5 0]) (vj (HP c p).1):=by
 have hl:=h.len';have q1:=JX c p hl.1;have q2:=UT c.gone p om;have c1:=Fi p;have hge:decide (E3 (GZ p) c.nodes>=0)=By c.nodes p:=GM (GZ p) c.nodes
 have hT:(HP c p).1=⟨PW c.nodes (U7 c.nodes p c.nodes.length) (De p c.A2).1,c.gone,c.A2,c.bag⟩:=by
  unfold HP;rw[zN hj]
 unfold QM at hj;simp only[yU,q0H,yc,zn]at hj;obtain⟨j1,j2,j3,j4⟩:=hj;rw[j1]at c1;rw[j2]at hge;rw[yY j3]at q2;have c4:=Ti p c.A2 (DW (by rw[CU];exact j1)) om;rw[dx j1 h.n.b]at c4;have f1:decide ((c.nodes.length:Int)>=12)=false:=yY om;rw[hT];clear hT j1 j2 j3;have hat:=fun k=>uI h (p:=p) (k:=k)
 clear h;generalize De p c.A2=nn at *;obtain⟨n,e⟩:=nn;generalize E3 (GZ p) c.nodes=z at *;generalize U7 c.nodes p c.nodes.length=A at *;obtain⟨nodes,gone,A2,bag⟩:=c;dsimp only at *;unfold A6.d A6.A1 AB.A1 Calls.A1 B5.A1 at c4;simp only[zA,zK]at c4
 have hNL:A<=nodes.length->A7 (nodes.take A++n::nodes.drop A)= .sl 76 (List.map A6.A1 (nodes.take A)++nX n::List.drop (nodes.take A).length (List.map A6.A1 nodes))/\(nodes.take A++n::nodes.drop A).length=(List.map A6.A1 (nodes.take A)++nX n::List.drop (nodes.take A).length (List.map A6.A1 nodes)).length:=fun hA=>by
  have hl:(nodes.take A).length=A:=by rw[q09];omega
  unfold A7;rw[hl,zS,zV,List.map_drop];refine⟨rfl,?_⟩;simp
 refine zC AK Tryz.func49 ?_;unfold vj PW;unfold cX at *;dsimp only;refine EL I5 ?_ (B1 hge f1) (AQ @c1) (QZ [0,1] q1 [1] q2) [] [3];with_reducible repeat' first|constructor|intro hc
 refine Av (A5.freeze 0 (x:=A7 nodes) rfl) (by rw[Dq];exact yV _) ?_;simp only[NE,Eg,AF.FK,AV.FK,AV.F3,LO,Nat.reduceEqDiff,Nat.reduceAdd,decide_true,q1J,B3,zY,zx,zo,reduceCtorEq];refine AP I5 ?_ (AQ @c4);with_reducible repeat' first|constructor|intro hc
 refine Av (A5.EQ 8 (.sl 76 []) rfl rfl rfl (by simp[Aq])) sm ?_;refine CO (fun k=>k<=nodes.length/\∀j y,j<k->nodes[j]? =some y->y.A4.id<p) (fun k:Nat=>[(8,.sl 5 (nodes.take k).length 76),(9,.y5 k)]) (fun k=>[(5,.a (A7 (nodes.take k)))]) (fun k=>nodes.length-k) 0 ⟨yx _,fun j y h=>absurd h (Nat.not_lt_zero _)⟩ (fun _=>rfl) (fun _=>rfl) ?_ ?_
 .exact A5.ck rfl
 rintro k ⟨hk,hpre⟩;have htl:(nodes.take k).length=k:=by rw[q09];omega
 by_cases hkl:k<nodes.length
 .obtain⟨x,hx⟩:=AS hkl
  by_cases hb:x.A4.id<p
  .have f2:decide (x.A4.id<p)=true:=yX hb;have hn:=AM hx;have ix1:=hx;refine Ae I5 ?_ (AQ f2);clear ix1;with_reducible repeat' first|constructor|intro hc
   refine⟨k+1,⟨hkl,fun j y hj hy=> ?_⟩,om,yV _,?_⟩
   .by_cases e:j=k
    .subst e;rw[hx]at hy;cases hy;exact hb
    .exact hpre j y om hy
   exact A5.cut rfl (by repeat'(first|exact zi|refine yg (by(first|rfl|((with_reducible_and_instances refine congrArg (fun z=>some (AV.d (D.i _ z))) ?_);omega)|(refine congrArg (fun z=>some (AV.d (D.i _ z))) (?_:(_:Int)=_);omega)|(refine congrArg some ?_;simp only[hn,A7,zS,zV,zh,A6.A1,AB.A1,Calls.A1,B5.A1,zA,zK,yw,yu,zI,zY];done)|(refine congrArg some ?_;simp[hn,A7,zS,zV,zh,A6.A1,AB.A1,Calls.A1,B5.A1,zA,zK,yw,yu,zI,zY];done))) ?_)) (by repeat'(first|exact zi|refine yg (q0D rfl) ?_|refine yg (q0w ⟨rfl,rfl⟩) ?_|refine yg (q0D (by simp only[hn,A7,zS,zV,zh,A6.A1,AB.A1,Calls.A1,B5.A1,zA,zK,yw,yu,zI,zY])) ?_|refine yg (q0D (by simp[hn,A7,zS,zV,zh,A6.A1,AB.A1,Calls.A1,B5.A1,zA,zK,yw,yu,zI,zY])) ?_)) (by first|rfl|(simp(decide:=true) [Ai,AF.ok,AV.oks,AV.ok,hk];done)) rfl
  .have f2:decide (x.A4.id<p)=false:=yY hb;have hA:=hat k hk hpre (fun y hy=>by rw[hx]at hy;cases hy;exact hb);subst hA;rw[(hNL hk).1,(hNL hk).2];have ix1:=hx;refine Ae I5 ?_ (AQ f2);clear ix1;with_reducible repeat' first|constructor|intro hc
   exact EZ
 .have e:k=nodes.length:=om
  have hA:=hat k hk hpre (fun y hy=>by have:=(yZ.1 hy).1;omega);subst hA;rw[(hNL hk).1,(hNL hk).2];refine A9 I5 ?_;with_reducible repeat' first|constructor|intro hc
  exact EZ
abbrev JG:BK:=[0,1,2,3,4,5,6,8,9,18,26,34,42]
def xr(c:CS):yz:=[.gone,.a (.is c.gone),.gone,.gone,.gone,.gone,.gone,.gone,.a (A7 c.nodes)]
abbrev XH(c:CS):yz:=[.a (A7 c.nodes),.a (.is c.gone)]
def CJ(c:CS):Prop:=∀n∈c.nodes,NJ n
theorem mf(p:Int)(A2:Ao):NJ (De p A2).1:=by
 unfold De
 repeat' split
 all_goals exact⟨HQ sm,HQ sm,HQ sm⟩
theorem Ol(h:CJ c)(s:Step):CJ (stepS c s).1:=by
 have hget:∀i,NJ (c.nodes.getD i D2):=fun i=>by
  rw[zJ]
  cases hi:c.nodes[i]? with
  |none=>exact⟨HQ sm,HQ sm,HQ sm⟩
  |some x=>exact h x (zM hi)
 have hset:∀i m,NJ m->∀n∈c.nodes.set i m,NJ n:=fun i m hm n hn=>by
  rcases q0t hn with hn|rfl
  .exact h n hn
  .exact hm
 have hask:∀p AR x,CJ (IK c p AR x).1:=fun p AR x=>by
  unfold IK;split
  .split
   .exact hset _ _ (uG (hget _) _ _)
   .exact h
  .exact h
 have hbag:∀r,CJ (Nn c r).1:=fun r=>by
  unfold Nn;split<;>exact h
 unfold stepS;split
 .unfold J9;split
  .exact hset _ _ (sf (hget _))
  .exact h
 split
 .unfold DU;split
  .unfold Uh;split
   .exact hset _ _ (sZ (hget _) _)
   .exact h
  .exact h
 split
 .exact hbag _
 split
 .exact hbag _
 split
 .unfold Sj;split
  .exact hbag _
  .exact h
 split
 .unfold m5;split<;>exact h
 split
 .unfold HP;split
  .intro n hn;rcases Qv.1 hn with rfl|hn
   .exact mf _ _
   .exact h n hn
  .exact h
 split
 .unfold GL;split
  .split
   .exact h
   .exact fun n hn=>h n (q1P hn)
  .exact h
 split
 .unfold GL;split
  .split
   .exact h
   .exact fun n hn=>h n (q1P hn)
  .exact h
 split
 .exact hask _ _ _
 split
 .exact hask _ _ _
 .exact h
theorem Xb(c:CS)(p AR:Int)(x:AL):(IK c p AR x).1.gone=c.gone:=by
 unfold IK
 cases DX c.nodes p with
 |none=>rfl
 |some i=>dsimp only;split<;>rfl
def Nl(c:CS)(s:Step):Prop:=yB 21 [.ag (cX c 0 1),.d s.d] (XH c) (.tup [.ag (cX (stepS c s).1 0 1),.y5 ((stepS c s).2)]) (XH (stepS c s).1)
def Moves(c:CS)(s:Step):Prop:=(stepS c s).2=0/\yB 21 [.ag (cX c 0 1),.d s.d] (XH c) (.tup [.ag (cX (stepS c s).1 8 1),.y5 0]) (xr (stepS c s).1)
theorem NV(c:CS)(s:Step)(r:CS×Int)(h:CW c)(hk:s.AG=1\/s.AG=10\/s.AG=11)(hn:DX c.nodes s.a=none->r=(c,2))(hg:r.1.gone=c.gone)
  (hr:∀i,DX c.nodes s.a=some i->yB 47 [.ag (cX c 0 1),.d s.d,.y5 i] (XH c) (.tup [.ag (cX r.1 0 1),.y5 r.2]) [.a (A7 r.1.nodes),.a (.is c.gone)]):
  yB 21 [.ag (cX c 0 1),.d s.d] (XH c) (.tup [.ag (cX r.1 0 1),.y5 r.2]) (XH r.1):=by
 have hl:=h.len';have d1:=JX c s.a hl.1;rw[M3]at d1;unfold XH at *;rw[hg];refine zC AK Tryz.func21 ?_;clear h;obtain⟨r1,r2⟩:=r;dsimp only at *;obtain⟨AG,a,sb,sc,y,it⟩:=s;dsimp only at *;unfold cX Step.d Step.A1 at*
 cases hi:DX c.nodes a with
 |none=>
  cases hn hi;rw[hi]at d1;dsimp only at d1;clear hr hn;rcases hk with rfl|rfl|rfl
  all_goals
   refine Cd JG ?_ (E8 [0,1] d1);with_reducible repeat' first|constructor|intro hc
   exact EZ
 |some i=>
  have d2:=hr i hi;rw[hi]at d1;dsimp only at d1;have f1:decide ((i:Int)<0)=false:=yY om;rw[hg]at d2|-;clear hr hn;rcases hk with rfl|rfl|rfl
  all_goals
   refine GW JG ?_ (AQ f1) (QZ [0,1] d1 [0,1] d2);with_reducible repeat' first|constructor|intro hc
   exact EZ
theorem nQ(c:CS)(s:Step)(h:CW c)(hJ:CJ c)(hx:s.AC.AH.length<=big):Nl c s\/Moves c s:=by
 by_cases k1:s.AG=1
 .left;have hT:stepS c s=J9 c s.a:=by unfold stepS;rw[zN k1]
  unfold Nl;rw[hT];refine NV c s _ h (.inl k1) (fun hi=>by unfold J9;rw[hi]) (by unfold J9;split<;>rfl) fun i hi=>ba c s h hi k1 hJ
 by_cases k10:s.AG=10
 .left;have hT:stepS c s=IK c s.a 2 s.AC:=by unfold stepS;simp[k10]
  unfold Nl;rw[hT];refine NV c s _ h (.inr (.inl k10)) (fun hi=>by unfold IK;rw[hi]) (Xb ..) fun i hi=>ie c s h hi k10 hx
 by_cases k11:s.AG=11
 .left;have hT:stepS c s=IK c s.a 3 ⟨s.AC.AH,0,0,false⟩:=by unfold stepS;simp[k11]
  unfold Nl;rw[hT];refine NV c s _ h (.inr (.inr k11)) (fun hi=>by unfold IK;rw[hi]) (Xb ..) fun i hi=>ic c s h hi k11 hx
 by_cases k2:s.AG=2
 .left;have hT:stepS c s=DU c s.a:=by unfold stepS;simp[k2]
  have d1:=Wn c s.a h hJ
  have hg:(DU c s.a).1.gone=c.gone:=by
   unfold DU;split
   .unfold Uh;split<;>rfl
   .rfl
  unfold Nl XH;rw[hT,hg];generalize DU c s.a=r at *;obtain⟨r1,r2⟩:=r;dsimp only at *;rw[hg]at *;obtain⟨AG,a,sb,sc,y,it⟩:=s;dsimp only at *;subst k2;clear h hJ;refine zC AK Tryz.func21 ?_;unfold cX Step.d Step.A1 at *;rw[hg]at *;refine Cd JG ?_ (E8 [0,1] d1);with_reducible repeat' first|constructor|intro hc
  exact EZ
 by_cases k7:s.AG=7
 .have hT:stepS c s=HP c s.a:=by unfold stepS;simp[k7]
  cases hj:QM c s.a with
  |false=>
   left;have hT2:HP c s.a=(c,2):=by unfold HP;rw[hj];rfl
   have d1:=nY c s.a h hj;unfold Nl XH;rw[hT,hT2];obtain⟨AG,a,sb,sc,y,it⟩:=s;dsimp only at *;subst k7;clear h hJ hT hT2 hj;refine zC AK Tryz.func21 ?_;unfold cX Step.d Step.A1 at *;refine Cd JG ?_ (E8 [0,1] d1);with_reducible repeat' first|constructor|intro hc
   exact EZ
  |true=>
   right;have d1:=iF c s.a h hj;have h0:(HP c s.a).2=0:=by unfold HP;rw[hj];rfl
   unfold Moves XH;rw[hT];refine⟨h0,?_⟩;generalize(HP c s.a).1=r at *;obtain⟨AG,a,sb,sc,y,it⟩:=s;dsimp only at *;subst k7;clear h hJ hT h0 hj;refine zC AK Tryz.func21 ?_;unfold vj at d1;unfold xr;unfold cX Step.d Step.A1 at *;refine Cd JG ?_ (E8 [0,1] d1);with_reducible repeat' first|constructor|intro hc
   exact EZ
 by_cases k89:s.AG=8\/s.AG=9
 .have hT:stepS c s=GL c s.a (decide (s.AG=9)):=by
   unfold stepS;rcases k89 with k|k<;>simp[k]
  by_cases hg:DX c.nodes s.a=none\/s.a∈c.A2\/c.gone.length>=1000
  .left;have hT2:=qV c s.a (decide (s.AG=9)) hg;have d1:=o5 c s h hg;unfold Nl XH;rw[hT,hT2];obtain⟨AG,a,sb,sc,y,it⟩:=s;dsimp only at *;clear h hJ hT hT2 hg;refine zC AK Tryz.func21 ?_;unfold cX Step.d Step.A1 at *;rcases k89 with rfl|rfl
   all_goals
    refine Cd JG ?_ (E8 [0,1] d1);with_reducible repeat' first|constructor|intro hc
    exact EZ
  .right
   cases hi:DX c.nodes s.a with
   |none=>exact absurd (.inl hi) hg
   |some i=>
    have d1:=iQ c s h k89 hi (fun e=>hg (.inr (.inl e))) (by have:=fun e=>hg (.inr (.inr e));omega)
    have h0:(GL c s.a (decide (s.AG=9))).2=0:=by
     unfold GL;rw[hi];dsimp only;rw[zO (fun e=>hg (.inr e))]
    unfold Moves XH;rw[hT];refine⟨h0,?_⟩;generalize(GL c s.a (decide (s.AG=9))).1=r at *;obtain⟨AG,a,sb,sc,y,it⟩:=s;dsimp only at *;clear h hJ hT h0 hg hi;refine zC AK Tryz.func21 ?_;unfold vj at d1;unfold xr;unfold cX Step.d Step.A1 at *;rcases k89 with rfl|rfl
    all_goals
     refine Cd JG ?_ (E8 [0,1] d1);with_reducible repeat' first|constructor|intro hc
     exact EZ
 .left;have k8:s.AG≠8:=fun e=>k89 (.inl e)
  have k9:s.AG≠9:=fun e=>k89 (.inr e);have d1:=iA c s h ⟨k1,k2,k7,k8,k9,k10,k11⟩
  unfold Nl XH;generalize stepS c s=r at *;obtain⟨r1,r2⟩:=r;have f1:=eq_false' k1;have f2:=eq_false' k2;have f7:=eq_false' k7;have f8:=eq_false' k8;have f9:=eq_false' k9;have f10:=eq_false' k10;have f11:=eq_false' k11;obtain⟨AG,a,sb,sc,y,it⟩:=s;dsimp only at *;clear h hJ k1 k2 k7 k8 k9 k10 k11 k89;refine zC AK Tryz.func21 ?_;unfold cX Step.d Step.A1 at *;refine GW JG ?_ (jT f1 f2 f7 f8 f9 f10 f11) (E8 [0,1] d1);with_reducible repeat' first|constructor|intro hc
  exact EZ
section
variable {P:Program}{ro:yW}{ops:ya}{S:St}{Q Q1:Exit->St->Prop}
abbrev Ff:BK:=[0,1,2,4,5,6,7,12,17,30]
theorem jl{id:Nat}(E:Nat->Option Bd)(i k:Nat)(Q1:Exit->St->Prop)(hm:P.follows .mixedOrders=true)(hik:(Nat.blt i k&&Nat.blt k ops.toList.length&&Ls ops)=true)
  (h1:Wd P ro E (Qf i k ops) S (PC P ro (Qf i k ops) S (Qw Q1)) [] (Qf i k ops).toList S)
  (h2:Wd P ro E (Qg i k ops) S (PC P ro (Qg i k ops) S (Qw Q1)) [] (Qg i k ops).toList S) (hQ:∀e S',Q1 e S'->e= .normal/\Q .normal S'):W P ro (.region id ops true) S Q:=by
 simp only[yU,q0k,q0v]at hik;obtain⟨⟨hlt,hk⟩,hed⟩:=hik;have hp':Perm (vP i k) (uR i k) ops.size:=eJ hlt hk
 have hb:∀(j:Nat)(o:Oper),ops[j]? =some o->(∀e∈o.after,Region.binds .any e=true->e.on<ops.size)/\∀g,o.guard=some g->g.1<ops.size:=by
  intro j o ho;unfold Ls at hed;rw[q0I]at hed;have:=hed o (by rw[Array.mem_toList_iff];exact Array.mem_of_getElem? ho);simp only[yU,q0I,q0k,q0v]at this;refine⟨fun e he _=>this.1 e (by simpa using he),fun g hg=> ?_⟩;have h2:=this.2;rw[hg]at h2;simpa[q0k]using h2
 intro N G act w r;have a1:=h1 S .nil rfl rfl (fun _ _ h=>h) (fun k=>sm) N G act w r;have a2:=h2 S .nil rfl rfl (fun _ _ h=>h) (fun k=>sm) N G act w r;rw[Qf,Ic (R4 _)]at a1;rw[Qg,Ic hp']at a2;refine q1O (TY (id:=id) hm (R4 _) hp' hb hk om om a1 a2) ?_;rintro e a' w' ⟨S',G',⟨env,hs,hS⟩,r',hf⟩;have r2:=r'.SH hs;obtain⟨rfl,hq⟩:=hQ _ _ hS;exact⟨_,G',hq,r2,hf⟩
end
def CutE(S:St)(Q:Exit->St->Prop)(e:Exit)(S':St):Prop:=∃S'',A5 S' S''/\S.H.length<=S''.H.length/\Q e S''
theorem tk{P:Program}{c:Code}{S:St}{Q:Exit->St->Prop}(h:W P none c S (CutE S Q)):W P none c S Q:=tj h
def He(c:CS)(l:List Step):CS:=l.foldl (fun c s=>(stepS c s).1) c
def GX(b:Nat):BK:=[0,1,2,3,b,5]
def hR(c:CS)(b:Nat)(x:AF):yz:=[.c (cX c b 5),.c [.e0,.e0,.e0,.e0,.y5 0],.gone,.gone,x,.a (.is c.gone)]
abbrev bM(c:CS):yz:=hR c 4 (.a (A7 c.nodes))
abbrev eQ(c:CS)(j:Nat):yz:=hR c (6+j) .gone++List.replicate j .gone++[.a (A7 c.nodes)]
def eR(l:List Step)(k:Nat):yr:=[(1,.d (.sl 9 (l.map Step.A1))),(2,.ptr 0 0 5),(4,.ptr 1 0 5),(5,.y5 k)]
variable {b:Nat}
theorem K9(h:b=4\/6<=b):nodupB (GX b)=true:=by
 rcases h with rfl|h
 .rfl
 .obtain⟨g,rfl⟩:∃g,b=g+6:=⟨b-6,om⟩;rfl
structure pR (c:CS) (b:Nat) (H:yz):Prop where
 p:b=4\/6<=b
 n:6<=H.length
 m:∀(i a:Nat)(x:AF),(GX b)[i]? =some a->(bM c)[i]? =some x->H[a]? =some (x.ren (rn (GX b) H.length))
theorem lt6{i:Nat}(h:i<6):i=0\/i=1\/i=2\/i=3\/i=4\/i=5:=om
variable {H:yz}
theorem pR.lt(h:pR c b H):∀a∈GX b,a<H.length:=fun a ha=>by
 obtain⟨i,hi,rfl⟩:=q0d.1 ha;have:=h.m i _ ((bM c)[i]'hi) (yj hi) (yj (show i<(bM c).length from hi));exact(yZ.1 this).1
theorem xX(c:CS):pR c 4 (bM c):=⟨.inl rfl,yV _,fun i a x hi hx=>by
 have hlt:i<6:=(yZ.1 hi).1;rcases lt6 hlt with rfl|rfl|rfl|rfl|rfl|rfl
 all_goals(cases hi;cases hx;rfl)⟩
theorem oC{c':CS}(h:pR c b H):pR c' b (Jy (GX b) H (E4 (rn (GX b) H.length) (bM c'))):=by
 have hl:(Jy (GX b) H (E4 (rn (GX b) H.length) (bM c'))).length=H.length:=Vs (yV 6);refine⟨h.p,by rw[hl];exact h.n,fun i a x hi hx=> ?_⟩;rw[hl];obtain⟨hlt,rfl⟩:=yZ.1 hi;rw[tA (l:=E4 (rn (GX b) H.length) (bM c')) (Ft (K9 h.p)) (yV 6) h.lt hlt,LX,q03,hx];rfl
theorem oB{c':CS}{j:Nat}(h:pR c b H)(hj:j=6\/j=7):pR c' (H.length+j) (Jy (GX b) H (E4 (rn (GX b) H.length) (eQ c' j))):=by
 have hlen:(eQ c' j).length=7+j:=by rcases hj with rfl|rfl<;>rfl
 have hlr:(E4 (rn (GX b) H.length) (eQ c' j)).length=7+j:=by rw[LX,zY,hlen]
 have hl:(Jy (GX b) H (E4 (rn (GX b) H.length) (eQ c' j))).length=H.length+(1+j):=by
  rw[Vs (by rw[hlr];show 6<=_;omega),hlr];show H.length+(7+j-6)=_;omega
 have hn:=h.n;refine⟨.inr om,by rw[hl];omega,fun i a x hi hx=> ?_⟩;rw[hl];have hlt:i<6:=(yZ.1 hi).1;have old:∀i,(hi:i<6)->(Jy (GX b) H (E4 (rn (GX b) H.length) (eQ c' j)))[(GX b)[i]]? =(E4 (rn (GX b) H.length) (eQ c' j))[i]?:=fun i hi=>tA (l:=E4 (rn (GX b) H.length) (eQ c' j)) (Ft (K9 h.p)) (by rw[hlr];show 6<=_;omega) h.lt hi
 have new:(Jy (GX b) H (E4 (rn (GX b) H.length) (eQ c' j)))[H.length+j]? =(E4 (rn (GX b) H.length) (eQ c' j))[6+j]?:=uL (l:=E4 (rn (GX b) H.length) (eQ c' j)) j (Ft (K9 h.p)) (by rw[hlr];show 6<=_;omega) h.lt
 by_cases h6:i=4
 .subst h6;cases hi;cases hx;rw[new];rcases hj with rfl|rfl<;>rfl
 .have:=old i hlt;rcases hj with rfl|rfl
  all_goals
   rcases lt6 hlt with rfl|rfl|rfl|rfl|rfl|rfl
   all_goals first|exact absurd rfl h6|(cases hi;cases hx;exact this)
theorem s8(h:pR c b H):∃x G,H=hR c b x++G/\((b=4/\x= .a (A7 c.nodes))\/∃g,b=g+6/\G[g]? =some (.a (A7 c.nodes))):=by
 obtain⟨x,hx⟩:∃x,H[4]? =some x:=⟨_,yj (by have:=h.n;omega)⟩
 obtain⟨G,hG⟩:=YH (l:=hR c b x) (H:=H) fun i y hy=>by
  have hlt:i<6:=(yZ.1 hy).1
  by_cases h6:i=4
  .subst h6;cases hy;exact hx
  .have AH:=h.m i;rcases lt6 hlt with rfl|rfl|rfl|rfl|rfl|rfl
   all_goals first|exact absurd rfl h6|(cases hy;exact AH _ _ rfl rfl)
 have hb:=h.m 4 b _ rfl rfl;refine⟨x,G,hG,?_⟩;rcases h.p with rfl|hb16
 .rw[hx]at hb;cases hb;exact .inl ⟨rfl,rfl⟩
 .obtain⟨g,rfl⟩:∃g,b=g+6:=⟨b-6,om⟩;refine .inr ⟨g,rfl,?_⟩;rw[hG,zl (by show 6<=_;omega)]at hb;exact hb
theorem iZ(c:CS)(h:CW c):yB 20 [.ag (cX c 0 1)] (XH c) (.y7 true) (XH c):=by
 have:=TS c.c h.cok;rw[h.right]at this;refine Fn.read this rfl ?_;simp only[Ea,D5];refine⟨_,_,rfl,⟨_,rfl,?_⟩,rfl⟩;unfold CS.c BF.A1;exact⟨_,_,rfl,⟨rfl,(zY _).symm⟩,_,_,rfl,⟨rfl,rfl⟩,_,_,rfl,rfl,_,_,rfl,rfl,_,_,rfl,rfl,rfl⟩
theorem gz(c:CS)(l:List Step)(h:CW c)(hJ:CJ c)(hl:l.length<=1000000)(hk:∀s∈l,s.AC.AH.length<=big):yA 9 [c.c.d,stepsD l] (He c l).c.d:=by
 have d1:=iN c h;have d2:=iZ c h;obtain⟨R,hRR⟩:∃R,He c l=R:=⟨_,rfl⟩;rw[hRR];unfold XH at d2;unfold BF.d BF.A1 CS.c at *;unfold stepsD;dsimp only at *;refine zF AK Tryz.func9 ?_;refine Cd Ff ?_ (QZ [] d1 [4,5] d2);with_reducible repeat' first|constructor|intro hc
 refine BY (fun x:Nat×CS×Nat×yz=>x.1<=l.length/\CW x.2.1/\CJ x.2.1/\x.2.1=He c (l.take x.1)/\pR x.2.1 x.2.2.1 x.2.2.2) (fun x=>⟨eR l x.1,x.2.2.2,Tryz.f9.ntmps⟩) (fun x=>l.length-x.1) (0,c,4,bM c) ⟨yx _,h,hJ,rfl,xX c⟩ ?_ (yV _) ?_
 .exact A5.ck rfl
 rintro⟨k,q,b,H⟩ ⟨hkl,hw,hj,hq,hAt⟩;dsimp only at hkl hw hj hq hAt|-
 by_cases hlt:k<l.length
 .obtain⟨s,hs⟩:=AS hlt;have hky:=hk s (zM hs);have hst:=sV hw hky;have hcj:=Ol hj s
  have hnx:(stepS q s).1=He c (l.take (k+1)):=by
   rw[hq];unfold He;rw[AM hs,q19];rfl
  have hdo:=nQ q s hw hj hky;unfold Nl Moves at hdo;generalize stepS q s=r at *;obtain⟨q',e⟩:=r;dsimp only at hst hnx hdo hcj;refine(wP (GX b) (S0:=⟨eR l k,bM q,_⟩) (Q:=fun e S=>e= .normal/\(S=⟨eR l (k+1),bM q',Tryz.f9.ntmps⟩\/∃j,(j=6\/j=7)/\S=⟨eR l (k+1),eQ q' j,Tryz.f9.ntmps⟩)) (tk ?_) (K9 hAt.p) (V1 rfl hAt.m) rfl rfl).mono ?_
  .rcases hdo with d3|⟨rfl,d3⟩
   .have hno:=hst.no;unfold XH at d3;unfold Step.d Step.A1 at d3;unfold eR bM hR;unfold cX at *;refine A9 Ff ?_ [] [7];with_reducible repeat' first|constructor|intro hc
    refine jl T.get 5 9 (fun e0 S=>e0= .normal/\S=⟨[(1,.d (.sl 9 (l.map Step.A1))),(2,.ptr 0 0 5),(4,.ptr 1 0 5),(5,.y5 k),(6,.ptr 6 0 5),(7,.y5 e),(17,.y7 (decide ((k:Int)<(l.length:Int))))],[.c [.sl 4 q.nodes.length 76,.sl 5 q.gone.length 1,.yD q.A2,.d (Ba q.bag.grams),.y5 q.bag.lost],.c [.e0,.e0,.e0,.e0,.y5 0],.gone,.gone,.a (A7 q'.nodes),.a (.is q'.gone),.c [.sl 4 q'.nodes.length 76,.sl 5 q'.gone.length 1,.yD q'.A2,.d (Ba q'.bag.grams),.y5 q'.bag.lost]],Tryz.f9.ntmps⟩) mixed rfl ?_ ?_ ?_
    .have ix1:=hs;refine Cd Ff ?_ (E8 [4,5] d3) [(0,9)];clear ix1;exact⟨rfl,rfl⟩
    .have ix1:=hs;refine Cd Ff ?_ (E8 [4,5] d3) [(0,5)];clear ix1;exact⟨rfl,rfl⟩
    .rintro e0 S' ⟨rfl,rfl⟩;refine⟨rfl,?_⟩;clear d3
     by_cases he:e=0
     .have f1:=B6 he;refine Ae Ff ?_ (AQ f1);with_reducible repeat' first|constructor|intro hc
      refine⟨⟨eR l (k+1),bM q',Tryz.f9.ntmps⟩,?_,yV _,rfl,.inl rfl⟩;unfold eR;exact A5.ck rfl
     .have f1:=eq_false' he;obtain rfl:q'=q:=hno he;refine Ae Ff ?_ (AQ f1);with_reducible repeat' first|constructor|intro hc
      refine⟨⟨eR l (k+1),bM q',Tryz.f9.ntmps⟩,?_,yV _,rfl,.inl rfl⟩;unfold eR;exact A5.ck rfl
   .unfold xr XH at d3;unfold Step.d Step.A1 at d3;unfold eR bM hR;unfold cX at *;refine A9 Ff ?_ [] [7];with_reducible repeat' first|constructor|intro hc
    refine jl T.get 5 9 (fun e0 S=>e0= .normal/\(S=⟨[(1,.d (.sl 9 (l.map Step.A1))),(2,.ptr 0 0 5),(4,.ptr 1 0 5),(5,.y5 k),(6,.ptr 13 0 5),(7,.y5 0),(17,.y7 (decide ((k:Int)<(l.length:Int))))],[.c [.sl 4 q.nodes.length 76,.sl 5 q.gone.length 1,.yD q.A2,.d (Ba q.bag.grams),.y5 q.bag.lost],.c [.e0,.e0,.e0,.e0,.y5 0],.gone,.gone,.gone,.a (.is q'.gone),.gone,.gone,.gone,.gone,.gone,.gone,.a (A7 q'.nodes),.c [.sl 12 q'.nodes.length 76,.sl 5 q'.gone.length 1,.yD q'.A2,.d (Ba q'.bag.grams),.y5 q'.bag.lost]],Tryz.f9.ntmps⟩\/S=⟨[(1,.d (.sl 9 (l.map Step.A1))),(2,.ptr 0 0 5),(4,.ptr 1 0 5),(5,.y5 k),(6,.ptr 6 0 5),(7,.y5 0),(17,.y7 (decide ((k:Int)<(l.length:Int))))],[.c [.sl 4 q.nodes.length 76,.sl 5 q.gone.length 1,.yD q.A2,.d (Ba q.bag.grams),.y5 q.bag.lost],.c [.e0,.e0,.e0,.e0,.y5 0],.gone,.gone,.gone,.a (.is q'.gone),.c [.sl 13 q'.nodes.length 76,.sl 5 q'.gone.length 1,.yD q'.A2,.d (Ba q'.bag.grams),.y5 q'.bag.lost],.gone,.gone,.gone,.gone,.gone,.gone,.a (A7 q'.nodes)],Tryz.f9.ntmps⟩)) mixed rfl ?_ ?_ ?_
    .have ix1:=hs;refine Cd Ff ?_ (E8 [4,5] d3) [(0,9)];clear ix1;exact⟨rfl,.inl rfl⟩
    .have ix1:=hs;refine Cd Ff ?_ (E8 [4,5] d3) [(0,5)];clear ix1;exact⟨rfl,.inr rfl⟩
    .rintro e0 S' ⟨rfl,rfl|rfl⟩
     .refine⟨rfl,?_⟩;clear d3;refine A9 Ff ?_;with_reducible repeat' first|constructor|intro hc
      refine⟨⟨eR l (k+1),eQ q' 6,Tryz.f9.ntmps⟩,?_,y9,rfl,.inr ⟨6,.inl rfl,rfl⟩⟩;unfold eR;exact A5.ck rfl
     .refine⟨rfl,?_⟩;clear d3;refine A9 Ff ?_;with_reducible repeat' first|constructor|intro hc
      refine⟨⟨eR l (k+1),eQ q' 7,Tryz.f9.ntmps⟩,?_,y9,rfl,.inr ⟨7,.inr rfl,rfl⟩⟩;unfold eR;exact A5.ck rfl
  .rintro e S ⟨S',⟨rfl,rfl|⟨j,hj7,rfl⟩⟩,rfl⟩
   .exact⟨(k+1,q',b,_),⟨hlt,hst.w,hcj,hnx,oC hAt⟩,by dsimp only;omega,tB (ids:=GX b) (l:=E4 (rn (GX b) H.length) (bM q')) (yV 6),A5.refl _⟩
   .exact⟨(k+1,q',H.length+j,_),⟨hlt,hst.w,hcj,hnx,oB hAt hj7⟩,by dsimp only;omega,tB (ids:=GX b) (l:=E4 (rn (GX b) H.length) (eQ q' j)) (by rw[LX,zY];rcases hj7 with rfl|rfl<;>exact y9),A5.refl _⟩
 .obtain rfl:k=l.length:=om
  rw[zU,hRR]at hq;subst hq;obtain⟨x,G,rfl,hb⟩:=s8 hAt;unfold eR hR;simp only[zA,zK];refine A9 Ff ?_;with_reducible repeat' first|constructor|intro hc
  rcases hb with⟨rfl,rfl⟩|⟨g,rfl,hg⟩
  .refine⟨_,_,rfl,rfl,?_⟩;simp[E5,B3,B8,Aq,JH]
  .refine⟨_,_,rfl,rfl,?_⟩;simp[E5,B3,B8,Aq,JH,hg]
end Nd
end Go.Proofs.YthlmmkmeoblbhaaGreat
