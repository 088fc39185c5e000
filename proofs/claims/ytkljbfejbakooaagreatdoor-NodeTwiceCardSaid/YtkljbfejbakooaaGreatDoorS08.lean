/- Part 8 of a proof. Conditions: those that its theorems state. -/
import Derived.Test.YtkljbfejbakooaaGreatDoorS05
import Derived.Test.YtkljbfejbakooaaGreatDoorS07
set_option linter.unusedSimpArgs false
set_option linter.unusedVariables false
set_option linter.unnecessarySimpa false
set_option maxHeartbeats 40000000
set_option maxRecDepth 4000
namespace Go.Proofs.YtkljbfejbakooaaGreatDoor
open Go.Gar
abbrev Mt:List Nat:=[0,1,4,5,6,11,12,13,16,19]
abbrev GF:List Nat:=[0,2,3,5,6,7,8,9,14]
theorem mixed:Tryz.prog.follows .mixedOrders=true:=by kernel_rfl
variable {α:Type}
theorem Dg[BEq α][LawfulBEq α][DecidableEq α](a b:α):(a==b)=decide (a=b):=by
 by_cases h:a=b<;>simp[h]
theorem AT{xs:List α}{k:Nat}(h:k<xs.length):∃x,xs[k]? =some x:=⟨xs[k],qK h⟩
theorem AQ{l:List α}{k:Nat}{x:α}(hx:l[k]? =some x):l.take (k+1)=l.take k++[x]:=by
 rw[List.take_add_one,hx];rfl
variable {a b:Int}
theorem BF(h:a=b):(a !=b)=false:=by rw[bne_eq_false_iff_eq];exact h
theorem BJ(h:a≠b):(a !=b)=true:=by rw[bne_iff_ne];exact h
theorem eq_false'(h:a≠b):(a==b)=false:=by rw[beq_eq_false_iff_ne];exact h
theorem A9(h:a=b):(a==b)=true:=by rw[beq_iff_eq];exact h
structure Item where
 key:List UInt8
 value:Int
 version:Int
 gone:Bool
 deriving DecidableEq
def Item.cells(x:Item):List D:=[.s x.key,.i .i64 x.value,.i .i64 x.version,.b x.gone]
def Item.d(x:Item):D:=.agg x.cells
abbrev Ab(l:List Item):D:=.sl 4 (l.map Item.cells)
def AA:Item:=⟨[],0,0,false⟩
def Item.rank(x:Item):D:=.agg [.i .i64 x.version,.i .i64 x.value,.b x.gone]
theorem dF(x y:Item):HC x.cells y.cells=decide (x=y):=by
 obtain⟨a,b,c,d⟩:=x;obtain⟨a',b',c',d'⟩:=y;simp[Item.cells,HC,eq1,Dg]
theorem J1(x y:Item):HC [.s x.key,.i .i64 x.value,.i .i64 x.version,.b x.gone] [.s y.key,.i .i64 y.value,.i .i64 y.version,.b y.gone]=decide (x=y):=dF x y
theorem jy(x:Item):qB 351 [x.d] x.rank:=by
 obtain⟨k,v,n,g⟩:=x;refine zF A4 Tryz.func351 ?_;refine wd [0,1,2] [] A0 A0 ?_;exact Ag @Item.rank.eq_1
theorem Tp(x:Int):qB 365 [.i .i64 x] (.b false):=by
 refine zF A4 Tryz.func365 ?_;refine wd [0,2] [] A0 A0 ?_;exact zE
def GP(x y:Int):Int:=if x<y then -1 else if y<x then 1 else 0
theorem O2(x y:Int):qB 353 [.i .i64 x,.i .i64 y] (.i .i64 (GP x y)):=by
 have h1:=Tp x;have h2:=Tp y;refine zF A4 Tryz.func353 ?_;rcases Int.lt_trichotomy x y with h|h|h
 .have e:GP x y= -1:=if_pos h;refine wd Mt [] A0 (AX @h1 @h2) ?_;with_reducible repeat' first|constructor|intro hc;try simp only[AB]at hc
  exact Ag e
 .have e:GP x y=0:=by unfold GP;rw[if_neg om,if_neg om]
  refine wd Mt [] A0 (AX @h1 @h2) ?_;with_reducible repeat' first|constructor|intro hc;try simp only[AB]at hc
  exact Ag e
 .have e:GP x y=1:=by unfold GP;rw[if_neg om,if_pos h]
  refine wd Mt [] A0 (AX @h1 @h2) ?_;with_reducible repeat' first|constructor|intro hc;try simp only[AB]at hc
  exact Ag e
def ZU(a b:Int):Int:=if a=0 then b else a
theorem nx(a b:Int):qB 352 [.is [a,b]] (.i .i64 (ZU a b)):=by
 refine zF A4 Tryz.func352 ?_;refine wd GF [] A0 A0 ?_;refine An (fun k:Nat=>k<=2/\(1<=k->a=0)/\(2<=k->b=0)) (fun k:Nat=>⟨[(2,.pY 0),(3,.pY 0),(6,.qF ([a,b])),(7,.pY 2),(8,.pY k)],[],18⟩) (fun k=>2-k) 0 ⟨qP _,om,om⟩ ?_ (qG _) ?_
 .exact A1.ck rfl
 rintro k ⟨hk,h1,h2⟩
 by_cases k0:k=0
 .subst k0
  by_cases ha:a=0
  .refine wd GF [] (A6 (BF ha)) A0 ?_;refine⟨1,⟨om,fun _=>ha,om⟩,om,qG _,?_⟩;exact A1.ck rfl
  .have e:ZU a b=a:=if_neg ha;refine wd GF [] (A6 (BJ ha)) A0 ?_;exact Ag e
 .have ha:=h1 om;have e:ZU a b=b:=if_pos ha
  by_cases k1:k=1
  .subst k1
   by_cases hb:b=0
   .refine wd GF [] (A6 (BF hb)) A0 ?_;refine⟨2,⟨om,fun _=>ha,fun _=>hb⟩,om,qG _,?_⟩;exact A1.ck rfl
   .refine wd GF [] (A6 (BJ hb)) A0 ?_;exact Ag e
  .have k2:k=2:=om
   subst k2;have hb:b=0:=h2 (qG 2);subst hb;refine wd GF [] A0 A0 ?_;exact Ag e
abbrev D8:List Nat:=[0,1,2,3,4,5,6,7,14,32,34]
def Hr(x y:Item):Int:=
 if x.version<y.version then -1 else if y.version<x.version then 1 else if x.value<y.value then -1 else if y.value<x.value then 1 else
 if x.gone=y.gone then 0 else if x.gone then 1 else -1
theorem kP(x y:Item):qB 318 [x.d,y.d] (.i .i64 (Hr x y)):=by
 have c1:=jy x;have c2:=jy y;obtain⟨k,v,n,g⟩:=x;obtain⟨k',v',n',g'⟩:=y;have c3:=O2 n n';have c4:=O2 v v';have c5:=nx (GP n n') (GP v v');refine zF A4 Tryz.func318 ?_;refine wd D8 [1] A0 A0 ?_;refine O9 T.get 4 5 2 3 ⟨[(0,.d (Item.d ⟨k,v,n,g⟩)),(1,.d (Item.d ⟨k',v',n',g'⟩)),(2,.ptr 0 0 4),(3,.ptr 1 0 4),(4,.pY 0),(5,.ptr 2 0 3),(6,.ptr 3 0 3)],[.c [.qE k,.pY v,.pY n,.pq g],.c [.qE k',.pY v',.pY n',.pq g'],.c [.pY n,.pY v,.pq g],.c [.pY n',.pY v',.pq g']],36⟩ mixed rfl rfl rfl ?_ ?_ ?_
 .refine wd D8 [] A0 (AX @c1 @c2) ?_ [(0,4),(0,5),(0,6),(0,7),(2,4),(2,5),(2,6),(2,7)];exact⟨rfl,.inl rfl⟩
 .refine wd D8 [] A0 (AX @c1 @c2) ?_ [(0,4),(0,5),(0,6),(0,7),(2,4),(2,5),(2,6),(2,7)];exact⟨rfl,.inr rfl⟩
 by_cases hs:n=n'/\v=v'/\g=g'
 .obtain⟨rfl,rfl,rfl⟩:=hs;have e:HC [.i .i64 n,.i .i64 v,.b g] [.i .i64 n,.i .i64 v,.b g]=true:=by simp[HC,eq1]
  have eT:Hr ⟨k,v,n,g⟩ ⟨k',v,n,g⟩=0:=by simp[Hr]
  refine wd D8 [] (A6 e) A0 ?_;exact Ag eT
 have e:HC [.i .i64 n,.i .i64 v,.b g] [.i .i64 n',.i .i64 v',.b g']=false:=by
  cases h:HC [.i .i64 n,.i .i64 v,.b g] [.i .i64 n',.i .i64 v',.b g']with
  |false=>rfl
  |true=>simp[HC,eq1]at h;exact absurd h hs
 rcases Int.lt_trichotomy n n' with h|h|h
 .have hO:ZU (GP n n') (GP v v')= -1:=by simp[ZU,GP,h]
  have eT:Hr ⟨k,v,n,g⟩ ⟨k',v',n',g'⟩= -1:=by simp[Hr,h]
  rw[hO]at c5;refine wd D8 [] (A6 e) (C3 @c3 @c4 @c5) ?_;exact Ag eT
 .subst h;rcases Int.lt_trichotomy v v' with h|h|h
  .have hO:ZU (GP n n) (GP v v')= -1:=by simp[ZU,GP,h]
   have eT:Hr ⟨k,v,n,g⟩ ⟨k',v',n,g'⟩= -1:=by simp[Hr,h]
   rw[hO]at c5;refine wd D8 [] (A6 e) (C3 @c3 @c4 @c5) ?_;exact Ag eT
  .subst h;have hg:¬g=g':=fun hg=>hs ⟨rfl,rfl,hg⟩
   have hO:ZU (GP n n) (GP v v)=0:=by simp[ZU,GP]
   rw[hO]at c5
   cases g with
   |true=>
    have eT:Hr ⟨k,v,n,true⟩ ⟨k',v,n,g'⟩=1:=by simp[Hr,hg]
    refine wd D8 [] (A6 e) (C3 @c3 @c4 @c5) ?_;exact Ag eT
   |false=>
    have eT:Hr ⟨k,v,n,false⟩ ⟨k',v,n,g'⟩= -1:=by simp[Hr,hg]
    refine wd D8 [] (A6 e) (C3 @c3 @c4 @c5) ?_;exact Ag eT
  .have hO:ZU (GP n n) (GP v v')=1:=by simp[ZU,GP,h,show ¬v<v' by omega]
   have eT:Hr ⟨k,v,n,g⟩ ⟨k',v',n,g'⟩=1:=by simp[Hr,h,show ¬v<v' by omega]
   rw[hO]at c5;refine wd D8 [] (A6 e) (C3 @c3 @c4 @c5) ?_;exact Ag eT
 .have hO:ZU (GP n n') (GP v v')=1:=by simp[ZU,GP,h,show ¬n<n' by omega]
  have eT:Hr ⟨k,v,n,g⟩ ⟨k',v',n',g'⟩=1:=by simp[Hr,h,show ¬n<n' by omega]
  rw[hO]at c5;refine wd D8 [] (A6 e) (C3 @c3 @c4 @c5) ?_;exact Ag eT
theorem ai(x y:Item):qB 275 [x.d,y.d] (.b (decide (Hr x y>0))):=by
 have c:=kP x y;refine zF A4 Tryz.func275 ?_;refine wd [0,1,2,3,4] [] A0 (A6 @c) ?_;exact zE
def Item.may(x:Item):Bool:=decide (1<=x.key.length)&&decide (x.key.length<=20)&&decide (0<=x.value)&&decide (x.value<=1048576)&&decide (0<=x.version)&&decide (x.version<=1048576)
theorem iV(x:Item):x.may=true↔(1<=x.key.length/\x.key.length<=20)/\(0<=x.value/\x.value<=1048576)/\(0<=x.version/\x.version<=1048576):=by
 simp only[Item.may,qH,qJ];constructor
 .rintro⟨⟨⟨⟨⟨h1,h2⟩,h3⟩,h4⟩,h5⟩,h6⟩;exact⟨⟨h1,h2⟩,⟨h3,h4⟩,h5,h6⟩
 .rintro⟨⟨h1,h2⟩,⟨h3,h4⟩,h5,h6⟩;exact⟨⟨⟨⟨⟨h1,h2⟩,h3⟩,h4⟩,h5⟩,h6⟩
theorem LQ(s:List UInt8):qB 134 [.s s] (.b (decide (1<=s.length/\s.length<=20))):=by
 refine zF A4 Tryz.func134 ?_
 by_cases h1:1<=s.length
 .have f1:decide ((s.length:Int)>=1)=true:=qM om
  by_cases h2:s.length<=20
  .have f2:decide ((s.length:Int)<=20)=true:=qM om;rw[qM (show 1<=s.length/\s.length<=20 from⟨h1,h2⟩)];refine wd [0,2] [] (AX f1 f2) A0 ?_;exact zE
  .have f2:decide ((s.length:Int)<=20)=false:=qO om;rw[qO (show ¬(1<=s.length/\s.length<=20)from fun h=>h2 h.2)];refine wd [0,2] [] (AX f1 f2) A0 ?_;exact zE
 .have f1:decide ((s.length:Int)>=1)=false:=qO om;rw[qO (show ¬(1<=s.length/\s.length<=20)from fun h=>h1 h.1)];refine wd [0,2] [] (A6 f1) A0 ?_;exact zE
theorem GT(n:Int):qB 135 [.i .i64 n] (.b (decide (0<=n/\n<=1048576))):=by
 refine zF A4 Tryz.func135 ?_;refine wd [0,2] [] A0 A0 ?_;with_reducible repeat' first|constructor|intro hc;try simp only[AB]at hc
 all_goals(refine⟨_,_,rfl,rfl,?_⟩;simp_all[Bb]<;>omega)
theorem NV(x:Item):qB 50 [x.d] (.b x.may):=by
 obtain⟨k,v,n,g⟩:=x;have c1:=LQ k;have c2:=GT v;have c3:=GT n;have hm:=iV ⟨k,v,n,g⟩;refine zF A4 Tryz.func50 ?_;refine wd [0,1,2] [] A0 (C3 @c1 @c2 @c3) ?_;with_reducible repeat' first|constructor|intro hc;try simp only[AB]at hc
 all_goals(refine⟨_,_,rfl,rfl,?_⟩;simp_all[Bb,Item.may]<;>omega)
theorem P8(x:Item):qB 26 [x.d] (.b x.may):=by
 obtain⟨k,v,n,g⟩:=x;refine zF A4 Tryz.func26 ?_;refine wd [0,1,2] [] A0 A0 ?_;with_reducible repeat' first|constructor|intro hc;try simp only[AB]at hc
 all_goals(refine⟨_,_,rfl,rfl,?_⟩;simp_all[Bb,Item.may]<;>omega)
end Go.Proofs.YtkljbfejbakooaaGreatDoor
namespace Go.Proofs.YtkljbfejbakooaaGreatDoor
namespace Wi
open Go.Gar
structure A2 where
 kind:Int
 call:Int
 src:Int
 dst:Int
 key:Int
 slow:Bool
 done:Bool
 place:Int
 pred:Int
 list:List Int
 item:Item
 code:Int
 deriving DecidableEq
def A2.cells(m:A2):List D:=[.i .u8 m.kind,.i .i64 m.call,.i .i64 m.src,.i .i64 m.dst,.i .i64 m.key,.b m.slow,.b m.done,.i .i64 m.place,.i .i64 m.pred,.is m.list,.s m.item.key,.i .i64 m.item.value,.i .i64 m.item.version,.b m.item.gone,.i .i64 m.code]
def A2.d(m:A2):D:=.agg m.cells
def A5:A2:=⟨0,0,0,0,0,false,false,0,0,[],AA,0⟩
def B5(n:Int):Bool:=decide (0<=n)&&decide (n<65536)
theorem Dl(n:Int):qB 63 [.i .i64 n] (.b (B5 n)):=by
 refine zF A4 Tryz.func63 ?_;refine wd [0,2] [] A0 A0 ?_;with_reducible repeat' first|constructor|intro hc;try simp only[AB]at hc
 all_goals(refine⟨_,_,rfl,rfl,?_⟩;simp_all[Bb,B5]<;>omega)
theorem MX(n:Int):qB 140 [.i .i64 n] (.b (B5 n)):=by
 refine zF A4 Tryz.func140 ?_;refine wd [0,2] [] A0 A0 ?_;with_reducible repeat' first|constructor|intro hc;try simp only[AB]at hc
 all_goals(refine⟨_,_,rfl,rfl,?_⟩;simp_all[Bb,B5]<;>omega)
def A2.asks(m:A2):Bool:=decide (1<=m.kind)&&decide (m.kind<=6)
theorem Ld(m:A2):qB 20 [m.d] (.b m.asks):=by
 obtain⟨k,c,s,d,ky,sl,dn,pl,pr,l,⟨ik,iv,ir,ig⟩,co⟩:=m;refine zF A4 Tryz.func20 ?_;refine wd [0,1,2] [] A0 A0 ?_;with_reducible repeat' first|constructor|intro hc;try simp only[AB]at hc
 all_goals(refine⟨_,_,rfl,rfl,?_⟩;simp_all[Bb,A2.asks]<;>omega)
theorem FK(m:A2):qB 44 [m.d] (.b m.asks):=by
 obtain⟨k,c,s,d,ky,sl,dn,pl,pr,l,⟨ik,iv,ir,ig⟩,co⟩:=m;refine zF A4 Tryz.func44 ?_;refine wd [0,1,2] [] A0 A0 ?_;with_reducible repeat' first|constructor|intro hc;try simp only[AB]at hc
 all_goals(refine⟨_,_,rfl,rfl,?_⟩;simp_all[Bb,A2.asks]<;>omega)
def A2.asker(m:A2):Int:=if m.asks then m.src else m.dst
theorem Zc(m:A2):qB 64 [m.d] (.i .i64 m.asker):=by
 have h:=Ld m
 by_cases e:m.asks=true
 .rw[e]at h;have e2:m.asker=m.src:=if_pos e;obtain⟨k,c,s,d,ky,sl,dn,pl,pr,l,⟨ik,iv,ir,ig⟩,co⟩:=m;refine zF A4 Tryz.func64 ?_;refine wd [0,1,2,4] [] A0 (A6 @h) ?_;exact Ag e2
 .have e:m.asks=false:=by simpa using e
  rw[e]at h;have e2:m.asker=m.dst:=if_neg (by simp[e]);obtain⟨k,c,s,d,ky,sl,dn,pl,pr,l,⟨ik,iv,ir,ig⟩,co⟩:=m;refine zF A4 Tryz.func64 ?_;refine wd [0,1,2,4] [] A0 (A6 @h) ?_;exact Ag e2
theorem ZH(m:A2):qB 200 [m.d] (.i .i64 m.asker):=by
 have h:=FK m
 by_cases e:m.asks=true
 .rw[e]at h;have e2:m.asker=m.src:=if_pos e;obtain⟨k,c,s,d,ky,sl,dn,pl,pr,l,⟨ik,iv,ir,ig⟩,co⟩:=m;refine zF A4 Tryz.func200 ?_;refine wd [0,1,2,4] [] A0 (A6 @h) ?_;exact Ag e2
 .have e:m.asks=false:=by simpa using e
  rw[e]at h;have e2:m.asker=m.dst:=if_neg (by simp[e]);obtain⟨k,c,s,d,ky,sl,dn,pl,pr,l,⟨ik,iv,ir,ig⟩,co⟩:=m;refine zF A4 Tryz.func200 ?_;refine wd [0,1,2,4] [] A0 (A6 @h) ?_;exact Ag e2
def B6(s:List UInt8):Bool:=decide ((s.length:Int)>=1)&&decide ((s.length:Int)<=20)
def isVal(n:Int):Bool:=decide (0<=n)&&decide (n<=1048576)
def AU(x:Item):Bool:=B6 x.key&&isVal x.value&&isVal x.version
theorem LQ(s:List UInt8):qB 134 [.s s] (.b (B6 s)):=by
 refine zF A4 Tryz.func134 ?_
 by_cases h:(s.length:Int)>=1
 .refine wd [0,2] [] A0 A0 ?_;with_reducible repeat' first|constructor|intro hc;try simp only[AB]at hc
  all_goals(refine⟨_,_,rfl,rfl,?_⟩;simp only[Bb,B6,h,decide_true,rC])
 .refine wd [0,2] [] A0 A0 ?_;with_reducible repeat' first|constructor|intro hc;try simp only[AB]at hc
  all_goals(refine⟨_,_,rfl,rfl,?_⟩;simp only[Bb,B6,h,uw,uH])
theorem GT(n:Int):qB 135 [.i .i64 n] (.b (isVal n)):=by
 refine zF A4 Tryz.func135 ?_;refine wd [0,2] [] A0 A0 ?_;with_reducible repeat' first|constructor|intro hc;try simp only[AB]at hc
 all_goals(refine⟨_,_,rfl,rfl,?_⟩;simp_all[Bb,isVal]<;>omega)
abbrev K6:List Nat:=[0,1,2,3,4,5,12,17,30]
abbrev K7:List Nat:=[0,1,4,5,10,12,13,14,24]
variable {k:Nat}
theorem UN{a b:List Int}(hka:k<a.length)(h2:k<b.length)(hpre:a.take k=b.take k):(a.getD k 0=b.getD k 0)↔a.take (k+1)=b.take (k+1):=by
 rw[rU hka,rU h2,hpre,qW,qW,qK hka,qK h2];exact⟨fun e=>congrArg (fun z=>List.take k b++[z]) e,fun e=>(List.cons.inj (List.append_cancel_left e)).1⟩
theorem US(a b:A2)(ha:a.list.length<=9223372036854775807):qB 65 [a.d,b.d] (.b (decide (a=b))):=by
 obtain⟨k,c,s,d,ky,sl,dn,pl,pr,l,⟨ik,iv,ir,ig⟩,co⟩:=a;obtain⟨k',c',s',d',ky',sl',dn',pl',pr',l',⟨ik',iv',ir',ig'⟩,co'⟩:=b;have ha:l.length<=9223372036854775807:=ha;have hI:=J1 ⟨ik,iv,ir,ig⟩ ⟨ik',iv',ir',ig'⟩;refine zF A4 Tryz.func65 ?_
 by_cases hl:l.length=l'.length
 .refine wd K6 [] A0 A0 ?_;with_reducible repeat' first|constructor|intro hc;try simp only[AB]at hc
  refine An (fun k=>k<=l.length/\l.take k=l'.take k) (fun j:Nat=>⟨[(2,.ptr 0 0 15),(3,.ptr 1 0 15),(5,.pY j)],[.c ((A2.mk k c s d ky sl dn pl pr l ⟨ik,iv,ir,ig⟩ co).cells.map .d),.c ((A2.mk k' c' s' d' ky' sl' dn' pl' pr' l' ⟨ik',iv',ir',ig'⟩ co').cells.map .d)],106⟩) (fun k=>l.length-k) 0 ⟨qP _,sm⟩ ?_ (qG _) ?_
  .exact A1.ck rfl
  rintro j ⟨hk,hpre⟩;simp only[A2.cells,sO,vF]
  by_cases hka:j<l.length
  .have hab:=UN hka om hpre;refine wd K6 [] A0 A0 ?_;with_reducible repeat' first|constructor|intro hc;try simp only[AB]at hc
   .have:l≠l':=fun e=>by subst e;exact hc rfl
    exact Ag this
   .refine⟨j+1,⟨hka,hab.1 hc⟩,om,qG _,?_⟩;simp only[A2.cells,sO,vF];exact A1.ck rfl
  .have:l=l':=by
    have e:j=l.length:=om
    subst e;rwa [qx,hl,qx]at hpre
   subst this;refine wd K6 [] (A6 hI) A0 ?_;with_reducible repeat' first|constructor|intro hc;try simp only[AB]at hc
   all_goals(clear ha hl hk hpre hka;refine⟨_,_,rfl,rfl,?_⟩;simp_all[Bb,Dg])
 .have:l≠l':=fun e=>hl (by rw[e]);refine wd K6 [] A0 A0 ?_;with_reducible repeat' first|constructor|intro hc;try simp only[AB]at hc
  exact Ag this
theorem UR(a b:A2)(ha:a.list.length<9223372036854775807):qB 65 [a.d,b.d] (.b (decide (a=b))):=US a b (Nat.le_of_lt ha)
theorem Ym(a b:List Int)(ha:a.length<9223372036854775807):qB 281 [.is a,.is b] (.b (decide (a=b))):=by
 refine zF A4 Tryz.func281 ?_
 by_cases hl:a.length=b.length
 .refine wd K7 [] A0 A0 ?_;with_reducible repeat' first|constructor|intro hc;try simp only[AB]at hc
  refine An (fun k=>k<=a.length/\a.take k=b.take k) (fun k:Nat=>⟨[(0,.qF a),(1,.qF b),(12,.pY a.length),(13,.pY k)],[],26⟩) (fun k=>a.length-k) 0 ⟨qP _,sm⟩ ?_ (qG _) ?_
  .exact A1.ck rfl
  rintro k ⟨hk,hpre⟩
  by_cases hka:k<a.length
  .have hab:=UN hka om hpre;refine wd K7 [] A0 A0 ?_;with_reducible repeat' first|constructor|intro hc;try simp only[AB]at hc
   .have:a≠b:=fun e=>by subst e;exact hc rfl
    exact Ag this
   .refine⟨k+1,⟨hka,hab.1 hc⟩,om,qG _,?_⟩;exact A1.ck rfl
  .have:a=b:=by
    have e:k=a.length:=om
    subst e;rwa [qx,hl,qx]at hpre
   refine wd K7 [] A0 A0 ?_;with_reducible repeat' first|constructor|intro hc;try simp only[AB]at hc
   exact Ag this
 .have:a≠b:=fun e=>hl (by rw[e]);refine wd K7 [] A0 A0 ?_;with_reducible repeat' first|constructor|intro hc;try simp only[AB]at hc
  exact Ag this
def VP(l:List Int)(x:Int):Int:=if x∈l then(l.idxOf x:Nat)else -1
variable {l:List Int}
theorem cb{x:Int}(hk:k<l.length)(hpre:x∉l.take k)(h:x=l.getD k 0):x∈l/\l.idxOf x=k:=by
 rw[qW,qK hk]at h;simp only[Option.getD_some]at h;have hm:x∈l:=by rw[h];exact uV hk
 refine⟨hm,?_⟩;have e:l=l.take k++(l[k]::l.drop (k+1)):=by rw[<-uQ hk,rX]
 have hi:l.idxOf x=(l.take k++(l[k]::l.drop (k+1))).idxOf x:=by rw[<-e]
 rw[hi,List.idxOf_append,if_neg hpre,<-h,List.idxOf_cons_self,rM];omega
theorem du{x:Int}(hk:k<l.length)(hpre:x∉l.take k)(h:¬x=l.getD k 0):x∉l.take (k+1):=by
 rw[rU hk,sU];rw[qW,qK hk]at h;simp at h;rintro(h1|h1)
 .exact hpre h1
 .simp at h1;exact h h1
theorem dB(l:List Int)(x:Int)(hl:l.length<9223372036854775807):qB 346 [.is l,.i .i64 x] (.i .i64 (VP l x)):=by
 refine zF A4 Tryz.func346 ?_;refine wd [0,1,4,5,7,8,9,16] [] A0 A0 ?_;refine An (fun k=>k<=l.length/\x∉l.take k) (fun k:Nat=>⟨[(0,.qF l),(1,.pY x),(7,.pY l.length),(8,.pY k)],[],19⟩) (fun k=>l.length-k) 0 ⟨qP _,sm⟩ ?_ (qG _) ?_
 .exact A1.ck rfl
 rintro k ⟨hk,hpre⟩
 by_cases hkl:k<l.length
 .refine wd [0,1,4,5,7,8,9,16] [] A0 A0 ?_;with_reducible repeat' first|constructor|intro hc;try simp only[AB]at hc
  .obtain⟨h1,h2⟩:=cb hkl hpre hc;have e:VP l x=(k:Nat):=by unfold VP;rw[if_pos h1,h2]
   exact Ag e
  .refine⟨k+1,⟨hkl,du hkl hpre hc⟩,om,qG _,?_⟩;exact A1.ck rfl
 .have e:k=l.length:=om
  have e2:VP l x= -1:=by unfold VP;rw[if_neg];rwa [e,qx]at hpre
  refine wd [0,1,4,5,7,8,9,16] [] A0 A0 ?_;with_reducible repeat' first|constructor|intro hc;try simp only[AB]at hc
  exact Ag e2
theorem TH(l:List Int)(x:Int)(hl:l.length<9223372036854775807):qB 303 [.is l,.i .i64 x] (.b (decide (x∈l))):=by
 have hi:=dB l x hl;refine zF A4 Tryz.func303 ?_;refine wd [0,1,4] [] A0 (A6 @hi) ?_
 have e:decide (VP l x>=0)=decide (x∈l):=by
  unfold VP
  by_cases h:x∈l<;>simp[h]
 exact Ag e
abbrev F2:List Nat:=[0,1,4,5,6,10,26,29,40]
abbrev Hn:List Nat:=[0,1,4,5,6,7,8,9,10,23]
theorem P8(x:Item):qB 26 [x.d] (.b (AU x)):=by
 obtain⟨k,v,n,g⟩:=x;refine zF A4 Tryz.func26 ?_;refine wd [0,1,2] [] A0 A0 ?_;with_reducible repeat' first|constructor|intro hc;try simp only[AB]at hc
 all_goals(refine⟨_,_,rfl,rfl,?_⟩;simp_all[Bb,AU,B6,isVal]<;>omega)
theorem NV(x:Item):qB 50 [x.d] (.b (AU x)):=by
 obtain⟨k,v,n,g⟩:=x;have h1:=LQ k;have h2:=GT v;have h3:=GT n;refine zF A4 Tryz.func50 ?_;refine wd [0,1,2] [] A0 (C3 @h1 @h2 @h3) ?_;with_reducible repeat' first|constructor|intro hc;try simp only[AB]at hc
 all_goals(refine⟨_,_,rfl,rfl,?_⟩;simp_all[Bb,AU])
def EZ(s:Int)(l:List Int):Bool:=l.all fun p=>B5 p&&decide (p≠s)
def Dv(l:List Int)(s:Int):Bool:=EZ s l&&decide l.Nodup&&decide (l.length<=3)
theorem Vf{s:Int}(hk:k<l.length):EZ s (l.take (k+1))=(EZ s (l.take k)&&(B5 (l.getD k 0)&&decide (l.getD k 0≠s))):=by
 unfold EZ;rw[rU hk,qW,qK hk,List.all_append];simp only[sH,tY,uM,Option.getD_some]
theorem dw{s:Int}(h:EZ s (l.take k)=false):EZ s l=false:=by
 have e:EZ s l=(EZ s (l.take k)&&EZ s (l.drop k)):=by
  unfold EZ;rw[<-List.all_append,rX]
 rw[e,h];rfl
theorem UD{j:Nat}(hj:j<k)(hk:k<l.length)(h:l.getD j 0=l.getD k 0):¬l.Nodup:=by
 intro hn;rw[qW,qW,qK hk,qK (by omega:j<l.length)]at h;simp only[Option.getD_some]at h;exact(sW.1 hn) j k om hk hj h
theorem Ov(hk:k<l.length)(h:(l.take k).Nodup)(hall:∀j,j<k->l.getD j 0≠l.getD k 0):(l.take (k+1)).Nodup:=by
 rw[rU hk,List.nodup_append];refine⟨h,sm,?_⟩;intro a ha b hb;simp at hb;subst hb;obtain⟨j,hj,e⟩:=vG.1 ha;rw[rM]at hj;have:=hall j om;rw[qW,qW,qK hk,qK (by omega:j<l.length)]at this;simp at this;rw[<-e,List.getElem_take];exact this
theorem eY(l:List Int)(s:Int)(hl:l.length<=9223372036854775807):qB 147 [.is l,.i .i64 s] (.b (Dv l s)):=by
 refine zF A4 Tryz.func147 ?_;refine wd F2 [] A0 A0 ?_;refine An (fun k=>k<=l.length/\EZ s (l.take k)=true/\(l.take k).Nodup) (fun k:Nat=>⟨[(0,.qF l),(1,.pY s),(5,.pY k)],[],44⟩) (fun k=>l.length-k) 0 ⟨qP _,by simp[EZ],sm⟩ ?_ (qG _) ?_
 .exact A1.ck rfl
 rintro k ⟨hk,hok,hnd⟩
 by_cases hkl:k<l.length
 .have hst:=Vf (s:=s) hkl;rw[hok,rC]at hst;have hp:=Dl (l.getD k 0)
  by_cases hb:B5 (l.getD k 0)=true/\l.getD k 0≠s
  .rw[hb.1]at hp;have f1:=eq_false' hb.2;refine wd F2 [] (A6 f1) (A6 @hp) ?_;with_reducible repeat' first|constructor|intro hc;try simp only[AB]at hc
   refine An (fun j=>j<=k/\∀i,i<j->l.getD i 0≠l.getD k 0) (fun j:Nat=>⟨[(0,.qF l),(1,.pY s),(5,.pY k),(6,.pY j)],[],44⟩) (fun j=>k-j) 0 ⟨qP _,fun i h=>om⟩ ?_ (qG _) ?_
   .exact A1.ck rfl
   rintro j ⟨hj,hall⟩
   by_cases hjk:j<k
   .refine wd F2 [] A0 A0 ?_;with_reducible repeat' first|constructor|intro hc;try simp only[AB]at hc
    .have e:Dv l s=false:=by simp[Dv,UD hjk hkl hc]
     exact Ag e
    .refine⟨j+1,⟨hjk,fun i hi=> ?_⟩,om,qG _,?_⟩
     .rcases Nat.lt_or_eq_of_le (Nat.le_of_lt_succ hi)with h|h
      .exact hall i h
      .rw[h];exact hc
     exact A1.ck rfl
   .have e:j=k:=om
    refine wd F2 [] A0 A0 ?_;with_reducible repeat' first|constructor|intro hc;try simp only[AB]at hc
    refine⟨k+1,⟨hkl,by rw[hst,hb.1,qM hb.2];rfl,Ov hkl hnd fun i hi=>hall i om⟩,om,qG _,?_⟩;exact A1.ck rfl
  .have e:Dv l s=false:=by
    have h2:EZ s (l.take (k+1))=false:=by
     rw[hst]
     cases h:B5 (l.getD k 0)with
     |false=>rfl
     |true=>simp only[rC,uJ];exact fun h3=>hb ⟨h,h3⟩
    simp[Dv,dw h2]
   cases h:B5 (l.getD k 0)with
   |false=>
    rw[h]at hp;refine wd F2 [] A0 (A6 @hp) ?_;with_reducible repeat' first|constructor|intro hc;try simp only[AB]at hc
    exact Ag e
   |true=>
    rw[h]at hp;have f1:(l.getD k 0==s)=true:=by rw[beq_iff_eq];exact Classical.not_not.1 fun h3=>hb ⟨h,h3⟩
    refine wd F2 [] (A6 f1) (A6 @hp) ?_;with_reducible repeat' first|constructor|intro hc;try simp only[AB]at hc
    exact Ag e
 .have e:k=l.length:=om
  subst e;rw[qx]at hok hnd
  have e2:Dv l s=decide ((l.length:Int)<=3):=by
   simp only[Dv,hok,qM hnd,uN,rC]
   congr 1;simp;omega
  refine wd F2 [] A0 A0 ?_;with_reducible repeat' first|constructor|intro hc;try simp only[AB]at hc
  exact Ag e2
def apartB(s:Int)(l:List Int):Bool:=l.all (fun p=>decide (p≠s))&&decide l.Nodup
theorem bL(s:Int)(l:List Int)(hl:l.length<9223372036854775807):qB 279 [.i .i64 s,.is l] (.b (apartB s l)):=by
 have cut:∀k,k<l.length->(l.take (k+1)).all (fun p=>decide (p≠s))=((l.take k).all (fun p=>decide (p≠s))&&decide (l.getD k 0≠s)):=by
  intro k hk;rw[rU hk,qW,qK hk,List.all_append];simp only[sH,tY,uM,Option.getD_some]
 refine zF A4 Tryz.func279 ?_;refine wd Hn [] A0 A0 ?_;refine An (fun k=>k<=l.length/\(l.take k).all (fun p=>decide (p≠s))=true/\(l.take k).Nodup) (fun k:Nat=>⟨[(0,.pY s),(1,.qF l),(7,.qF l),(8,.pY l.length),(9,.pY k)],[],25⟩) (fun k=>l.length-k) 0 ⟨qP _,sm,sm⟩ ?_ (qG _) ?_
 .exact A1.ck rfl
 rintro k ⟨hk,hok,hnd⟩
 by_cases hkl:k<l.length
 .have hst:=cut k hkl;have hco:=TH (l.take k) (l.getD k 0) (by rw[rM];omega);rw[hok,rC]at hst
  by_cases hb:l.getD k 0=s
  .have f1:=A9 hb
   have e:apartB s l=false:=by
    unfold apartB
    have:l.getD k 0∈l:=by
     rw[qW,qK hkl];exact uV hkl
    have h2:l.all (fun p=>decide (p≠s))=false:=by
     rw[List.all_eq_false];exact⟨_,this,by rw[hb];simp⟩
    rw[h2];rfl
   refine wd Hn [] (A6 f1) A0 ?_;with_reducible repeat' first|constructor|intro hc;try simp only[AB]at hc
   exact Ag e
  .have f1:=eq_false' hb
   by_cases hm:l.getD k 0∈l.take k
   .rw[qM hm]at hco
    have e:apartB s l=false:=by
     unfold apartB;obtain⟨j,hj,e⟩:=vG.1 hm;rw[rM]at hj;have:¬l.Nodup:=UD (j:=j) (k:=k) om hkl (by rw[<-e,List.getElem_take,qW,qK (by omega:j<l.length)];rfl);simp[this]
    refine wd Hn [] (A6 f1) (A6 @hco) ?_;with_reducible repeat' first|constructor|intro hc;try simp only[AB]at hc
    exact Ag e
   .rw[qO hm]at hco;refine wd Hn [] (A6 f1) (A6 @hco) ?_;with_reducible repeat' first|constructor|intro hc;try simp only[AB]at hc
    refine⟨k+1,⟨hkl,by rw[hst,qM hb],Ov hkl hnd fun i hi h=>hm ?_⟩,om,qG _,?_⟩
    .rw[<-h,qW,qK (by omega:i<l.length)];exact vG.2 ⟨i,by rw[rM];omega,by rw[List.getElem_take];rfl⟩
    exact A1.ck rfl
 .have e:k=l.length:=om
  subst e;rw[qx]at hok hnd;have e2:apartB s l=true:=by unfold apartB;rw[hok,qM hnd];rfl
  refine wd Hn [] A0 A0 ?_;with_reducible repeat' first|constructor|intro hc;try simp only[AB]at hc
  exact Ag e2
def A2.bare(m:A2):A2:=
 if m.kind=4 then{m with key:=0,slow:=false}else
 if m.kind=5 then{m with item:=AA}else
 if m.kind=6 then{m with item:=AA}else
 if m.kind=7 then{m with pred:=0,list:=[]}else
 if m.kind=10 then{m with place:=0,done:=false}else
 if m.kind=11 then{m with code:=0}else
 if m.kind=12 then{m with code:=0,item:=AA}else m
def A2.has(m:A2):Bool:=
 if m.kind=4 then B5 m.key else
 if m.kind=5 then AU m.item else
 if m.kind=6 then AU m.item&&decide (m.item=⟨m.item.key,0,0,false⟩)else
 if m.kind=7 then(decide (m.pred= -1)||B5 m.pred)&&Dv m.list m.src else
 if m.kind=10 then B5 m.place else
 if m.kind=11 then decide (m.code=0)||decide (m.code=200)else
 if m.kind=12 then(decide (m.code=0)&&AU m.item)||(decide (m.code=201)&&decide (m.item=AA))else true
theorem gP(m:A2):qB 66 [m.d] m.bare.d:=by
 obtain⟨k,c,s,d,ky,sl,dn,pl,pr,l,⟨ik,iv,ir,ig⟩,co⟩:=m;refine zF A4 Tryz.func66 ?_;refine wd [0,1,2,4,5,9,14,18,22,25] [] A0 A0 ?_;with_reducible repeat' first|constructor|intro hc;try simp only[AB]at hc
 all_goals(refine⟨_,_,rfl,rfl,?_⟩;simp[*,A2.bare,A2.d,A2.cells,AA,MC,C5,Ca,Bn,MD,Aj,AP,AF])
theorem lk(m:A2)(hl:m.list.length<=9223372036854775807):qB 67 [m.d] (.b m.has):=by
 obtain⟨k,c,s,d,ky,sl,dn,pl,pr,l,⟨ik,iv,ir,ig⟩,co⟩:=m;have hp:=Dl;have hP:=P8 ⟨ik,iv,ir,ig⟩;have hL:=eY l s hl;have i1:=J1 ⟨ik,iv,ir,ig⟩ ⟨ik,0,0,false⟩;have i2:=J1 ⟨ik,iv,ir,ig⟩ ⟨[],0,0,false⟩;refine zF A4 Tryz.func67 ?_;refine wd [0,1,2,4,5,10,15,29,46,51,61] [] (AX i1 i2) (C3 @hp @hP @hL) ?_;with_reducible repeat' first|constructor|intro hc;try simp only[AB]at hc
 all_goals(clear hp hP hL i1 i2;refine⟨_,_,rfl,rfl,?_⟩;simp_all[Bb,A2.has,AA,Dg])
theorem E3{n:Int}(h:B5 n=true):0<=n/\n<65536:=by simpa[B5]using h
theorem ip{n:Int}:B5 n=true↔0<=n/\n<65536:=by simp[B5]
def A2.empty(m:A2):A2:=⟨m.kind,m.call,m.src,m.dst,0,false,false,0,0,[],AA,0⟩
def A2.I1(m:A2):Bool:=decide (1<=m.kind)&&decide (m.kind<13)&&B5 m.src&&B5 m.dst&&decide (m.src≠m.dst)&&decide (m.asker*1048576+1<=m.call)&&decide (m.call<m.asker*1048576+1+1048576)
def A2.right(m:A2):Bool:=m.I1&&(decide (m.bare=m.empty)&&m.has)
theorem bR(m:A2)(hl:m.list.length<=9223372036854775807):m.bare.list.length<=9223372036854775807:=by
 unfold A2.bare
 repeat' split
 all_goals first|exact hl|(show([]:List Int).length<=9223372036854775807;decide)
theorem QV(m:A2)(hl:m.list.length<=9223372036854775807):qB 19 [m.d] (.b m.right):=by
 have hb:=gP m;have hh:=lk m hl;have hA:=Zc m;have hS:=US m.bare m.empty (bR m hl);have hp1:=Dl m.src;have hp2:=Dl m.dst;have hR:m.right=(m.I1&&(decide (m.bare=m.empty)&&m.has)):=rfl;have hH:m.I1=(decide (1<=m.kind)&&decide (m.kind<13)&&B5 m.src&&B5 m.dst&&decide (m.src≠m.dst)&&decide (m.asker*1048576+1<=m.call)&&decide (m.call<m.asker*1048576+1+1048576)):=rfl
 have hAb:B5 m.src=true->B5 m.dst=true->0<=m.asker/\m.asker<65536:=by
  intro h1 h2;unfold A2.asker;split
  .exact E3 h1
  .exact E3 h2
 unfold A2.d A2.cells at hb hh hA hS|-;simp only[A2.empty,AA]at hS;generalize m.bare=B at *;generalize m.has=hs at *;generalize m.asker=A at *;generalize m.right=R at *;generalize m.I1=H at *;obtain⟨k,c,s,d,ky,sl,dn,pl,pr,l,⟨ik,iv,ir,ig⟩,co⟩:=m;refine zF A4 Tryz.func19 ?_;simp only at*
 cases h1:B5 s with
 |false=>
  rw[h1]at hp1 hH;refine wd [0,1,2,3,4,31,46] [] A0 (A6 @hp1) ?_;with_reducible repeat' first|constructor|intro hc;try simp only[AB]at hc
  all_goals(refine⟨_,_,rfl,rfl,?_⟩;simp_all[Bb])
 |true=>
 rw[h1]at hp1 hH
 cases h2:B5 d with
 |false=>
  rw[h2]at hp2 hH;refine wd [0,1,2,3,4,31,46] [] A0 (AX @hp1 @hp2) ?_;with_reducible repeat' first|constructor|intro hc;try simp only[AB]at hc
  all_goals(refine⟨_,_,rfl,rfl,?_⟩;simp_all[Bb])
 |true=>
 rw[h2]at hp2 hH;have hA2:=hAb h1 h2;have z1:=@hS;refine wd [0,1,2,3,4,31,46] [] A0 (NU @hp1 @hp2 @hA @hb @hh) ?_;clear z1;with_reducible repeat' first|constructor|intro hc;try simp only[AB]at hc
 all_goals(clear hb hh hA hS hp1 hp2 hAb;refine⟨_,_,rfl,rfl,?_⟩;simp_all[Bb,A2.empty,AA]<;>omega)
theorem Jh(m:A2)(hl:m.list.length<9223372036854775807):qB 19 [m.d] (.b m.right):=QV m (Nat.le_of_lt hl)
theorem fy(a b:A2)(ha:a.list.length<9223372036854775807):qB 201 [a.d,b.d] (.b (decide (a=b))):=by
 have hE:=Ym a.list b.list ha;obtain⟨k,c,s,d,ky,sl,dn,pl,pr,l,⟨ik,iv,ir,ig⟩,co⟩:=a;obtain⟨k',c',s',d',ky',sl',dn',pl',pr',l',⟨ik',iv',ir',ig'⟩,co'⟩:=b;have hI:=J1 ⟨ik,iv,ir,ig⟩ ⟨ik',iv',ir',ig'⟩;refine zF A4 Tryz.func201 ?_;refine wd [0,1,2,3,4] [] (A6 hI) (A6 @hE) ?_;with_reducible repeat' first|constructor|intro hc;try simp only[AB]at hc
 all_goals(clear ha hE;refine⟨_,_,rfl,rfl,?_⟩;simp_all[Bb,Dg])
def A2.beside(m:A2):A2:=
 if m.kind=4 then{m with kind:=0,call:=0,src:=0,dst:=0,key:=0,slow:=false}else
 if m.kind=5 then{m with kind:=0,call:=0,src:=0,dst:=0,item:=AA}else
 if m.kind=6 then{m with kind:=0,call:=0,src:=0,dst:=0,item:=⟨[],m.item.value,m.item.version,m.item.gone⟩}else
 if m.kind=7 then{m with kind:=0,call:=0,src:=0,dst:=0,pred:=0,list:=[]}else
 if m.kind=10 then{m with kind:=0,call:=0,src:=0,dst:=0,place:=0,done:=false}else
 if m.kind=11 then{m with kind:=0,call:=0,src:=0,dst:=0,code:=0}else
 if m.kind=12 then{m with kind:=0,call:=0,src:=0,dst:=0,code:=0,item:=AA}else
 {m with kind:=0,call:=0,src:=0,dst:=0}
def A2.holds(m:A2):Bool:=
 if m.kind=5 then AU m.item else
 if m.kind=6 then B6 m.item.key else
 if m.kind=7 then decide ((m.list.length:Int)<=3)&&apartB m.src m.list else
 if m.kind=11 then decide (m.code=0)||decide (m.code=200)else
 if m.kind=12 then(decide (m.code=0)&&AU m.item)||(decide (m.code=201)&&decide (m.item=AA))else true
theorem YS(m:A2):qB 202 [m.d] m.beside.d:=by
 obtain⟨k,c,s,d,ky,sl,dn,pl,pr,l,⟨ik,iv,ir,ig⟩,co⟩:=m;refine zF A4 Tryz.func202 ?_;refine wd [0,1,2,4,5,9,13,17,21,25,28] [] A0 A0 ?_;with_reducible repeat' first|constructor|intro hc;try simp only[AB]at hc
 all_goals(refine⟨_,_,rfl,rfl,?_⟩;simp[*,A2.beside,A2.d,A2.cells,AA,MC,C5,Ca,Bn,MD,Aj,AP,AF])
theorem cv(m:A2)(hl:m.list.length<9223372036854775807):qB 197 [m.d] (.b m.holds):=by
 obtain⟨k,c,s,d,ky,sl,dn,pl,pr,l,⟨ik,iv,ir,ig⟩,co⟩:=m;have hk:=LQ ik;have hP:=NV ⟨ik,iv,ir,ig⟩;have hL:=bL s l hl;have i2:=J1 ⟨ik,iv,ir,ig⟩ ⟨[],0,0,false⟩;refine zF A4 Tryz.func197 ?_;refine wd [0,1,2,4,5,10,16,29,39] [] (A6 i2) (C3 @hk @hP @hL) ?_;with_reducible repeat' first|constructor|intro hc;try simp only[AB]at hc
 all_goals(clear hk hP hL i2;refine⟨_,_,rfl,rfl,?_⟩;simp_all[Bb,A2.holds,AA,Dg]<;>(intro;exfalso;omega))
theorem MR(a c:Int)(h:0<=a/\a<65536):qB 199 [.i .i64 a,.i .i64 c] (.b (decide (c>a*1048576)&&decide (c<=(a+1)*1048576))):=by
 refine zF A4 Tryz.func199 ?_;refine wd [0,1,4] [] A0 A0 ?_;with_reducible repeat' first|constructor|intro hc;try simp only[AB]at hc
 all_goals(refine⟨_,_,rfl,rfl,?_⟩;simp_all[Bb]<;>omega)
def mC(m:A2):List AV:=[.pz m.kind,.pY m.call,.pY m.src,.pY m.dst,.pY m.key,.pq m.slow,.pq m.done,.pY m.place,.pY m.pred,.qF m.list,.qE m.item.key,.pY m.item.value,.pY m.item.version,.pq m.item.gone,.pY m.code]
theorem Zb(m:A2):qC 198 [.d m.d] [] (.fn (.func 280) [] [.ptr 0 0 15]) [.c (mC m)]:=by
 refine zD A4 Tryz.func198 ?_;refine wd [0,1,2] [] A0 A0 ?_;exact⟨_,(A1.ck rfl),qP _,_,_,rfl,rfl,rfl,rfl⟩
def A2.EY(m:A2):Bool:=
 B5 m.src&&B5 m.dst&&(if m.kind=4 then B5 m.key else if m.kind=10 then B5 m.place else if m.kind=7 then(decide (m.pred= -1)||B5 m.pred)&&m.list.all B5 else true)
end Wi
end Go.Proofs.YtkljbfejbakooaaGreatDoor
