/- Part 21 of a proof. Conditions: those that its theorems state. -/
import Derived.Test.YtkljbfejbakooaaGreatDoorS20
set_option linter.unusedSimpArgs false
set_option linter.unusedVariables false
set_option linter.unnecessarySimpa false
set_option maxHeartbeats 40000000
set_option maxRecDepth 4000
namespace Go.Proofs.YtkljbfejbakooaaGreatDoor
namespace Nd
open Go.Gar
open Wi (A2 B5 AU A5 B6 mC)
abbrev Lx:List Nat:=[0,1,2,3,10]
def Look.cells(l:Look):List D:=[.i .i64 l.key,.i .i64 l.at_,.i .i64 l.hops,.b l.slow,.b l.found,.i .i64 l.code]
def Look.d(l:Look):D:=.agg l.cells
def NN(l:Look):List AV:=[.pY l.key,.pY l.at_,.pY l.hops,.pq l.slow,.pq l.found,.pY l.code]
theorem XR(n:Int):qB 358 [.i .i64 n] (.b (Ai n)):=by
 refine zF A4 Tryz.func358 ?_;refine wd [0,2] [] A0 A0 ?_;with_reducible repeat' first|constructor|intro hc;try simp only[AB]at hc
 all_goals(refine⟨_,_,rfl,rfl,?_⟩;simp only[Bn];refine congrArg D.b ?_;unfold Ai;grind)
theorem U6(l:Look):qB 331 [l.d] (.b (KG l)):=by
 have c1:=XR l.key;have c2:=XR l.at_;have hT:KG l=((Ai l.key&&Ai l.at_&&decide (0<=l.hops)&&decide (l.hops<=41))&&(if l.hops>40 then decide (l.code=211)&& !l.found else decide (l.code=0))):=rfl;refine zF A4 Tryz.func331 ?_;unfold Look.d Look.cells;generalize Ai l.key=p1 at *;generalize Ai l.at_=p2 at *;generalize KG l=R at *;refine wd [0,1,2,22,25] [] A0 (AX @c1 @c2) ?_;with_reducible repeat' first|constructor|intro hc;try simp only[AB]at hc
 all_goals(clear c1 c2;refine⟨_,_,rfl,rfl,?_⟩;simp only[Bn];refine congrArg D.b ?_;rw[hT];clear hT;grind)
theorem U5(l:Look):qB 332 [l.d] (.b (lookO l)):=by
 refine zF A4 Tryz.func332 ?_;unfold Look.d Look.cells lookO;refine wd [0,1,2] [] A0 A0 ?_;with_reducible repeat' first|constructor|intro hc;try simp only[AB]at hc
 all_goals(refine⟨_,_,rfl,rfl,?_⟩;simp only[Bn];refine congrArg D.b ?_;grind)
theorem mB(l:Look):qB 294 [l.d] (.tup [(XQ l).1.d,.b (XQ l).2]):=by
 have c1:=U5 l;have c2:=U6 l;refine zF A4 Tryz.func294 ?_;unfold Look.d Look.cells at*
 cases h:lookO l with
 |true=>
  have hT:XQ l=(A5,false):=by unfold XQ;rw[h];rfl
  rw[h]at c1;rw[hT];refine wd Lx [] A0 (A6 @c1) ?_;exact Ag (qQ @Wi.A2.d.eq_1 (qQ @Wi.A2.cells.eq_1 (qQ @A5.eq_1 @AA.eq_1)))
 |false=>
 rw[h]at c1
 cases h2:KG l with
 |false=>
  have hT:XQ l=(A5,false):=by unfold XQ;rw[h,h2];rfl
  rw[h2]at c2;rw[hT];refine wd Lx [] A0 (AX @c1 @c2) ?_;exact Ag (qQ @Wi.A2.d.eq_1 (qQ @Wi.A2.cells.eq_1 (qQ @A5.eq_1 @AA.eq_1)))
 |true=>
  have hT:XQ l=(Uy l,true):=by unfold XQ;rw[h,h2];rfl
  rw[h2]at c2;rw[hT];refine wd Lx [] A0 (AX @c1 @c2) ?_;exact Ag (qQ @Wi.A2.d.eq_1 (qQ @Wi.A2.cells.eq_1 (qQ @Uy.eq_1 @AA.eq_1)))
theorem iT(id:Int)(base list:List Int)(pred:Int)(f:Nat->Int)(l:Look):qC 293 [.d (View.d ⟨id,base,list,pred,f⟩),.d l.d] [] (.fn (.func 339) [] [.ptr 0 0 20,.ptr 1 0 6]) [.c (vC id base list pred f),.c (NN l)]:=by
 refine zD A4 Tryz.func293 ?_;unfold vC NN Look.d Look.cells;refine wd [0,1,2,3,4] [] A0 A0 ?_;exact⟨_,(A1.ck rfl),qP _,_,_,rfl,rfl,rfl,rfl⟩
theorem dV(id:Int)(base list:List Int)(pred:Int)(f:Nat->Int)(l:Look)(hb:base.length<=1000)(hl:list.length<=1000):qC 339 [.ptr 0 0 20,.ptr 1 0 6] [.c (vC id base list pred f),.c (NN l)] (.tup [.pY ((FY ⟨id,base,list,pred,f⟩ l.key l.slow).1),.pq ((FY ⟨id,base,list,pred,f⟩ l.key l.slow).2)]) [.c (vC id base list pred f),.c (NN l)]:=by
 have c1:=WQ ⟨id,base,list,pred,f⟩ l.key l.slow hb hl;refine zD A4 Tryz.func339 ?_;generalize FY ⟨id,base,list,pred,f⟩ l.key l.slow=q at *;obtain⟨q1,q2⟩:=q;unfold vC NN;refine wd [0,1,2,3] [] A0 (A6 @c1) ?_;exact⟨⟨[(2,.pY q1),(3,.pq q2)],_,_⟩,(A1.ck rfl),qG _,_,_,rfl,rfl,rfl,rfl⟩
theorem iD(l:Look)(h:0<=l.hops/\l.hops<=41):qB 334 [l.d] (.tup [(NK l).d,.b (decide (l.hops+1<=40))]):=by
 refine zF A4 Tryz.func334 ?_;unfold Look.d Look.cells
 by_cases hh:l.hops+1>40
 .have f1:decide (l.hops+1>40)=true:=qM hh;have hc:(NK l).code=211:=if_pos hh;have hd:decide (l.hops+1<=40)=false:=qO om;rw[hd];refine wd Lx [] (A6 f1) A0 ?_;exact Ag (qQ @NK.eq_1 hh)
 .have f1:decide (l.hops+1>40)=false:=qO hh;have hd:decide (l.hops+1<=40)=true:=qM om;rw[hd];refine wd Lx [] (A6 f1) A0 ?_;exact Ag (qQ @NK.eq_1 hh)
abbrev SV:List Nat:=[0,1,4,5,6,11,12,13,16,19]
abbrev H4:List Nat:=[0,1,3,4,5,6,7,8,9,15,28]
def NI(a b:List UInt8):Int:=if a<b then -1 else if b<a then 1 else 0
theorem QB(s:List UInt8):qB 306 [.s s] (.b false):=by
 have e:(s !=s)=false:=by simp
 refine zF A4 Tryz.func306 ?_;refine wd [0,2] [] (A6 e) A0 ?_;exact zE
theorem Sm(a b:List UInt8):qB 257 [.s a,.s b] (.i .i64 (NI a b)):=by
 have c1:=QB a;have c2:=QB b;have hT:NI a b=if a<b then -1 else if b<a then 1 else 0:=rfl
 refine zF A4 Tryz.func257 ?_
 by_cases h1:a<b
 .have f1:Op.bytesLess a b=true:=by rw[bytesLess_eq];exact qM h1
  rw[hT,if_pos h1];refine wd SV [] (A6 f1) (AX @c1 @c2) ?_;exact zE
 .have f1:Op.bytesLess a b=false:=by rw[bytesLess_eq];exact qO h1
  by_cases h2:b<a
  .have f2:(a==b)=false:=by
    rw[beq_eq_false_iff_ne];rintro rfl;exact List.lt_irrefl _ h2
   rw[hT,if_neg h1,if_pos h2];refine wd SV [] (AX f1 f2) (AX @c1 @c2) ?_;exact zE
  .have f2:(a==b)=true:=by
    rw[beq_iff_eq];rcases VV a b with h|h|h
    .exact absurd h h1
    .exact h
    .exact absurd h h2
   rw[hT,if_neg h1,if_neg h2];refine wd SV [] (AX f1 f2) (AX @c1 @c2) ?_;exact zE
theorem S7(x:Item)(key:List UInt8):qC 256 [.d x.d,.ptr 0 0 1] [.c [.qE key]] (.pY (NI x.key key)) [.c [.qE key]]:=by
 have c1:=Sm x.key key;refine zD A4 Tryz.func256 ?_;generalize NI x.key key=q at *;unfold Item.d Item.cells;refine wd [0,1,2,3] [] A0 (A6 @c1) ?_;exact⟨⟨[(3,.pY q)],[.c [.qE key]],_⟩,(A1.ck rfl),qA,_,_,rfl,rfl,rfl,rfl⟩
variable {l:List Item}
theorem Vp{key:List UInt8}(h:kS l){k:Nat}{x:Item}(hx:l[k]? =some x):x.key<key↔k<Bj l key:=by
 obtain⟨h1,h2⟩:=Jg key l h;constructor
 .intro hlt;rcases rG k (Bj l key)with h|h
  .exact h
  .refine absurd hlt (h2 x (List.mem_iff_getElem?.2 ⟨k-Bj l key,?_⟩));rw[tN,show Bj l key+(k-Bj l key)=k by omega];exact hx
 .intro hlt;refine h1 x (List.mem_iff_getElem?.2 ⟨k,?_⟩);rw[sV,if_pos hlt];exact hx
def Xi(l:List Item)(key:List UInt8)(x:Nat×Nat):St:=⟨[(0,.d (Ab l)),(6,.fn (.func 256) [] [.ptr 0 0 1]),(7,.pY x.1),(8,.pY x.2)],[.c [.qE key]],46⟩
theorem eF(l:List Item)(key:List UInt8)(h:kS l)(hn:l.length<=1048576):qB 176 [Ab l,.s key] (.tup [.i .i64 (Bj l key),.b (hasK l key)]):=by
 have hle:=S8 l key;refine zF A4 Tryz.func176 ?_;refine wd H4 [] A0 A0 ?_;refine Sy 0 _ (fun x:Nat×Nat=>x.1<=Bj l key/\Bj l key<=x.2/\x.2<=l.length) (Xi l key) (fun x=>x.2-x.1) (l.length+1) 0 0 rfl ?_ ?_
 .by_cases h0:0<l.length
  .have f1:decide ((0:Int)<(l.length:Int))=true:=qM om;have e1:((l.length:Int)-0).tdiv 2=((l.length/2:Nat):Int):=by rw[Int.tdiv_eq_ediv_of_nonneg om];omega
   have e2:(0:Int)+((l.length/2:Nat):Int)=((l.length/2:Nat):Int):=om
   generalize hmm:l.length/2=m at *;obtain⟨x,hx⟩:=AT (xs:=l) (k:=m) om;have hlt:=Vp (key:=key) h hx;have c1:=S7 x key;unfold Item.d Item.cells at c1
   by_cases hk:x.key<key
   .have hc:NI x.key key= -1:=if_pos hk;rw[hc]at c1;have hk':=hlt.1 hk;have ix1:=hx;have d1:=Ds.mk [0] (c1);refine wd H4 [] (C3 f1 e1 e2) A0 ?_;clear d1 ix1;refine⟨(m+1,l.length),⟨hk',hle,qG _⟩,(show l.length-(m+1)<l.length+1 by omega),qG _,?_⟩;unfold Xi;exact A1.ck rfl
   .have hc:decide (NI x.key key<0)=false:=qO (by unfold NI;rw[if_neg hk];split<;>omega);have hk':¬m<Bj l key:=fun hh=>hk (hlt.2 hh)
    have ix1:=hx;have d1:=Ds.mk [0] (c1);refine wd H4 [] (Kl f1 e1 e2 hc) A0 ?_;clear d1 ix1;refine⟨(0,m),⟨qP _,Nat.le_of_not_lt hk',(show m<=l.length by omega)⟩,(show m-0<l.length+1 by omega),qG _,?_⟩;unfold Xi;exact A1.ck rfl
  .have e:l=[]:=uY.1 om;subst e;refine wd H4 [] A0 A0 ?_;exact Ag (qQ @Bj.eq_1 @hasK.eq_1)
 rintro⟨a,b⟩ ⟨h1,h2,h3⟩;dsimp only at h1 h2 h3;unfold Xi
 by_cases hab:a<b
 .have f1:decide ((a:Int)<(b:Int))=true:=qM om;have e1:((b:Int)-(a:Int)).tdiv 2=(((b-a)/2:Nat):Int):=by rw[Int.tdiv_eq_ediv_of_nonneg om];omega
  have e2:(a:Int)+(((b-a)/2:Nat):Int)=((a+(b-a)/2:Nat):Int):=om
  have hm:a+(b-a)/2<b:=om
  have hm2:a<=a+(b-a)/2:=om
  generalize hmm:a+(b-a)/2=m at *;obtain⟨x,hx⟩:=AT (xs:=l) (k:=m) om;have hlt:=Vp (key:=key) h hx;have c1:=S7 x key;unfold Item.d Item.cells at c1
  by_cases hk:x.key<key
  .have hc:NI x.key key= -1:=if_pos hk;rw[hc]at c1;have hk':=hlt.1 hk;have ix1:=hx;have d1:=Ds.mk [0] (c1);refine wd H4 [] (C3 f1 e1 e2) A0 ?_;clear d1 ix1;refine⟨(m+1,b),⟨hk',h2,h3⟩,(show b-(m+1)<b-a by omega),qG _,?_⟩;exact A1.ck rfl
  .have hc:decide (NI x.key key<0)=false:=qO (by unfold NI;rw[if_neg hk];split<;>omega);have hk':¬m<Bj l key:=fun hh=>hk (hlt.2 hh)
   have ix1:=hx;have d1:=Ds.mk [0] (c1);refine wd H4 [] (Kl f1 e1 e2 hc) A0 ?_;clear d1 ix1;refine⟨(a,m),⟨h1,Nat.le_of_not_lt hk',om⟩,(show m-a<b-a by omega),qG _,?_⟩;exact A1.ck rfl
 .have f1:decide ((a:Int)<(b:Int))=false:=qO om;have ha:a=Bj l key:=om
  by_cases hl:a<l.length
  .have f2:decide ((a:Int)<(l.length:Int))=true:=qM om;obtain⟨x,hx⟩:=AT (xs:=l) (k:=a) hl;have c1:=S7 x key;unfold Item.d Item.cells at c1;have gx:l.getD a AA=x:=getD_at hx;have hlt:¬x.key<key:=fun hh=>by have:=(Vp (key:=key) h hx).1 hh;omega
   have hT:hasK l key=(NI x.key key==0):=by
    unfold hasK;rw[<-ha,gx,qM hl,rC,Dg];unfold NI;rw[if_neg hlt]
    by_cases e:x.key=key
    .rw[if_neg (by rw[e];exact List.lt_irrefl _)];simp[e]
    .rcases VV x.key key with h|h|h
     .exact absurd h hlt
     .exact absurd h e
     .rw[if_pos h];simp[e]
   rw[hT,<-ha];have ix1:=hx;have d1:=Ds.mk [0] (c1);refine wd H4 [] (AX f1 f2) A0 ?_;clear d1 ix1;exact zE
  .have f2:decide ((a:Int)<(l.length:Int))=false:=qO om
   have hT:hasK l key=false:=by
    unfold hasK;rw[<-ha,qO hl];rfl
   rw[hT,<-ha];refine wd H4 [] (AX f1 f2) A0 ?_;exact zE
theorem XN(l:List Item)(key:List UInt8)(hn:l.length<=1048576):qB 193 [Ab l,.s key] (.tup [(Cf l key).1.d,.i .i64 (Cf l key).2]):=by
 have c1:=Ri l om;refine zF A4 Tryz.func193 ?_;have hT:Cf l key=if Bo l&&hasK l key then(l.getD (Bj l key) AA,0)else(AA,201):=rfl
 cases h:Bo l with
 |false=>
  rw[h]at c1 hT;rw[hT];refine wd [0,1,4,5,6,7,10,19] [] A0 (A6 @c1) ?_;exact Ag (qQ @Item.d.eq_1 (qQ @Item.cells.eq_1 @AA.eq_1))
 |true=>
  have c2:=eF l key (Di.1 h).2.2 hn;rw[h]at c1 hT
  cases hh:hasK l key with
  |false=>
   rw[hh]at c2 hT;rw[hT];refine wd [0,1,4,5,6,7,10,19] [] A0 (AX @c1 @c2) ?_;exact Ag (qQ @Item.d.eq_1 (qQ @Item.cells.eq_1 @AA.eq_1))
  |true=>
   obtain⟨x,hx,hxk,hxg⟩:=I0 hh;rw[hh]at c2 hT;rw[hxg]at hT;rw[hT];generalize Bj l key=m at *;have ix1:=hx;refine wd [0,1,4,5,6,7,10,19] [] A0 (AX @c1 @c2) ?_;clear ix1;exact Ag (qQ @Item.d.eq_1 @Item.cells.eq_1)
abbrev Lz:List Nat:=[0,2,3,5,8,13,14,15]
abbrev SY:List Nat:=[0,1,3,4,5,6,7,8,16]
abbrev Jt:List Nat:=[0,1,3,4,5,6,7,8,9,17,27,35,43]
theorem Tv(l:List Item)(h0:0<l.length)(hn:l.length<=1048576):qC 87 [.d (Ab l)] [] (.sl 0 l.length 4) [.a (Ab l)]:=by
 have c1:=Tw l;have f1:=eq_false' (show(l.length:Int)≠0 by omega);refine zD A4 Tryz.func87 ?_;have k1:No 11:=trivial;have k2:Dd ((Ab [])):=trivial;have d1:=Ds.mk [] (c1);refine wd Lz [] (A6 f1) A0 ?_;clear d1 k2 k1;refine zG (K:=fun r _ H'=>H'=[.a (Ab l),.c [.sl 0 l.length 4],.c [.d (Ab l)],.lp r]) ?_ ?_
 .intro r hr;have hk:=hr.ok (k:=3) rfl
  have hY:∀(k:Nat)(x:Item)(o:List Item),o.length<=1048576->YT Tryz.prog 3 [.pY k,.d (.agg [.s x.key,.i .i64 x.value,.i .i64 x.version,.b x.gone])] [.a (Ab o),.c [.sl 0 o.length 4],.c [.d (Ab l)],.lp r,.c [.qE x.key,.pY x.value,.pY x.version,.pq x.gone]] fun v K=>v= .pq true/\K=[.a (Ab (o++[x])),.c [.sl 0 (o++[x]).length 4],.c [.d (Ab l)],.lp r,.c [.qE x.key,.pY x.value,.pY x.version,.pq x.gone]]:=by
   intro k x o ho;refine AZ hr rfl rfl rfl ?_;refine wd Lz [] A0 A0 ?_;refine zR ?_;refine wd Lz [] A0 A0 ?_;refine⟨⟨[],[.a (Ab (o++[x])),.c [.sl 0 (o++[x]).length 4],.c [.d (Ab l)],.lp r.busy,.c [.qE x.key,.pY x.value,.pY x.version,.pq x.gone]],_⟩,(have nC:=qQ @Ab.eq_1 @Item.cells.eq_1;A1.cn rfl),qG _,rfl,rfl,rfl⟩
  refine zT A4 Tryz.func235 ?_;refine wd SY [] A0 A0 ?_;refine Cu (fun j:Nat=>j<=l.length) (fun j:Nat=>[(7,.pY j)]) (fun j=>[(0,.a (Ab (l.take j))),(1,.c [.sl 0 (l.take j).length 4])]) (fun j=>l.length-j) 0 (qP _) (fun _=>rfl) (fun _=>rfl) ?_ ?_
  .exact A1.ck rfl
  intro j hj
  by_cases hjl:j<l.length
  .obtain⟨x,hx⟩:=AT hjl;have hy:=hY j x (l.take j) (by rw[rM];omega);have hn:=AQ hx;rw[<-hn]at hy;have ix1:=hx;have q1:=@hy;refine wd SY [] A0 A0 ?_;clear q1 ix1;with_reducible repeat' first|constructor|intro hc;try simp only[AB]at hc
   refine⟨j+1,hjl,om,qG _,?_⟩;exact A1.ck rfl
  .have e:j=l.length:=om
   subst e;rw[qx];refine wd SY [] A0 A0 ?_;with_reducible repeat' first|constructor|intro hc;try simp only[AB]at hc
   exact⟨_,A1.refl _,qG _,_,_,rfl,rfl,rfl⟩
 .rintro r hr x H' rfl;refine .inl ⟨rfl,?_⟩;refine wd Lz [] A0 A0 ?_;exact⟨⟨[(2,.sl 0 l.length 4)],[.a (Ab l)],_⟩,(A1.ck rfl),qP _,_,_,rfl,rfl,rfl,rfl⟩
theorem XO(l:List Item)(hn:l.length<=1048576):qB 87 [Ab l] (Ab l):=by
 by_cases h0:0<l.length
 .refine EP (ds:=[Ab l]) (Tv l h0 hn) ?_;simp[KL,AP]
 .have e:l=[]:=uY.1 om;subst e;refine zF A4 Tryz.func87 ?_;refine wd Lz [] A0 A0 ?_;exact zE
theorem jr:∀(l:List Item)(m:Nat),((l.map Item.cells).flatten).drop (m*4)=((l.drop m).map Item.cells).flatten
 |[],m=>by simp
 |a::l,0=>rfl
 |a::l,m+1=>by
  rw[sO,uD,uP,Nat.one_mul,Nat.add_comm,<-List.drop_drop];show List.drop (m*4) (List.drop 4 ([_,_,_,_]++_))=_;exact jr l m
theorem ey{m:Nat}{y:Item}(hy:l[m]? =some y):((slc (Ab l)).drop (m*4+0)).take 4=y.cells:=by
 show(((l.map Item.cells).flatten).drop (m*4+0)).take 4=_;have h:=(qN.1 hy).1;rw[uz,jr,uQ h,sO,uD];have:l[m]=y:=(qN.1 hy).2;rw[this];rfl
theorem PL(x:Item):∀(m:Nat)(l:List Item),m<l.length->setRows 0 x.cells m (l.map Item.cells)=(l.set m x).map Item.cells
 |_,[],h=>by simp at h
 |0,a::l,_=>rfl
 |m+1,a::l,h=>by
  show a.cells::setRows 0 x.cells m (l.map Item.cells)=_;rw[PL x m l (by simpa using h)];rfl
theorem XP(l:List Item)(x:Item)(hn:l.length<=1048576):qB 191 [Ab l,x.d] (.tup [Ab (Dx l x).1,.i .i64 (Dx l x).2]):=by
 have c1:=Ri l om;have c2:=Wi.NV x;have c3:=XO l hn
 have hT:Dx l x=if Bo l&&AU x then
  (if hasK l x.key then(if KY x (l.getD (Bj l x.key) AA)then l.set (Bj l x.key) x else l,0)
   else if l.length>=24 then(l,200)else(l.take (Bj l x.key)++x::l.drop (Bj l x.key),0))else(l,2):=rfl
 refine zF A4 Tryz.func191 ?_;generalize AU x=b2 at*
 cases h:Bo l with
 |false=>
  rw[h]at c1 hT;rw[hT];refine wd Jt [] A0 (AX @c1 @c3) ?_;exact zE
 |true=>
 have c4:=eF l x.key (Di.1 h).2.2 hn;rw[h]at c1 hT
 cases b2 with
 |false=>
  rw[hT];refine wd Jt [] A0 (C3 @c1 @c2 @c3) ?_;exact zE
 |true=>
 rw[rC,if_pos rfl]at hT;have hle:=S8 l x.key
 cases hh:hasK l x.key with
 |true=>
  obtain⟨y,hy,hyk,hyg⟩:=I0 hh;rw[hh,if_pos rfl,hyg]at hT;rw[hh]at c4;have hlt:=(qN.1 hy).1;have c5:=Tv l om hn;have c6:=ai x y;have hsl:=ey hy;have hst:setRows 0 [.s x.key,.i .i64 x.value,.i .i64 x.version,.b x.gone] (Bj l x.key) (l.map Item.cells)=(l.set (Bj l x.key) x).map Item.cells:=PL x _ l hlt;rw[hT];unfold KY;generalize Bj l x.key=m at *;unfold Item.d at c6;rw[<-hsl]at c6;unfold Item.cells at c6
  cases hnw:decide (Hr x y>0)with
  |false=>
   rw[hnw]at c6;have d1:=Ds.mk [] (c5);refine wd Jt [] A0 (Kl @c1 @c2 @c4 @c6) ?_;clear d1;exact zE
  |true=>
   rw[hnw]at c6;have d1:=Ds.mk [] (c5);refine wd Jt [7] A0 (Kl @c1 @c2 @c4 @c6) ?_;clear d1;have nS:=hst
   repeat'(first|((with_reducible refine sg ?_);first|with_reducible rfl|((with_reducible refine NJ ?_);first|kernel_rfl|rfl|(simp[Er,HV,nS];done))|with_reducible refine Ip ?_ ?_|with_reducible exact tq _|with_reducible exact Cd _|((with_reducible refine qM ?_);first|omega|(simp only[If,nS];omega))|decide|(simp[If,slc,Bw,D.one,Dt,AV.one,nS];done)|(simp[If,nS];omega))|((with_reducible refine fa ?_);first|(refine F3 rfl ?_;refine fY A4 rfl rfl rfl rfl ?_)|refine Xq A4 rfl rfl rfl rfl ?_ ?_|refine Xn [0,1,3,4,5,6,7,8,9,17,27,35,43] rfl ?_|refine Xa A4 rfl rfl rfl rfl rfl ?_ ?_|refine Xw A4 rfl rfl rfl rfl ?_ ?_|refine Xs rfl rfl rfl ?_|(refine bF rfl rfl (fun hc=> ?_) (fun hc=> ?_)<;>(fail_if_success (with_reducible first|exact tF hc|exact fT hc))<;>(try simp only[AB]at hc)<;>(try(exfalso;omega))))|((with_reducible refine gWd ?_);first|(refine Qo rfl ?_;refine Ymv A4 rfl rfl (fun _=>rfl) rfl rfl ?_)|refine Yp A4 rfl rfl (fun _=>rfl) rfl rfl ?_ ?_|refine Yq rfl rfl rfl rfl rfl ?_ ?_|refine Ys rfl rfl rfl rfl ?_|refine Ya A4 rfl rfl rfl rfl rfl rfl ?_ ?_|refine Yw A4 rfl rfl rfl rfl rfl ?_ ?_|refine Yn [0,1,3,4,5,6,7,8,9,17,27,35,43] [] mixed A4 (by kernel_rfl) tZ rfl ?_|(refine bG rfl rfl (fun hc=> ?_) (fun hc=> ?_)<;>(fail_if_success (with_reducible first|exact tF hc|exact fT hc))<;>(try simp only[AB]at hc)<;>(try(exfalso;omega))))|refine HO ?_|refine Dz ?_|refine ja T.get ?_|(refine Xsc A4 rfl rfl rfl rfl ?_ ?_)|refine Eo ?_|refine HN ?_|refine De ?_|refine En ?_|refine Cc rfl ?_|refine Cb rfl ?_|(refine GL rfl (fun hc=> ?_) (fun hc=> ?_)<;>(try simp only[AB]at hc)<;>(try(exfalso;omega))))
   exact Ag hst
 |false=>
 rw[hh,if_neg (by decide)]at hT;rw[hh]at c4
 by_cases h24:l.length>=24
 .have f1:decide ((l.length:Int)>=24)=true:=qM om;rw[if_pos h24]at hT;rw[hT];refine wd Jt [] (A6 f1) (Kl @c1 @c2 @c3 @c4) ?_;exact zE
 .have f1:decide ((l.length:Int)>=24)=false:=qO om;rw[if_neg h24]at hT;rw[hT];generalize Bj l x.key=m at *;have k1:No 49:=trivial;have k2:Dd ((Ab [])):=trivial;refine wd Jt [] (A6 f1) (Kl @c1 @c2 @c3 @c4) ?_;clear k2 k1;refine⟨_,_,rfl,rfl,?_⟩;simp[H8,AP,Aj,AF,List.map_take,List.map_drop,Item.cells]
abbrev Nx:List Nat:=[0,2,3,5,7,8,9]
abbrev SZ:List Nat:=[0,1,3,4,5,6,7,8,16]
abbrev IK:List Nat:=[0,1,2,3,4,5,6,17,18,20]
theorem DG(m:A2)(h:AD m):qB 122 [m.d] m.d:=by
 unfold AD at h;refine zF A4 Tryz.func122 ?_;unfold Wi.A2.d Wi.A2.cells;refine wd [0,1,2] [] A0 A0 ?_;exact zE
theorem P2(x:Call)(h:AD x.msg):qB 252 [x.d] x.d:=by
 have c1:=DG x.msg h;refine zF A4 Tryz.func252 ?_;unfold Call.d Call.cells;unfold Wi.A2.d Wi.A2.cells at c1;refine wd [0,1,2] [] A0 (A6 @c1) ?_;exact zE
theorem JR(l:List Int)(hl:l.length<=1048576):qB 151 [.is l] (.is l):=by
 refine zF A4 Tryz.func151 ?_;have nS:=tZ
 repeat'(first|((with_reducible refine sg ?_);first|with_reducible rfl|((with_reducible refine NJ ?_);first|kernel_rfl|rfl|(simp[Er,HV,nS];done))|with_reducible refine Ip ?_ ?_|with_reducible exact tq _|with_reducible exact Cd _|((with_reducible refine qM ?_);first|omega|(simp only[If,nS];omega))|decide|(simp[If,slc,Bw,D.one,Dt,AV.one,nS];done)|(simp[If,nS];omega))|((with_reducible refine fa ?_);first|(refine F3 rfl ?_;refine fY A4 rfl rfl rfl rfl ?_)|refine kr A4 rfl rfl rfl rfl rfl rfl (fun hnil=> ?_) ?_|refine ku A4 rfl rfl rfl rfl rfl rfl (fun hnil=> ?_) ?_|refine Xq A4 rfl rfl rfl rfl ?_ ?_|refine Xn [0,2,4] rfl ?_|refine Xw A4 rfl rfl rfl rfl ?_ ?_)|refine HO ?_|refine Dz ?_|refine Eo ?_|refine HN ?_|refine De ?_|refine En ?_|refine Cc rfl ?_|refine Cb rfl ?_|(refine GL rfl (fun hc=> ?_) (fun hc=> ?_)<;>(try simp only[AB]at hc)<;>(try(exfalso;omega))))
 .have e:=is_nil hnil;subst e;exact zE
 .exact zE
theorem Fv(j:Job)(h:j.left.length<=1048576):qB 86 [j.d] j.d:=by
 have c1:=JR j.left h;refine zF A4 Tryz.func86 ?_;unfold Job.d Job.cells
 by_cases h0:(j.left.length:Int)=0
 .have f1:=A9 h0;have e:j.left=[]:=uY.1 om;refine wd [0,1,2,6] [] (A6 f1) A0 ?_;exact Ag e
 .have f1:=eq_false' h0;refine wd [0,1,2,6] [] (A6 f1) (A6 @c1) ?_;exact zE
abbrev Xg(x:Past):List AV:=[.pY x.src,.pY x.call,.pz x.told.kind,.pY x.told.call,.pY x.told.src,.pY x.told.dst,.pY x.told.key,.pq x.told.slow,.pq x.told.done,.pY x.told.place,.pY x.told.pred,.qF x.told.list,.qE x.told.item.key,.pY x.told.item.value,.pY x.told.item.version,.pq x.told.item.gone,.pY x.told.code]
abbrev CB(x:Call):List AV:=[.pY x.id,.pz x.msg.kind,.pY x.msg.call,.pY x.msg.src,.pY x.msg.dst,.pY x.msg.key,.pq x.msg.slow,.pq x.msg.done,.pY x.msg.place,.pY x.msg.pred,.qF x.msg.list,.qE x.msg.item.key,.pY x.msg.item.value,.pY x.msg.item.version,.pq x.msg.item.gone,.pY x.msg.code,.pz x.why,.pY x.ref,.pY x.sent,.pY x.tries]
theorem NA(l:List Past)(hl:∀x∈l,AD x.told)(hn:l.length<=1048576):qC 85 [.d (AH l)] [] (.sl 2 l.length 17) [.gone,.gone,.a (AH l)]:=by
 have c1:=PI l;refine zD A4 Tryz.func85 ?_;have d1:=Ds.mk [] (c1);refine wd Nx [] A0 A0 ?_;clear d1;refine Ah (A1.FV 0 0 (.sl 17 []) rfl rfl rfl rfl (by simp[AF])) sm ?_;refine zG (K:=fun r _ H'=>H'=[.c [.sl 2 l.length 17],.c [.d (AH l)],.a (AH l),.lp r]) ?_ ?_
 .intro r hr;have hk:=hr.ok (k:=3) rfl
  have hY:∀(k:Nat)(x:Past)(o:List Past),AD x.told->o.length<=1048576->YT Tryz.prog 3 [.pY k,.d (.agg [.i .i64 x.src,.i .i64 x.call,.i .u8 x.told.kind,.i .i64 x.told.call,.i .i64 x.told.src,.i .i64 x.told.dst,.i .i64 x.told.key,.b x.told.slow,.b x.told.done,.i .i64 x.told.place,.i .i64 x.told.pred,.is x.told.list,.s x.told.item.key,.i .i64 x.told.item.value,.i .i64 x.told.item.version,.b x.told.item.gone,.i .i64 x.told.code])] [.c [.sl 2 o.length 17],.c [.d (AH l)],.a (AH o),.lp r,.c (Xg x)] fun v K=>v= .pq true/\K=[.c [.sl 2 (o++[x]).length 17],.c [.d (AH l)],.a (AH (o++[x])),.lp r,.c (Xg x)]:=by
   intro k x o hx ho;have c2:=DG x.told hx;unfold Wi.A2.d Wi.A2.cells at c2;refine AZ hr rfl rfl rfl ?_;unfold Xg;refine wd Nx [] A0 A0 ?_;refine zR ?_;refine wd Nx [] A0 (A6 @c2) ?_;refine⟨⟨[],[.c [.sl 2 (o++[x]).length 17],.c [.d (AH l)],.a (AH (o++[x])),.lp r.busy,.c (Xg x)],_⟩,(have nC:=qQ @AH.eq_1 @Past.cells.eq_1;A1.cn rfl),qG _,rfl,rfl,rfl⟩
  refine zT A4 Tryz.func234 ?_;refine wd SZ [] A0 A0 ?_;refine Cu (fun j:Nat=>j<=l.length) (fun j:Nat=>[(7,.pY j)]) (fun j=>[(0,.c [.sl 2 (l.take j).length 17]),(2,.a (AH (l.take j)))]) (fun j=>l.length-j) 0 (qP _) (fun _=>rfl) (fun _=>rfl) ?_ ?_
  .exact A1.ck rfl
  intro j hj
  by_cases hjl:j<l.length
  .obtain⟨x,hx⟩:=AT hjl;have hy:=hY j x (l.take j) (hl x (rE hx)) (by rw[rM];omega);have hn:=AQ hx;rw[<-hn]at hy;have ix1:=hx;have q1:=@hy;refine wd SZ [] A0 A0 ?_;clear q1 ix1;with_reducible repeat' first|constructor|intro hc;try simp only[AB]at hc
   refine⟨j+1,hjl,om,qG _,?_⟩;exact A1.ck rfl
  .have e:j=l.length:=om
   subst e;rw[qx];refine wd SZ [] A0 A0 ?_;with_reducible repeat' first|constructor|intro hc;try simp only[AB]at hc
   exact⟨_,A1.refl _,qG _,_,_,rfl,rfl,rfl⟩
 .rintro r hr x H' rfl;refine .inl ⟨rfl,?_⟩;refine wd Nx [] A0 A0 ?_;exact⟨⟨[(2,.sl 2 l.length 17)],[.gone,.gone,.a (AH l)],_⟩,(A1.ck rfl),qP _,_,_,rfl,rfl,rfl,rfl⟩
theorem W2(l:List Past)(hl:∀x∈l,AD x.told)(hn:l.length<=1048576):qB 85 [AH l] (AH l):=by
 refine EP (ds:=[AH l]) (NA l hl hn) ?_;simp[Bb,AP,B9,Aj,AF,AH]
theorem TD(c:Calls):qC 170 [.d c.d] [] (.fn (.func 251) [] [.ptr 0 0 3]) [.c [.pY c.id,.pY c.many,.d (AN c.op)]]:=by
 refine zD A4 Tryz.func170 ?_;unfold Calls.d Calls.cells;refine wd [0,1,2] [] A0 A0 ?_;exact⟨_,(A1.ck rfl),qP _,_,_,rfl,rfl,rfl,rfl⟩
theorem bW(cs:List AV):qC 155 [.ptr 0 0 20] [.c cs] (.pq true) [.c cs]:=by
 refine zD A4 Tryz.func155 ?_;refine wd [2] [] A0 A0 ?_;exact⟨_,A1.refl _,qG _,_,_,rfl,rfl,rfl,rfl⟩
theorem TE(id many:Int)(l:List Call)(hl:∀x∈l,AD x.msg)(hn:l.length<=1048576):qC 125 [.d (Calls.d ⟨id,many,l⟩),.fn (.func 155) [] []] [] (.ag [.pY id,.pY many,.sl 3 l.length 20]) [.gone,.gone,.c [.pY id,.pY many,.sl 3 l.length 20],.a (AN l)]:=by
 have c1:=TD ⟨id,many,l⟩;refine zD A4 Tryz.func125 ?_;unfold Calls.d Calls.cells at *;refine wd IK [1] A0 A0 ?_;refine O9 T.get 7 9 3 4 ⟨[(0,.d (.agg [.i .i64 id,.i .i64 many,AN l])),(1,.fn (.func 155) [] []),(2,.ptr 0 0 3),(3,.ptr 1 0 1),(4,.ptr 2 0 3),(5,.ptr 4 0 3)],[.c [.pY id,.pY many,.d (AN l)],.c [.fn (.func 155) [] []],.c [.pY 0,.pY 0,.e0],.a (AN []),.c [.pY id,.pY many,.sl 3 0 20]],28⟩ mixed rfl rfl rfl ?_ ?_ ?_
 .refine wd IK [] A0 A0 ?_ [(0,7),(1,7),(2,7),(3,7),(0,9),(1,9),(2,9),(3,9)];exact⟨rfl,.inl rfl⟩
 .refine wd IK [] A0 A0 ?_ [(0,7),(1,7),(2,7),(3,7),(4,7),(5,7),(0,8),(1,8),(2,8),(3,8)];exact⟨rfl,.inr rfl⟩
 have d1:=Ds.mk [] (c1);refine wd IK [] A0 A0 ?_;clear d1;refine zG (K:=fun r _ H'=>H'=[.c [.pY id,.pY many,.d (AN l)],.c [.fn (.func 155) [] []],.c [.pY 0,.pY 0,.e0],.a (AN l),.c [.pY id,.pY many,.sl 3 l.length 20],.c [.pY id,.pY many,.d (AN l)],.lp r]) ?_ ?_
 .intro r hr;have hk:=hr.ok (k:=6) rfl
  have hY:∀(x:Call)(o:List Call)(B:A3),o.length<=1048576->A3.ok 7 B=true->YT Tryz.prog 6 [.d (.agg [.i .i64 x.id,.i .u8 x.msg.kind,.i .i64 x.msg.call,.i .i64 x.msg.src,.i .i64 x.msg.dst,.i .i64 x.msg.key,.b x.msg.slow,.b x.msg.done,.i .i64 x.msg.place,.i .i64 x.msg.pred,.is x.msg.list,.s x.msg.item.key,.i .i64 x.msg.item.value,.i .i64 x.msg.item.version,.b x.msg.item.gone,.i .i64 x.msg.code,.i .u8 x.why,.i .i64 x.ref,.i .i64 x.sent,.i .i64 x.tries])] [.c [.pY id,.pY many,.d (AN l)],.c [.fn (.func 155) [] []],.c [.pY 0,.pY 0,.e0],.a (AN o),.c [.pY id,.pY many,.sl 3 o.length 20],.c [.pY id,.pY many,.d (AN l)],.lp r,.c (CB x)] fun v K=>v= .pq true/\K=[.c [.pY id,.pY many,.d (AN l)],.c [.fn (.func 155) [] []],.c [.pY 0,.pY 0,.e0],.a (AN (o++[x])),.c [.pY id,.pY many,.sl 3 (o++[x]).length 20],.c [.pY id,.pY many,.d (AN l)],.lp r,.c (CB x)]:=by
   intro x o B ho hB;have c2:=bW (CB x);refine AZ hr rfl rfl rfl ?_;unfold CB at *;refine wd IK [] A0 A0 ?_;refine zR ?_;have d1:=Ds.mk [8] (c2);refine wd IK [] A0 A0 ?_;clear d1;refine⟨⟨[],[.c [.pY id,.pY many,.d (AN l)],.c [.fn (.func 155) [] []],.c [.pY 0,.pY 0,.e0],.a (AN (o++[x])),.c [.pY id,.pY many,.sl 3 (o++[x]).length 20],.c [.pY id,.pY many,.d (AN l)],.lp r.busy,.c (CB x)],_⟩,(have nC:=qQ @AN.eq_1 @Call.cells.eq_1;A1.cn rfl),qG _,rfl,rfl,rfl⟩
  refine zT A4 Tryz.func251 ?_;refine wd [0,1,4,6,7,8,9,16] [] A0 A0 ?_;refine Cu (fun j:Nat=>j<=l.length) (fun j:Nat=>[(8,.pY j)]) (fun j=>[(3,.a (AN (l.take j))),(4,.c [.pY id,.pY many,.sl 3 (l.take j).length 20])]) (fun j=>l.length-j) 0 (qP _) (fun _=>rfl) (fun _=>rfl) ?_ ?_
  .exact A1.ck rfl
  intro j hj
  by_cases hjl:j<l.length
  .obtain⟨x,hx⟩:=AT hjl;have c3:=P2 x (hl x (rE hx));unfold Call.d Call.cells at c3;have hy:=hY x (l.take j) .gone (by rw[rM];omega) rfl;have hn:=AQ hx;rw[<-hn]at hy;have ix1:=hx;have q1:=@hy;refine wd [0,1,4,6,7,8,9,16] [] A0 (A6 @c3) ?_;clear q1 ix1;with_reducible repeat' first|constructor|intro hc;try simp only[AB]at hc
   refine⟨j+1,hjl,om,qG _,?_⟩;exact A1.ck rfl
  .have e:j=l.length:=om
   subst e;rw[qx];refine wd [0,1,4,6,7,8,9,16] [] A0 A0 ?_;with_reducible repeat' first|constructor|intro hc;try simp only[AB]at hc
   exact⟨_,A1.refl _,qG _,_,_,rfl,rfl,rfl⟩
 .rintro r hr x H' rfl;refine .inl ⟨rfl,?_⟩;refine wd IK [] A0 A0 ?_;exact⟨⟨[(4,.ptr 2 0 3)],[.gone,.gone,.c [.pY id,.pY many,.sl 3 l.length 20],.a (AN l)],_⟩,(A1.ck rfl),qP _,_,_,rfl,rfl,rfl,rfl⟩
theorem R4(c:Calls)(hl:∀x∈c.op,AD x.msg)(hn:c.op.length<=1048576):qB 84 [c.d] c.d:=by
 obtain⟨id,many,l⟩:=c;have c1:=TE id many l hl hn;refine zF A4 Tryz.func84 ?_;unfold Calls.d Calls.cells at *;have d1:=Ds.mk [] (c1);refine wd [0,1,2] [] A0 A0 ?_;clear d1;exact zE
theorem bX(id many:Int)(l:List Call)(hl:∀x∈l,AD x.msg)(hn:l.length<=1048576):qC 84 [.d (Calls.d ⟨id,many,l⟩)] [] (.ag [.pY id,.pY many,.sl 5 l.length 20]) [.gone,.c [.pY id,.pY many,.sl 5 l.length 20],.gone,.gone,.gone,.a (AN l)]:=by
 have c1:=TE id many l hl hn;refine zD A4 Tryz.func84 ?_;unfold Calls.d Calls.cells at *;have d1:=Ds.mk [] (c1);refine wd [0,1,2] [] A0 A0 ?_;clear d1;exact⟨⟨[(2,.ptr 1 0 3)],[.gone,.c [.pY id,.pY many,.sl 5 l.length 20],.gone,.gone,.gone,.a (AN l)],_⟩,(A1.ck rfl),qP _,_,_,rfl,rfl,rfl,rfl⟩
theorem Ax(n:Node)(h:Hp n):qB 40 [n.d] n.d:=by
 have c1:=Jq n.view (by have:=h.vb;omega) (by have:=h.vl;omega);have c2:=R4 n.calls h.cl h.cn;have c3:=W2 n.seen h.sl h.sn;have c4:=Fv n.finger h.fl;have c5:=Fv n.mirror h.ml;have c6:=Fv n.client h.tl;have c7:=XO n.keep h.kn;refine zF A4 Tryz.func40 ?_;unfold View.d View.cells at c1;unfold Calls.d Calls.cells at c2;unfold Job.d Job.cells at c4 c5 c6;refine wd [0,1,2] [] A0 (zq7 @c1 @c2 @c3 @c4 @c5 @c6 @c7) ?_;exact Ag (qQ @Node.d.eq_1 (qQ @Node.cells.eq_1 (qQ @View.cells.eq_1 (qQ @Calls.cells.eq_1 @Job.cells.eq_1))))
abbrev Ac(l:List A2):D:=.sl 15 (l.map Wi.A2.cells)
abbrev jC(v:View)(j:Job)(lf aq:AV)(own:Bool):List AV:=[.pY v.id,.qF v.base,.qF v.list,.pY v.pred,.pY (v.f 0),.pY (v.f 1),.pY (v.f 2),.pY (v.f 3),.pY (v.f 4),.pY (v.f 5),.pY (v.f 6),.pY (v.f 7),.pY (v.f 8),.pY (v.f 9),.pY (v.f 10),.pY (v.f 11),.pY (v.f 12),.pY (v.f 13),.pY (v.f 14),.pY (v.f 15),.pz j.what,.pz j.phase,.pY j.look.key,.pY j.look.at_,.pY j.look.hops,.pq j.look.slow,.pq j.look.found,.pY j.look.code,.qE j.item.key,.pY j.item.value,.pY j.item.version,.pq j.item.gone,.pY j.owner,lf,.pY j.code,aq,.pq own]
theorem IB(v:View)(j:Job)(aq:AV)(own:Bool)(ha:AV.ok 1 aq=true):qC 289 [.ptr 0 0 37] [.c (jC v j (.qF j.left) aq own)] (.tup []) [.c (jC v (C1 j) (.qF ([])) aq own)]:=by
 have hk:=ha;refine zD A4 Tryz.func289 ?_;unfold jC;refine wd [0] [] A0 A0 ?_;exact⟨⟨[],[.c (jC v (C1 j) (.qF ([])) aq own)],_⟩,(A1.trans' (A1.KA 0 33 (.is []) rfl rfl rfl rfl trivial) (A1.ck rfl) (qG _)),qG _,_,_,rfl,rfl,rfl,rfl⟩
theorem Qt(v:View)(j:Job)(own:Bool)(m:A2):qC 295 [.ptr 0 0 37,.d m.d] [.c (jC v j (.qF j.left) .e0 own)] (.tup []) [.c (jC v j (.qF j.left) (.d (Ac [m])) own)]:=by
 refine zD A4 Tryz.func295 ?_;unfold jC Wi.A2.d Wi.A2.cells;refine wd [0,1,3] [] A0 A0 ?_ [(2,6),(3,6),(4,6)];exact⟨⟨[],[.c (jC v j (.qF j.left) (.d (Ac [m])) own)],_⟩,(A1.ck rfl),qA,_,_,rfl,rfl,rfl,rfl⟩
theorem gO(v:View)(j:Job)(lf:List Int)(l:List A2)(own:Bool)(m:A2)(hn:l.length<=1048576):qC 295 [.ptr 0 0 37,.d m.d] [.c (jC v j (.sl 1 lf.length 1) (.sl 2 l.length 15) own),.a (.is lf),.a (Ac l)] (.tup []) [.c (jC v j (.sl 1 lf.length 1) (.sl 2 (l++[m]).length 15) own),.a (.is lf),.a (Ac (l++[m]))]:=by
 refine zD A4 Tryz.func295 ?_;unfold jC Wi.A2.d Wi.A2.cells;refine wd [0,1,3] [] A0 A0 ?_ [(2,6),(3,6),(4,6)];refine⟨⟨[],[.c (jC v j (.sl 1 lf.length 1) (.sl 2 (l++[m]).length 15) own),.a (.is lf),.a (Ac (l++[m]))],_⟩,(have nC:=qQ @Ac.eq_1 @Wi.A2.cells.eq_1;A1.cn rfl),qA,_,_,rfl,rfl,rfl,rfl⟩
theorem AY.arg{P:Program}{f:FuncId}{a x:AV}{d:D}{H:List A3}{r:AV}{H':List A3}(h:AY P f [a,.d d] H r H')(hx:Ig [x] [d]):AY P f [a,x] H r H':=
 ⟨h.1,fun G w vs h1 h2 h3=>h.2 G w vs h1 h2 (by
  simp only[Al]at h3|-;obtain⟨v,q,e,hv,u,q2,e2,hu,e3⟩:=h3;subst e3;have h4:Al G [x] [u]:=by simp only[Al];exact⟨u,[],rfl,hu,rfl⟩
  have h5:=Ij.2 (OD hx h4);simp only[sO,vF,Al]at h5;obtain⟨u2,q3,e4,hu2,e5⟩:=h5;cases e4
  exact⟨v,q,e,hv,u,[],e2,hu2,rfl⟩)⟩
abbrev mAV(k dst key:Int)(slow:Bool)(x:Item):AV:=.ag [.pz k,.pY 0,.pY 0,.pY dst,.pY key,.pq slow,.pq false,.pY 0,.pY 0,.e0,.qE x.key,.pY x.value,.pY x.version,.pq x.gone,.pY 0]
theorem dX(k dst key:Int)(slow:Bool)(x:Item):Ig [mAV k dst key slow x] [Wi.A2.d ⟨k,0,0,dst,key,slow,false,0,0,[],x,0⟩]:=by
 unfold Wi.A2.d Wi.A2.cells
 repeat'(first|rfl|trivial|refine⟨rfl,rfl,by simp[AF]⟩|refine⟨_,_,rfl,?_,?_⟩|refine⟨_,rfl,?_⟩)
abbrev G7:List Nat:=[0,1,2,3,6,7,8,20,21,28,58]
abbrev M0:List Nat:=[0,1,2,4,5,12,13,14,15,30]
theorem ZB(n:Int)(l:List Int):qC 335 [.pY n,.qF l] [] (.fn (.func 360) [] [.ptr 1 0 1,.ptr 0 0 1]) [.c [.pY n],.c [.qF l]]:=by
 refine zD A4 Tryz.func335 ?_;refine wd [0,1,2,3,4] [] A0 A0 ?_;exact⟨_,(A1.ck rfl),qP _,_,_,rfl,rfl,rfl,rfl⟩
def HJ(l:List Int):Nat->List Int
 |0=>[]
 |k+1=>if l.getD k 0∈l.take k then HJ l k else HJ l k++[l.getD k 0]
theorem XY(l:List Int):∀k,(HJ l k).length<=k
 |0=>qG _
 |k+1=>by
  have:=XY l k;unfold HJ;split
  .omega
  .rw[qj,List.length_singleton];omega
theorem onc3(a:Int)(l:List Int):HJ ((a::l).take 3) ((a::l).take 3).length=IS (a::l):=by
 match l with
 |[]=>simp[HJ,IS]
 |[b]=>by_cases h:b=a<;>simp[HJ,IS,h]
 |b::c::r=>
  by_cases h:b=a<;>by_cases h2:c=a<;>by_cases h3:c=b<;>simp[HJ,IS,h,h2,h3]<;>simp_all
abbrev Pb(id:Int)(l:List Int):List Int:=l.filter fun p=>p !=id
abbrev kB(v:View)(j:Job)(lf:List Int)(l:List A2)(own:Bool)(P:List Int)(r:Lp):List A3:=[.c (jC v j (.sl 6 lf.length 1) (.sl 7 l.length 15) own),.c [.ptr 0 0 37],.c [.ptr 0 20 37],.gone,.c [.pY 3],.c [.qF P],.a (.is lf),.a (Ac l),.lp r]
theorem XL(v:View)(j:Job)(owner:Int)(list:List Int)(hn:list.length<=1048576):qC 285 [.ptr 0 0 37,.pY owner,.qF list] [.c (jC v j (.qF j.left) .e0 false)] (.tup []) [.c (jC v (HY v.id j owner list).job (.qF ((HY v.id j owner list).job.left)) (.d (Ac (HY v.id j owner list).asks)) (HY v.id j owner list).own)]:=by
 have c1:=ZB 3 (owner::list);have hO:HJ ((owner::list).take 3) ((owner::list).take 3).length=IS (owner::list):=onc3 owner list;refine zD A4 Tryz.func285 ?_;unfold jC;have ow:Lv [16]:=trivial;refine wd G7 [4] A0 A0 ?_;clear ow;refine Ah (A1.freeze 3 (x:=.is (owner::list)) rfl) (by rw[Ce];exact qG _) ?_;simp only[IZ,Cx,A3.EN,AV.EN,AV.Ft,Ia,Nat.reduceEqDiff,Nat.reduceAdd,decide_true,uw,AP,qY,qy,qw,ql,reduceCtorEq];have d1:=Ds.mk [] (c1);refine wd G7 [] A0 A0 ?_;clear d1;refine Ah (A1.FV 0 33 (.is []) rfl rfl rfl rfl trivial) sm ?_;refine Ah (A1.FV 0 35 (.sl 15 []) rfl rfl rfl rfl (by simp[AF])) sm ?_;generalize hP:owner::list=P at *;have hPl:P.length<=1048577:=by rw[<-hP,qY];omega
 have hJ:HY v.id j owner list=⟨⟨j.what,if Pb v.id (HJ (P.take 3) (P.take 3).length)=[]then 5 else 3,j.look,j.item,j.owner,Pb v.id (HJ (P.take 3) (P.take 3).length),j.code⟩,(Pb v.id (HJ (P.take 3) (P.take 3).length)).map (DN j.item),decide (v.id∈HJ (P.take 3) (P.take 3).length)⟩:=by
  rw[hO];unfold HY;rw[hP]
 rw[hJ];clear hJ hO;generalize hQ:P.take 3=P3 at *;have hP3:P3.length<=3:=by rw[<-hQ];exact List.length_take_le _ _
 refine zG (K:=fun r _ H'=>H'=kB v j (Pb v.id (HJ P3 P3.length)) ((Pb v.id (HJ P3 P3.length)).map (DN j.item)) (decide (v.id∈HJ P3 P3.length)) P3 r) ?_ ?_
 .intro r hr;have hk:=hr.ok (k:=8) rfl
  have hY1:∀(p:Int)(lf:List Int)(l:List A2)(own:Bool),p=v.id->YT Tryz.prog 8 [.pY p] (kB v j lf l own P3 r) fun x K=>x= .pq true/\K=kB v j lf l true P3 r:=by
   intro p lf l own hp;have f1:=A9 hp;refine AZ hr rfl rfl rfl ?_;unfold kB jC;refine wd G7 [] A0 A0 ?_;refine zR ?_;refine wd G7 [] (A6 f1) A0 ?_;exact⟨_,A1.refl _,qG _,rfl,rfl,rfl⟩
  have hY2:∀(p:Int)(lf:List Int)(l:List A2)(own:Bool),p≠v.id->lf.length<=1000->l.length<=1000->YT Tryz.prog 8 [.pY p] (kB v j lf l own P3 r) fun x K=>x= .pq true/\K=kB v j (lf++[p]) (l++[DN j.item p]) own P3 r:=by
   intro p lf l own hp h1 h2;have f1:=eq_false' hp;have c2:=AY.arg (gO v j (lf++[p]) l own (DN j.item p) om) (dX 5 p 0 false j.item);refine AZ hr rfl rfl rfl ?_;unfold kB;unfold jC at *;refine wd G7 [] A0 A0 ?_;refine zR ?_;have d1:=Ds.mk [0,6,7] (c2);refine wd G7 [] (A6 f1) A0 ?_ [(0,6),(1,6),(2,6),(3,6),(4,6),(0,7)];clear d1;refine⟨⟨[],[.c (jC v j (.sl 6 (lf++[p]).length 1) (.sl 7 (l++[DN j.item p]).length 15) own),.c [.ptr 0 0 37],.c [.ptr 0 20 37],.gone,.c [.pY 3],.c [.qF P3],.a (.is (lf++[p])),.a (Ac (l++[DN j.item p])),.lp r.busy],_⟩,(have nC:=qQ @Ac.eq_1 @Wi.A2.cells.eq_1;A1.cn rfl),qG _,rfl,rfl,rfl⟩
  refine zT A4 Tryz.func360 ?_;have e3:(if(P.length:Int)<3 then(P.length:Int)else 3)=((min 3 P.length:Nat):Int):=by split<;>omega
  have hQ':P.take (min 3 P.length)=P3:=by
   rw[<-hQ];rcases Nat.le_total 3 P.length with h|h
   .rw[Nat.min_eq_left h]
   .rw[Nat.min_eq_right h,sS (qG _),sS h]
  have hmin:min 3 P.length<=P.length:=Nat.min_le_right _ _;refine wd M0 [] (AX e3 hQ') A0 ?_;refine Cu (fun k:Nat=>k<=P3.length) (fun k:Nat=>[(14,.pY k)]) (fun k=>[(0,.c (jC v j (.sl 6 (Pb v.id (HJ P3 k)).length 1) (.sl 7 ((Pb v.id (HJ P3 k)).map (DN j.item)).length 15) (decide (v.id∈HJ P3 k)))),(6,.a (.is (Pb v.id (HJ P3 k)))),(7,.a (Ac ((Pb v.id (HJ P3 k)).map (DN j.item))))]) (fun k=>P3.length-k) 0 (qP _) (fun _=>rfl) (fun _=>rfl) ?_ ?_
  .exact A1.ck rfl
  intro k hkl0
  by_cases hkl:k<P3.length
  .obtain⟨p,hp⟩:=AT hkl;have gp:=Cy hp;have hlen:=XY P3 k;have hfl:(Pb v.id (HJ P3 k)).length<=1000:=by have:=List.length_filter_le (fun p=>p !=v.id) (HJ P3 k);show(List.filter _ _).length<=_;omega
   have c3:=Ih (P3.take k) p (by rw[rM];omega)
   have hon:HJ P3 (k+1)=if p∈P3.take k then HJ P3 k else HJ P3 k++[p]:=by
    show(if P3.getD k 0∈P3.take k then _ else _)=_;rw[gp]
   by_cases hin:p∈P3.take k
   .rw[if_pos hin]at hon;rw[qM hin]at c3;refine wd M0 [] (A6 gp) (A6 @c3) ?_;with_reducible repeat' first|constructor|intro hc;try simp only[AB]at hc
    refine⟨k+1,hkl,om,qG _,?_⟩;dsimp only;rw[hon];exact A1.ck rfl
   .rw[if_neg hin]at hon;rw[qO hin]at c3
    by_cases hpv:p=v.id
    .have h1:Pb v.id (HJ P3 (k+1))=Pb v.id (HJ P3 k):=by rw[hon];show List.filter _ _=_;rw[List.filter_append];simp[hpv]
     have h2:decide (v.id∈HJ P3 (k+1))=true:=by rw[hon];simp[hpv]
     have hy:=hY1 p (Pb v.id (HJ P3 k)) ((Pb v.id (HJ P3 k)).map (DN j.item)) (decide (v.id∈HJ P3 k)) hpv;have q1:=@hy;refine wd M0 [] (A6 gp) (A6 @c3) ?_;clear q1;with_reducible repeat' first|constructor|intro hc;try simp only[AB]at hc
     refine⟨k+1,hkl,om,qG _,?_⟩;dsimp only;rw[h1,h2];exact A1.ck rfl
    .have h1:Pb v.id (HJ P3 (k+1))=Pb v.id (HJ P3 k)++[p]:=by rw[hon];show List.filter _ _=_;rw[List.filter_append];simp[hpv]
     have h2:decide (v.id∈HJ P3 (k+1))=decide (v.id∈HJ P3 k):=by rw[hon];simp[Ne.symm hpv]
     have hy:=hY2 p (Pb v.id (HJ P3 k)) ((Pb v.id (HJ P3 k)).map (DN j.item)) (decide (v.id∈HJ P3 k)) hpv hfl (by rw[rZ];exact hfl);have h3:(Pb v.id (HJ P3 (k+1))).map (DN j.item)=(Pb v.id (HJ P3 k)).map (DN j.item)++[DN j.item p]:=by rw[h1,List.map_append];rfl
     rw[<-h1,<-h3]at hy;have q1:=@hy;refine wd M0 [] (A6 gp) (A6 @c3) ?_;clear q1;with_reducible repeat' first|constructor|intro hc;try simp only[AB]at hc
     refine⟨k+1,hkl,om,qG _,?_⟩;dsimp only;rw[h2];exact A1.ck rfl
  .have e:k=P3.length:=om
   subst e;refine wd M0 [] A0 A0 ?_;with_reducible repeat' first|constructor|intro hc;try simp only[AB]at hc
   exact⟨_,A1.refl _,qG _,_,_,rfl,rfl,rfl⟩
 .generalize HJ P3 P3.length=O at *;generalize hL:Pb v.id O=L at *;generalize decide (v.id∈O)=own at *;rintro r hr x H' rfl;refine .inl ⟨rfl,?_⟩;refine wd G7 [10] A0 A0 ?_;unfold kB jC;simp only[List.set_cons_succ,List.set_cons_zero];refine Ah (A1.freeze 6 (x:=.is L) rfl) (by rw[Ce];exact qG _) ?_;simp only[IZ,Cx,A3.EN,AV.EN,AV.Ft,Ia,Nat.reduceEqDiff,Nat.reduceAdd,decide_true,uw,AP,qY,qy,qw,ql,reduceCtorEq];refine Ah (A1.freeze 7 (x:=Ac (L.map (DN j.item))) rfl) (by rw[Ce];exact qG _) ?_;simp only[IZ,Cx,A3.EN,AV.EN,AV.Ft,Ia,Nat.reduceEqDiff,Nat.reduceAdd,decide_true,uw,AP,qY,qy,qw,ql,reduceCtorEq];have hv:=IB v ⟨j.what,3,j.look,j.item,j.owner,L,j.code⟩ (.d (Ac (L.map (DN j.item)))) own (by simp[AV.ok,AF]);unfold jC at hv
  by_cases h0:L=[]
  .subst h0;have d1:=Ds.mk [0] (hv);refine wd G7 [] A0 A0 ?_;clear d1;exact⟨⟨[],[.c (jC v ⟨j.what,5,j.look,j.item,j.owner,[],j.code⟩ (.qF ([])) (.d (Ac [])) own)],_⟩,(A1.ck rfl),qA,_,_,rfl,rfl,rfl,rfl⟩
  .have hl0:((L.length:Int)==0)=false:=eq_false' (by have:=List.length_pos_iff.2 h0;omega);rw[if_neg h0];refine wd G7 [] (A6 hl0) A0 ?_;exact⟨⟨[],[.c (jC v ⟨j.what,3,j.look,j.item,j.owner,L,j.code⟩ (.qF L) (.d (Ac (L.map (DN j.item)))) own)],_⟩,(A1.ck rfl),qA,_,_,rfl,rfl,rfl,rfl⟩
abbrev H6:List Nat:=[0,2,3,4,13,26,38,50,56,85,101]
abbrev jE(v:View)(c:JC):List A3:=[.c (jC v c.job (.qF c.job.left) (.d (Ac c.asks)) c.own)]
theorem ZF(v:View)(j:Job)(hn:v.list.length<=1048576):qC 215 [.ptr 0 0 37] [.c (jC v j (.qF j.left) .e0 false)] (.tup []) (jE v (Eg v j)):=by
 obtain⟨what,phase,⟨key,at_,hops,slow,found,code⟩,item,owner,left,jc⟩:=j;have hA:XQ ⟨key,at_,hops,slow,found,code⟩=XQ ⟨key,at_,hops,slow,found,code⟩:=rfl;generalize hq:XQ ⟨key,at_,hops,slow,found,code⟩=q at hA;refine zD A4 Tryz.func215 ?_;clear hA;generalize hj:Eg v ⟨what,phase,⟨key,at_,hops,slow,found,code⟩,item,owner,left,jc⟩=r;unfold Eg at hj;dsimp only at hj;unfold jE
 by_cases h1:code≠0
 .rw[if_pos h1]at hj;subst hj;have f1:=eq_false' h1;have hv:=IB v ⟨what,phase,⟨key,at_,hops,slow,found,code⟩,item,owner,left,code⟩ .e0 false rfl;unfold jC at hv;unfold jC;have d1:=Ds.mk [0] (hv);refine wd H6 [] (A6 f1) A0 ?_ [] true;clear d1;with_reducible repeat' first|constructor|intro hc;try simp only[AB]at hc
  exact⟨⟨[],[.c (jC v ⟨what,5,⟨key,at_,hops,slow,found,code⟩,item,owner,[],code⟩ (.qF ([])) (.d (Ac [])) false)],_⟩,(A1.trans' (A1.KA 0 35 (.sl 15 []) rfl rfl rfl rfl (by simp[AF])) (A1.ck rfl) qA),qA,_,_,rfl,rfl,rfl,rfl⟩
 rw[if_neg h1]at hj;have f1:=A9 (Decidable.not_not.1 h1)
 by_cases h2:found=false
 .rw[if_pos h2,hq]at hj;subst h2;have c1:=mB ⟨key,at_,hops,slow,false,code⟩;rw[hq]at c1;obtain⟨m,b⟩:=q;unfold Look.d Look.cells at c1
  cases b with
  |true=>
   dsimp only at hj;rw[if_pos rfl]at hj;subst hj;have c2:=Qt v ⟨what,1,⟨key,at_,hops,slow,false,code⟩,item,owner,left,jc⟩ false m;unfold jC at *;unfold Wi.A2.d Wi.A2.cells at c1 c2;have d1:=Ds.mk [0] (c2);refine wd H6 [] (A6 f1) (A6 @c1) ?_ [] true;clear d1;with_reducible repeat' first|constructor|intro hc;try simp only[AB]at hc
   exact⟨⟨[],[.c (jC v ⟨what,1,⟨key,at_,hops,slow,false,code⟩,item,owner,left,jc⟩ (.qF left) (.d (Ac [m])) false)],_⟩,(A1.ck rfl),qA,_,_,rfl,rfl,rfl,rfl⟩
  |false=>
   dsimp only at hj;rw[if_neg (by decide)]at hj;subst hj;unfold jC at *;unfold Wi.A2.d Wi.A2.cells at c1;refine wd H6 [] (A6 f1) (A6 @c1) ?_ [] true;with_reducible repeat' first|constructor|intro hc;try simp only[AB]at hc
   exact⟨⟨[],[.c (jC v ⟨what,1,⟨key,at_,hops,slow,false,code⟩,item,owner,left,jc⟩ (.qF left) (.d (Ac [])) false)],_⟩,(A1.trans' (A1.KA 0 35 (.sl 15 []) rfl rfl rfl rfl (by simp[AF])) (A1.ck rfl) qA),qA,_,_,rfl,rfl,rfl,rfl⟩
 rw[if_neg h2]at hj;have h3:found=true:=by cases found<;>simp_all
 subst h3
 by_cases h4:what=1
 .rw[if_pos h4]at hj;subst hj;have f2:=A9 h4;have hv:=IB v ⟨what,phase,⟨key,at_,hops,slow,true,code⟩,item,at_,left,0⟩ .e0 false rfl;unfold jC at hv;unfold jC;have d1:=Ds.mk [0] (hv);refine wd H6 [] (AX f1 f2) A0 ?_ [] true;clear d1;with_reducible repeat' first|constructor|intro hc;try simp only[AB]at hc
  exact⟨⟨[],[.c (jC v ⟨what,5,⟨key,at_,hops,slow,true,code⟩,item,at_,[],0⟩ (.qF ([])) (.d (Ac [])) false)],_⟩,(A1.trans' (A1.KA 0 35 (.sl 15 []) rfl rfl rfl rfl (by simp[AF])) (A1.ck rfl) qA),qA,_,_,rfl,rfl,rfl,rfl⟩
 rw[if_neg h4]at hj;have f2:=eq_false' h4
 by_cases h5:what=2
 .have f3:=A9 h5
  by_cases h6:at_=v.id
  .rw[if_pos ⟨h5,h6⟩]at hj;have f4:=A9 h6;have hp:=XL v ⟨what,phase,⟨key,at_,hops,slow,true,code⟩,item,at_,left,jc⟩ at_ v.list hn;rw[hj]at hp;unfold jC at *;have d1:=Ds.mk [0] (hp);refine wd H6 [] (Kl f1 f2 f3 f4) A0 ?_ [] true;clear d1;with_reducible repeat' first|constructor|intro hc;try simp only[AB]at hc
   exact⟨⟨[],[.c (jC v r.job (.qF r.job.left) (.d (Ac r.asks)) r.own)],_⟩,(A1.ck rfl),qA,_,_,rfl,rfl,rfl,rfl⟩
  .rw[if_neg (fun h=>h6 h.2),if_pos h5]at hj;subst hj;have f4:=eq_false' h6;have c2:=AY.arg (Qt v ⟨what,2,⟨key,at_,hops,slow,true,code⟩,item,at_,left,jc⟩ false (HP at_)) (dX 1 at_ 0 false AA);unfold mAV AA at c2;unfold jC at *;have d1:=Ds.mk [0] (c2);refine wd H6 [] (Kl f1 f2 f3 f4) A0 ?_ [] true;clear d1;with_reducible repeat' first|constructor|intro hc;try simp only[AB]at hc
   exact⟨⟨[],[.c (jC v ⟨what,2,⟨key,at_,hops,slow,true,code⟩,item,at_,left,jc⟩ (.qF left) (.d (Ac [HP at_])) false)],_⟩,(A1.ck rfl),qA,_,_,rfl,rfl,rfl,rfl⟩
 .rw[if_neg (fun h=>h5 h.1),if_neg h5]at hj;have f3:=eq_false' h5
  by_cases h6:at_=v.id
  .rw[if_pos h6]at hj;subst hj;have f4:=A9 h6;have hv:=IB v ⟨what,phase,⟨key,at_,hops,slow,true,code⟩,item,at_,left,0⟩ .e0 true rfl;unfold jC at hv;unfold jC;have d1:=Ds.mk [0] (hv);refine wd H6 [] (Kl f1 f2 f3 f4) A0 ?_ [] true;clear d1;with_reducible repeat' first|constructor|intro hc;try simp only[AB]at hc
   exact⟨⟨[],[.c (jC v ⟨what,5,⟨key,at_,hops,slow,true,code⟩,item,at_,[],0⟩ (.qF ([])) (.d (Ac [])) true)],_⟩,(A1.trans' (A1.KA 0 35 (.sl 15 []) rfl rfl rfl rfl (by simp[AF])) (A1.ck rfl) qA),qA,_,_,rfl,rfl,rfl,rfl⟩
  .rw[if_neg h6]at hj;subst hj;have f4:=eq_false' h6;have c2:=AY.arg (Qt v ⟨what,4,⟨key,at_,hops,slow,true,code⟩,item,at_,left,jc⟩ false (Qu at_ item.key)) (dX 6 at_ 0 false ⟨item.key,0,0,false⟩);unfold mAV at c2;unfold jC at *;have d1:=Ds.mk [0] (c2);refine wd H6 [] (Kl f1 f2 f3 f4) A0 ?_ [] true;clear d1;with_reducible repeat' first|constructor|intro hc;try simp only[AB]at hc
   exact⟨⟨[],[.c (jC v ⟨what,4,⟨key,at_,hops,slow,true,code⟩,item,at_,left,jc⟩ (.qF left) (.d (Ac [Qu at_ item.key])) false)],_⟩,(A1.ck rfl),qA,_,_,rfl,rfl,rfl,rfl⟩
end Nd
end Go.Proofs.YtkljbfejbakooaaGreatDoor
namespace Go.Proofs.YtkljbfejbakooaaGreatDoor
open Go.Gar Go.Shelf Go.Sort Go.RowKit Go.Lib
theorem KW:ap (Value.int .i64) D.is (fun x=> .i .i64 x) where
 sl _:=rfl
 ok _:=trivial
 c _:=rfl
 n _:=rfl
 z _:=rfl
 r m a v:=by simp only[RD]
 one _:=rfl
theorem oZ(p x:Int)(B:Nat)(W:World)(hc:W.cell? ⟨B,0,none⟩=some (.int .i64 p)):FnGives Tryz.prog 337 #[.pointer (some ⟨B,0,none⟩)] #[.int .i64 x] (.bool (x==p)) W:=by
 show Calls Tryz.prog 337 #[.int .i64 x,.pointer (some ⟨B,0,none⟩)] W _
 go_enter Tryz.func337,Tryz.ntmps337
 go_wp2
 all_goals(go_ret;exact⟨by simp_all,0,rfl⟩)
theorem lL(p:Int)(B:Nat)(w:World)(hB:B<w.heap.size)(hcell:w.cell? ⟨B,0,none⟩=some (.int .i64 p)):
  PredAt Tryz.prog 337 #[.pointer (some ⟨B,0,none⟩)] (Value.int .i64) (fun x=>x==p) w:=
 fun W x hb=>oZ p x B W ((hb.cell (p:=⟨B,0,none⟩) hB).trans hcell)
theorem be(p:Int)(B blk off size:Nat)(w:World)(hB:B<w.heap.size)(hne:B≠blk)(hcell:w.cell? ⟨B,0,none⟩=some (.int .i64 p)):
  PredOver Tryz.prog 337 #[.pointer (some ⟨B,0,none⟩)] (Value.int .i64) (fun x=>x==p) blk off size w:=
 fun n os dk x _=>oZ p x B _ (by
  unfold sortWorld;rw[cell?_grow _ _ _ (by show B<(putRow _ _ _ _ _).heap.size;rw[size_putRow];exact hB),cell?_putRow_other _ _ blk off _ _ (Or.inl hne)]
  exact hcell)
theorem bh(l:List Int)(p:Int):(EF l p).length<=l.length:=List.length_filter_le _ _
theorem bc(p:Int)(zs:List Int)(h0:zs≠[])(h:zs.length<=1048576):
  qC 336 [.sl 1 zs.length 1,.fn (.func 337) [] [.ptr 0 0 1]] [.c [.pY p],.a (.is zs)] (.sl 2 (EF zs p).length 1) [.c [.pY p],.gone,.a (.is (EF zs p))]:=by
 refine⟨⟨_,Tryz.func336,rfl,rfl⟩,fun G w vs hG hR hv=> ?_⟩;rw[callsIn_wide];obtain⟨v,r0,hvs,hv1,u,r1,hr0,hv2,hr1⟩:=hv;simp only[Al]at hr1;subst hr1;subst hr0;have hvs':vs= #[v,u]:=by rw[<-Array.toArray_toList (xs:=vs),hvs]
 subst hvs';simp only[RV]at hv1 hv2;obtain⟨p',q,rfl,hp0,hq⟩:=hv2;simp only[Al]at hp0 hq;subst hp0;obtain⟨pv,r2,rfl,hpv,rfl⟩:=hq;simp only[RV]at hpv;obtain⟨_,blk0,hb0',hpt⟩:=hpv;have hbc:G.H[0]? =some (.c [.pY p]):=by rw[hG];rfl
 rw[hbc]at hb0';cases hb0';obtain⟨_,c,Nc,hρc,rfl⟩:=hpt;obtain⟨_,blk,hb,hp⟩:=hv1;have hb1:G.H[1]? =some (.a (.is zs)):=by rw[hG];rfl
 rw[hb1]at hb;cases hb;obtain⟨_,_,hp⟩:=hp;have hl:=bh zs p;let G':Gh:={ρ:=fun id=>if id=2 then G.ρ 1 else G.ρ id,H:=[.c [.pY p],.gone,.a (.is (EF zs p))],m:=G.m}
 have gle:HH G G':=by
  refine⟨fun id q hq=> ?_,Mem.le_refl _⟩;rw[hG]at hq
  match id with
  |0=>cases hq;exact⟨_,rfl,rfl,rfl⟩
  |1=>cases hq;exact⟨.gone,rfl,trivial⟩
  |i+2=>simp at hq
 have own':∀c,Own G' c↔Own G c:=by
  intro c;constructor
  .rintro⟨j,M,q,hq,lq,hr⟩
   match j with
   |0=>exact⟨0,M,_,hbc,rfl,hr⟩
   |1=>cases hq;cases lq
   |2=>exact⟨1,M,_,hb1,rfl,hr⟩
   |j+3=>cases hq
  .rintro⟨j,M,q,hq,lq,hr⟩;rw[hG]at hq
   match j with
   |0=>exact⟨0,M,_,rfl,rfl,hr⟩
   |1=>exact⟨2,M,_,rfl,rfl,hr⟩
   |j+2=>simp at hq
 rcases hp (by rw[KW.n])with⟨hz,a,rfl⟩|⟨b,N,cap,hρ,rfl,hnc,hcm,hN⟩
 .exact absurd (uY.1 hz) h0
 .obtain⟨_,_,hB⟩:=hR.blk 1 _ hb1;rcases hB with⟨_,hno⟩|⟨b',N',vs,T,hρ',hw,hM,hcell⟩
  .rw[hρ]at hno;cases hno
  rw[hρ]at hρ';cases hρ';have hBc:=hR.blk 0 _ hbc;obtain⟨c',Nc',vc,Tc,hρc',hwc,hMc,hlc,hcc⟩:=hBc;rw[hρc]at hρc';cases hρc';have hlt:b<w.heap.size:=(qZ.1 hw).1;have hltc:c<w.heap.size:=(qZ.1 hwc).1
  have hne:c≠b:=fun e=>by
   subst e;have:=hR.inj 0 1 _ _ _ _ _ hbc hb1 rfl rfl hρc hρ;cases this
  have hcid:w.cell? ⟨c,0,none⟩=some (.int .i64 p):=by
   obtain⟨v0,q1,q2⟩:=hcc 0 (.pY p) rfl;simp only[RV,RD]at q2;subst q2;unfold World.cell?;simp only[hwc,Option.isSome_none,rD,ql];exact q1
  have hrun:=AnyE.slices_DeleteFunc Tryz.dP (Value.int .i64) (fun _=>rfl) (fun x=>x==p) 337 #[.pointer (some ⟨c,0,none⟩)] (enters_of Tryz.func337 (by kernel_rfl) rfl) 0 Tryz.zeroValue3 b 0 cap zs.toArray w (lL p c w hltc hcid) (be p c b 0 zs.toArray.size w hltc hne hcid) (Zo KW hw hcell) (by simp;omega) (by simpa using hnc);refine hrun.mono ?_;rintro e w' ⟨rfl,n,rfl⟩;have hvl:zs.length<=vs.size:=om
  have e1:(zs.toArray.toList.filter fun x=> !(x==p))=EF zs p:=rfl;rw[e1,putRow_ahead,W5 (Value.int .i64) hw]
  have hoth:∀d,¬Own G d\/d=c->(Sort.ahead (w.setRow b (putCells (Value.int .i64) 0 (EF zs p++List.replicate (zs.toArray.size-(EF zs p).length) 0).toArray vs)) n).heap[d]? =w.heap[d]?:=fun d hd=>setRow_other w b d _ (fun e=>by
   rcases hd with hd|hd
   .exact hd (by rw[e];exact⟨1,N,_,hb1,rfl,hρ⟩)
   .exact hne (hd▸e))
  have hB':BR G' (Sort.ahead (w.setRow b (putCells (Value.int .i64) 0 (EF zs p++List.replicate (zs.toArray.size-(EF zs p).length) 0).toArray vs)) n) 2 (.a (.is (EF zs p))):=by
   refine⟨KW.sl _,KW.ok _,.inr ⟨b,N,_,T,hρ,setRow_heap w b vs _ T _ hw,by simp[putCells];omega,?_⟩⟩;refine Zn KW (fun k hk=>⟨by simp;omega,?_⟩) om;rw[getElem!_pos _ k (by simp;omega),qW,qK hk];simp[List.getElem_append_left,hk]
  have hH:AR G' (Sort.ahead (w.setRow b (putCells (Value.int .i64) 0 (EF zs p++List.replicate (zs.toArray.size-(EF zs p).length) 0).toArray vs)) n):=by
   refine⟨fun id q hq=> ?_,fun i j q r d N1 N2 hq hr lq lr e1 e2=> ?_,fun d k v hv=> ?_,fun d hd k=>hR.sep d ((own' d).1 hd) k,hR.st⟩
   .match id with
    |0=>
     cases hq;exact(hR.blk 0 _ hbc).Nm gle (fun d M _ hd=>hoth d (.inr (by rw[hρc]at hd;cases hd;rfl))) rfl
    |1=>cases hq;trivial
    |2=>cases hq;exact hB'
    |j+3=>cases hq
   .match i,j with
    |0,0=>rfl
    |2,2=>rfl
    |0,2=>exact absurd (hR.inj 0 1 _ _ _ _ _ hbc hb1 rfl rfl e1 e2) (by decide)
    |2,0=>exact absurd (hR.inj 1 0 _ _ _ _ _ hb1 hbc rfl rfl e1 e2) (by decide)
    |1,_=>cases hq;cases lq
    |_,1=>cases hr;cases lr
    |j+3,_=>cases hq
    |_,j+3=>cases hr
   .have hno:¬Own G d:=fun h=>by rw[hR.sep d h k]at hv;cases hv
    rw[World.cell?_of_block (w:=w) (hoth d (.inl hno))];exact hR.mem d k v hv
  refine⟨_,.sl 2 (EF zs p).length 1,G',rfl,⟨rfl,rfl⟩,?_,hH,⟨rfl,rfl,rfl,by show w.heap.size<=(w.setRow b _).heap.size;simp,fun d hd ho=>⟨hoth d (.inl ho),fun h=>ho ((own' d).1 h)⟩,fun _ _ _ hv=> .inl hv,gle⟩⟩;simp only[RV];exact⟨rfl,.a (.is (EF zs p)),rfl,KW.z _,by rw[KW.n];exact qG _,fun _=> .inr ⟨b,N,cap,hρ,rfl,om,hcm,hN⟩⟩
end Go.Proofs.YtkljbfejbakooaaGreatDoor
namespace Go.Proofs.YtkljbfejbakooaaGreatDoor
namespace Nd
open Go.Gar
open Wi (A2 B5 AU A5 B6 mC)
abbrev Ju:List Nat:=[0,1,2,4,6,16,27,37]
theorem Y9(l:List Int)(hl:l.length<=1048576):qC 151 [.qF l] [] (.sl 0 l.length 1) [.a (.is l)]:=by
 refine zD A4 Tryz.func151 ?_;have nS:=tZ
 repeat'(first|((with_reducible refine sg ?_);first|with_reducible rfl|((with_reducible refine NJ ?_);first|kernel_rfl|rfl|(simp[Er,HV,nS];done))|with_reducible refine Ip ?_ ?_|with_reducible exact tq _|with_reducible exact Cd _|((with_reducible refine qM ?_);first|omega|(simp only[If,nS];omega))|decide|(simp[If,slc,Bw,D.one,Dt,AV.one,nS];done)|(simp[If,nS];omega))|((with_reducible refine fa ?_);first|(refine F3 rfl ?_;refine fY A4 rfl rfl rfl rfl ?_)|refine gI [7] A4 rfl rfl rfl rfl rfl rfl ?_ ?_|refine kr A4 rfl rfl rfl rfl rfl rfl (fun hnil=> ?_) ?_|refine ku A4 rfl rfl rfl rfl rfl rfl (fun hnil=> ?_) ?_|refine Xq A4 rfl rfl rfl rfl ?_ ?_|refine Xn [0,2,4] rfl ?_|refine Xw A4 rfl rfl rfl rfl ?_ ?_)|refine HO ?_|refine Dz ?_|refine Eo ?_|refine HN ?_|refine De ?_|refine En ?_|refine Cc rfl ?_|refine Cb rfl ?_|(refine GL rfl (fun hc=> ?_) (fun hc=> ?_)<;>(try simp only[AB]at hc)<;>(try(exfalso;omega))))
 .have e:=is_nil hnil;subst e;refine wd [0,2,4] [] A0 A0 ?_;exact⟨_,A1.Wu 2 (.is []) rfl rfl rfl trivial,qP _,_,_,rfl,rfl,rfl,rfl⟩
 .exact⟨_,(A1.ck rfl),qP _,_,_,rfl,rfl,rfl,rfl⟩
theorem Fn.own{P:Program}{f:FuncId}{x a:D}{sz:Nat}{t:Bool}(h:Go.Gar.Fn P f [x,a] (.b t)):AY P f [.sl 0 (AP x) sz,.d a] [.a x] (.pq t) [.a x]:=by
 refine⟨h.1,fun G w vs hG hR hv=> ?_⟩;have hid:G.H[0]? =some (.a x):=by rw[hG];rfl
 have hF:=(Hy hR hid).1;have hv2:=Al.EN hR hid hv;have e1:AV.Ft 0 x [.sl 0 (AP x) sz,.d a]=[x,a].map .d:=by simp[AV.Ft,AV.EN]
 rw[e1]at hv2;refine(h.2 _ w vs hF.mem hF.st (Ij.1 hv2)).mono ?_;rintro e w' ⟨v,m',rfl,hr,hle,hok,hnew,ho,ht,hou,hs,hk⟩;have hlow:∀b,b<w.heap.size->w'.heap[b]? =w.heap[b]?:=hk
 have hH:AR G w':=by
  refine⟨fun id q hq=>(hR.blk id q hq).Nm (HH.refl G) (fun b N hl hρ=>hlow b (Dw hR ⟨id,N,q,hq,hl,hρ⟩)) rfl,hR.inj,fun b k v hv=> ?_,hR.sep,hR.st⟩;have hc:=hR.mem b k v hv
  have hb:b<w.heap.size:=by
   unfold World.cell? at hc;rcases rG b w.heap.size with hlt|hge
   .exact hlt
   .simp[Array.getElem?_eq_none hge]at hc
  rw[World.cell?_of_block (w:=w) (hlow b hb)];exact hc
 exact⟨_,.pq t,G,rfl,⟨rfl,hG⟩,by simp only[RD]at hr;subst hr;simp only[RV,RD],hH,⟨ho,ht,hou,hs,fun b hb ho=>⟨hk b hb,ho⟩,fun _ _ _ hv=> .inl hv,HH.refl G⟩⟩
abbrev I3(j:Job)(lf:AV):List AV:=[.pz j.what,.pz j.phase,.pY j.look.key,.pY j.look.at_,.pY j.look.hops,.pq j.look.slow,.pq j.look.found,.pY j.look.code,.qE j.item.key,.pY j.item.value,.pY j.item.version,.pq j.item.gone,.pY j.owner,lf,.pY j.code]
theorem dG(j:Job)(h:j.left.length<=1048576)(h0:j.left≠[]):qC 86 [.d j.d] [] (.ag (I3 j (.sl 2 j.left.length 1))) [.gone,.c (I3 j (.sl 2 j.left.length 1)),.a (.is j.left)]:=by
 have c1:=Y9 j.left h;have f1:=eq_false' (show(j.left.length:Int)≠0 by have:=List.length_pos_iff.2 h0;omega);refine zD A4 Tryz.func86 ?_;unfold Job.d Job.cells;have d1:=Ds.mk [] (c1);refine wd [0,1,2,6] [] (A6 f1) A0 ?_;clear d1;exact⟨⟨[(2,.ptr 1 0 15)],[.gone,.c (I3 j (.sl 2 j.left.length 1)),.a (.is j.left)],_⟩,(A1.ck rfl),qP _,_,_,rfl,rfl,rfl,rfl⟩
theorem jV(v:View)(j:Job)(p e:Int)(h:p∉j.left)(hn:j.left.length<=100000):qC 287 [.ptr 0 0 37,.pY p,.pY e] [.c (jC v j (.qF j.left) .e0 false)] (.tup []) (jE v ⟨Eh j p e,[],false⟩):=by
 have c1:=Ih j.left p om;rw[qO h]at c1;refine zD A4 Tryz.func287 ?_;have hj:Eh j p e=j:=if_neg h;rw[hj];unfold jE jC;refine wd Ju [] A0 (A6 @c1) ?_;exact⟨⟨[],[.c (jC v j (.qF j.left) (.d (Ac [])) false)],_⟩,(A1.trans' (A1.KA 0 35 (.sl 15 []) rfl rfl rfl rfl (by simp[AF])) (A1.ck rfl) qA),qA,_,_,rfl,rfl,rfl,rfl⟩
theorem fS(v:View)(j:Job)(p e:Int)(h:p∈j.left)(hn:j.left.length<=100000):qC 287 [.ptr 0 0 37,.pY p,.pY e] [.c (jC v j (.sl 1 j.left.length 1) .e0 false),.a (.is j.left)] (.tup []) (jE v ⟨Eh j p e,[],false⟩++[.gone]):=by
 obtain⟨what,phase,look,item,owner,left,code⟩:=j;have h0:left≠[]:=fun e=>by dsimp only at h;rw[e]at h;cases h
 have hn':left.length<=100000:=hn;have c0:=Ih left p hn';rw[qM h]at c0;have c1:=Fn.own (sz:=1) c0;have c2:=bc p left h0 om;have hj:Eh ⟨what,phase,look,item,owner,left,code⟩ p e=⟨what,if EF left p=[]then 5 else phase,look,item,owner,EF left p,if e≠0 then e else code⟩:=if_pos h;rw[hj];generalize EF left p=L at *;refine zD A4 Tryz.func287 ?_;unfold jE jC;have d1:=Ds.mk [1] (c1);have d2:=Ds.mk [2,1] (c2);refine wd Ju [4] A0 A0 ?_;clear d2 d1;refine Ah (A1.freeze 3 (x:=.is L) rfl) (by rw[Ce];exact qG _) ?_;simp only[IZ,Cx,A3.EN,AV.EN,AV.Ft,Ia,Nat.reduceEqDiff,Nat.reduceAdd,decide_true,uw,AP,qY,qy,qw,ql,reduceCtorEq];clear h hn c0 c1 c2 hj
 by_cases he:e=0
 .by_cases hL:L=[]
  .subst hL;subst he;have hv:=IB v ⟨what,phase,look,item,owner,[],code⟩ .e0 false rfl;unfold jC at hv;rw[if_pos rfl,if_neg (by decide)];have d1:=Ds.mk [0] (hv);refine wd Ju [] A0 A0 ?_;clear d1;exact⟨⟨[],[.c (jC v ⟨what,5,look,item,owner,[],code⟩ (.qF ([])) (.d (Ac [])) false),.gone],_⟩,(A1.trans' (A1.KA 0 35 (.sl 15 []) rfl rfl rfl rfl (by simp[AF])) (A1.ck rfl) qA),qA,_,_,rfl,rfl,rfl,rfl⟩
  .subst he;have hl0:((L.length:Int)==0)=false:=eq_false' (by have:=List.length_pos_iff.2 hL;omega);rw[if_neg hL,if_neg (by decide)];refine wd Ju [] (A6 hl0) A0 ?_;exact⟨⟨[],[.c (jC v ⟨what,phase,look,item,owner,L,code⟩ (.qF L) (.d (Ac [])) false),.gone],_⟩,(A1.trans' (A1.KA 0 35 (.sl 15 []) rfl rfl rfl rfl (by simp[AF])) (A1.ck rfl) qA),qA,_,_,rfl,rfl,rfl,rfl⟩
 .have f1:(e !=0)=true:=by simpa using he
  rw[if_pos he]
  by_cases hL:L=[]
  .subst hL;have hv:=IB v ⟨what,phase,look,item,owner,[],e⟩ .e0 false rfl;unfold jC at hv;rw[if_pos rfl];have d1:=Ds.mk [0] (hv);refine wd Ju [] (A6 f1) A0 ?_;clear d1;exact⟨⟨[],[.c (jC v ⟨what,5,look,item,owner,[],e⟩ (.qF ([])) (.d (Ac [])) false),.gone],_⟩,(A1.trans' (A1.KA 0 35 (.sl 15 []) rfl rfl rfl rfl (by simp[AF])) (A1.ck rfl) qA),qA,_,_,rfl,rfl,rfl,rfl⟩
  .have hl0:((L.length:Int)==0)=false:=eq_false' (by have:=List.length_pos_iff.2 hL;omega);rw[if_neg hL];refine wd Ju [] (AX f1 hl0) A0 ?_;exact⟨⟨[],[.c (jC v ⟨what,phase,look,item,owner,L,e⟩ (.qF L) (.d (Ac [])) false),.gone],_⟩,(A1.trans' (A1.KA 0 35 (.sl 15 []) rfl rfl rfl rfl (by simp[AF])) (A1.ck rfl) qA),qA,_,_,rfl,rfl,rfl,rfl⟩
abbrev Sa:List Nat:=[0,1,4,5,6,11,16]
abbrev M2:List Nat:=[0,1,4,5,6,7,11,12,33,38,59]
abbrev hC(n:Node)(aq:AV):List AV:=.pY n.view.id:: .qF n.view.base:: .qF n.view.list:: .pY n.view.pred:: .pY (n.view.f 0):: .pY (n.view.f 1):: .pY (n.view.f 2):: .pY (n.view.f 3):: .pY (n.view.f 4):: .pY (n.view.f 5):: .pY (n.view.f 6):: .pY (n.view.f 7):: .pY (n.view.f 8):: .pY (n.view.f 9):: .pY (n.view.f 10):: .pY (n.view.f 11):: .pY (n.view.f 12):: .pY (n.view.f 13):: .pY (n.view.f 14):: .pY (n.view.f 15):: .pY n.clock:: .pY n.calls.id:: .pY n.calls.many:: .d (AN n.calls.op):: .d (AH n.seen):: .pz n.phase:: .pY n.of_:: .pz n.finger.what:: .pz n.finger.phase:: .pY n.finger.look.key:: .pY n.finger.look.at_:: .pY n.finger.look.hops:: .pq n.finger.look.slow:: .pq n.finger.look.found:: .pY n.finger.look.code:: .qE n.finger.item.key:: .pY n.finger.item.value:: .pY n.finger.item.version:: .pq n.finger.item.gone:: .pY n.finger.owner:: .qF n.finger.left:: .pY n.finger.code:: .pz n.mirror.what:: .pz n.mirror.phase:: .pY n.mirror.look.key:: .pY n.mirror.look.at_:: .pY n.mirror.look.hops:: .pq n.mirror.look.slow:: .pq n.mirror.look.found:: .pY n.mirror.look.code:: .qE n.mirror.item.key:: .pY n.mirror.item.value:: .pY n.mirror.item.version:: .pq n.mirror.item.gone:: .pY n.mirror.owner:: .qF n.mirror.left:: .pY n.mirror.code:: .pz n.client.what:: .pz n.client.phase:: .pY n.client.look.key:: .pY n.client.look.at_:: .pY n.client.look.hops:: .pq n.client.look.slow:: .pq n.client.look.found:: .pY n.client.look.code:: .qE n.client.item.key:: .pY n.client.item.value:: .pY n.client.item.version:: .pq n.client.item.gone:: .pY n.client.owner:: .qF n.client.left:: .pY n.client.code:: .pY n.next:: .qE n.last:: .d (Ab n.keep):: .pY n.bad::aq::[]
theorem Ln(n:Node):qC 136 [.ptr 0 0 77,.pz 5] [.c (hC n .e0)] (.ptr 0 27 77) [.c (hC n .e0)]:=by
 refine zD A4 Tryz.func136 ?_;refine wd Sa [] A0 A0 ?_;exact⟨_,(A1.ck rfl),qA,_,_,rfl,rfl,rfl,rfl⟩
theorem Lo(n:Node):qC 136 [.ptr 0 0 77,.pz 6] [.c (hC n .e0)] (.ptr 0 42 77) [.c (hC n .e0)]:=by
 refine zD A4 Tryz.func136 ?_;refine wd Sa [] A0 A0 ?_;exact⟨_,(A1.ck rfl),qA,_,_,rfl,rfl,rfl,rfl⟩
theorem Lq(n:Node):qC 136 [.ptr 0 0 77,.pz 7] [.c (hC n .e0)] (.ptr 0 57 77) [.c (hC n .e0)]:=by
 refine zD A4 Tryz.func136 ?_;refine wd Sa [] A0 A0 ?_;exact⟨_,(A1.ck rfl),qA,_,_,rfl,rfl,rfl,rfl⟩
abbrev hK(n:Node)(k:List Item):Node:={n with keep:=k}
theorem SN(n:Node)(j:Job)(hn:n.keep.length<=1048576)(hs:0<=j.item.key.length):qC 208 [.ptr 0 0 77,.ptr 1 0 15] [.c (hC n .e0),.c (I3 j (.qF j.left))] (.tup []) [.c (hC (hK n (Cr n.keep j).1) .e0),.c (I3 (Cr n.keep j).2 (.qF ((Cr n.keep j).2.left)))]:=by
 obtain⟨what,phase,look,item,owner,left,code⟩:=j;have c1:=XP n.keep item hn;have c2:=XN n.keep item.key hn;generalize hT:Cr n.keep ⟨what,phase,look,item,owner,left,code⟩=T;unfold Cr at hT;dsimp only at hT;unfold Item.d Item.cells at c1;refine zD A4 Tryz.func208 ?_;generalize Dx n.keep item=p at *;obtain⟨pk,pe⟩:=p;generalize Cf n.keep item.key=g at *;obtain⟨gi,ge⟩:=g;dsimp only at *;unfold hC
 by_cases h1:what=2
 .have f1:=A9 h1;rw[if_pos h1]at hT
  by_cases h2:pe=0
  .have f2:=A9 h2;rw[if_neg (fun h=>h h2)]at hT;subst hT;refine wd M2 [] (AX f1 f2) (A6 @c1) ?_;with_reducible repeat' first|constructor|intro hc;try simp only[AB]at hc
   exact⟨⟨[],[.c (hC (hK n pk) .e0),.c (I3 ⟨what,phase,look,item,owner,left,code⟩ (.qF left))],_⟩,(A1.ck rfl),qA,_,_,rfl,rfl,rfl,rfl⟩
  .have f2:=eq_false' h2;rw[if_pos h2]at hT;subst hT;refine wd M2 [] (AX f1 f2) (A6 @c1) ?_;with_reducible repeat' first|constructor|intro hc;try simp only[AB]at hc
   exact⟨⟨[],[.c (hC (hK n pk) .e0),.c (I3 ⟨what,phase,look,item,owner,left,pe⟩ (.qF left))],_⟩,(A1.ck rfl),qA,_,_,rfl,rfl,rfl,rfl⟩
 rw[if_neg h1]at hT;have f1:=eq_false' h1
 by_cases h3:what=3
 .have f3:=A9 h3;rw[if_pos h3]at hT;unfold Item.d Item.cells at c2
  by_cases h2:ge=0
  .have f2:=A9 h2;rw[if_pos h2]at hT;subst hT;subst h2;refine wd M2 [] (AX f1 f3) (A6 @c2) ?_ [(0,14),(1,14),(2,14),(3,14),(4,14),(5,14),(6,14),(7,14),(8,14),(9,14),(13,15)];exact⟨⟨[],[.c (hC (hK n n.keep) .e0),.c (I3 ⟨what,phase,look,gi,owner,left,0⟩ (.qF left))],_⟩,(A1.ck rfl),qA,_,_,rfl,rfl,rfl,rfl⟩
  .have f2:=eq_false' h2;rw[if_neg h2]at hT;subst hT;refine wd M2 [] (C3 f1 f2 f3) (A6 @c2) ?_ [(0,14),(1,14),(2,14),(3,14),(4,14),(5,14),(6,14),(7,14),(8,14),(9,14),(13,15)];exact⟨⟨[],[.c (hC (hK n n.keep) .e0),.c (I3 ⟨what,phase,look,item,owner,left,ge⟩ (.qF left))],_⟩,(A1.ck rfl),qA,_,_,rfl,rfl,rfl,rfl⟩
 .have f3:=eq_false' h3;rw[if_neg h3]at hT;subst hT;refine wd M2 [] (AX f1 f3) A0 ?_;exact⟨⟨[],[.c (hC (hK n n.keep) .e0),.c (I3 ⟨what,phase,look,item,owner,left,code⟩ (.qF left))],_⟩,(A1.ck rfl),qA,_,_,rfl,rfl,rfl,rfl⟩
abbrev SX:List Nat:=[0,1,2,3,6,7,8,10,25]
def na(a i:Int):Int:=if 0<=i/\i<16 then Cp (Cp a+2^i.toNat)else Cp a
theorem Yz(a i:Int):qB 173 [.i .i64 a,.i .i64 i] (.i .i64 (na a i)):=by
 have c1:=EQ a;have hp:=P6 a;refine zF A4 Tryz.func173 ?_
 by_cases hi:0<=i/\i<16
 .have hT:na a i=Cp (Cp a+2^i.toNat):=if_pos hi;rw[hT];generalize Cp a=p at *;have:i=0\/i=1\/i=2\/i=3\/i=4\/i=5\/i=6\/i=7\/i=8\/i=9\/i=10\/i=11\/i=12\/i=13\/i=14\/i=15:=om
  clear hT hi;rcases this with rfl|rfl|rfl|rfl|rfl|rfl|rfl|rfl|rfl|rfl|rfl|rfl|rfl|rfl|rfl|rfl
  all_goals
   refine wd [0,1,4,10] [] A0 (AX @c1 @EQ) ?_ [(3,1),(4,1)];exact zE
 .have hT:na a i=Cp a:=if_neg hi;rw[hT];generalize Cp a=p at*
  by_cases h0:i<0
  .have f1:decide (i<0)=true:=qM h0;refine wd [0,1,4,10] [] (A6 f1) (A6 @c1) ?_;exact zE
  .have f1:decide (i<0)=false:=qO h0;have f2:decide (i>=16)=true:=qM om;refine wd [0,1,4,10] [] (AX f1 f2) (A6 @c1) ?_;exact zE
theorem lS(n:Int):qB 291 [.i .i64 n] (.b (Ai n)):=by
 refine zF A4 Tryz.func291 ?_;refine wd [0,2] [] A0 A0 ?_;with_reducible repeat' first|constructor|intro hc;try simp only[AB]at hc
 all_goals(refine⟨_,_,rfl,rfl,?_⟩;simp only[Bn];refine congrArg D.b ?_;unfold Ai;grind)
theorem gh(v:View)(n:Int):qB 174 [v.d,.i .i64 n] (.i .i64 (if n=v.id then -1 else n)):=by
 obtain⟨id,base,list,pred,f⟩:=v;refine zF A4 Tryz.func174 ?_
 by_cases h:n=id
 .have f1:=A9 h;rw[if_pos h];refine wd [0,1,2,4,8] [] (A6 f1) A0 ?_;exact zE
 .have f1:=eq_false' h;rw[if_neg h];refine wd [0,1,2,4,8] [] (A6 f1) A0 ?_;exact zE
abbrev finD(f:Nat->Int):D:=.agg [.i .i64 (f 0),.i .i64 (f 1),.i .i64 (f 2),.i .i64 (f 3),.i .i64 (f 4),.i .i64 (f 5),.i .i64 (f 6),.i .i64 (f 7),.i .i64 (f 8),.i .i64 (f 9),.i .i64 (f 10),.i .i64 (f 11),.i .i64 (f 12),.i .i64 (f 13),.i .i64 (f 14),.i .i64 (f 15)]
theorem gk{f g:Nat->Int}(h:DR f=DR g)(k:Nat)(hk:k<16):f k=g k:=by
 simp only[DR,List.cons.injEq]at h;obtain⟨h0,h1,h2,h3,h4,h5,h6,h7,h8,h9,h10,h11,h12,h13,h14,h15,-⟩:=h;rcases dW hk with rfl|rfl|rfl|rfl|rfl|rfl|rfl|rfl|rfl|rfl|rfl|rfl|rfl|rfl|rfl|rfl<;>assumption
theorem cI(v:View)(g:Nat->Int)(hb:v.base.length<=1000)(hl:v.list.length<=1000):qB 175 [v.d,finD g] (View.d ⟨v.id,v.base,v.list,v.pred,g⟩):=by
 have c1:=Jq v om om;have hE:=fE v.f g;obtain⟨id,base,list,pred,f⟩:=v;dsimp only at *;refine zF A4 Tryz.func175 ?_
 by_cases h:DR f=DR g
 .rw[qM h]at hE;have q:=gk h;refine wd [0,1,2,3,4,5,11] [] (A6 hE) (A6 @c1) ?_;refine⟨_,_,rfl,rfl,?_⟩;simp[H8,AP,Aj,AF,View.d,View.cells,q 0 (by decide),q 1 (by decide),q 2 (by decide),q 3 (by decide),q 4 (by decide),q 5 (by decide),q 6 (by decide),q 7 (by decide),q 8 (by decide),q 9 (by decide),q 10 (by decide),q 11 (by decide),q 12 (by decide),q 13 (by decide),q 14 (by decide),q 15 (by decide)]
 .rw[qO h]at hE;refine wd [0,1,2,3,4,5,11] [] (A6 hE) (A6 @c1) ?_;exact Ag (qQ @View.d.eq_1 @View.cells.eq_1)
theorem gg(v:View)(i:Int)(hb:v.base.length<=1000)(hl:v.list.length<=1000):qB 254 [v.d,.i .i64 i] (.tup [.i .i64 (if decide (0<=i)&&(decide (i<16)&&AS v)then na v.id i else 0),.i .i64 (if decide (0<=i)&&(decide (i<16)&&AS v)then 0 else 2)]):=by
 have c1:=Bg v hb hl;have c2:=Yz v.id i;generalize AS v=b at *;generalize na v.id i=z at *;obtain⟨id,base,list,pred,f⟩:=v;refine zF A4 Tryz.func254 ?_
 by_cases h0:i<0
 .have f1:decide (i<0)=true:=qM h0;rw[qO (show ¬0<=i by omega)];refine wd [0,1,2,4,5,16] [] (A6 f1) A0 ?_ [] true;exact zE
 .have f1:decide (i<0)=false:=qO h0;rw[qM (show 0<=i by omega)]
  by_cases h1:i<16
  .have f2:decide (i>=16)=false:=qO om;rw[qM h1]
   cases b with
   |true=>
    refine wd [0,1,2,4,5,16] [] (AX f1 f2) (AX @c1 @c2) ?_ [] true;exact zE
   |false=>
    refine wd [0,1,2,4,5,16] [] (AX f1 f2) (A6 @c1) ?_ [] true;exact zE
  .have f2:decide (i>=16)=true:=qM om;rw[qO h1];refine wd [0,1,2,4,5,16] [] (AX f1 f2) A0 ?_ [] true;exact zE
theorem X3(v:View)(i n:Int)(hb:v.base.length<=1000)(hl:v.list.length<=1000):qB 210 [v.d,.i .i64 i,.i .i64 n] (.tup [(HT v i n).1.d,.i .i64 (HT v i n).2]):=by
 have c1:=gg v i hb hl;have c2:=lS n;have c3:=gh v n;have c4:=cI v (eu v.f i.toNat (if n=v.id then -1 else n)) hb hl;have c5:=Jq v om om;have hT:HT v i n=if(decide (0<=i)&&(decide (i<16)&&AS v))&&Ai n then(⟨v.id,v.base,v.list,v.pred,eu v.f i.toNat (if n=v.id then -1 else n)⟩,0)else(v,2):=rfl
 refine zF A4 Tryz.func210 ?_
 have hi:(decide (0<=i)&&(decide (i<16)&&AS v))=true->0<=i/\i<16:=by
  intro h;simp only[qH,qJ]at h;exact⟨h.1,h.2.1⟩
 generalize(decide (0<=i)&&(decide (i<16)&&AS v))=b at *;generalize Ai n=b2 at *;generalize(if n=v.id then -1 else n)=p at *;generalize na v.id i=z at *;obtain⟨id,base,list,pred,f⟩:=v;dsimp only at*
 cases b with
 |false=>
  rw[hT];simp only[rD,ql]at c1;clear hT c4;refine wd SX [] A0 (AX @c1 @c5) ?_ [] true;exact Ag (qQ @View.d.eq_1 @View.cells.eq_1)
 |true=>
 simp only[qw]at c1
 cases b2 with
 |false=>
  rw[hT];clear hT c4;refine wd SX [] A0 (C3 @c1 @c2 @c5) ?_ [] true;exact Ag (qQ @View.d.eq_1 @View.cells.eq_1)
 |true=>
  rw[hT];have h:=hi rfl;have:i=0\/i=1\/i=2\/i=3\/i=4\/i=5\/i=6\/i=7\/i=8\/i=9\/i=10\/i=11\/i=12\/i=13\/i=14\/i=15:=om
  clear hT hi h c5;rcases this with rfl|rfl|rfl|rfl|rfl|rfl|rfl|rfl|rfl|rfl|rfl|rfl|rfl|rfl|rfl|rfl
  all_goals
   refine wd SX [] A0 (Kl @c1 @c2 @c3 @c4) ?_ [] true;exact Ag (qQ @View.d.eq_1 @View.cells.eq_1)
theorem AY.sw{P:Program}{f:FuncId}{args:List AV}{r:AV}{H':List A3}(p q:Nat)(h:AY P f args [] r H')(hp:p<H'.length)(hq:q<H'.length):AY P f args [] (r.ren (sw p q)) (Sl p q H'):=by
 refine⟨h.1,fun G w vs hG hR hv=>(h.2 G w vs hG hR hv).mono ?_⟩;rintro e w' ⟨v,r',G',rfl,⟨rfl,hH⟩,hrv,hr,hf⟩;have e3:p<G'.H.length:=by rw[hH];exact hp
 have e4:q<G'.H.length:=by rw[hH];exact hq
 let K:Gh:=⟨fun j=>G'.ρ (Go.Gar.sw p q j),Sl p q G'.H,G'.m⟩
 have up:∀id b,G'.H[id]? =some b->K.H[Go.Gar.sw p q id]? =some (b.ren (Go.Gar.sw p q))/\K.ρ (Go.Gar.sw p q id)=G'.ρ id:=by
  intro id b hb;refine⟨?_,by show G'.ρ (Go.Gar.sw p q (Go.Gar.sw p q id))=_;rw[JF]⟩;show(Sl p q G'.H)[Go.Gar.sw p q id]? =_;rw[Jn e3 e4,JF,hb];rfl
 have dn:∀j b,K.H[j]? =some b->∃b0,G'.H[Go.Gar.sw p q j]? =some b0/\b=b0.ren (Go.Gar.sw p q):=by
  intro j b hb;have hb:(Sl p q G'.H)[j]? =some b:=hb;rw[Jn e3 e4,rF]at hb;obtain⟨b0,k1,k2⟩:=hb;exact⟨b0,k1,k2.symm⟩
 have own:∀b,Own K b->Own G' b:=by
  rintro b ⟨id,M,blk,h1,h2,h3⟩;obtain⟨b0,k1,rfl⟩:=dn id blk h1;rw[Cj]at h2;exact⟨Go.Gar.sw p q id,M,b0,k1,h2,h3⟩
 refine⟨v,_,K,rfl,⟨rfl,by show Sl p q G'.H=_;rw[hH]⟩,RV.ren (G0:=G') (G:=K) (ι:=Go.Gar.sw p q) (Mem.le_refl _) up hrv,⟨fun j b hb=> ?_,fun i j x y b M M' hx hy lx ly r1 r2=> ?_,hr.mem,fun b hb=>hr.sep b (own b hb),hr.st⟩,⟨hf.os,hf.tape,hf.output,hf.size,fun b hb hno=> ?_,hf.memNew,fun id b hb=> ?_,hf.gle.mem⟩⟩
 .obtain⟨b0,k1,rfl⟩:=dn j b hb;have:=BR.ren (G0:=G') (G:=K) (ι:=Go.Gar.sw p q) (Mem.le_refl _) up (up _ _ k1).2 (hr.blk _ _ k1);rw[JF]at this;exact this
 .obtain⟨x0,k1,rfl⟩:=dn i x hx;obtain⟨y0,k2,rfl⟩:=dn j y hy;rw[Cj]at lx ly;have:=hr.inj _ _ _ _ b M M' k1 k2 lx ly r1 r2;rw[<-JF p q i,this,JF]
 .obtain⟨f1,f2⟩:=hf.keep b hb hno;exact⟨f1,fun h=>f2 (own b h)⟩
 .rw[hG]at hb;simp at hb
theorem AY.cut{P:Program}{f:FuncId}{args:List AV}{r:AV}{H':List A3}(K:List A3)(h:AY P f args [] r H')(hs:Au K H')(ho:Ae K.length K=true)(hx:r.ok K.length=true):AY P f args [] r K:=by
 refine⟨h.1,fun G w vs hG hR hv=>(h.2 G w vs hG hR hv).mono ?_⟩;rintro e w' ⟨v,r',G',rfl,⟨rfl,hH⟩,hrv,hr,hf⟩;have hs':Au K G'.H:=by rw[hH];exact hs
 exact⟨v,_,G'.cut K,rfl,⟨rfl,rfl⟩,RV.cut hs' hx hrv,hr.cut hs' ho,hf.ghost (WX.cut hs') (by rw[hG];exact qP _)⟩
theorem dH(j:Job)(h:j.left.length<=1048576)(h0:j.left≠[]):qC 86 [.d j.d] [] (.ag (I3 j (.sl 0 j.left.length 1))) [.a (.is j.left)]:=
 AY.cut [.a (.is j.left)] (AY.sw 0 2 (dG j h h0) qA qA) ⟨.inr rfl,trivial⟩ rfl rfl
abbrev Do:List Nat:=[0,1,2,3,6,7,8,18,24,25,47]
abbrev Nw:List Nat:=[0,1,4,5,6,7,8,14]
def HE(x:Int)(o:List Int)(p:Int):Bool:=decide (o.length>=3)||(!Ai p||decide (Aa x p<=Aa x (o.getD (o.length-1) 0)))
def LX(x:Int):List Int->List Int->List Int
 |o,[]=>o
 |o,p::r=>if HE x o p then o else LX x (o++[p]) r
theorem ZD(o:List Int)(p:Int):(o++[p]).getD ((o++[p]).length-1) 0=p:=by
 rw[qj,List.length_singleton,Nat.add_sub_cancel,qW,qp (qG _),Nat.sub_self];rfl
theorem dZ(x:Int):∀(l o:List Int),o.length<=3->LX x o l=o++I7.makR x (o.getD (o.length-1) 0) l (3-o.length)
 |[],o,_=>by unfold LX I7.makR;simp
 |p::r,o,h=>by
  unfold LX HE;rcases rG o.length 3 with h3|h3
  .obtain⟨k,hk⟩:∃k,3-o.length=k+1:=⟨2-o.length,om⟩;rw[hk,qO om,su];unfold I7.makR
   cases hp:Ai p with
   |false=>simp
   |true=>
    by_cases hf:Aa x p>Aa x (o.getD (o.length-1) 0)
    .have ih:=dZ x r (o++[p]) (by simp;omega);rw[ZD]at ih;rw[qO (show ¬Aa x p<=Aa x (o.getD (o.length-1) 0)by omega),qM hf];simp only[uS,Bool.or_self,rD,ql,uN,qw];rw[ih,qm];have e:3-(o++[p]).length=k:=by rw[qj,List.length_singleton];omega
     rw[e];rfl
    .rw[qM (show Aa x p<=Aa x (o.getD (o.length-1) 0)by omega),qO hf];simp
  .have hk:3-o.length=0:=om
   rw[hk,qM h3];unfold I7.makR;simp
theorem U8(x:Int):∀(l o:List Int),o.length<=3->(LX x o l).length<=3
 |[],o,h=>h
 |p::r,o,h=>by
  unfold LX;split
  .exact h
  .rename_i hs;refine U8 x r _ ?_;unfold HE at hs;simp only[rO,qJ,not_or]at hs;rw[qj,List.length_singleton];omega
theorem da(x s:Int)(l:List Int):I7 x s l=if Ai s&&decide (s≠Cp x)then LX x [s] l else[]:=by
 unfold I7;split
 .rw[dZ x l [s] qA];rfl
 .rfl
theorem db(x s:Int)(l:List Int):(I7 x s l).length<=3:=by
 rw[da];split
 .exact U8 x l [s] qA
 .simp
theorem mm{o:List Int}{k:Nat}(h:k<o.length):(slc (.is o)).getD (k*1) .np= .i .i64 (o.getD k 0):=by
 rw[Nat.mul_one];simp only[slc,qW,rQ,qK h];rfl
abbrev nd(x:Int)(o l:List Int)(r:Lp):List A3:=[.c [.pY (Cp x)],.c [.sl 2 o.length 1],.a (.is o),.c [.qF l],.lp r]
theorem fh(x s:Int)(l:List Int)(hn:l.length<=1048576):qB 205 [.i .i64 x,.i .i64 s,.is l] (.is (I7 x s l)):=by
 have c1:=EQ x;have c2:=MV s;have c3:=Tx l;have hT:=da x s l;refine zF A4 Tryz.func205 ?_
 cases hs:Ai s with
 |false=>
  rw[hs]at c2 hT;rw[hT];refine wd Do [] A0 (AX @c1 @c2) ?_ [] true;exact zE
 |true=>
 rw[hs]at c2 hT
 by_cases he:s=Cp x
 .have f1:=A9 he;rw[hT,if_neg (by simp[he])];refine wd Do [] (A6 f1) (AX @c1 @c2) ?_ [] true;exact zE
 have f1:=eq_false' he;rw[if_pos (by simp[he])]at hT;rw[hT];clear hT;have ow:Lv [22]:=trivial;have d1:=Ds.mk [] (c3);refine wd Do [] (A6 f1) (AX @c1 @c2) ?_ [] true;clear d1 ow;refine zG (K:=fun r _ H'=>H'=nd x (LX x [s] l) l r\/H'=nd x (LX x [s] l) l (r.left (.goto 0))) ?_ ?_
 .intro r hr;have hk:=hr.ok (k:=4) rfl
  have hY:∀(o:List Int)(p:Int),o≠[]->o.length<=3->YT Tryz.prog 4 [.pY p] (nd x o l r) fun v K=>v= .pq (!(HE x o p))/\K=if HE x o p then nd x o l (r.left (.goto 0))else nd x (o++[p]) l r:=by
   intro o p hne ho;have hpos:0<o.length:=List.length_pos_iff.2 hne;have hsl:=mm (o:=o) (k:=o.length-1) om;have c4:=MV p;have c5:=H9 (Cp x) p;have c6:=H9 (Cp x) (o.getD (o.length-1) 0);rw[X5]at c5 c6;rw[<-hsl]at c6;clear hsl;have e1:(o.length:Int)-1=((o.length-1:Nat):Int):=om
   have hS:HE x o p=(decide ((o.length:Int)>=3)||(!Ai p||decide (Aa x p<=Aa x (o.getD (o.length-1) 0)))):=by
    unfold HE
    by_cases h:o.length>=3
    .rw[qM h,qM (show(o.length:Int)>=3 by omega)]
    .rw[qO h,qO (show ¬(o.length:Int)>=3 by omega)]
   rw[hS];clear hS;generalize Aa x p=fp at *;generalize Aa x (o.getD (o.length-1) 0)=fo at *;unfold nd;generalize Cp x=px at*
   by_cases h3:(o.length:Int)>=3
   .have g1:decide ((o.length:Int)>=3)=true:=qM h3;rw[g1,Bool.true_or];simp only[uS,qw];refine AZ hr rfl rfl rfl ?_;refine wd Do [] A0 A0 ?_ [] true;refine zR ?_;refine wd Do [] (A6 g1) A0 ?_ [] true;exact⟨_,A1.refl _,qG _,rfl,rfl,rfl⟩
   have g1:decide ((o.length:Int)>=3)=false:=qO h3;rw[g1,su]
   cases hp:Ai p with
   |false=>
    rw[hp]at c4;simp only[Bool.not_false,Bool.true_or,uS,qw];refine AZ hr rfl rfl rfl ?_;refine wd Do [] A0 A0 ?_ [] true;refine zR ?_;refine wd Do [] (A6 g1) (A6 @c4) ?_ [] true;exact⟨_,A1.refl _,qG _,rfl,rfl,rfl⟩
   |true=>
    rw[hp]at c4
    by_cases hf:fp<=fo
    .have g2:decide (fp<=fo)=true:=qM hf;rw[g2];simp only[uS,Bool.or_true,qw];refine AZ hr rfl rfl rfl ?_;refine wd Do [] A0 A0 ?_ [] true;refine zR ?_;refine wd Do [] (C3 g1 e1 g2) (C3 @c4 @c5 @c6) ?_ [] true;exact⟨_,A1.refl _,qG _,rfl,rfl,rfl⟩
    .have g2:decide (fp<=fo)=false:=qO hf;rw[g2];simp only[uS,Bool.or_self,Bool.not_false,rD,ql];refine AZ hr rfl rfl rfl ?_;refine wd Do [] A0 A0 ?_ [] true;refine zR ?_;refine wd Do [] (C3 g1 e1 g2) (C3 @c4 @c5 @c6) ?_ [] true;refine⟨_,A1.refl _,qG _,rfl,rfl,?_⟩;simp only[qj,qY,qy,List.set_cons_succ,List.set_cons_zero]
  have hdone:∀(o:List Int)(p:Int)(q:List Int),LX x o (p::q)=if HE x o p then o else LX x (o++[p]) q:=fun _ _ _=>rfl
  refine zT A4 Tryz.func296 ?_;generalize hM:LX x [s] l=M at *;refine wd Nw [] A0 A0 ?_;refine Cu (fun j:Nat=>j<=l.length/\(j<=2)/\LX x (s::l.take j) (l.drop j)=M) (fun j:Nat=>[(7,.pY j)]) (fun j=>[(1,.c [.sl 2 (s::l.take j).length 1]),(2,.a (.is (s::l.take j)))]) (fun j=>l.length-j) 0 ⟨qP _,qP _,hM⟩ (fun _=>rfl) (fun _=>rfl) ?_ ?_
  .exact A1.ck rfl
  rintro j ⟨hj,hj2,hpre⟩;have htl:(l.take j).length=j:=by rw[rM];omega
  by_cases hjl:j<l.length
  .obtain⟨p,hq⟩:=AT hjl;have gq:=Cy hq
   have hd:l.drop j=p::l.drop (j+1):=by
    rw[uQ hjl];rw[qK hjl]at hq;cases hq;rfl
   have hn:s::l.take j++[p]=s::l.take (j+1):=by rw[AQ hq];rfl
   rw[hd,hdone]at hpre;have hy:=hY (s::l.take j) p sm (by simp[htl];omega)
   cases hst:HE x (s::l.take j) p with
   |true=>
    rw[hst]at hy hpre;simp only[uS,qw]at hy hpre;subst hpre;have q1:=@hy;refine wd Nw [] (A6 gq) A0 ?_;clear q1;with_reducible repeat' first|constructor|intro hc;try simp only[AB]at hc
    exact⟨_,A1.refl _,qG _,_,_,rfl,rfl,.inr rfl⟩
   |false=>
    rw[hst]at hy hpre;simp only[Bool.not_false,rD,ql]at hy hpre
    have hj3:j+1<=2:=by
     unfold HE at hst;simp only[Bool.or_eq_false_iff,uJ]at hst;have:=hst.1;rw[qY,htl]at this;omega
    rw[hn]at hy hpre;have q1:=@hy;refine wd Nw [] (A6 gq) A0 ?_;clear q1;with_reducible repeat' first|constructor|intro hc;try simp only[AB]at hc
    refine⟨j+1,⟨hjl,hj3,hpre⟩,om,qG _,?_⟩;exact A1.ck rfl
  .have e:j=l.length:=om
   subst e;rw[qx,List.drop_length]at hpre;rw[qx];have hpre:s::l=M:=hpre;subst hpre;refine wd Nw [] A0 A0 ?_;with_reducible repeat' first|constructor|intro hc;try simp only[AB]at hc
   exact⟨_,A1.refl _,qG _,_,_,rfl,rfl,.inl rfl⟩
 .generalize LX x [s] l=M at *;rintro r hr v H' (rfl|rfl)
  .refine .inl ⟨rfl,?_⟩;refine wd Do [] A0 A0 ?_ [] true;exact zE
  .refine .inr ⟨.goto 0,rfl,?_⟩;refine wd Do [] A0 A0 ?_ [] true;exact zE
abbrev Qe:List (D×AV):=[(.i .u8 1,.fn (.func 282) [] [.ptr 2 0 1,.ptr 1 0 1]),(.i .u8 2,.fn (.func 284) [] [.ptr 2 0 1,.ptr 1 0 1]),(.i .u8 3,.fn (.func 286) [] [.ptr 1 0 1]),(.i .u8 4,.fn (.func 288) [] [.ptr 2 0 1,.ptr 1 0 1])]
abbrev kM:List (D×AV):=[(.i .u8 1,.fn (.func 282) [] [.ptr 3 0 1,.ptr 2 0 1]),(.i .u8 2,.fn (.func 284) [] [.ptr 3 0 1,.ptr 2 0 1]),(.i .u8 3,.fn (.func 286) [] [.ptr 2 0 1]),(.i .u8 4,.fn (.func 288) [] [.ptr 3 0 1,.ptr 2 0 1])]
theorem Ge(v:View)(j:Job):qC 207 [.ptr 0 0 37] [.c (jC v j (.qF j.left) .e0 false)] (.mp 3) [.c (jC v j (.qF j.left) .e0 false),.c [.ptr 0 0 37],.c [.ptr 0 20 37],.m Qe]:=by
 refine zD A4 Tryz.func207 ?_;refine wd [0,1,2,3] [] A0 A0 ?_;exact⟨_,(A1.ck rfl),qA,_,_,rfl,rfl,rfl,rfl⟩
theorem Ul(v:View)(j:Job):qC 207 [.ptr 0 0 37] [.c (jC v j (.sl 1 j.left.length 1) .e0 false),.a (.is j.left)] (.mp 4) [.c (jC v j (.sl 1 j.left.length 1) .e0 false),.a (.is j.left),.c [.ptr 0 0 37],.c [.ptr 0 20 37],.m kM]:=by
 refine zD A4 Tryz.func207 ?_;refine wd [0,1,2,3] [] A0 A0 ?_;exact⟨_,(A1.ck rfl),qA,_,_,rfl,rfl,rfl,rfl⟩
structure Fl where
 to:Int
 by_:List UInt8
 harmed:Bool
def Fl.cells(g:Fl):List D:=[.i .i64 g.to,.by g.by_,.b g.harmed]
def Fl.d(g:Fl):D:=.agg g.cells
end Nd
end Go.Proofs.YtkljbfejbakooaaGreatDoor
