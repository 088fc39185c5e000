/- Part 19 of a proof. Conditions: those that its theorems state. -/
import Derived.Test.YtamjpnmjpponpaaGreatDoorC16
set_option linter.unusedSimpArgs false
set_option linter.unusedVariables false
set_option linter.unnecessarySimpa false
set_option maxHeartbeats 40000000
set_option maxRecDepth 4000
namespace Go.Proofs.YtamjpnmjpponpaaGreatDoor
namespace Nd
open Go.Gar
open Wi (AF BV B7 AU Bp mC)
abbrev ON:BF:=[0,1,2,3,10]
def C6.A4(l:C6):yp:=[.yX l.AI,.yX l.CF,.yX l.C3,.b l.BA,.b l.CK,.yX l.Aa]
def C6.d(l:C6):D:=.agg l.A4
def PH(l:C6):yr:=[.yO l.AI,.yO l.CF,.yO l.C3,.yP l.BA,.yP l.CK,.yO l.Aa]
theorem dO(n:Int):yS 412 [.yX n] (.b (Bb n)):=by
 refine zF AE Tryz.func412 ?_;refine A9 [0,2] ?_;repeat'(apply zB<;>intro hc)
 all_goals(refine⟨_,_,rfl,rfl,?_⟩;simp only[C7];refine congrArg D.b ?_;unfold Bb;grind)
theorem SY(l:C6):yS 373 [l.d] (.b (JO l)):=by
 have c1:=dO l.AI;have c2:=dO l.CF;have hT:JO l=((Bb l.AI&&Bb l.CF&&decide (0<=l.C3)&&decide (l.C3<=41))&&(if l.C3>40 then decide (l.Aa=211)&& !l.CK else decide (l.Aa=0))):=rfl;refine zF AE Tryz.func373 ?_;unfold C6.d C6.A4;generalize Bb l.AI=p1 at *;generalize Bb l.CF=p2 at *;generalize JO l=R at *;refine AO [0,1,2,22,25] ?_ (Au @c1 @c2);repeat'(apply zB<;>intro hc)
 all_goals(clear c1 c2;refine⟨_,_,rfl,rfl,?_⟩;simp only[C7];refine congrArg D.b ?_;rw[hT];clear hT;grind)
theorem SX(l:C6):yS 372 [l.d] (.b (lookO l)):=by
 refine zF AE Tryz.func372 ?_;unfold C6.d C6.A4 lookO;refine A9 [0,1,2] ?_;repeat'(apply zB<;>intro hc)
 all_goals(refine⟨_,_,rfl,rfl,?_⟩;simp only[C7];refine congrArg D.b ?_;grind)
theorem uw(l:C6):yS 322 [l.d] (.tup [(dN l).1.d,.b (dN l).2]):=by
 have c1:=SX l;have c2:=SY l;refine zF AE Tryz.func322 ?_;unfold C6.d C6.A4 at*
 cases h:lookO l with
 |true=>
  have hT:dN l=(AU,false):=by unfold dN;rw[h];rfl
  rw[h]at c1;rw[hT];refine AO ON ?_ (AK @c1);exact BW (zh @Wi.AF.d.eq_1 (zh @Wi.AF.A4.eq_1 (zh @AU.eq_1 @An.eq_1)))
 |false=>
 rw[h]at c1
 cases h2:JO l with
 |false=>
  have hT:dN l=(AU,false):=by unfold dN;rw[h,h2];rfl
  rw[h2]at c2;rw[hT];refine AO ON ?_ (Au @c1 @c2);exact BW (zh @Wi.AF.d.eq_1 (zh @Wi.AF.A4.eq_1 (zh @AU.eq_1 @An.eq_1)))
 |true=>
  have hT:dN l=(ZD l,true):=by unfold dN;rw[h,h2];rfl
  rw[h2]at c2;rw[hT];refine AO ON ?_ (Au @c1 @c2);exact BW (zh @Wi.AF.d.eq_1 (zh @Wi.AF.A4.eq_1 (zh @ZD.eq_1 @An.eq_1)))
theorem VZ(id:Int)(A6 AB:Ai)(AH:Int)(f:Nat->Int)(l:C6):yT 321 [.d (AG.d ⟨id,A6,AB,AH,f⟩),.d l.d] [] (.fn (.func 371) [] [.ptr 0 0 20,.ptr 1 0 6]) [.c (vC id A6 AB AH f),.c (PH l)]:=by
 refine zD AE Tryz.func321 ?_;unfold vC PH C6.d C6.A4;refine A9 [0,1,2,3,4] ?_;exact wE
theorem Sc(id:Int)(A6 AB:Ai)(AH:Int)(f:Nat->Int)(l:C6)(hb:A6.length<=1000)(hl:AB.length<=1000):yT 371 [.ptr 0 0 20,.ptr 1 0 6] [.c (vC id A6 AB AH f),.c (PH l)] (.tup [.yO ((Eg ⟨id,A6,AB,AH,f⟩ l.AI l.BA).1),.yP ((Eg ⟨id,A6,AB,AH,f⟩ l.AI l.BA).2)]) [.c (vC id A6 AB AH f),.c (PH l)]:=by
 have c1:=bS ⟨id,A6,AB,AH,f⟩ l.AI l.BA hb hl;refine zD AE Tryz.func371 ?_;generalize Eg ⟨id,A6,AB,AH,f⟩ l.AI l.BA=q at *;obtain⟨q1,q2⟩:=q;unfold vC PH;refine AO [0,1,2,3] ?_ (AK @c1);exact wE
theorem cv(l:C6)(h:0<=l.C3/\l.C3<=41):yS 406 [l.d] (.tup [(Nl l).d,.b (decide (l.C3+1<=40))]):=by
 refine zF AE Tryz.func406 ?_;unfold C6.d C6.A4
 by_cases hh:l.C3+1>40
 .have f1:decide (l.C3+1>40)=true:=zU hh;have hc:(Nl l).Aa=211:=zn hh;have hd:decide (l.C3+1<=40)=false:=zQ om;rw[hd];refine Aj ON ?_ (AK f1);exact BW (zh @Nl.eq_1 hh)
 .have f1:decide (l.C3+1>40)=false:=zQ hh;have hd:decide (l.C3+1<=40)=true:=zU om;rw[hd];refine Aj ON ?_ (AK f1);exact BW (zh @Nl.eq_1 hh)
theorem ux(v:AG)(AI:Int)(hb:v.A6.length<=1000)(hl:v.AB.length<=1000):yS 273 [v.d,.yX AI] (xj v AI).d:=by
 have c1:=Bo v hb hl;have c2:=F7 AI;have hT:xj v AI=if Aq v then⟨DN AI,(Eg v (DN AI) false).1,0,false,(Eg v (DN AI) false).2,0⟩else Q8:=rfl
 generalize DN AI=k at *;obtain⟨id,A6,AB,AH,f⟩:=v;have c3:=VZ id A6 AB AH f ⟨k,0,0,false,false,0⟩;have c4:=Sc id A6 AB AH f ⟨k,0,0,false,false,0⟩ hb hl;refine zF AE Tryz.func273 ?_;rw[hT];clear hT;dsimp only at c4;generalize Eg ⟨id,A6,AB,AH,f⟩ k false=q at *;obtain⟨q1,q2⟩:=q
 cases h:Aq ⟨id,A6,AB,AH,f⟩with
 |false=>
  rw[h]at c1;refine AO [0,1,2,4,5,8] ?_ (AK @c1);exact BW (zh @C6.d.eq_1 @C6.A4.eq_1)
 |true=>
  rw[h]at c1;unfold C6.d C6.A4 at c3;unfold PH at c3 c4;refine B6 [0,1,2,4,5,8] ?_ (Au @c1 @c2) (H0 [] c3 [3,4] c4);exact BW (zh @C6.d.eq_1 @C6.A4.eq_1)
abbrev CB(l:List AF):D:=.sl 15 (l.map Wi.AF.A4)
abbrev jC(v:AG)(j:B9)(lf aq:AV)(own:Bool):yr:=[.yO v.id,.yV v.A6,.yV v.AB,.yO v.AH,.yO (v.f 0),.yO (v.f 1),.yO (v.f 2),.yO (v.f 3),.yO (v.f 4),.yO (v.f 5),.yO (v.f 6),.yO (v.f 7),.yO (v.f 8),.yO (v.f 9),.yO (v.f 10),.yO (v.f 11),.yO (v.f 12),.yO (v.f 13),.yO (v.f 14),.yO (v.f 15),.yQ j.AR,.yQ j.A5,.yO j.Ap.AI,.yO j.Ap.CF,.yO j.Ap.C3,.yP j.Ap.BA,.yP j.Ap.CK,.yO j.Ap.Aa,.yU j.AC.AI,.yO j.AC.B4,.yO j.AC.AZ,.yP j.AC.gone,.yO j.Ao,lf,.yO j.Aa,aq,.yP own]
theorem Ie(v:AG)(j:B9)(aq:AV)(own:Bool)(ha:AV.ok 1 aq=true):yT 325 [.ptr 0 0 37] [.c (jC v j (.yV j.left) aq own)] (.tup []) [.c (jC v (Dg j) (.yV ([])) aq own)]:=by
 have hk:=ha;refine zD AE Tryz.func325 ?_;unfold jC;refine A9 [0] ?_;exact QO 0 33 (.is [])
theorem Ul(v:AG)(j:B9)(own:Bool)(m:AF):yT 323 [.ptr 0 0 37,.d m.d] [.c (jC v j (.yV j.left) .e0 own)] (.tup []) [.c (jC v j (.yV j.left) (.d (CB [m])) own)]:=by
 refine zD AE Tryz.func323 ?_;unfold jC Wi.AF.d Wi.AF.A4;refine A9 [0,1,3] ?_ [(2,6),(3,6),(4,6)];exact wE
theorem qF(v:AG)(j:B9)(lf:Ai)(l:List AF)(own:Bool)(m:AF)(hn:l.length<=1048576):yT 323 [.ptr 0 0 37,.d m.d] [.c (jC v j (.sl 1 lf.length 1) (.sl 2 l.length 15) own),.a (.is lf),.a (CB l)] (.tup []) [.c (jC v j (.sl 1 lf.length 1) (.sl 2 (l++[m]).length 15) own),.a (.is lf),.a (CB (l++[m]))]:=by
 refine zD AE Tryz.func323 ?_;unfold jC Wi.AF.d Wi.AF.A4;refine A9 [0,1,3] ?_ [(2,6),(3,6),(4,6)];refine⟨⟨[],[.c (jC v j (.sl 1 lf.length 1) (.sl 2 (l++[m]).length 15) own),.a (.is lf),.a (CB (l++[m]))],_⟩,(have nC:=zh @CB.eq_1 @Wi.AF.A4.eq_1;A8.cn rfl),yR,_,_,rfl,rfl,rfl,rfl⟩
theorem Aw.arg{P:Program}{f:FuncId}{a x:AV}{d:D}{H:z6}{r:AV}{H':z6}(h:Aw P f [a,.d d] H r H')(hx:Oe [x] [d]):Aw P f [a,x] H r H':=
 ⟨h.1,fun G w vs h1 h2 h3=>h.2 G w vs h1 h2 (by
  simp only[Bf]at h3|-;obtain⟨v,q,e,hv,u,q2,e2,hu,e3⟩:=h3;subst e3;have h4:Bf G [x] [u]:=by simp only[Bf];exact⟨u,[],rfl,hu,rfl⟩
  have h5:=ML.2 (RP hx h4);simp only[List.map_cons,List.map_nil,Bf]at h5;obtain⟨u2,q3,e4,hu2,e5⟩:=h5;cases e4
  exact⟨v,q,e,hv,u,[],e2,hu2,rfl⟩)⟩
abbrev mAV(k dst AI:Int)(BA:Bool)(x:AS):AV:=.ag [.yQ k,.yO 0,.yO 0,.yO dst,.yO AI,.yP BA,.yP false,.yO 0,.yO 0,.e0,.yU x.AI,.yO x.B4,.yO x.AZ,.yP x.gone,.yO 0]
theorem nG(k dst AI:Int)(BA:Bool)(x:AS):Oe [mAV k dst AI BA x] [Wi.AF.d ⟨k,0,0,dst,AI,BA,false,0,0,[],x,0⟩]:=by
 unfold Wi.AF.d Wi.AF.A4
 repeat'(first|rfl|trivial|refine⟨rfl,rfl,by simp[BM]⟩|refine⟨_,_,rfl,?_,?_⟩|refine⟨_,rfl,?_⟩)
end Nd
end Go.Proofs.YtamjpnmjpponpaaGreatDoor
namespace Go.Proofs.YtamjpnmjpponpaaGreatDoor
open Go.Gar Go.Shelf Go.Sort Go.RowKit Go.Lib
theorem Ml:WY (Value.int .i64) D.is (fun x=> .yX x) where
 sl _:=rfl
 ok _:=trivial
 c _:=rfl
 n _:=rfl
 z _:=rfl
 r m a v:=by simp only[RD]
 one _:=rfl
theorem xS(p x:Int)(B:Nat)(W:World)(hc:W.cell? ⟨B,0,none⟩=some (.int .i64 p)):FnGives Tryz.prog 408 #[.pointer (some ⟨B,0,none⟩)] #[.int .i64 x] (.bool (x==p)) W:=by
 show Calls Tryz.prog 408 #[.int .i64 x,.pointer (some ⟨B,0,none⟩)] W _
 go_enter Tryz.func408,Tryz.ntmps408
 go_wp2
 all_goals(go_ret;exact⟨by simp_all,0,rfl⟩)
theorem ub(p:Int)(B:Nat)(w:World)(hB:B<w.heap.size)(hcell:w.cell? ⟨B,0,none⟩=some (.int .i64 p)):
  PredAt Tryz.prog 408 #[.pointer (some ⟨B,0,none⟩)] (Value.int .i64) (fun x=>x==p) w:=
 fun W x hb=>xS p x B W ((hb.cell (p:=⟨B,0,none⟩) hB).trans hcell)
theorem kz(p:Int)(B blk off size:Nat)(w:World)(hB:B<w.heap.size)(hne:B≠blk)(hcell:w.cell? ⟨B,0,none⟩=some (.int .i64 p)):
  PredOver Tryz.prog 408 #[.pointer (some ⟨B,0,none⟩)] (Value.int .i64) (fun x=>x==p) blk off size w:=
 fun n os dk x _=>xS p x B _ (by
  unfold sortWorld;rw[cell?_grow _ _ _ (by show B<(putRow _ _ _ _ _).heap.size;rw[size_putRow];exact hB),cell?_putRow_other _ _ blk off _ _ (Or.inl hne)]
  exact hcell)
theorem lA(l:Ai)(p:Int):(CO l p).length<=l.length:=q0b _ _
theorem ku(p:Int)(zs:Ai)(h0:zs≠[])(h:zs.length<=1048576):
  yT 407 [.sl 1 zs.length 1,.fn (.func 408) [] [.ptr 0 0 1]] [.c [.yO p],.a (.is zs)] (.sl 2 (CO zs p).length 1) [.c [.yO p],.gone,.a (.is (CO zs p))]:=by
 refine⟨⟨_,Tryz.func407,rfl,rfl⟩,fun G w vs hG hR hv=> ?_⟩;rw[callsIn_wide];obtain⟨v,r0,hvs,hv1,u,r1,hr0,hv2,hr1⟩:=hv;simp only[Bf]at hr1;subst hr1;subst hr0;have hvs':vs= #[v,u]:=by rw[<-Array.toArray_toList (xs:=vs),hvs]
 subst hvs';simp only[RV]at hv1 hv2;obtain⟨p',q,rfl,hp0,hq⟩:=hv2;simp only[Bf]at hp0 hq;subst hp0;obtain⟨pv,r2,rfl,hpv,rfl⟩:=hq;simp only[RV]at hpv;obtain⟨_,blk0,hb0',hpt⟩:=hpv;have hbc:G.H[0]? =some (.c [.yO p]):=by rw[hG];rfl
 rw[hbc]at hb0';cases hb0';obtain⟨_,c,Nc,hρc,rfl⟩:=hpt;obtain⟨_,blk,hb,hp⟩:=hv1;have hb1:G.H[1]? =some (.a (.is zs)):=by rw[hG];rfl
 rw[hb1]at hb;cases hb;obtain⟨_,_,hp⟩:=hp;have hl:=lA zs p;let G':Gh:={ρ:=fun id=>if id=2 then G.ρ 1 else G.ρ id,H:=[.c [.yO p],.gone,.a (.is (CO zs p))],m:=G.m}
 have gle:IJ G G':=by
  refine⟨fun id q hq=> ?_,Mem.le_refl _⟩;rw[hG]at hq
  match id with
  |0=>cases hq;exact⟨_,rfl,rfl,rfl⟩
  |1=>cases hq;exact⟨.gone,rfl,trivial⟩
  |i+2=>simp at hq
 have nm:∀(j:Nat)(rs:List (Option (Nat×Nat×AL))),G.H[j]?≠some (.many rs):=fun j rs h=>by
  rw[hG]at h
  match j with
  |0=>cases h
  |1=>cases h
  |j+2=>simp at h
 have nm':∀(j:Nat)(rs:List (Option (Nat×Nat×AL))),G'.H[j]?≠some (.many rs):=fun j rs h=>by
  match j with
  |0=>cases h
  |1=>cases h
  |2=>cases h
  |j+3=>cases h
 have own':∀c,Own G' c↔Own G c:=by
  intro c;constructor
  .rintro(⟨j,M,q,hq,lq,hr⟩|⟨j,rs,hq,_⟩)
   case inr=>exact absurd hq (nm' j rs)
   match j with
   |0=>exact .inl ⟨0,M,_,hbc,rfl,hr⟩
   |1=>cases hq;cases lq
   |2=>exact .inl ⟨1,M,_,hb1,rfl,hr⟩
   |j+3=>cases hq
  .rintro(⟨j,M,q,hq,lq,hr⟩|⟨j,rs,hq,_⟩)
   case inr=>exact absurd hq (nm j rs)
   rw[hG]at hq
   match j with
   |0=>exact .inl ⟨0,M,_,rfl,rfl,hr⟩
   |1=>exact .inl ⟨2,M,_,rfl,rfl,hr⟩
   |j+2=>simp at hq
 rcases hp (by rw[Ml.n])with⟨hz,a,rfl⟩|⟨b,N,cap,hρ,rfl,hnc,hcm,hN⟩
 .exact absurd (q18.1 hz) h0
 .obtain⟨_,_,hB⟩:=hR.blk 1 _ hb1;rcases hB with⟨_,hno⟩|⟨b',N',vs,T,hρ',hw,hM,hcell⟩
  .rw[hρ]at hno;cases hno
  rw[hρ]at hρ';cases hρ';have hBc:=hR.blk 0 _ hbc;obtain⟨c',Nc',vc,Tc,hρc',hwc,hMc,hlc,hcc⟩:=hBc;rw[hρc]at hρc';cases hρc';have hlt:b<w.heap.size:=(q03.1 hw).1;have hltc:c<w.heap.size:=(q03.1 hwc).1
  have hne:c≠b:=fun e=>by
   subst e;have:=hR.inj 0 1 _ _ _ _ _ hbc hb1 rfl rfl hρc hρ;cases this
  have hcid:w.cell? ⟨c,0,none⟩=some (.int .i64 p):=by
   obtain⟨v0,q1,q2⟩:=hcc 0 (.yO p) rfl;simp only[RV,RD]at q2;subst q2;unfold World.cell?;simp only[hwc,Option.isSome_none,q0E,q0U];exact q1
  have hrun:=AnyE.slices_DeleteFunc Tryz.mo (Value.int .i64) (fun _=>rfl) (fun x=>x==p) 408 #[.pointer (some ⟨c,0,none⟩)] (enters_of Tryz.func408 (by kernel_rfl) rfl) 0 Tryz.zeroValue3 b 0 cap zs.toArray w (ub p c w hltc hcid) (kz p c b 0 zs.toArray.size w hltc hne hcid) (UX Ml hw hcell) (by simp;omega) (by simpa using hnc);refine hrun.mono ?_;rintro e w' ⟨rfl,n,rfl⟩;have hvl:zs.length<=vs.size:=om
  have e1:(zs.toArray.toList.filter fun x=> !(x==p))=CO zs p:=rfl;rw[e1,putRow_ahead,TE (Value.int .i64) hw]
  have hoth:∀d,¬Own G d\/d=c->(Sort.ahead (w.setRow b (putCells (Value.int .i64) 0 (CO zs p++List.replicate (zs.toArray.size-(CO zs p).length) 0).toArray vs)) n).heap[d]? =w.heap[d]?:=fun d hd=>setRow_other w b d _ (fun e=>by
   rcases hd with hd|hd
   .exact hd (by rw[e];exact .inl ⟨1,N,_,hb1,rfl,hρ⟩)
   .exact hne (hd▸e))
  have hB':BR G' (Sort.ahead (w.setRow b (putCells (Value.int .i64) 0 (CO zs p++List.replicate (zs.toArray.size-(CO zs p).length) 0).toArray vs)) n) 2 (.a (.is (CO zs p))):=by
   refine⟨Ml.sl _,Ml.ok _,.inr ⟨b,N,_,T,hρ,setRow_heap w b vs _ T _ hw,by simp[putCells];omega,?_⟩⟩;refine UW Ml (fun k hk=>⟨by simp;omega,?_⟩) om;rw[getElem!_pos _ k (by simp;omega),zo,zV hk];simp[List.getElem_append_left,hk]
  have hH:BK G' (Sort.ahead (w.setRow b (putCells (Value.int .i64) 0 (CO zs p++List.replicate (zs.toArray.size-(CO zs p).length) 0).toArray vs)) n):=by
   refine⟨fun id q hq=> ?_,fun i j q r d N1 N2 hq hr lq lr e1 e2=> ?_,fun d k v hv=> ?_,fun d hd k=>hR.sep d ((own' d).1 hd) k,hR.st,fun id rs h=>absurd h (nm' id rs)⟩
   .match id with
    |0=>
     cases hq;exact(hR.blk 0 _ hbc).P4 gle (fun d M _ hd=>hoth d (.inr (by rw[hρc]at hd;cases hd;rfl))) rfl (fun rs e=>by cases e)
    |1=>cases hq;trivial
    |2=>cases hq;exact hB'
    |j+3=>cases hq
   .match i,j with
    |0,0=>rfl
    |2,2=>rfl
    |0,2=>exact absurd (hR.inj 0 1 _ _ _ _ _ hbc hb1 rfl rfl e1 e2) (by decide)
    |2,0=>exact absurd (hR.inj 1 0 _ _ _ _ _ hb1 hbc rfl rfl e1 e2) (by decide)
    |1,_=>cases hq;cases lq
    |_,1=>cases hr;cases lr
    |j+3,_=>cases hq
    |_,j+3=>cases hr
   .have hno:¬Own G d:=fun h=>by rw[hR.sep d h k]at hv;cases hv
    rw[World.cell?_of_block (w:=w) (hoth d (.inl hno))];exact hR.mem d k v hv
  refine⟨_,.sl 2 (CO zs p).length 1,G',rfl,⟨rfl,rfl⟩,?_,hH,⟨rfl,rfl,rfl,by show w.heap.size<=(w.setRow b _).heap.size;simp,fun d hd ho=>⟨hoth d (.inl ho),fun h=>ho ((own' d).1 h)⟩,fun _ _ _ hv=> .inl hv,gle⟩⟩;simp only[RV];exact⟨rfl,.a (.is (CO zs p)),rfl,Ml.z _,by rw[Ml.n];exact zN _,fun _=> .inr ⟨b,N,cap,hρ,rfl,om,hcm,hN⟩⟩
end Go.Proofs.YtamjpnmjpponpaaGreatDoor
namespace Go.Proofs.YtamjpnmjpponpaaGreatDoor
namespace Nd
open Go.Gar
open Wi (AF BV B7 AU Bp)
theorem Y7{id n d:Int}(h:F2 id n=true):F2 id (if n=d then -1 else n)=true:=by
 split
 .simp[F2]
 .exact h
structure ND (v w:AG):Prop where
 id:w.id=v.id
 A6:w.A6=v.A6
 right:Aq v=true->Aq w=true
theorem ND.refl(v:AG):ND v v:=⟨rfl,rfl,fun h=>h⟩
theorem ND.trans{a b c:AG}(h:ND a b)(k:ND b c):ND a c:=⟨k.id.trans h.id,k.A6.trans h.A6,fun r=>k.right (h.right r)⟩
variable {v:AG}
theorem L8(h1:Bb v.id=true)(h2:Cn v.A6=true)(h3:CU v.id v.AB=true)(h4:F2 v.id v.AH=true)(h5:(D6 v.f).all (F2 v.id)=true):Aq v=true:=by
 unfold Aq;rw[h1,h2,h3,h4,h5];rfl
theorem QY(v:AG)(d:Int):ND v (Bu v d):=by
 unfold Bu;split
 .refine⟨rfl,rfl,fun hv=> ?_⟩;obtain⟨h1,h2,h3,h4,h5⟩:=Dh hv;refine L8 h1 h2 ?_ (Y7 h4) ?_
  .simp only[CU,zO,zW]at h3|-;exact⟨q0L (U0 _ _) h3.1,PW _ _ _ _ h3.2 (q1C _)⟩
  .show(D6 fun i=>if v.f i=d then -1 else v.f i).all (F2 v.id)=true;rw[q0T]at h5|-;intro x hx;simp only[D6,q0O,List.not_mem_nil,or_false]at hx
   have h5':∀i,i<16->F2 v.id (v.f i)=true:=fun i hi=>h5 _ (by
    rcases Mn hi with rfl|rfl|rfl|rfl|rfl|rfl|rfl|rfl|rfl|rfl|rfl|rfl|rfl|rfl|rfl|rfl<;>simp[D6])
   rcases hx with rfl|rfl|rfl|rfl|rfl|rfl|rfl|rfl|rfl|rfl|rfl|rfl|rfl|rfl|rfl|rfl<;>exact Y7 (h5' _ (by decide))
 .exact .refl v
theorem PG(v:AG)(l:Ai):ND v (EW v l):=by
 unfold EW;split
 .rename_i h;rw[zO]at h;refine⟨rfl,rfl,fun hv=> ?_⟩;obtain⟨h1,h2,-,h4,h5⟩:=Dh hv;exact L8 h1 h2 h.2 h4 h5
 .exact .refl v
theorem uh(v:AG)(i Ao:Int):ND v (NX v i Ao).1:=by
 unfold NX;split
 .rename_i h;simp only[zO,zW]at h;refine⟨rfl,rfl,fun hv=> ?_⟩;obtain⟨h1,h2,h3,h4,h5⟩:=Dh hv;refine L8 h1 h2 h3 h4 ?_
  have hp:F2 v.id (if Ao=v.id then -1 else Ao)=true:=by
   split
   .simp[F2]
   .rename_i hne;simp[F2,h.2,hne]
  have h5':∀i,i<16->F2 v.id (v.f i)=true:=fun i hi=>(q0T.1 h5) _ (by
    rcases Mn hi with rfl|rfl|rfl|rfl|rfl|rfl|rfl|rfl|rfl|rfl|rfl|rfl|rfl|rfl|rfl|rfl<;>simp[D6])
  have hq:∀k,k<16->F2 v.id (Vz v.f i.toNat (if Ao=v.id then -1 else Ao) k)=true:=fun k hk=>by
   unfold Vz;split
   .exact hp
   .exact h5' k hk
  rw[q0T];intro x hx;simp only[D6,q0O,List.not_mem_nil,or_false]at hx;rcases hx with rfl|rfl|rfl|rfl|rfl|rfl|rfl|rfl|rfl|rfl|rfl|rfl|rfl|rfl|rfl|rfl<;>exact hq _ (by decide)
 .exact .refl v
theorem ll(v:AG)(i Ao:Int):(NX v i Ao).1.AB=v.AB:=by unfold NX;split<;>rfl
theorem U6(h:Aq v=true):Bb (FM v)=true/\FM v≠v.id:=by
 obtain⟨r1,r2,r3,-,-⟩:=Dh h;unfold FM;rw[zn h]
 cases hl:v.AB with
 |nil=>exact⟨(Wj r1 r2).2.1,(Wj r1 r2).2.2⟩
 |cons p r=>
  rw[hl]at r3;simp only[CU,rT,zO,zW]at r3;refine⟨r3.2.1.1,?_⟩;show p≠v.id;rintro rfl;have:=r3.2.1.2;unfold Ba at this;omega
theorem Eh(n:Int):Bb n=BV n:=by
 unfold Bb BV
 by_cases h1:0<=n<;>by_cases h2:n<65536<;>simp[h1,h2]
theorem eS{A5 BH:Int}{m:AF}(hs:Cl A5 BH=true):ND v (Dm v A5 BH m).1.A7/\Cl (Dm v A5 BH m).1.A5 (Dm v A5 BH m).1.BH=true:=by
 unfold Dm;split
 .rename_i h;simp only[zO]at h;split
  .exact⟨.refl v,rfl⟩
  .have hw:=(PG v (K1 v.id m.B8 m.AB)).right h.1;simp only;split
   .rename_i hp;refine⟨PG _ _,?_⟩;have hc:=h.2.2;unfold ZR at hc;simp only[zO,zW]at hc;have hk:m.AN=7:=by rw[hc.2.1,zx om]
    have hr:=hc.2.2.2.2;unfold AF.right AF.has at hr;simp only[zO]at hr;have hh:=hr.2.2;rw[hk]at hh
    have hpl:BV m.AH=true:=by
     revert hh
     simp only;intro hh;simp at hh
     grind
    show Cl 2 m.AH=true;unfold Cl;rw[zx (by decide),hpl];rfl
   .refine⟨PG _ _,?_⟩;show Cl 3 (FM _)=true;unfold Cl;rw[zx (by decide),<-Eh,(U6 hw).1];rfl
 .exact⟨.refl v,hs⟩
theorem qj{A5 BH d:Int}(hs:Cl A5 BH=true):ND v (F6 v A5 BH d).A7/\Cl (F6 v A5 BH d).A5 (F6 v A5 BH d).BH=true:=by
 unfold F6;split
 .split
  .exact⟨QY v d,rfl⟩
  .exact⟨QY v d,hs⟩
 .exact⟨.refl v,hs⟩
abbrev Ev:BF:=[0,1,2,3,6,7,8,18,24,25,47]
abbrev Qu:BF:=[0,1,4,5,6,7,8,14]
def J1(x:Int)(o:Ai)(p:Int):Bool:=decide (o.length>=3)||(!Bb p||decide (Ba x p<=Ba x (o.getD (o.length-1) 0)))
def Nv(x:Int):Ai->Ai->Ai
 |o,[]=>o
 |o,p::r=>if J1 x o p then o else Nv x (o++[p]) r
theorem gR(o:Ai)(p:Int):(o++[p]).getD ((o++[p]).length-1) 0=p:=by
 rw[q04,List.length_singleton,Nat.add_sub_cancel,zo,q05 (zN _),Nat.sub_self];rfl
theorem nJ(x:Int):∀(l o:Ai),o.length<=3->Nv x o l=o++K1.makR x (o.getD (o.length-1) 0) l (3-o.length)
 |[],o,_=>by unfold Nv K1.makR;simp
 |p::r,o,h=>by
  unfold Nv J1;rcases q0C o.length 3 with h3|h3
  .obtain⟨k,hk⟩:∃k,3-o.length=k+1:=⟨2-o.length,om⟩;rw[hk,zQ om,q0k];unfold K1.makR
   cases hp:Bb p with
   |false=>simp
   |true=>
    by_cases hf:Ba x p>Ba x (o.getD (o.length-1) 0)
    .have ih:=nJ x r (o++[p]) (by simp;omega);rw[gR]at ih;rw[zQ (show ¬Ba x p<=Ba x (o.getD (o.length-1) 0)by omega),zU hf];simp only[q1J,Bool.or_self,q0E,q0U,q1c,q0X];rw[ih,q0Z];have e:3-(o++[p]).length=k:=by rw[q04,List.length_singleton];omega
     rw[e];rfl
    .rw[zU (show Ba x p<=Ba x (o.getD (o.length-1) 0)by omega),zQ hf];simp
  .have hk:3-o.length=0:=om
   rw[hk,zU h3];unfold K1.makR;simp
theorem Xu(x:Int):∀(l o:Ai),o.length<=3->(Nv x o l).length<=3
 |[],o,h=>h
 |p::r,o,h=>by
  unfold Nv;split
  .exact h
  .rename_i hs;refine Xu x r _ ?_;unfold J1 at hs;simp only[q0j,zW,not_or]at hs;rw[q04,List.length_singleton];omega
theorem nK(x s:Int)(l:Ai):K1 x s l=if Bb s&&decide (s≠DN x)then Nv x [s] l else[]:=by
 unfold K1;split
 .rw[nJ x l [s] yR];rfl
 .rfl
theorem nL(x s:Int)(l:Ai):(K1 x s l).length<=3:=by
 rw[nK];split
 .exact Xu x l [s] yR
 .simp
theorem vV{o:Ai}{k:Nat}(h:k<o.length):(slc (.is o)).getD (k*1) .np= .yX (o.getD k 0):=by
 rw[Nat.mul_one];simp only[slc,zo,q0G,zV h];rfl
abbrev wU(x:Int)(o l:Ai)(r:Lp):z6:=[.c [.yO (DN x)],.c [.sl 2 o.length 1],.a (.is o),.c [.yV l],.lp r]
theorem pX(x s:Int)(l:Ai)(hn:l.length<=1048576):yS 309 [.yX x,.yX s,.is l] (.is (K1 x s l)):=by
 have c1:=F7 x;have c2:=PF s;have c3:=SR l;have hT:=nK x s l;refine zF AE Tryz.func309 ?_
 cases hs:Bb s with
 |false=>
  rw[hs]at c2 hT;rw[hT];refine AO Ev ?_ (Au @c1 @c2);exact zE
 |true=>
 rw[hs]at c2 hT
 by_cases he:s=DN x
 .have f1:=AT he;rw[hT,zx (by simp[he])];refine AJ Ev ?_ (AK f1) (Au @c1 @c2);exact zE
 have f1:=eq_false' he;rw[zn (by simp[he])]at hT;rw[hT];clear hT;have ow:Lv [22]:=trivial;refine By Ev ?_ (AK f1) (Au @c1 @c2) (BJ [] c3);clear ow;refine zG (K:=fun r _ H'=>H'=wU x (Nv x [s] l) l r\/H'=wU x (Nv x [s] l) l (r.left (.goto 0))) ?_ ?_
 .intro r hr;have hk:=hr.ok (k:=4) rfl
  have hY:∀(o:Ai)(p:Int),o≠[]->o.length<=3->YT Tryz.prog 4 [.yO p] (wU x o l r) fun v K=>v= .yP (!(J1 x o p))/\K=if J1 x o p then wU x o l (r.left (.goto 0))else wU x (o++[p]) l r:=by
   intro o p hne ho;have hpos:0<o.length:=List.length_pos_iff.2 hne;have hsl:=vV (o:=o) (k:=o.length-1) om;have c4:=PF p;have c5:=Iu (DN x) p;have c6:=Iu (DN x) (o.getD (o.length-1) 0);rw[cZ]at c5 c6;rw[<-hsl]at c6;clear hsl;have e1:(o.length:Int)-1=((o.length-1:Nat):Int):=om
   have hS:J1 x o p=(decide ((o.length:Int)>=3)||(!Bb p||decide (Ba x p<=Ba x (o.getD (o.length-1) 0)))):=by
    unfold J1
    by_cases h:o.length>=3
    .rw[zU h,zU (show(o.length:Int)>=3 by omega)]
    .rw[zQ h,zQ (show ¬(o.length:Int)>=3 by omega)]
   rw[hS];clear hS;generalize Ba x p=fp at *;generalize Ba x (o.getD (o.length-1) 0)=fo at *;unfold wU;generalize DN x=px at*
   by_cases h3:(o.length:Int)>=3
   .have g1:decide ((o.length:Int)>=3)=true:=zU h3;rw[g1,Bool.true_or];simp only[q1J,q0X];refine Ar hr rfl rfl rfl ?_;refine A9 Ev ?_;refine zR ?_;refine Aj Ev ?_ (AK g1);exact⟨_,A8.refl _,zN _,rfl,rfl,rfl⟩
   have g1:decide ((o.length:Int)>=3)=false:=zQ h3;rw[g1,q0k]
   cases hp:Bb p with
   |false=>
    rw[hp]at c4;simp only[q1p,Bool.true_or,q1J,q0X];refine Ar hr rfl rfl rfl ?_;refine A9 Ev ?_;refine zR ?_;refine AJ Ev ?_ (AK g1) (AK @c4);exact⟨_,A8.refl _,zN _,rfl,rfl,rfl⟩
   |true=>
    rw[hp]at c4
    by_cases hf:fp<=fo
    .have g2:decide (fp<=fo)=true:=zU hf;rw[g2];simp only[q1J,Bool.or_true,q0X];refine Ar hr rfl rfl rfl ?_;refine A9 Ev ?_;refine zR ?_;refine AJ Ev ?_ (CP g1 e1 g2) (CP @c4 @c5 @c6);exact⟨_,A8.refl _,zN _,rfl,rfl,rfl⟩
    .have g2:decide (fp<=fo)=false:=zQ hf;rw[g2];simp only[q1J,Bool.or_self,q1p,q0E,q0U];refine Ar hr rfl rfl rfl ?_;refine A9 Ev ?_;refine zR ?_;refine AJ Ev ?_ (CP g1 e1 g2) (CP @c4 @c5 @c6);refine⟨_,A8.refl _,zN _,rfl,rfl,?_⟩;simp only[q04,q02,q0B,q0u,q0t]
  have hdone:∀(o:Ai)(p:Int)(q:Ai),Nv x o (p::q)=if J1 x o p then o else Nv x (o++[p]) q:=fun _ _ _=>rfl
  refine zT AE Tryz.func369 ?_;generalize hM:Nv x [s] l=M at *;refine A9 Qu ?_;refine CM (fun j:Nat=>j<=l.length/\(j<=2)/\Nv x (s::l.take j) (l.drop j)=M) (fun j:Nat=>[(7,.yO j)]) (fun j=>[(1,.c [.sl 2 (s::l.take j).length 1]),(2,.a (.is (s::l.take j)))]) (fun j=>l.length-j) 0 ⟨zi _,zi _,hM⟩ (fun _=>rfl) (fun _=>rfl) ?_ ?_
  .exact A8.ck rfl
  rintro j ⟨hj,hj2,hpre⟩;have htl:(l.take j).length=j:=by rw[q0D];omega
  by_cases hjl:j<l.length
  .obtain⟨p,hq⟩:=Ah hjl;have gq:=C5 hq
   have hd:l.drop j=p::l.drop (j+1):=by
    rw[q14 hjl];rw[zV hjl]at hq;cases hq;rfl
   have hn:s::l.take j++[p]=s::l.take (j+1):=by rw[AY hq];rfl
   rw[hd,hdone]at hpre;have hy:=hY (s::l.take j) p sm (by simp[htl];omega)
   cases hst:J1 x (s::l.take j) p with
   |true=>
    rw[hst]at hy hpre;simp only[q1J,q0X]at hy hpre;subst hpre;have q1:=@hy;refine Aj Qu ?_ (AK gq);clear q1;with_reducible repeat' first|constructor|intro hc
    exact⟨_,A8.refl _,zN _,_,_,rfl,rfl,.inr rfl⟩
   |false=>
    rw[hst]at hy hpre;simp only[q1p,q0E,q0U]at hy hpre
    have hj3:j+1<=2:=by
     unfold J1 at hst;simp only[Bool.or_eq_false_iff,q0c]at hst;have:=hst.1;rw[q02,htl]at this;omega
    rw[hn]at hy hpre;have q1:=@hy;refine Aj Qu ?_ (AK gq);clear q1;with_reducible repeat' first|constructor|intro hc
    refine⟨j+1,⟨hjl,hj3,hpre⟩,om,zN _,?_⟩;exact A8.ck rfl
  .have e:j=l.length:=om
   subst e;rw[q06,List.drop_length]at hpre;rw[q06];have hpre:s::l=M:=hpre;subst hpre;refine A9 Qu ?_;with_reducible repeat' first|constructor|intro hc
   exact⟨_,A8.refl _,zN _,_,_,rfl,rfl,.inl rfl⟩
 .generalize Nv x [s] l=M at *;rintro r hr v H' (rfl|rfl)
  .refine .inl ⟨rfl,?_⟩;refine A9 Ev ?_;exact zE
  .refine .inr ⟨.goto 0,rfl,?_⟩;refine A9 Ev ?_;exact zE
end Nd
end Go.Proofs.YtamjpnmjpponpaaGreatDoor
namespace Go.Proofs.YtamjpnmjpponpaaGreatDoor
namespace Nd
open Go.Gar
open Wi (AF BV B7 AU Bp mC)
abbrev oh:z7:=[(.i .u8 1,.fn (.func 363) [] [.ptr 2 0 1,.ptr 1 0 1]),(.i .u8 2,.fn (.func 365) [] [.ptr 2 0 1,.ptr 1 0 1]),(.i .u8 3,.fn (.func 366) [] [.ptr 1 0 1]),(.i .u8 4,.fn (.func 368) [] [.ptr 2 0 1,.ptr 1 0 1])]
abbrev lZ:z7:=[(.i .u8 1,.fn (.func 417) [] [.ptr 2 0 1,.ptr 1 0 1]),(.i .u8 2,.fn (.func 416) [] [.ptr 2 0 1,.ptr 1 0 1]),(.i .u8 3,.fn (.func 419) [] [.ptr 1 0 1]),(.i .u8 4,.fn (.func 416) [] [.ptr 2 0 1,.ptr 1 0 1])]
abbrev tT:z7:=[(.i .u8 1,.fn (.func 363) [] [.ptr 3 0 1,.ptr 2 0 1]),(.i .u8 2,.fn (.func 365) [] [.ptr 3 0 1,.ptr 2 0 1]),(.i .u8 3,.fn (.func 366) [] [.ptr 2 0 1]),(.i .u8 4,.fn (.func 368) [] [.ptr 3 0 1,.ptr 2 0 1])]
abbrev sy:z7:=[(.i .u8 1,.fn (.func 417) [] [.ptr 3 0 1,.ptr 2 0 1]),(.i .u8 2,.fn (.func 416) [] [.ptr 3 0 1,.ptr 2 0 1]),(.i .u8 3,.fn (.func 419) [] [.ptr 2 0 1]),(.i .u8 4,.fn (.func 416) [] [.ptr 3 0 1,.ptr 2 0 1])]
theorem TL(v:AG)(j:B9):yT 311 [.ptr 0 0 37] [.c (jC v j (.yV j.left) .e0 false)] (.mp 3) [.c (jC v j (.yV j.left) .e0 false),.c [.ptr 0 0 37],.c [.ptr 0 20 37],.m oh]:=by
 refine zD AE Tryz.func311 ?_;refine A9 [0,1,2,3] ?_;exact wE
theorem Rx(v:AG)(j:B9):yT 377 [.ptr 0 0 37] [.c (jC v j (.yV j.left) .e0 false)] (.mp 3) [.c (jC v j (.yV j.left) .e0 false),.c [.ptr 0 0 37],.c [.ptr 0 20 37],.m lZ]:=by
 refine zD AE Tryz.func377 ?_;refine A9 [0,1,2,3,4] ?_;exact wE
theorem Yj(v:AG)(j:B9):yT 311 [.ptr 0 0 37] [.c (jC v j (.sl 1 j.left.length 1) .e0 false),.a (.is j.left)] (.mp 4) [.c (jC v j (.sl 1 j.left.length 1) .e0 false),.a (.is j.left),.c [.ptr 0 0 37],.c [.ptr 0 20 37],.m tT]:=by
 refine zD AE Tryz.func311 ?_;refine A9 [0,1,2,3] ?_;exact wE
theorem XA(v:AG)(j:B9):yT 377 [.ptr 0 0 37] [.c (jC v j (.sl 1 j.left.length 1) .e0 false),.a (.is j.left)] (.mp 4) [.c (jC v j (.sl 1 j.left.length 1) .e0 false),.a (.is j.left),.c [.ptr 0 0 37],.c [.ptr 0 20 37],.m sy]:=by
 refine zD AE Tryz.func377 ?_;refine A9 [0,1,2,3,4] ?_;exact wE
abbrev WC:BF:=[0,1,2,3,6,7,8,10,25]
def XO(a i:Int):Int:=if 0<=i/\i<16 then DN (DN a+2^i.toNat)else DN a
theorem U5(a i:Int):yS 283 [.yX a,.yX i] (.yX (XO a i)):=by
 have c1:=F7 a;have hp:=PU a;refine zF AE Tryz.func283 ?_
 by_cases hi:0<=i/\i<16
 .have hT:XO a i=DN (DN a+2^i.toNat):=zn hi;rw[hT];generalize DN a=p at *;have:i=0\/i=1\/i=2\/i=3\/i=4\/i=5\/i=6\/i=7\/i=8\/i=9\/i=10\/i=11\/i=12\/i=13\/i=14\/i=15:=om
  clear hT hi;rcases this with rfl|rfl|rfl|rfl|rfl|rfl|rfl|rfl|rfl|rfl|rfl|rfl|rfl|rfl|rfl|rfl
  all_goals
   refine AO [0,1,4,10] ?_ (Au @c1 @F7) [(3,1),(4,1)];exact zE
 .have hT:XO a i=DN a:=zx hi;rw[hT];generalize DN a=p at*
  by_cases h0:i<0
  .have f1:decide (i<0)=true:=zU h0;refine AJ [0,1,4,10] ?_ (AK f1) (AK @c1);exact zE
  .have f1:decide (i<0)=false:=zQ h0;have f2:decide (i>=16)=true:=zU om;refine AJ [0,1,4,10] ?_ (Au f1 f2) (AK @c1);exact zE
theorem ue(n:Int):yS 328 [.yX n] (.b (Bb n)):=by
 refine zF AE Tryz.func328 ?_;refine A9 [0,2] ?_;repeat'(apply zB<;>intro hc)
 all_goals(refine⟨_,_,rfl,rfl,?_⟩;simp only[C7];refine congrArg D.b ?_;unfold Bb;grind)
theorem cW(v:AG)(n:Int):yS 284 [v.d,.yX n] (.yX (if n=v.id then -1 else n)):=by
 obtain⟨id,A6,AB,AH,f⟩:=v;refine zF AE Tryz.func284 ?_
 by_cases h:n=id
 .have f1:=AT h;rw[zn h];refine Aj [0,1,2,4,8] ?_ (AK f1);exact zE
 .have f1:=eq_false' h;rw[zx h];refine Aj [0,1,2,4,8] ?_ (AK f1);exact zE
abbrev finD(f:Nat->Int):D:=.agg [.yX (f 0),.yX (f 1),.yX (f 2),.yX (f 3),.yX (f 4),.yX (f 5),.yX (f 6),.yX (f 7),.yX (f 8),.yX (f 9),.yX (f 10),.yX (f 11),.yX (f 12),.yX (f 13),.yX (f 14),.yX (f 15)]
theorem qm{f g:Nat->Int}(h:D6 f=D6 g)(k:Nat)(hk:k<16):f k=g k:=by
 simp only[D6,List.cons.injEq]at h;obtain⟨h0,h1,h2,h3,h4,h5,h6,h7,h8,h9,h10,h11,h12,h13,h14,h15,-⟩:=h;rcases Mn hk with rfl|rfl|rfl|rfl|rfl|rfl|rfl|rfl|rfl|rfl|rfl|rfl|rfl|rfl|rfl|rfl<;>assumption
theorem X8(v:AG)(g:Nat->Int)(hb:v.A6.length<=1000)(hl:v.AB.length<=1000):yS 285 [v.d,finD g] (AG.d ⟨v.id,v.A6,v.AB,v.AH,g⟩):=by
 have c1:=HS v om om;have hE:=fE v.f g;obtain⟨id,A6,AB,AH,f⟩:=v;dsimp only at *;refine zF AE Tryz.func285 ?_
 by_cases h:D6 f=D6 g
 .rw[zU h]at hE;have q:=qm h;refine AJ [0,1,2,3,4,5,11] ?_ (AK hE) (AK @c1);refine⟨_,_,rfl,rfl,?_⟩;simp[LL,BP,Bl,BM,AG.d,AG.A4,q 0 (by decide),q 1 (by decide),q 2 (by decide),q 3 (by decide),q 4 (by decide),q 5 (by decide),q 6 (by decide),q 7 (by decide),q 8 (by decide),q 9 (by decide),q 10 (by decide),q 11 (by decide),q 12 (by decide),q 13 (by decide),q 14 (by decide),q 15 (by decide)]
 .rw[zQ h]at hE;refine AJ [0,1,2,3,4,5,11] ?_ (AK hE) (AK @c1);exact BW (zh @AG.d.eq_1 @AG.A4.eq_1)
theorem cU(v:AG)(i:Int)(hb:v.A6.length<=1000)(hl:v.AB.length<=1000):yS 327 [v.d,.yX i] (.tup [.yX (if decide (0<=i)&&(decide (i<16)&&Aq v)then XO v.id i else 0),.yX (if decide (0<=i)&&(decide (i<16)&&Aq v)then 0 else 2)]):=by
 have c1:=Bo v hb hl;have c2:=U5 v.id i;generalize Aq v=b at *;generalize XO v.id i=z at *;obtain⟨id,A6,AB,AH,f⟩:=v;refine zF AE Tryz.func327 ?_
 by_cases h0:i<0
 .have f1:decide (i<0)=true:=zU h0;rw[zQ (show ¬0<=i by omega)];refine Aj [0,1,2,4,5,16] ?_ (AK f1);exact zE
 .have f1:decide (i<0)=false:=zQ h0;rw[zU (show 0<=i by omega)]
  by_cases h1:i<16
  .have f2:decide (i>=16)=false:=zQ om;rw[zU h1]
   cases b with
   |true=>
    refine AJ [0,1,2,4,5,16] ?_ (Au f1 f2) (Au @c1 @c2);exact zE
   |false=>
    refine AJ [0,1,2,4,5,16] ?_ (Au f1 f2) (AK @c1);exact zE
  .have f2:decide (i>=16)=true:=zU om;rw[zQ h1];refine Aj [0,1,2,4,5,16] ?_ (Au f1 f2);exact zE
theorem qh(v:AG)(i n:Int)(hb:v.A6.length<=1000)(hl:v.AB.length<=1000):yS 277 [v.d,.yX i,.yX n] (.tup [(NX v i n).1.d,.yX (NX v i n).2]):=by
 have c1:=cU v i hb hl;have c2:=ue n;have c3:=cW v n;have c4:=X8 v (Vz v.f i.toNat (if n=v.id then -1 else n)) hb hl;have c5:=HS v om om;have hT:NX v i n=if(decide (0<=i)&&(decide (i<16)&&Aq v))&&Bb n then(⟨v.id,v.A6,v.AB,v.AH,Vz v.f i.toNat (if n=v.id then -1 else n)⟩,0)else(v,2):=rfl
 refine zF AE Tryz.func277 ?_
 have hi:(decide (0<=i)&&(decide (i<16)&&Aq v))=true->0<=i/\i<16:=by
  intro h;simp only[zO,zW]at h;exact⟨h.1,h.2.1⟩
 generalize(decide (0<=i)&&(decide (i<16)&&Aq v))=b at *;generalize Bb n=b2 at *;generalize(if n=v.id then -1 else n)=p at *;generalize XO v.id i=z at *;obtain⟨id,A6,AB,AH,f⟩:=v;dsimp only at*
 cases b with
 |false=>
  rw[hT];simp only[q0E,q0U]at c1;clear hT c4;refine AO WC ?_ (Au @c1 @c5);exact BW (zh @AG.d.eq_1 @AG.A4.eq_1)
 |true=>
 simp only[q0X]at c1
 cases b2 with
 |false=>
  rw[hT];clear hT c4;refine AO WC ?_ (CP @c1 @c2 @c5);exact BW (zh @AG.d.eq_1 @AG.A4.eq_1)
 |true=>
  rw[hT];have h:=hi rfl;have:i=0\/i=1\/i=2\/i=3\/i=4\/i=5\/i=6\/i=7\/i=8\/i=9\/i=10\/i=11\/i=12\/i=13\/i=14\/i=15:=om
  clear hT hi h c5;rcases this with rfl|rfl|rfl|rfl|rfl|rfl|rfl|rfl|rfl|rfl|rfl|rfl|rfl|rfl|rfl|rfl
  all_goals
   refine AO WC ?_ (ME @c1 @c2 @c3 @c4);exact BW (zh @AG.d.eq_1 @AG.A4.eq_1)
end Nd
end Go.Proofs.YtamjpnmjpponpaaGreatDoor
namespace Go.Proofs.YtamjpnmjpponpaaGreatDoor
namespace Wi
open Go.Gar
abbrev Jg:BF:=[0,1,4,5,6,7,8,14,16,17,20]
theorem XT{P:Program}{ro:yb}{ops:yd}{i:Nat}{rest:yf}{Q:Exit->St->Prop}{o:Oper}{en e:yv}{hp H':z6}{nt g:Nat}{xs:yr}{r:AV}(hT:Aw P g xs hp r H')(hg:Af ops en o=some true)(h:Cu en o.op=some (g,xs))(hd:B1 o.dst nt=true)(he:Be o.dst r en=some e)
  (k:Wl P ro ops (i+1) rest ⟨e,H',nt⟩ Q):Wl P ro ops i (o::rest) ⟨en,hp,nt⟩ Q:=by
 rw[BC he]at k;exact uA hg h hd hT fun r K ⟨h1,h2⟩=>by subst h1;subst h2;exact k
theorem qP(l:AL):yT 342 [.d (.by l)] [] (.fn (.func 381) [] [.ptr 0 0 1]) [.c [.d (.by l)]]:=by
 refine zD AE Tryz.func342 ?_;refine A9 [0,1,2] ?_;exact wE
def ones:BitVec 32:=4294967295#32
def QN(l:AL):BitVec 32:=JD ones (KN l++List.replicate 32 false)
theorem ZL{l:AL}{k:Nat}{d:UInt8}(h:l[k]? =some d):KN (l.take (k+1))=KN (l.take k)++Gk d:=by
 rw[AY h];simp[KN]
theorem qO:Gk 0=List.replicate 8 false:=by decide
theorem jZ(l:AL)(hl:l.length<70368744177664):yS 288 [.by l] (u32 (QN l)):=by
 refine zF AE Tryz.func288 ?_;have hb:=qP l;refine Ax [0,2,3,4,6,7] ?_ (BJ [] hb);refine zG (K:=fun r _ H'=>H'=LC l r (QN l)) ?_ ?_
 .intro r hr;have hk:=hr.ok (k:=3) rfl
  have hY:∀s b,YT Tryz.prog 2 [.yP b] (LC l r s) fun x K=>x= .yP true/\K=LC l r (IV s b):=by
   intro s b;have hs:=pi s b;unfold LC u32 at *;refine Ar hr rfl rfl rfl ?_;refine A9 [0,2,3,4,6,7] ?_;refine zR ?_;refine AO [0,2,3,4,6,7] ?_ (AK @hs);refine⟨_,A8.refl _,zN _,rfl,rfl,?_⟩;simp only[q0u,q0t]
  refine zT AE Tryz.func381 ?_;have hz:=hY;unfold LC at hz|-;refine A9 Jg ?_;refine BX (fun k=>k<=l.length) (fun k:Nat=>⟨[(0,.yl 2),(5,.d (.by l)),(6,.yO l.length),(7,.yO k)],LC l r (JD ones (KN (l.take k))),22⟩) (fun k=>l.length-k) 0 (zi _) ?_ (zN _) ?_
  .unfold LC;exact A8.ck rfl
  intro k hkl;unfold LC
  by_cases hlt:k<l.length
  .obtain⟨d,hd⟩:=Ah hlt;have hs:=IC d l r (JD ones (KN (l.take k))) (hk 3 rfl).1 hY;have e1:=ZL hd;have e2:JD (JD ones (KN (l.take k))) (Gk d)=JD ones (KN (l.take (k+1))):=by rw[e1,Re]
   rw[e2]at hs;have gd:l.getD k 0=d:=by rw[zo,hd];rfl
   have t1:=@hs;refine Aj Jg ?_ (AK gd);clear t1;with_reducible repeat' first|constructor|intro hc
   refine⟨k+1,hlt,om,zN _,?_⟩;exact A8.ck rfl
  .have e:l.take k=l:=q1V om;rw[e];refine A9 Jg ?_;with_reducible repeat' first|constructor|intro hc
   refine BX (fun k=>k<=4) (fun k:Nat=>⟨[(0,.yl 2),(16,.yO k)],LC l r (JD ones (KN l++List.replicate (8*k) false)),22⟩) (fun k=>4-k) 0 (zi _) ?_ (zN _) ?_
   .unfold LC;simp only[Nat.mul_zero,List.replicate_zero,q1U];exact A8.ck rfl
   intro j hj;unfold LC
   by_cases hjl:j<4
   .have hs:=IC 0 l r (JD ones (KN l++List.replicate (8*j) false)) (hk 3 rfl).1 hY
    have e2:JD (JD ones (KN l++List.replicate (8*j) false)) (Gk 0)=JD ones (KN l++List.replicate (8*(j+1)) false):=by
     rw[qO,<-Re,q0Z,List.replicate_append_replicate];rfl
    rw[e2]at hs;have t1:=@hs;refine A9 Jg ?_;clear t1;with_reducible repeat' first|constructor|intro hc
    refine⟨j+1,hjl,om,zN _,?_⟩;exact A8.ck rfl
   .have e4:j=4:=om
    subst e4;refine A9 Jg ?_;refine⟨_,A8.refl _,zN _,_,_,rfl,rfl,?_⟩;rfl
 .rintro r hr x H' rfl;refine .inl ⟨rfl,?_⟩;unfold LC u32;refine A9 [0,2,3,4,6,7] ?_;exact zE
def hdr(n:Int):AL:=[UInt8.ofNat (Int.toNat 71),UInt8.ofNat (Int.toNat 1),UInt8.ofNat (n/256%256).toNat,UInt8.ofNat (n%256).toNat]
def be4(s:BitVec 32):AL:=[UInt8.ofNat ((s.toNat:Int)/16777216%256).toNat,UInt8.ofNat ((s.toNat:Int)/65536%256).toNat,UInt8.ofNat ((s.toNat:Int)/256%256).toNat,UInt8.ofNat ((s.toNat:Int)%256).toNat]
def Hu(p:AL):AL×Int:=if p.length>112 then([],2)else(hdr p.length++p++be4 (QN (hdr p.length++p)),0)
theorem fd24(n:Nat):(n:Int).fdiv (2^min 24 IntKind.u32.bits)=n/16777216:=by rw[q1I _ (by decide)];rfl
theorem fd16(n:Nat):(n:Int).fdiv (2^min 16 IntKind.u32.bits)=n/65536:=by rw[q1I _ (by decide)];rfl
theorem fd8(n:Nat):(n:Int).fdiv (2^min 8 IntKind.u32.bits)=n/256:=by rw[q1I _ (by decide)];rfl
theorem jA(p:AL):yS 306 [.by p] (.tup [.by (Hu p).1,.yX (Hu p).2]):=by
 have hz:=bW (p.length:Int);refine zF AE Tryz.func306 ?_
 by_cases h:p.length>112
 .have e:Hu p=([],2):=zn h;rw[zn om]at hz;refine AO [0,2,3,4,5,6,10] ?_ (AK @hz);with_reducible repeat' first|constructor|intro hc
  exact BW e
 .have e:Hu p=(hdr p.length++p++be4 (QN (hdr p.length++p)),0):=zx h;rw[zx om]at hz;have hs:=jZ (hdr p.length++p) (by simp[hdr];omega);unfold hdr at hs;have f0:KZ (K.int .u8) 1 (Int.toNat 0) [D.i .u8 0]= .by []:=rfl
  have nS:=q0r
  repeat'(first|((with_reducible refine sg ?_);first|with_reducible rfl|((with_reducible refine Na ?_);first|kernel_rfl|rfl|(simp[Fp,IL,nS];done))|with_reducible refine Mb ?_ ?_|with_reducible exact q1K _|with_reducible exact DL _|((with_reducible refine zU ?_);first|omega|(simp only[IK,nS];omega))|decide|(simp[IK,slc,Cs,D.one,ER,AV.one,nS];done)|(simp[IK,nS];omega))|((with_reducible refine g0 ?_);first|(refine Er rfl ?_;refine el AE rfl rfl rfl rfl ?_)|refine pz [13,40] AE rfl rfl rfl rfl rfl rfl ?_ ?_|refine Xq AE rfl rfl rfl rfl ?_ ?_|refine Xn [0,2,3,4,5,6,10] rfl ?_|refine XaB 13 (D.by []) AE rfl rfl rfl (by first|rfl|simp[KZ]) rfl rfl rfl rfl ?_ ?_|refine XF (hz) rfl rfl rfl rfl ?_|refine Xa AE rfl rfl rfl rfl rfl ?_ ?_|refine Xw AE rfl rfl rfl rfl ?_ ?_)|refine IR ?_|refine Fh ?_|(refine XT (Fn.read hs rfl (by simp[CG,Ca,Dv,BP])) rfl rfl rfl rfl ?_)|refine Fi ?_|refine IQ ?_|refine EU ?_|refine Fg ?_|refine QR 3 ?_|refine RG ?_|refine NE ?_|refine Df rfl ?_|refine De rfl ?_|(refine FJ rfl (fun hc=> ?_) (fun hc=> ?_)<;>(try simp only[Ma]at hc)<;>(try(exfalso;omega))))
  unfold u32;have ow:Lv [13,40]:=trivial;refine AO [0,2,3,4,5,6,10] ?_ (AK @hz);clear ow;exact BW (zh e (zh @hdr.eq_1 (zh @be4.eq_1 (zh fd24 (zh fd16 fd8)))))
abbrev GW:BF:=[0,2,3,4,5,6,9,24,39,45,46,61]
def N4(b:AL):Nat:=(b.getD 2 0).toNat*256+(b.getD 3 0).toNat
def CX(b:AL):AL×Int:=
 if b.length<8 then([],11)else
 if 120<b.length\/¬((b.getD 0 0).toNat:Int)=71\/¬((b.getD 1 0).toNat:Int)=1\/¬b.length=N4 b+8 then([],12)else
 if(List.range 4).all (fun i=>b.getD (4+N4 b+i) 0==(be4 (QN (b.take (4+N4 b)))).getD i 0)then((b.drop 4).take (N4 b),0)else([],12)
theorem vD:∀(d e:Fin 256),DK .or .i64 (IntKind.wrap .i64 ((d.1:Int)*2^min 8 64)) e.1=(d.1*256+e.1:Nat):=by decide +kernel
theorem uU(s:BitVec 32)(k:Nat)(hk:k<4):(s.toNat:Int).fdiv (2^min (24-8*(k:Int)).toNat IntKind.u32.bits)%256=(((be4 s).getD k 0).toNat:Int):=by
 have hs:=s.isLt
 have AI:∀n:Nat,((UInt8.ofNat ((n:Int)%256).toNat).toNat:Int)=n%256:=fun n=>by
  simp[UInt8.toNat_ofNat'];omega
 have e:k=0\/k=1\/k=2\/k=3:=om
 rw[q1I _ (by exact Int.le_of_lt (Int.pow_pos (by decide)))];rcases e with rfl|rfl|rfl|rfl
 .have:=AI (s.toNat/16777216);simp[be4,IntKind.bits]at this|-;omega
 .have:=AI (s.toNat/65536);simp[be4,IntKind.bits]at this|-;omega
 .have:=AI (s.toNat/256);simp[be4,IntKind.bits]at this|-;omega
 .have:=AI (s.toNat);simp[be4,IntKind.bits]at this|-;omega
theorem pY(b:AL)(hb:b.length<70368744177664):yS 239 [.by b] (.tup [.by (CX b).1,.yX (CX b).2]):=by
 refine zF AE Tryz.func239 ?_;have hor:DK .or .i64 (IntKind.wrap .i64 (((b.getD 2 0).toNat:Int)*2^min 8 64)) ((b.getD 3 0).toNat:Int)=(N4 b:Nat):=vD ⟨(b.getD 2 0).toNat,(b.getD 2 0).toNat_lt⟩ ⟨(b.getD 3 0).toNat,(b.getD 3 0).toNat_lt⟩;have hz:=bW (N4 b:Int)
 by_cases h8:b.length<8
 .have e:CX b=([],11):=zn h8;refine A9 GW ?_;with_reducible repeat' first|constructor|intro hc
  exact BW e
 by_cases h:120<b.length\/¬((b.getD 0 0).toNat:Int)=71\/¬((b.getD 1 0).toNat:Int)=1\/¬b.length=N4 b+8
 .have e:CX b=([],12):=by
   unfold CX;rw[zx h8,zn h]
  by_cases hq:N4 b<=112
  .rw[zx om]at hz;refine AJ GW ?_ (AK hor) (AK @hz);with_reducible repeat' first|constructor|intro hc
   all_goals try(exfalso;omega)
   all_goals(exact BW e )
  .rw[zn om]at hz;refine AJ GW ?_ (AK hor) (AK @hz);with_reducible repeat' first|constructor|intro hc
   all_goals try(exfalso;omega)
   all_goals(exact BW e )
 have hn:b.length=N4 b+8:=om
 have h0:((b.getD 0 0).toNat:Int)=71:=om
 have h1:((b.getD 1 0).toNat:Int)=1:=om
 have hl:b.length<=120:=om
 rw[zx om]at hz;have htk:(b.take (4+N4 b)).length=4+N4 b:=by rw[q0D];omega
 have hs:=jZ (b.take (4+N4 b)) om;have e1:((4:Int)+(N4 b:Int)).toNat=4+N4 b:=om
 refine AJ GW ?_ (Au hor e1) (Au @hz @hs);with_reducible repeat' first|constructor|intro hc
 unfold u32;refine BX (fun k=>k<=4/\∀i,i<k->b.getD (4+N4 b+i) 0=(be4 (QN (b.take (4+N4 b)))).getD i 0) (fun k:Nat=>⟨[(0,.d (.by b)),(4,.yO (N4 b)),(5,.d (u32 (QN (b.take (4+N4 b))))),(45,.yO k)],[],68⟩) (fun k=>4-k) 0 ⟨zi _,fun i hi=>om⟩ ?_ (zN _) ?_
 .unfold u32;exact A8.ck rfl
 rintro k ⟨hk,hall⟩;unfold u32
 by_cases hk4:k<4
 .have e2:((4:Int)+(N4 b:Int)+(k:Int)).toNat=4+N4 b+k:=om
  have e3:=uU (QN (b.take (4+N4 b))) k hk4
  by_cases hm:b.getD (4+N4 b+k) 0=(be4 (QN (b.take (4+N4 b)))).getD k 0
  .have e4:(((b.getD (4+N4 b+k) 0).toNat:Int)!=(((be4 (QN (b.take (4+N4 b)))).getD k 0).toNat:Int))=false:=by rw[hm];simp
   refine Aj GW ?_ (CP e2 e3 e4);with_reducible repeat' first|constructor|intro hc
   refine⟨k+1,⟨hk4,fun i hi=> ?_⟩,om,zN _,?_⟩
   .rcases Nat.lt_or_eq_of_le (Nat.le_of_lt_succ hi)with h|h
    .exact hall i h
    .rw[h];exact hm
   exact A8.ck rfl
  .have e4:(((b.getD (4+N4 b+k) 0).toNat:Int)!=(((be4 (QN (b.take (4+N4 b)))).getD k 0).toNat:Int))=true:=by
    rw[bne_iff_ne];intro h;exact hm (UInt8.toNat_inj.1 om)
   have e:CX b=([],12):=by
    unfold CX;rw[zx h8,zx h,zx];intro ha;rw[q0T]at ha;exact hm (by simpa using ha k (List.mem_range.2 hk4))
   refine Aj GW ?_ (CP e2 e3 e4);with_reducible repeat' first|constructor|intro hc
   exact BW e
 .have e:CX b=((b.drop 4).take (N4 b),0):=by
   unfold CX;rw[zx h8,zx h,zn];rw[q0T];intro i hi;simpa using hall i (by have:=List.mem_range.1 hi;omega)
  have e5:(b.take (4+N4 b)).drop 4=(b.drop 4).take (N4 b):=by rw[List.drop_take];congr 1;omega
  refine Aj GW ?_ (AK e1);with_reducible repeat' first|constructor|intro hc
  exact BW (zh e e5)
theorem rA(n:Int):(hdr n).length=4:=rfl
theorem qJ(s:BitVec 32):(be4 s).length=4:=rfl
theorem Tz{p:AL}(h:p.length<=112):Hu p=(hdr p.length++p++be4 (QN (hdr p.length++p)),0):=zx om
end Wi
end Go.Proofs.YtamjpnmjpponpaaGreatDoor
namespace Go.Proofs.YtamjpnmjpponpaaGreatDoor
namespace Nd
open Go.Gar
structure B0 where
 to:Int
 by_:AL
 harmed:Bool
 deriving DecidableEq
def B0.A4(g:B0):yp:=[.yX g.to,.by g.by_,.b g.harmed]
def B0.d(g:B0):D:=.agg g.A4
end Nd
end Go.Proofs.YtamjpnmjpponpaaGreatDoor
