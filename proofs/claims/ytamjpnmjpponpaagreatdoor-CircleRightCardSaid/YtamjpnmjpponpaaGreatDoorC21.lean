/- Part 21 of a proof. Conditions: those that its theorems state. -/
import Derived.Test.YtamjpnmjpponpaaGreatDoorC19
set_option linter.unusedSimpArgs false
set_option linter.unusedVariables false
set_option linter.unnecessarySimpa false
set_option maxHeartbeats 40000000
set_option maxRecDepth 4000
namespace Go.Proofs.YtamjpnmjpponpaaGreatDoor
namespace Nd
open Go.Gar
open Wi (AF BV B7 AU Bp mC)
abbrev HU:BF:=[0,1,2,3,6,7,8,20,21,28,58]
abbrev OS:BF:=[0,1,2,4,5,12,13,14,15,30]
theorem gL(n:Int)(l:Ai):yT 374 [.yO n,.yV l] [] (.fn (.func 413) [] [.ptr 1 0 1,.ptr 0 0 1]) [.c [.yO n],.c [.yV l]]:=by
 refine zD AE Tryz.func374 ?_;refine A9 [0,1,2,3,4] ?_;exact wE
def J5(l:Ai):Nat->Ai
 |0=>[]
 |k+1=>if l.getD k 0∈l.take k then J5 l k else J5 l k++[l.getD k 0]
theorem dY(l:Ai):∀k,(J5 l k).length<=k
 |0=>zN _
 |k+1=>by
  have:=dY l k;unfold J5;split
  .omega
  .rw[q04,List.length_singleton];omega
theorem onc3(a:Int)(l:Ai):J5 ((a::l).take 3) ((a::l).take 3).length=KT (a::l):=by
 match l with
 |[]=>simp[J5,KT]
 |[b]=>by_cases h:b=a<;>simp[J5,KT,h]
 |b::c::r=>
  by_cases h:b=a<;>by_cases h2:c=a<;>by_cases h3:c=b<;>simp[J5,KT,h,h2,h3]<;>simp_all
abbrev Tf(id:Int)(l:Ai):Ai:=l.filter fun p=>p !=id
abbrev tN(v:AG)(j:B9)(lf:Ai)(l:List AF)(own:Bool)(P:Ai)(r:Lp):z6:=[.c (jC v j (.sl 6 lf.length 1) (.sl 7 l.length 15) own),.c [.ptr 0 0 37],.c [.ptr 0 20 37],.gone,.c [.yO 3],.c [.yV P],.a (.is lf),.a (CB l),.lp r]
theorem dH(v:AG)(j:B9)(Ao:Int)(AB:Ai)(hn:AB.length<=1048576):yT 324 [.ptr 0 0 37,.yO Ao,.yV AB] [.c (jC v j (.yV j.left) .e0 false)] (.tup []) [.c (jC v (MJ v.id j Ao AB).job (.yV ((MJ v.id j Ao AB).job.left)) (.d (CB (MJ v.id j Ao AB).BY)) (MJ v.id j Ao AB).own)]:=by
 have c1:=gL 3 (Ao::AB);have hO:J5 ((Ao::AB).take 3) ((Ao::AB).take 3).length=KT (Ao::AB):=onc3 Ao AB;refine zD AE Tryz.func324 ?_;unfold jC;have ow:Lv [16]:=trivial;refine A9 HU ?_ [] [4];clear ow;refine BG (A8.freeze 3 (x:=.is (Ao::AB)) rfl) (by rw[Fs];exact zN _) ?_;simp only[S8,F8,AM.G8,AV.G8,AV.IM,PM,Nat.reduceEqDiff,Nat.reduceAdd,decide_true,decide_false,BP,q02,q0B,q0X,q0U,reduceCtorEq];refine Ax HU ?_ (BJ [] c1);refine BG (A8.ES 0 33 (.is []) rfl rfl rfl rfl trivial) sm ?_;refine BG (A8.ES 0 35 (.sl 15 []) rfl rfl rfl rfl (by simp[BM])) sm ?_;generalize hP:Ao::AB=P at *;have hPl:P.length<=1048577:=by rw[<-hP,q02];omega
 have hJ:MJ v.id j Ao AB=⟨⟨j.AR,if Tf v.id (J5 (P.take 3) (P.take 3).length)=[]then 5 else 3,j.Ap,j.AC,j.Ao,Tf v.id (J5 (P.take 3) (P.take 3).length),j.Aa⟩,(Tf v.id (J5 (P.take 3) (P.take 3).length)).map (F0 j.AC),decide (v.id∈J5 (P.take 3) (P.take 3).length)⟩:=by
  rw[hO];unfold MJ;rw[hP]
 rw[hJ];clear hJ hO;generalize hQ:P.take 3=P3 at *;have hP3:P3.length<=3:=by rw[<-hQ];exact q1T _ _
 refine zG (K:=fun r _ H'=>H'=tN v j (Tf v.id (J5 P3 P3.length)) ((Tf v.id (J5 P3 P3.length)).map (F0 j.AC)) (decide (v.id∈J5 P3 P3.length)) P3 r) ?_ ?_
 .intro r hr;have hk:=hr.ok (k:=8) rfl
  have hY1:∀(p:Int)(lf:Ai)(l:List AF)(own:Bool),p=v.id->YT Tryz.prog 8 [.yO p] (tN v j lf l own P3 r) fun x K=>x= .yP true/\K=tN v j lf l true P3 r:=by
   intro p lf l own hp;have f1:=AT hp;refine Ar hr rfl rfl rfl ?_;unfold tN jC;refine A9 HU ?_;refine zR ?_;refine Aj HU ?_ (AK f1);exact⟨_,A8.refl _,zN _,rfl,rfl,rfl⟩
  have hY2:∀(p:Int)(lf:Ai)(l:List AF)(own:Bool),p≠v.id->lf.length<=1000->l.length<=1000->YT Tryz.prog 8 [.yO p] (tN v j lf l own P3 r) fun x K=>x= .yP true/\K=tN v j (lf++[p]) (l++[F0 j.AC p]) own P3 r:=by
   intro p lf l own hp h1 h2;have f1:=eq_false' hp;have c2:=Aw.arg (qF v j (lf++[p]) l own (F0 j.AC p) om) (nG 5 p 0 false j.AC);refine Ar hr rfl rfl rfl ?_;unfold tN;unfold jC at *;refine A9 HU ?_;refine zR ?_;refine Cd HU ?_ (AK f1) (BJ [0,6,7] c2) [(0,6),(1,6),(2,6),(3,6),(4,6),(0,7)];refine⟨⟨[],[.c (jC v j (.sl 6 (lf++[p]).length 1) (.sl 7 (l++[F0 j.AC p]).length 15) own),.c [.ptr 0 0 37],.c [.ptr 0 20 37],.gone,.c [.yO 3],.c [.yV P3],.a (.is (lf++[p])),.a (CB (l++[F0 j.AC p])),.lp r.busy],_⟩,(have nC:=zh @CB.eq_1 @Wi.AF.A4.eq_1;A8.cn rfl),zN _,rfl,rfl,rfl⟩
  refine zT AE Tryz.func413 ?_;have e3:(if(P.length:Int)<3 then(P.length:Int)else 3)=((min 3 P.length:Nat):Int):=by split<;>omega
  have hQ':P.take (min 3 P.length)=P3:=by
   rw[<-hQ];rcases Nat.le_total 3 P.length with h|h
   .rw[Nat.min_eq_left h]
   .rw[Nat.min_eq_right h,q1V (zN _),q1V h]
  have hmin:min 3 P.length<=P.length:=Nat.min_le_right _ _;refine Aj OS ?_ (Au e3 hQ');refine CM (fun k:Nat=>k<=P3.length) (fun k:Nat=>[(14,.yO k)]) (fun k=>[(0,.c (jC v j (.sl 6 (Tf v.id (J5 P3 k)).length 1) (.sl 7 ((Tf v.id (J5 P3 k)).map (F0 j.AC)).length 15) (decide (v.id∈J5 P3 k)))),(6,.a (.is (Tf v.id (J5 P3 k)))),(7,.a (CB ((Tf v.id (J5 P3 k)).map (F0 j.AC))))]) (fun k=>P3.length-k) 0 (zi _) (fun _=>rfl) (fun _=>rfl) ?_ ?_
  .exact A8.ck rfl
  intro k hkl0
  by_cases hkl:k<P3.length
  .obtain⟨p,hp⟩:=Ah hkl;have gp:=C5 hp;have hlen:=dY P3 k;have hfl:(Tf v.id (J5 P3 k)).length<=1000:=by have:=q0b (fun p=>p !=v.id) (J5 P3 k);show(List.filter _ _).length<=_;omega
   have c3:=Eb (P3.take k) p (by rw[q0D];omega)
   have hon:J5 P3 (k+1)=if p∈P3.take k then J5 P3 k else J5 P3 k++[p]:=by
    show(if P3.getD k 0∈P3.take k then _ else _)=_;rw[gp]
   by_cases hin:p∈P3.take k
   .rw[zn hin]at hon;rw[zU hin]at c3;refine AJ OS ?_ (AK gp) (AK @c3);with_reducible repeat' first|constructor|intro hc
    refine⟨k+1,hkl,om,zN _,?_⟩;dsimp only;rw[hon];exact A8.ck rfl
   .rw[zx hin]at hon;rw[zQ hin]at c3
    by_cases hpv:p=v.id
    .have h1:Tf v.id (J5 P3 (k+1))=Tf v.id (J5 P3 k):=by rw[hon];show List.filter _ _=_;rw[List.filter_append];simp[hpv]
     have h2:decide (v.id∈J5 P3 (k+1))=true:=by rw[hon];simp[hpv]
     have hy:=hY1 p (Tf v.id (J5 P3 k)) ((Tf v.id (J5 P3 k)).map (F0 j.AC)) (decide (v.id∈J5 P3 k)) hpv;have q1:=@hy;refine AJ OS ?_ (AK gp) (AK @c3);clear q1;with_reducible repeat' first|constructor|intro hc
     refine⟨k+1,hkl,om,zN _,?_⟩;dsimp only;rw[h1,h2];exact A8.ck rfl
    .have h1:Tf v.id (J5 P3 (k+1))=Tf v.id (J5 P3 k)++[p]:=by rw[hon];show List.filter _ _=_;rw[List.filter_append];simp[hpv]
     have h2:decide (v.id∈J5 P3 (k+1))=decide (v.id∈J5 P3 k):=by rw[hon];simp[Ne.symm hpv]
     have hy:=hY2 p (Tf v.id (J5 P3 k)) ((Tf v.id (J5 P3 k)).map (F0 j.AC)) (decide (v.id∈J5 P3 k)) hpv hfl (by rw[q08];exact hfl);have h3:(Tf v.id (J5 P3 (k+1))).map (F0 j.AC)=(Tf v.id (J5 P3 k)).map (F0 j.AC)++[F0 j.AC p]:=by rw[h1,q0f];rfl
     rw[<-h1,<-h3]at hy;have q1:=@hy;refine AJ OS ?_ (AK gp) (AK @c3);clear q1;with_reducible repeat' first|constructor|intro hc
     refine⟨k+1,hkl,om,zN _,?_⟩;dsimp only;rw[h2];exact A8.ck rfl
  .have e:k=P3.length:=om
   subst e;refine A9 OS ?_;with_reducible repeat' first|constructor|intro hc
   exact⟨_,A8.refl _,zN _,_,_,rfl,rfl,rfl⟩
 .generalize J5 P3 P3.length=O at *;generalize hL:Tf v.id O=L at *;generalize decide (v.id∈O)=own at *;rintro r hr x H' rfl;refine .inl ⟨rfl,?_⟩;refine A9 HU ?_ [] [10];unfold tN jC;simp only[q0u,q0t];refine BG (A8.freeze 6 (x:=.is L) rfl) (by rw[Fs];exact zN _) ?_;simp only[S8,F8,AM.G8,AV.G8,AV.IM,PM,Nat.reduceEqDiff,Nat.reduceAdd,decide_true,decide_false,BP,q02,q0B,q0X,q0U,reduceCtorEq];refine BG (A8.freeze 7 (x:=CB (L.map (F0 j.AC))) rfl) (by rw[Fs];exact zN _) ?_;simp only[S8,F8,AM.G8,AV.G8,AV.IM,PM,Nat.reduceEqDiff,Nat.reduceAdd,decide_true,decide_false,BP,q02,q0B,q0X,q0U,reduceCtorEq];have hv:=Ie v ⟨j.AR,3,j.Ap,j.AC,j.Ao,L,j.Aa⟩ (.d (CB (L.map (F0 j.AC)))) own (by simp[AV.ok,BM]);unfold jC at hv
  by_cases h0:L=[]
  .subst h0;refine Ax HU ?_ (BJ [0] hv);exact wE
  .have hl0:((L.length:Int)==0)=false:=eq_false' (by have:=List.length_pos_iff.2 h0;omega);rw[zx h0];refine Aj HU ?_ (AK hl0);exact wE
abbrev Ir:BF:=[0,2,3,4,13,26,38,50,56,85,101]
abbrev jE(v:AG)(c:JC):z6:=[.c (jC v c.job (.yV c.job.left) (.d (CB c.BY)) c.own)]
theorem PI(v:AG)(j:B9)(hn:v.AB.length<=1048576):yT 274 [.ptr 0 0 37] [.c (jC v j (.yV j.left) .e0 false)] (.tup []) (jE v (GB v j)):=by
 obtain⟨AR,A5,⟨AI,CF,C3,BA,CK,Aa⟩,AC,Ao,left,jc⟩:=j;have hA:dN ⟨AI,CF,C3,BA,CK,Aa⟩=dN ⟨AI,CF,C3,BA,CK,Aa⟩:=rfl;generalize hq:dN ⟨AI,CF,C3,BA,CK,Aa⟩=q at hA;refine zD AE Tryz.func274 ?_;clear hA;generalize hj:GB v ⟨AR,A5,⟨AI,CF,C3,BA,CK,Aa⟩,AC,Ao,left,jc⟩=r;unfold GB at hj;dsimp only at hj;unfold jE
 by_cases h1:Aa≠0
 .rw[zn h1]at hj;subst hj;have f1:=eq_false' h1;have hv:=Ie v ⟨AR,A5,⟨AI,CF,C3,BA,CK,Aa⟩,AC,Ao,left,Aa⟩ .e0 false rfl;unfold jC at hv;unfold jC;refine Cd Ir ?_ (AK f1) (BJ [0] hv);with_reducible repeat' first|constructor|intro hc
  exact QO 0 35 (.sl 15 [])
 rw[zx h1]at hj;have f1:=AT (Decidable.not_not.1 h1)
 by_cases h2:CK=false
 .rw[zn h2,hq]at hj;subst h2;have c1:=uw ⟨AI,CF,C3,BA,false,Aa⟩;rw[hq]at c1;obtain⟨m,b⟩:=q;unfold C6.d C6.A4 at c1
  cases b with
  |true=>
   dsimp only at hj;rw[zn rfl]at hj;subst hj;have c2:=Ul v ⟨AR,1,⟨AI,CF,C3,BA,false,Aa⟩,AC,Ao,left,jc⟩ false m;unfold jC at *;unfold Wi.AF.d Wi.AF.A4 at c1 c2;refine By Ir ?_ (AK f1) (AK @c1) (BJ [0] c2);with_reducible repeat' first|constructor|intro hc
   exact wE
  |false=>
   dsimp only at hj;rw[zx (by decide)]at hj;subst hj;unfold jC at *;unfold Wi.AF.d Wi.AF.A4 at c1;refine AJ Ir ?_ (AK f1) (AK @c1);with_reducible repeat' first|constructor|intro hc
   exact QO 0 35 (.sl 15 [])
 rw[zx h2]at hj;have h3:CK=true:=by cases CK<;>simp_all
 subst h3
 by_cases h4:AR=1
 .rw[zn h4]at hj;subst hj;have f2:=AT h4;have hv:=Ie v ⟨AR,A5,⟨AI,CF,C3,BA,true,Aa⟩,AC,CF,left,0⟩ .e0 false rfl;unfold jC at hv;unfold jC;refine Cd Ir ?_ (Au f1 f2) (BJ [0] hv);with_reducible repeat' first|constructor|intro hc
  exact QO 0 35 (.sl 15 [])
 rw[zx h4]at hj;have f2:=eq_false' h4
 by_cases h5:AR=2
 .have f3:=AT h5
  by_cases h6:CF=v.id
  .rw[zn ⟨h5,h6⟩]at hj;have f4:=AT h6;have hp:=dH v ⟨AR,A5,⟨AI,CF,C3,BA,true,Aa⟩,AC,CF,left,jc⟩ CF v.AB hn;rw[hj]at hp;unfold jC at *;refine Cd Ir ?_ (ME f1 f2 f3 f4) (BJ [0] hp);with_reducible repeat' first|constructor|intro hc
   exact wE
  .rw[zx (fun h=>h6 h.2),zn h5]at hj;subst hj;have f4:=eq_false' h6;have c2:=Aw.arg (Ul v ⟨AR,2,⟨AI,CF,C3,BA,true,Aa⟩,AC,CF,left,jc⟩ false (Ki CF)) (nG 1 CF 0 false An);unfold mAV An at c2;unfold jC at *;refine Cd Ir ?_ (ME f1 f2 f3 f4) (BJ [0] c2);with_reducible repeat' first|constructor|intro hc
   exact wE
 .rw[zx (fun h=>h5 h.1),zx h5]at hj;have f3:=eq_false' h5
  by_cases h6:CF=v.id
  .rw[zn h6]at hj;subst hj;have f4:=AT h6;have hv:=Ie v ⟨AR,A5,⟨AI,CF,C3,BA,true,Aa⟩,AC,CF,left,0⟩ .e0 true rfl;unfold jC at hv;unfold jC;refine Cd Ir ?_ (ME f1 f2 f3 f4) (BJ [0] hv);with_reducible repeat' first|constructor|intro hc
   exact QO 0 35 (.sl 15 [])
  .rw[zx h6]at hj;subst hj;have f4:=eq_false' h6;have c2:=Aw.arg (Ul v ⟨AR,4,⟨AI,CF,C3,BA,true,Aa⟩,AC,CF,left,jc⟩ false (ZC CF AC.AI)) (nG 6 CF 0 false ⟨AC.AI,0,0,false⟩);unfold mAV at c2;unfold jC at *;refine Cd Ir ?_ (ME f1 f2 f3 f4) (BJ [0] c2);with_reducible repeat' first|constructor|intro hc
   exact wE
abbrev Ln:BF:=[0,1,2,4,6,16,27,37]
theorem eZ(l:Ai)(hl:l.length<=1048576):yT 19 [.yV l] [] (.sl 0 l.length 1) [.a (.is l)]:=by
 refine zD AE Tryz.func19 ?_;have nS:=q0r
 repeat'(first|((with_reducible refine sg ?_);first|with_reducible rfl|((with_reducible refine Na ?_);first|kernel_rfl|rfl|(simp[Fp,IL,nS];done))|with_reducible refine Mb ?_ ?_|with_reducible exact q1K _|with_reducible exact DL _|((with_reducible refine zU ?_);first|omega|(simp only[IK,nS];omega))|decide|(simp[IK,slc,Cs,D.one,ER,AV.one,nS];done)|(simp[IK,nS];omega))|((with_reducible refine g0 ?_);first|(refine Er rfl ?_;refine el AE rfl rfl rfl rfl ?_)|refine pz [7] AE rfl rfl rfl rfl rfl rfl ?_ ?_|refine q8 AE rfl rfl rfl rfl rfl rfl (fun hnil=> ?_) ?_|refine q9 AE rfl rfl rfl rfl rfl rfl (fun hnil=> ?_) ?_|refine Xq AE rfl rfl rfl rfl ?_ ?_|refine Xn [0,2,4] rfl ?_|refine Xw AE rfl rfl rfl rfl ?_ ?_)|refine IR ?_|refine Fh ?_|refine Fi ?_|refine IQ ?_|refine EU ?_|refine Fg ?_|refine Df rfl ?_|refine De rfl ?_|(refine FJ rfl (fun hc=> ?_) (fun hc=> ?_)<;>(try simp only[Ma]at hc)<;>(try(exfalso;omega))))
 .have e:=is_nil hnil;subst e;refine A9 [0,2,4] ?_;exact⟨_,A8.bv 2 (.is []) rfl rfl rfl trivial,zi _,_,_,rfl,rfl,rfl,rfl⟩
 .exact wE
theorem Fn.own{P:Program}{f:FuncId}{x a:D}{sz:Nat}{t:Bool}(h:Go.Gar.Fn P f [x,a] (.b t)):Aw P f [.sl 0 (BP x) sz,.d a] [.a x] (.yP t) [.a x]:=by
 refine⟨h.1,fun G w vs hG hR hv=> ?_⟩;have hid:G.H[0]? =some (.a x):=by rw[hG];rfl
 have hF:=(Jr hR hid).1;have hv2:=Bf.G8 hR hid hv;have e1:AV.IM 0 x [.sl 0 (BP x) sz,.d a]=[x,a].map .d:=by simp[AV.IM,AV.G8]
 rw[e1]at hv2;refine(h.2 _ w vs hF.mem hF.st (ML.1 hv2)).mono ?_;rintro e w' ⟨v,m',rfl,hr,hle,hok,hnew,ho,ht,hou,hs,hk⟩;have hlow:∀b,b<w.heap.size->w'.heap[b]? =w.heap[b]?:=hk
 have hH:BK G w':=by
  refine⟨fun id q hq=>(hR.blk id q hq).P4 (IJ.refl G) (fun b N hl hρ=>hlow b (Bt hR (.inl ⟨id,N,q,hq,hl,hρ⟩))) rfl (fun rs e c hc=>hlow c (Bt hR (.inr ⟨id,rs,by rw[<-e];exact hq,hc⟩))),hR.inj,fun b k v hv=> ?_,hR.sep,hR.st,hR.mny⟩;have hc:=hR.mem b k v hv
  have hb:b<w.heap.size:=by
   unfold World.cell? at hc;rcases q0C b w.heap.size with hlt|hge
   .exact hlt
   .simp[Array.getElem?_eq_none hge]at hc
  rw[World.cell?_of_block (w:=w) (hlow b hb)];exact hc
 exact⟨_,.yP t,G,rfl,⟨rfl,hG⟩,by simp only[RD]at hr;subst hr;simp only[RV,RD],hH,⟨ho,ht,hou,hs,fun b hb ho=>⟨hk b hb,ho⟩,fun _ _ _ hv=> .inl hv,IJ.refl G⟩⟩
abbrev Tb(j:B9)(lf:AV):yr:=[.yQ j.AR,.yQ j.A5,.yO j.Ap.AI,.yO j.Ap.CF,.yO j.Ap.C3,.yP j.Ap.BA,.yP j.Ap.CK,.yO j.Ap.Aa,.yU j.AC.AI,.yO j.AC.B4,.yO j.AC.AZ,.yP j.AC.gone,.yO j.Ao,lf,.yO j.Aa]
theorem mb(j:B9)(h:j.left.length<=1048576)(h0:j.left≠[]):yT 61 [.d j.d] [] (.ag (Tb j (.sl 2 j.left.length 1))) [.gone,.c (Tb j (.sl 2 j.left.length 1)),.a (.is j.left)]:=by
 have c1:=eZ j.left h;have f1:=eq_false' (show(j.left.length:Int)≠0 by have:=List.length_pos_iff.2 h0;omega);refine zD AE Tryz.func61 ?_;unfold B9.d B9.A4;refine Cd [0,1,2,6] ?_ (AK f1) (BJ [] c1);exact wE
theorem eY(v:AG)(j:B9)(p e:Int)(h:p∉j.left)(hn:j.left.length<=100000):yT 367 [.ptr 0 0 37,.yO p,.yO e] [.c (jC v j (.yV j.left) .e0 false)] (.tup []) (jE v ⟨F9 j p e,[],false⟩):=by
 have c1:=Eb j.left p om;rw[zQ h]at c1;refine zD AE Tryz.func367 ?_;have hj:F9 j p e=j:=zx h;rw[hj];unfold jE jC;refine AO Ln ?_ (AK @c1);exact QO 0 35 (.sl 15 [])
theorem Yy(v:AG)(j:B9)(p e:Int)(h:p∈j.left)(hn:j.left.length<=100000):yT 367 [.ptr 0 0 37,.yO p,.yO e] [.c (jC v j (.sl 1 j.left.length 1) .e0 false),.a (.is j.left)] (.tup []) (jE v ⟨F9 j p e,[],false⟩++[.gone]):=by
 obtain⟨AR,A5,Ap,AC,Ao,left,Aa⟩:=j;have h0:left≠[]:=fun e=>by dsimp only at h;rw[e]at h;cases h
 have hn':left.length<=100000:=hn;have c0:=Eb left p hn';rw[zU h]at c0;have c1:=Fn.own (sz:=1) c0;have c2:=ku p left h0 om;have hj:F9 ⟨AR,A5,Ap,AC,Ao,left,Aa⟩ p e=⟨AR,if CO left p=[]then 5 else A5,Ap,AC,Ao,CO left p,if e≠0 then e else Aa⟩:=zn h;rw[hj];generalize CO left p=L at *;refine zD AE Tryz.func367 ?_;unfold jE jC;refine Ax Ln ?_ (H0 [1] c1 [2,1] c2) [] [4];refine BG (A8.freeze 3 (x:=.is L) rfl) (by rw[Fs];exact zN _) ?_;simp only[S8,F8,AM.G8,AV.G8,AV.IM,PM,Nat.reduceEqDiff,Nat.reduceAdd,decide_true,decide_false,BP,q02,q0B,q0X,q0U,reduceCtorEq];clear h hn c0 c1 c2 hj
 by_cases he:e=0
 .by_cases hL:L=[]
  .subst hL;subst he;have hv:=Ie v ⟨AR,A5,Ap,AC,Ao,[],Aa⟩ .e0 false rfl;unfold jC at hv;rw[zn rfl,zx (by decide)];refine Ax Ln ?_ (BJ [0] hv);exact QO 0 35 (.sl 15 [])
  .subst he;have hl0:((L.length:Int)==0)=false:=eq_false' (by have:=List.length_pos_iff.2 hL;omega);rw[zx hL,zx (by decide)];refine Aj Ln ?_ (AK hl0);exact QO 0 35 (.sl 15 [])
 .have f1:(e !=0)=true:=by simpa using he
  rw[zn he]
  by_cases hL:L=[]
  .subst hL;have hv:=Ie v ⟨AR,A5,Ap,AC,Ao,[],e⟩ .e0 false rfl;unfold jC at hv;rw[zn rfl];refine Cd Ln ?_ (AK f1) (BJ [0] hv);exact QO 0 35 (.sl 15 [])
  .have hl0:((L.length:Int)==0)=false:=eq_false' (by have:=List.length_pos_iff.2 hL;omega);rw[zx hL];refine Aj Ln ?_ (Au f1 hl0);exact QO 0 35 (.sl 15 [])
theorem Aw.sw{P:Program}{f:FuncId}{args:yr}{r:AV}{H':z6}(p q:Nat)(h:Aw P f args [] r H')(hp:p<H'.length)(hq:q<H'.length):Aw P f args [] (r.ren (sw p q)) (Z1 p q H'):=by
 refine⟨h.1,fun G w vs hG hR hv=>(h.2 G w vs hG hR hv).mono ?_⟩;rintro e w' ⟨v,r',G',rfl,⟨rfl,hH⟩,hrv,hr,hf⟩;have e3:p<G'.H.length:=by rw[hH];exact hp
 have e4:q<G'.H.length:=by rw[hH];exact hq
 let K:Gh:=⟨fun j=>G'.ρ (Go.Gar.sw p q j),Z1 p q G'.H,G'.m⟩
 have up:∀id b,G'.H[id]? =some b->K.H[Go.Gar.sw p q id]? =some (b.ren (Go.Gar.sw p q))/\K.ρ (Go.Gar.sw p q id)=G'.ρ id:=by
  intro id b hb;refine⟨?_,by show G'.ρ (Go.Gar.sw p q (Go.Gar.sw p q id))=_;rw[ID]⟩;show(Z1 p q G'.H)[Go.Gar.sw p q id]? =_;rw[O8 e3 e4,ID,hb];rfl
 have dn:∀j b,K.H[j]? =some b->∃b0,G'.H[Go.Gar.sw p q j]? =some b0/\b=b0.ren (Go.Gar.sw p q):=by
  intro j b hb;have hb:(Z1 p q G'.H)[j]? =some b:=hb;rw[O8 e3 e4,q0F]at hb;obtain⟨b0,k1,k2⟩:=hb;exact⟨b0,k1,k2.symm⟩
 have ownP:∀b,Dw K b->Dw G' b:=by
  rintro b ⟨id,M,blk,h1,h2,h3⟩;obtain⟨b0,k1,rfl⟩:=dn id blk h1;rw[DO]at h2;exact⟨Go.Gar.sw p q id,M,b0,k1,h2,h3⟩
 have hS:∀(j:Nat)(rs:List (Option (Nat×Nat×AL))),K.H[j]? =some (.many rs)->G'.H[Go.Gar.sw p q j]? =some (.many rs):=fun j rs hb=>by
  obtain⟨b0,k1,k2⟩:=dn j _ hb;cases b0<;>simp only[AM.ren,reduceCtorEq,AM.many.injEq]at k2;rw[k2];exact k1
 have own:∀b,Own K b->Own G' b:=fun b h=>h.imp (ownP b) fun⟨j,rs,h1,h2⟩=>⟨_,rs,hS j rs h1,h2⟩
 have hmny:ed K:=fun j rs hj=>by
  obtain⟨m1,m2⟩:=hr.mny _ rs (hS j rs hj);refine⟨m1,fun b hb=>⟨fun ho=>(m2 b hb).1 (ownP b ho),fun j' rs' hj' hb'=> ?_⟩⟩;have:=(m2 b hb).2 _ rs' (hS j' rs' hj') hb';rw[<-ID p q j',this,ID]
 refine⟨v,_,K,rfl,⟨rfl,by show Z1 p q G'.H=_;rw[hH]⟩,RV.ren (G0:=G') (G:=K) (ι:=Go.Gar.sw p q) (Mem.le_refl _) up hrv,⟨fun j b hb=> ?_,fun i j x y b M M' hx hy lx ly r1 r2=> ?_,hr.mem,fun b hb=>hr.sep b (own b hb),hr.st,hmny⟩,⟨hf.os,hf.tape,hf.output,hf.size,fun b hb hno=> ?_,hf.memNew,fun id b hb=> ?_,hf.gle.mem⟩⟩
 .obtain⟨b0,k1,rfl⟩:=dn j b hb;have:=BR.ren (G0:=G') (G:=K) (ι:=Go.Gar.sw p q) (Mem.le_refl _) up (up _ _ k1).2 (hr.blk _ _ k1);rw[ID]at this;exact this
 .obtain⟨x0,k1,rfl⟩:=dn i x hx;obtain⟨y0,k2,rfl⟩:=dn j y hy;rw[DO]at lx ly;have:=hr.inj _ _ _ _ b M M' k1 k2 lx ly r1 r2;rw[<-ID p q i,this,ID]
 .obtain⟨f1,f2⟩:=hf.keep b hb hno;exact⟨f1,fun h=>f2 (own b h)⟩
 .rw[hG]at hb;simp at hb
theorem Aw.cut{P:Program}{f:FuncId}{args:yr}{r:AV}{H':z6}(K:z6)(h:Aw P f args [] r H')(hs:C9 K H')(ho:Bj K.length K=true)(hx:r.ok K.length=true):Aw P f args [] r K:=by
 refine⟨h.1,fun G w vs hG hR hv=>(h.2 G w vs hG hR hv).mono ?_⟩;rintro e w' ⟨v,r',G',rfl,⟨rfl,hH⟩,hrv,hr,hf⟩;have hs':C9 K G'.H:=by rw[hH];exact hs
 exact⟨v,_,G'.cut K,rfl,⟨rfl,rfl⟩,RV.cut hs' hx hrv,hr.cut hs' ho,hf.ghost (Yz.cut hs') (by rw[hG];exact zi _)⟩
theorem Xc(j:B9)(h:j.left.length<=1048576)(h0:j.left≠[]):yT 61 [.d j.d] [] (.ag (Tb j (.sl 0 j.left.length 1))) [.a (.is j.left)]:=
 Aw.cut [.a (.is j.left)] (Aw.sw 0 2 (mb j h h0) yR yR) ⟨.inr rfl,trivial⟩ rfl rfl
abbrev WG:BF:=[0,1,4,5,6,11,16]
abbrev OU:BF:=[0,1,4,5,6,7,11,12,33,38,59]
abbrev hC(n:AA)(aq:AV):yr:=.yO n.A7.id:: .yV n.A7.A6:: .yV n.A7.AB:: .yO n.A7.AH:: .yO (n.A7.f 0):: .yO (n.A7.f 1):: .yO (n.A7.f 2):: .yO (n.A7.f 3):: .yO (n.A7.f 4):: .yO (n.A7.f 5):: .yO (n.A7.f 6):: .yO (n.A7.f 7):: .yO (n.A7.f 8):: .yO (n.A7.f 9):: .yO (n.A7.f 10):: .yO (n.A7.f 11):: .yO (n.A7.f 12):: .yO (n.A7.f 13):: .yO (n.A7.f 14):: .yO (n.A7.f 15):: .yO n.Am:: .yO n.Ac.id:: .yO n.Ac.Ad:: .d (Ag n.Ac.op):: .d (Az n.BZ):: .yQ n.A5:: .yO n.BH:: .yQ n.AQ.AR:: .yQ n.AQ.A5:: .yO n.AQ.Ap.AI:: .yO n.AQ.Ap.CF:: .yO n.AQ.Ap.C3:: .yP n.AQ.Ap.BA:: .yP n.AQ.Ap.CK:: .yO n.AQ.Ap.Aa:: .yU n.AQ.AC.AI:: .yO n.AQ.AC.B4:: .yO n.AQ.AC.AZ:: .yP n.AQ.AC.gone:: .yO n.AQ.Ao:: .yV n.AQ.left:: .yO n.AQ.Aa:: .yQ n.AX.AR:: .yQ n.AX.A5:: .yO n.AX.Ap.AI:: .yO n.AX.Ap.CF:: .yO n.AX.Ap.C3:: .yP n.AX.Ap.BA:: .yP n.AX.Ap.CK:: .yO n.AX.Ap.Aa:: .yU n.AX.AC.AI:: .yO n.AX.AC.B4:: .yO n.AX.AC.AZ:: .yP n.AX.AC.gone:: .yO n.AX.Ao:: .yV n.AX.left:: .yO n.AX.Aa:: .yQ n.AW.AR:: .yQ n.AW.A5:: .yO n.AW.Ap.AI:: .yO n.AW.Ap.CF:: .yO n.AW.Ap.C3:: .yP n.AW.Ap.BA:: .yP n.AW.Ap.CK:: .yO n.AW.Ap.Aa:: .yU n.AW.AC.AI:: .yO n.AW.AC.B4:: .yO n.AW.AC.AZ:: .yP n.AW.AC.gone:: .yO n.AW.Ao:: .yV n.AW.left:: .yO n.AW.Aa:: .yO n.next:: .yU n.last:: .d (BU n.keep):: .yO n.bad::aq::[]
theorem JR(n:AA):yT 224 [.ptr 0 0 77,.yQ 5] [.c (hC n .e0)] (.ptr 0 27 77) [.c (hC n .e0)]:=by
 refine zD AE Tryz.func224 ?_;refine A9 WG ?_;exact wE
theorem I9(n:AA):yT 224 [.ptr 0 0 77,.yQ 6] [.c (hC n .e0)] (.ptr 0 42 77) [.c (hC n .e0)]:=by
 refine zD AE Tryz.func224 ?_;refine A9 WG ?_;exact wE
theorem IA(n:AA):yT 224 [.ptr 0 0 77,.yQ 7] [.c (hC n .e0)] (.ptr 0 57 77) [.c (hC n .e0)]:=by
 refine zD AE Tryz.func224 ?_;refine A9 WG ?_;exact wE
abbrev hK(n:AA)(k:List AS):AA:={n with keep:=k}
theorem eG(n:AA)(j:B9)(hn:n.keep.length<=1048576)(hs:0<=j.AC.AI.length):yT 275 [.ptr 0 0 77,.ptr 1 0 15] [.c (hC n .e0),.c (Tb j (.yV j.left))] (.tup []) [.c (hC (hK n (EK n.keep j).1) .e0),.c (Tb (EK n.keep j).2 (.yV ((EK n.keep j).2.left)))]:=by
 obtain⟨AR,A5,Ap,AC,Ao,left,Aa⟩:=j;have c1:=dK n.keep AC hn;have c2:=dI n.keep AC.AI hn;generalize hT:EK n.keep ⟨AR,A5,Ap,AC,Ao,left,Aa⟩=T;unfold EK at hT;dsimp only at hT;unfold AS.d AS.A4 at c1;refine zD AE Tryz.func275 ?_;generalize F3 n.keep AC=p at *;obtain⟨pk,pe⟩:=p;generalize Dx n.keep AC.AI=g at *;obtain⟨gi,ge⟩:=g;dsimp only at *;unfold hC
 by_cases h1:AR=2
 .have f1:=AT h1;rw[zn h1]at hT
  by_cases h2:pe=0
  .have f2:=AT h2;rw[zx (fun h=>h h2)]at hT;subst hT;refine AJ OU ?_ (Au f1 f2) (AK @c1);with_reducible repeat' first|constructor|intro hc
   exact wE
  .have f2:=eq_false' h2;rw[zn h2]at hT;subst hT;refine AJ OU ?_ (Au f1 f2) (AK @c1);with_reducible repeat' first|constructor|intro hc
   exact wE
 rw[zx h1]at hT;have f1:=eq_false' h1
 by_cases h3:AR=3
 .have f3:=AT h3;rw[zn h3]at hT;unfold AS.d AS.A4 at c2
  by_cases h2:ge=0
  .have f2:=AT h2;rw[zn h2]at hT;subst hT;subst h2;refine AJ OU ?_ (Au f1 f3) (AK @c2) [(0,14),(1,14),(2,14),(3,14),(4,14),(5,14),(6,14),(7,14),(8,14),(9,14),(13,15)];exact wE
  .have f2:=eq_false' h2;rw[zx h2]at hT;subst hT;refine AJ OU ?_ (CP f1 f2 f3) (AK @c2) [(0,14),(1,14),(2,14),(3,14),(4,14),(5,14),(6,14),(7,14),(8,14),(9,14),(13,15)];exact wE
 .have f3:=eq_false' h3;rw[zx h3]at hT;subst hT;refine Aj OU ?_ (Au f1 f3);exact wE
variable {n:AA}
theorem B2:BL n=true↔(0<=n.Am/\n.Am<=1099511627776)/\0<=n.bad/\(0<=n.next/\n.next<16)/\Aq n.A7=true/\(n.Ac.id=n.A7.id/\Bw n.Ac=true)/\Cl n.A5 n.BH=true/\Cg n.keep=true/\FX n.BZ=true/\PP n=true:=by
 unfold BL;simp only[zO,zW]
structure jQ (n w:AA):Prop where
 A7:ND n.A7 w.A7
 Am:w.Am=n.Am
 Ac:w.Ac=n.Ac
 BZ:w.BZ=n.BZ
 last:w.last=n.last
 bad:w.bad=n.bad
 right:BL n=true->BL w=true
 keep:Cg n.keep=true->∀y∈n.keep,(Dx w.keep y.AI).2=0/\Mo y (Dx w.keep y.AI).1=false
theorem jQ.refl(n:AA):jQ n n:=⟨.refl _,rfl,rfl,rfl,rfl,rfl,fun h=>h,fun h _ hy=>Hz h hy⟩
theorem iQ(k:List AS)(j:B9)(h:Cg k=true):Cg (EK k j).1=true/\∀y∈k,(Dx (EK k j).1 y.AI).2=0/\Mo y (Dx (EK k j).1 y.AI).1=false:=by
 unfold EK;split
 .exact⟨T2 h,fun y hy=>YM h hy⟩
 .split<;>exact⟨h,fun y hy=>Hz h hy⟩
theorem nd{w:AA}(h:w.BZ=n.BZ)(k:w.A7.id=n.A7.id):PP w=PP n:=by unfold PP;rw[h,k]
theorem jQ.mk'{w:AA}(hv:ND n.A7 w.A7)(h1:w.Am=n.Am)(h2:w.Ac=n.Ac)(h3:w.BZ=n.BZ)(h4:w.last=n.last)(h5:w.bad=n.bad)(h6:0<=n.next/\n.next<16->0<=w.next/\w.next<16)(h7:Cl n.A5 n.BH=true->Cl w.A5 w.BH=true)(h8:Cg n.keep=true->Cg w.keep=true/\∀y∈n.keep,(Dx w.keep y.AI).2=0/\Mo y (Dx w.keep y.AI).1=false):jQ n w:=by
 refine⟨hv,h1,h2,h3,h4,h5,fun h=> ?_,fun h=>(h8 h).2⟩;rw[B2]at h|-;obtain⟨a1,a2,a3,a4,a5,a6,a7,a8,a9⟩:=h;exact⟨by rw[h1];exact a1,by rw[h5];exact a2,h6 a3,hv.right a4,by rw[h2,hv.id];exact a5,h7 a6,(h8 a7).1,by rw[h3];exact a8,by rw[nd h3 hv.id];exact a9⟩
theorem ri{k:Int}(h:0<=k/\k<16):0<=(k+1).tmod 16/\(k+1).tmod 16<16:=by
 rw[Int.tmod_eq_emod_of_nonneg om];omega
structure GOK (n:AA) (Bd:Int) (c:JC) (w:AA):Prop where
 st:jQ n w
 AB:w.A7.AB=n.A7.AB
 A5:w.A5=n.A5
 BH:w.BH=n.BH
 AQ:Bd≠5->w.AQ=n.AQ/\w.next=n.next
 AX:Bd≠6->w.AX=n.AX
 AW:Bd=5\/Bd=6->w.AW=n.AW
theorem qx(n:AA):ND n.A7 (I0 n).A7/\(I0 n).A7.AB=n.A7.AB:=by
 unfold I0
 by_cases h:n.AQ.Aa=0
 .simp only[zn h];exact⟨uh ..,ll ..⟩
 .refine⟨?_,by simp only[zx h]⟩;simp only[zx h];exact .refl _
theorem xo(n:AA)(j:B9):QL n 5 j={n with AQ:=j}:=zn rfl
theorem xp(n:AA)(j:B9):QL n 6 j={n with AX:=j}:=by unfold QL;rw[zx (by decide),zn rfl]
theorem xq(n:AA){Bd:Int}(j:B9)(h5:Bd≠5)(h6:Bd≠6):QL n Bd j={n with AW:=j}:=by unfold QL;rw[zx h5,zx h6]
theorem GZ(n:AA)(Bd:Int)(ended:Bool)(c:JC):GOK n Bd c (B5 n Bd ended c).1:=by
 unfold B5
 have hs:Cg n.keep=true->Cg (if c.own then EK n.keep c.job else(n.keep,c.job)).1=true/\∀y∈n.keep,(Dx (if c.own then EK n.keep c.job else(n.keep,c.job)).1 y.AI).2=0/\Mo y (Dx (if c.own then EK n.keep c.job else(n.keep,c.job)).1 y.AI).1=false:=by
  intro h;split
  .exact iQ _ _ h
  .exact⟨h,fun y hy=>Hz h hy⟩
 generalize(if c.own then EK n.keep c.job else(n.keep,c.job))=s at *;obtain⟨k,j⟩:=s;dsimp only at hs|-
 by_cases h5:Bd=5
 .subst h5;rw[xo];have hg:=qx {n with keep:=k,AQ:=j}
  by_cases hc:(5:Int)=5/\ended=false/\j.A5=5
  .rw[zn hc];exact⟨.mk' hg.1 rfl rfl rfl rfl rfl ri id hs,hg.2,rfl,rfl,fun h=>absurd rfl h,fun _=>rfl,fun _=>rfl⟩
  .rw[zx hc];exact⟨.mk' (.refl _) rfl rfl rfl rfl rfl id id hs,rfl,rfl,rfl,fun h=>absurd rfl h,fun _=>rfl,fun _=>rfl⟩
 .rw[zx (fun h=>h5 h.1)]
  by_cases h6:Bd=6
  .subst h6;rw[xp];exact⟨.mk' (.refl _) rfl rfl rfl rfl rfl id id hs,rfl,rfl,rfl,fun _=>⟨rfl,rfl⟩,fun h=>absurd rfl h,fun _=>rfl⟩
  .rw[xq _ _ h5 h6];exact⟨.mk' (.refl _) rfl rfl rfl rfl rfl id id hs,rfl,rfl,rfl,fun _=>⟨rfl,rfl⟩,fun _=>rfl,fun h=>om⟩
theorem Yg(n:AA)(Bd AR AP:Int)(x:AS):jQ n (Bq n Bd AR AP x).1/\(Bq n Bd AR AP x).1.A7.AB=n.A7.AB:=by
 unfold Bq;split
 .exact⟨(GZ ..).st,(GZ ..).AB⟩
 .exact⟨.refl _,rfl⟩
theorem XV(n:AA)(c:Al)(m:AF):jQ n (D4 n c m).1:=by
 unfold D4;split
 .rename_i hr;split
  .have h:=B2.1 hr;have ht:=eS (v:=n.A7) (m:=m) h.2.2.2.2.2.1;exact .mk' ht.1 rfl rfl rfl rfl rfl id (fun _=>ht.2) (fun hk=>⟨hk,fun y hy=>Hz hk hy⟩)
  .split
   .exact(GZ ..).st
   .exact .refl _
 .exact .refl _
theorem dP(n:AA)(c:Al):jQ n (Dz n c).1:=by
 unfold Dz;have hd:=QY n.A7 c.BD.dst;split
 .rename_i hr;have h:=B2.1 hr;dsimp only;split
  .have ht:=qj (v:=Bu n.A7 c.BD.dst) (d:=c.BD.dst) h.2.2.2.2.2.1;exact .mk' (hd.trans ht.1) rfl rfl rfl rfl rfl id (fun _=>ht.2) (fun hk=>⟨hk,fun y hy=>Hz hk hy⟩)
  .have n1:jQ n {n with A7:=Bu n.A7 c.BD.dst}:=.mk' hd rfl rfl rfl rfl rfl id id (fun hk=>⟨hk,fun y hy=>Hz hk hy⟩);split
   .have g:=(GZ {n with A7:=Bu n.A7 c.BD.dst} c.Bd (decide ((Gr n c.Bd).A5=5)) (CE (Bu n.A7 c.BD.dst) (Gr n c.Bd) c.BD.dst)).st;exact⟨n1.A7.trans g.A7,g.Am,g.Ac,g.BZ,g.last,g.bad,fun h=>g.right (n1.right h),g.keep⟩
   .exact n1
 .exact .refl _
theorem bq(n:AA)(Bd:Int):jQ n (GA n Bd):=by
 unfold GA;split
 .split
  .exact .mk' (.refl _) rfl rfl rfl rfl rfl id (fun _=>rfl) (fun hk=>⟨hk,fun y hy=>Hz hk hy⟩)
  .split
   .exact(GZ ..).st
   .exact .refl _
 .exact .refl _
abbrev Qt:BF:=[0,1,2,4,5,9,10]
theorem Vu(n:Int):yS 409 [.yX n] (.yX (DN n)):=by
 have e:=ju n;refine zF AE Tryz.func409 ?_;refine Aj [0,2] ?_ (AK e);exact zE
theorem rZ(n:Int)(b:UInt8):yS 411 [.yX n,.i .u8 (b.toNat:Int)] (.yX (nQ n b)):=by
 have c1:=Vu n;have c2:=Vu (40503*DN n+(b.toNat:Int)+1);have hp:=PU n;have hb:b.toNat<256:=b.toNat_lt;have hT:nQ n b=DN (40503*DN n+(b.toNat:Int)+1):=rfl;rw[hT];clear hT;refine zF AE Tryz.func411 ?_;generalize DN n=p at *;refine AO [0,1,4] ?_ (Au @c1 @c2);exact zE
theorem kO(s:AL):yT 410 [.yU s] [] (.fn (.func 433) [] [.ptr 0 0 1]) [.c [.yU s]]:=by
 refine zD AE Tryz.func410 ?_;refine A9 [0,1,2] ?_;exact wE
theorem nP(s:AL)(hs:s.length<=9223372036854775807):yS 370 [.yX 7,.s s] (.yX (Va s)):=by
 have c1:=Vu 7;have c2:=kO s;refine zF AE Tryz.func370 ?_;rw[show DN 7=7 from rfl]at c1;refine B6 Qt ?_ (AK @c1) (BJ [] c2);refine zG (K:=fun r _ H'=>H'=[.c [.yO (Va s)],.c [.yU s],.lp r]) ?_ ?_
 .intro r hr;have hk:=hr.ok (k:=2) rfl
  have hY:∀(b:UInt8) p,YT Tryz.prog 2 [.yQ (b.toNat:Int)] [.c [.yO p],.c [.yU s],.lp r] fun x K=>x= .yP true/\K=[.c [.yO (nQ p b)],.c [.yU s],.lp r]:=by
   intro b p;have c3:=rZ p b;refine Ar hr rfl rfl rfl ?_;refine A9 Qt ?_;refine zR ?_;refine AO Qt ?_ (AK @c3);exact⟨_,A8.refl _,zN _,rfl,rfl,rfl⟩
  refine zT AE Tryz.func433 ?_;refine A9 [0,1,3,5,6,7,14] ?_;refine CM (fun j=>j<=s.length) (fun j:Nat=>[(6,.yO j)]) (fun j=>[(0,.c [.yO (Va (s.take j))])]) (fun j=>s.length-j) 0 (zi _) (fun _=>rfl) (fun _=>rfl) ?_ ?_
  .exact A8.ck rfl
  intro j hj
  by_cases hjl:j<s.length
  .obtain⟨b,hq⟩:=Ah hjl;have gq:s.getD j 0=b:=getD_at hq;have hn:Va (s.take (j+1))=nQ (Va (s.take j)) b:=by unfold Va;rw[AY hq,q0o];rfl
   have q1:=@hY;refine Aj [0,1,3,5,6,7,14] ?_ (AK gq);clear q1;with_reducible repeat' first|constructor|intro hc
   refine⟨j+1,hjl,om,zN _,?_⟩;exact(have nC:=hn;A8.cn rfl)
  .have e:j=s.length:=om
   subst e;rw[q06];refine A9 [0,1,3,5,6,7,14] ?_;with_reducible repeat' first|constructor|intro hc
   exact⟨_,A8.refl _,zN _,_,_,rfl,rfl,rfl⟩
 .rintro r hr x H' rfl;refine .inl ⟨rfl,?_⟩;refine A9 Qt ?_;exact zE
theorem nR(s:AL)(hs:s.length<=9223372036854775807):yS 320 [.s s] (.tup [.yX (Vb s).1,.yX (Vb s).2]):=by
 have c1:=nP s hs;have hT:Vb s=if Bp s then(Va s,0)else(0,2):=rfl
 have hK:Bp s=(decide ((s.length:Int)>=1)&&decide ((s.length:Int)<=20)):=rfl;generalize Va s=g at *;generalize Vb s=R at *;refine zF AE Tryz.func320 ?_
 by_cases h:Bp s=true
 .rw[zn h]at hT;rw[h]at hK;have hK':=hK.symm;simp only[zO,zW]at hK';have f1:decide ((s.length:Int)<1)=false:=zQ om;have f2:decide ((s.length:Int)>20)=false:=zQ om;rw[hT];refine AJ [0,2,3,11] ?_ (Au f1 f2) (AK @c1);exact zE
 .have h':Bp s=false:=by simpa using h
  rw[zx h]at hT;rw[h']at hK;have hK':=hK.symm;rw[hT]
  by_cases h1:(s.length:Int)<1
  .have f1:decide ((s.length:Int)<1)=true:=zU h1;refine Aj [0,2,3,11] ?_ (AK f1);exact zE
  .have f1:decide ((s.length:Int)<1)=false:=zQ h1
   have f2:decide ((s.length:Int)>20)=true:=zU (by
    simp only[Bool.and_eq_false_iff,q0c]at hK';omega)
   refine Aj [0,2,3,11] ?_ (Au f1 f2);exact zE
abbrev Lo:BF:=[0,1,2,5,6,7,8,9,10,11,12,13,14,24,40]
theorem kJ(AR AP:Int)(x:AS)(hs:x.AI.length<=9223372036854775807):yS 272 [.i .u8 AR,.yX AP,x.d] (.tup [.yX (QB AR AP x).1,(QB AR AP x).2.1.d,.b (QB AR AP x).2.2]):=by
 obtain⟨AI,B4,AZ,gone⟩:=x;have c1:=nR AI hs;have c2:=Wi.LO ⟨AI,B4,AZ,gone⟩;unfold QB;dsimp only;generalize Vb AI=q at *;obtain⟨a,e⟩:=q;refine zF AE Tryz.func272 ?_;unfold AS.d AS.A4 at*
 by_cases h1:AR=1
 .have f1:=AT h1;rw[zn h1]
  by_cases h2:0<=AP
  .have f2:decide (AP>=0)=true:=zU h2;rw[zU h2];refine Aj Lo ?_ (Au f1 f2);exact BW @An.eq_1
  .have f2:decide (AP>=0)=false:=zQ h2;rw[zQ h2];refine Aj Lo ?_ (Au f1 f2);exact BW @An.eq_1
 have f1:=eq_false' h1;rw[zx h1]
 by_cases h2:AR=2
 .have f2:=AT h2;rw[zn h2]
  by_cases h3:e=0
  .have f3:=AT h3;rw[zU h3];refine AJ Lo ?_ (CP f1 f2 f3) (Au @c1 @c2);exact zE
  .have f3:=eq_false' h3;rw[zQ h3];refine AJ Lo ?_ (CP f1 f2 f3) (Au @c1 @c2);exact zE
 have f2:=eq_false' h2;rw[zx h2]
 by_cases h3:AR=3
 .have f3:=AT h3;have f4:(e==0)=decide (e=0):=rfl;rw[zn h3];refine AJ Lo ?_ (ME f1 f2 f3 f4) (AK @c1);exact zE
 .have f3:=eq_false' h3;rw[zx h3];refine Aj Lo ?_ (CP f1 f2 f3);exact BW @An.eq_1
abbrev Qy:BF:=[0,1,2,3,4,7,8,9,10,11,12,13,14,29]
theorem PD(v:AG)(AR AP:Int)(x:AS)(hb:v.A6.length<=1000)(hl:v.AB.length<=1000)(hs:x.AI.length<=9223372036854775807):yS 225 [v.d,.i .u8 AR,.yX AP,x.d] (.tup [(Ei v AR AP x).job.d,CB (Ei v AR AP x).BY,.b (Ei v AR AP x).own]):=by
 have c1:=kJ AR AP x hs;have c2:=Bo v hb hl;generalize hJ:Ei v AR AP x=r;unfold Ei at hJ;generalize QB AR AP x=q at *;obtain⟨CF,y,b⟩:=q;dsimp only at *;have c3:=ux v CF hb hl;generalize xj v CF=lk at *;have c4:=PI v ⟨AR,0,lk,y,0,[],0⟩ om;unfold jE at c4;unfold AG.d AG.A4 at c2 c3;unfold C6.d C6.A4 at c3;unfold AS.d AS.A4 at c1;refine zF AE Tryz.func225 ?_;unfold AG.d AG.A4 AS.d AS.A4
 cases b with
 |false=>
  rw[q0m,zx (by decide)]at hJ;subst hJ;refine AO Qy ?_ (AK @c1);exact BW (zh @B9.d.eq_1 (zh @B9.A4.eq_1 (zh @Q8.eq_1 @An.eq_1)))
 |true=>
  rw[q0A]at hJ
  cases hR:Aq v with
  |false=>
   rw[hR,zx (by decide)]at hJ;rw[hR]at c2;subst hJ;refine AO Qy ?_ (Au @c1 @c2);exact BW (zh @B9.d.eq_1 (zh @B9.A4.eq_1 (zh @Q8.eq_1 @An.eq_1)))
  |true=>
   rw[hR,zn rfl]at hJ;rw[hR]at c2;rw[hJ]at c4;clear hJ;unfold jC at c4;refine AO Qy ?_ (CP @c1 @c2 @c3) [] [6];refine BG (A8.Ux 4 33 (.is []) rfl rfl rfl rfl trivial) sm ?_;refine Ax Qy ?_ (BJ [4] c4) [(2,6),(3,6),(4,6),(5,6)];exact BW (zh @B9.d.eq_1 @B9.A4.eq_1)
end Nd
end Go.Proofs.YtamjpnmjpponpaaGreatDoor
