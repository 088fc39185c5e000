/- Part 25 of a proof. Conditions: those that its theorems state. -/
import Derived.Test.YtkljbfejbakooaaGreatDoorT17
import Derived.Test.YtkljbfejbakooaaGreatDoorT20
set_option linter.unusedSimpArgs false
set_option linter.unusedVariables false
set_option maxHeartbeats 40000000
set_option maxRecDepth 4000
namespace Go.Proofs.YtkljbfejbakooaaGreatDoor
namespace Nd
open Go.Gar
open Wi (AC Bp BE AN Bc mC)
abbrev Qg:Aw:=[0,1,2,3,15,23]
abbrev jD(v:AD)(j:An):xS:=[.c (jC v j (.xG j.left) .e0 false)]
abbrev jO(v:AD)(j:An):xS:=[.c (jC v j (.sl 1 j.left.length 1) .e0 false),.a (.is j.left)]
abbrev jT:xS:=[.c [.ptr 0 0 37],.c [.ptr 0 20 37]]
theorem nJ(v:AD)(j:An)(m:AC)(hb:v.AB.length<=1000)(hl:v.A8.length<=1000)(hm:Am m):xC 282 [.d m.d,.ptr 2 0 1,.ptr 1 0 1] (jD v j++jT) (.tup []) (jE v (if m.AR=10/\m.As=j.Ak.Cj then EH v ⟨j.AL,j.A5,Ph v j.Ak m,j.A9,j.AO,j.left,j.AQ⟩else⟨j,[],false⟩)++jT):=by
 obtain⟨AL,A5,Ak,A9,AO,left,AQ⟩:=j;obtain⟨AH,Cj,Bn,B4,CB,lcode⟩:=Ak;have c1:=tD v ⟨AH,Cj,Bn,B4,CB,lcode⟩ m hb hl hm;generalize Ph v ⟨AH,Cj,Bn,B4,CB,lcode⟩ m=q at *;have c2:=Ow v ⟨AL,A5,q,A9,AO,left,AQ⟩ om;dsimp only;generalize EH v ⟨AL,A5,q,A9,AO,left,AQ⟩=r at *;refine zD AF Tryz.func282 ?_;unfold Wi.AC.d Wi.AC.A0 at *;unfold AD.d AD.A0 Bw.d Bw.A0 at c1;unfold jD jT jE jC at *;simp only[xX,xY]
 by_cases h1:m.AR=10
 .have f1:=AS h1
  by_cases h2:m.As=Cj
  .have f2:=AS h2;rw[if_pos ⟨h1,h2⟩];have d1:=Ds.mk [0] (c2);refine wd [0,1,2,3,16] [] (Ax f1 f2) (AM @c1) ?_;clear d1;exact⟨⟨[],[.c (jC v r.job (.xG r.job.left) (.d (Ap r.BN)) r.own),.c [.ptr 0 0 37],.c [.ptr 0 20 37]],_⟩,(A6.ck rfl),xA,_,_,rfl,rfl,rfl,rfl⟩
  .have f2:=eq_false' h2;rw[if_neg (fun h=>h2 h.2)];refine wd [0,1,2,3,16] [] (Ax f1 f2) A4 ?_;exact⟨⟨[],[.c (jC v ⟨AL,A5,⟨AH,Cj,Bn,B4,CB,lcode⟩,A9,AO,left,AQ⟩ (.xG left) (.d (Ap [])) false),.c [.ptr 0 0 37],.c [.ptr 0 20 37]],_⟩,(A6.trans' (A6.JF 0 35 (.sl 15 []) rfl rfl rfl rfl (by simp[B0])) (A6.ck rfl) xA),xA,_,_,rfl,rfl,rfl,rfl⟩
 .have f1:=eq_false' h1;rw[if_neg (fun h=>h1 h.1)];refine wd [0,1,2,3,16] [] (AM f1) A4 ?_;exact⟨⟨[],[.c (jC v ⟨AL,A5,⟨AH,Cj,Bn,B4,CB,lcode⟩,A9,AO,left,AQ⟩ (.xG left) (.d (Ap [])) false),.c [.ptr 0 0 37],.c [.ptr 0 20 37]],_⟩,(A6.trans' (A6.JF 0 35 (.sl 15 []) rfl rfl rfl rfl (by simp[B0])) (A6.ck rfl) xA),xA,_,_,rfl,rfl,rfl,rfl⟩
theorem nK(v:AD)(j:An)(m:AC)(hm:Am m):xC 284 [.d m.d,.ptr 2 0 1,.ptr 1 0 1] (jD v j++jT) (.tup []) (jE v (if m.AR=7/\m.As=j.AO then JM v.id j j.AO m.A8 else⟨j,[],false⟩)++jT):=by
 obtain⟨AL,A5,Ak,A9,AO,left,AQ⟩:=j;have c2:=cF v ⟨AL,A5,Ak,A9,AO,left,AQ⟩ AO m.A8 (by unfold Am at hm;omega);dsimp only;generalize JM v.id ⟨AL,A5,Ak,A9,AO,left,AQ⟩ AO m.A8=r at *;refine zD AF Tryz.func284 ?_;unfold Wi.AC.d Wi.AC.A0 at *;unfold jD jT jE jC at *;simp only[xX,xY]
 by_cases h1:m.AR=7
 .have f1:=AS h1
  by_cases h2:m.As=AO
  .have f2:=AS h2;rw[if_pos ⟨h1,h2⟩];have d1:=Ds.mk [0] (c2);refine wd [0,1,2,3,15] [] (Ax f1 f2) A4 ?_;clear d1;exact⟨⟨[],[.c (jC v r.job (.xG r.job.left) (.d (Ap r.BN)) r.own),.c [.ptr 0 0 37],.c [.ptr 0 20 37]],_⟩,(A6.ck rfl),xA,_,_,rfl,rfl,rfl,rfl⟩
  .have f2:=eq_false' h2;rw[if_neg (fun h=>h2 h.2)];refine wd [0,1,2,3,15] [] (Ax f1 f2) A4 ?_;exact⟨⟨[],[.c (jC v ⟨AL,A5,Ak,A9,AO,left,AQ⟩ (.xG left) (.d (Ap [])) false),.c [.ptr 0 0 37],.c [.ptr 0 20 37]],_⟩,(A6.trans' (A6.JF 0 35 (.sl 15 []) rfl rfl rfl rfl (by simp[B0])) (A6.ck rfl) xA),xA,_,_,rfl,rfl,rfl,rfl⟩
 .have f1:=eq_false' h1;rw[if_neg (fun h=>h1 h.1)];refine wd [0,1,2,3,15] [] (AM f1) A4 ?_;exact⟨⟨[],[.c (jC v ⟨AL,A5,Ak,A9,AO,left,AQ⟩ (.xG left) (.d (Ap [])) false),.c [.ptr 0 0 37],.c [.ptr 0 20 37]],_⟩,(A6.trans' (A6.JF 0 35 (.sl 15 []) rfl rfl rfl rfl (by simp[B0])) (A6.ck rfl) xA),xA,_,_,rfl,rfl,rfl,rfl⟩
theorem nL(v:AD)(j:An)(m:AC)(h:m.AR≠11\/m.As∉j.left)(hn:j.left.length<=100000):xC 286 [.d m.d,.ptr 1 0 1] (jD v j++jT) (.tup []) (jE v ⟨if m.AR=11 then Dm j m.As m.AQ else j,[],false⟩++jT):=by
 refine zD AF Tryz.func286 ?_
 by_cases h1:m.AR=11
 .have h2:m.As∉j.left:=h.resolve_left (fun e=>e h1);have c2:=dR v j m.As m.AQ h2 hn;rw[if_pos h1];generalize Dm j m.As m.AQ=q at *;unfold Wi.AC.d Wi.AC.A0 at *;unfold jD jT jE jC at *;simp only[xX,xY];have f1:=AS h1;have d1:=Ds.mk [0] (c2);refine wd [0,1,2,5] [] (AM f1) A4 ?_;clear d1;exact⟨⟨[],[.c (jC v q (.xG q.left) (.d (Ap [])) false),.c [.ptr 0 0 37],.c [.ptr 0 20 37]],_⟩,(A6.ck rfl),xA,_,_,rfl,rfl,rfl,rfl⟩
 .have f1:=eq_false' h1;rw[if_neg h1];unfold Wi.AC.d Wi.AC.A0 at *;unfold jD jT jE jC at *;simp only[xX,xY];refine wd [0,1,2,5] [] (AM f1) A4 ?_;exact⟨⟨[],[.c (jC v j (.xG j.left) (.d (Ap [])) false),.c [.ptr 0 0 37],.c [.ptr 0 20 37]],_⟩,(A6.trans' (A6.JF 0 35 (.sl 15 []) rfl rfl rfl rfl (by simp[B0])) (A6.ck rfl) xA),xA,_,_,rfl,rfl,rfl,rfl⟩
theorem gZ(v:AD)(j:An)(m:AC)(h:m.AR=11/\m.As∈j.left)(hn:j.left.length<=100000):xC 286 [.d m.d,.ptr 2 0 1] (jO v j++jT) (.tup []) (jE v ⟨if m.AR=11 then Dm j m.As m.AQ else j,[],false⟩++[.gone]++jT):=by
 refine zD AF Tryz.func286 ?_;obtain⟨h1,h2⟩:=h;have c2:=YV v j m.As m.AQ h2 hn;rw[if_pos h1];generalize Dm j m.As m.AQ=q at *;unfold Wi.AC.d Wi.AC.A0 at *;unfold jO jT jE jC at *;simp only[xX,xY];simp only[xX,xY]at c2;have f1:=AS h1;have d1:=Ds.mk [0,1] (c2);refine wd [0,1,2,5] [] (AM f1) A4 ?_;clear d1;exact⟨⟨[],[.c (jC v q (.xG q.left) (.d (Ap [])) false),.gone,.c [.ptr 0 0 37],.c [.ptr 0 20 37]],_⟩,(A6.ck rfl),xA,_,_,rfl,rfl,rfl,rfl⟩
theorem nM(v:AD)(j:An)(m:AC):xC 288 [.d m.d,.ptr 2 0 1,.ptr 1 0 1] (jD v j++jT) (.tup []) (jE v (if m.AR=12/\m.As=j.AO then⟨CU (CS ⟨j.AL,j.A5,j.Ak,if m.AQ=0 then m.A9 else j.A9,j.AO,j.left,j.AQ⟩ m.AQ),[],false⟩else⟨j,[],false⟩)++jT):=by
 obtain⟨AL,A5,Ak,A9,AO,left,AQ⟩:=j;dsimp only;refine zD AF Tryz.func288 ?_;have hv:=Ik v ⟨AL,A5,Ak,if m.AQ=0 then m.A9 else A9,AO,left,m.AQ⟩ .e0 false rfl;unfold Wi.AC.d Wi.AC.A0 at *;unfold jD jT jE jC at *;simp only[xX,xY]
 by_cases h1:m.AR=12
 .have f1:=AS h1
  by_cases h2:m.As=AO
  .have f2:=AS h2;rw[if_pos ⟨h1,h2⟩]
   by_cases h3:m.AQ=0
   .have f3:=AS h3;rw[if_pos h3]at *;have d1:=Ds.mk [0] (hv);refine wd Qg [] (Ci f1 f2 f3) A4 ?_;clear d1;exact⟨⟨[],[.c (jC v ⟨AL,5,Ak,m.A9,AO,[],m.AQ⟩ (.xG ([])) (.d (Ap [])) false),.c [.ptr 0 0 37],.c [.ptr 0 20 37]],_⟩,(A6.trans' (A6.JF 0 35 (.sl 15 []) rfl rfl rfl rfl (by simp[B0])) (A6.ck rfl) xA),xA,_,_,rfl,rfl,rfl,rfl⟩
   .have f3:=eq_false' h3;rw[if_neg h3]at *;have d1:=Ds.mk [0] (hv);refine wd Qg [] (Ci f1 f2 f3) A4 ?_;clear d1;exact⟨⟨[],[.c (jC v ⟨AL,5,Ak,A9,AO,[],m.AQ⟩ (.xG ([])) (.d (Ap [])) false),.c [.ptr 0 0 37],.c [.ptr 0 20 37]],_⟩,(A6.trans' (A6.JF 0 35 (.sl 15 []) rfl rfl rfl rfl (by simp[B0])) (A6.ck rfl) xA),xA,_,_,rfl,rfl,rfl,rfl⟩
  .have f2:=eq_false' h2;rw[if_neg (fun h=>h2 h.2)];refine wd Qg [] (Ax f1 f2) A4 ?_;exact⟨⟨[],[.c (jC v ⟨AL,A5,Ak,A9,AO,left,AQ⟩ (.xG left) (.d (Ap [])) false),.c [.ptr 0 0 37],.c [.ptr 0 20 37]],_⟩,(A6.trans' (A6.JF 0 35 (.sl 15 []) rfl rfl rfl rfl (by simp[B0])) (A6.ck rfl) xA),xA,_,_,rfl,rfl,rfl,rfl⟩
 .have f1:=eq_false' h1;rw[if_neg (fun h=>h1 h.1)];refine wd Qg [] (AM f1) A4 ?_;exact⟨⟨[],[.c (jC v ⟨AL,A5,Ak,A9,AO,left,AQ⟩ (.xG left) (.d (Ap [])) false),.c [.ptr 0 0 37],.c [.ptr 0 20 37]],_⟩,(A6.trans' (A6.JF 0 35 (.sl 15 []) rfl rfl rfl rfl (by simp[B0])) (A6.ck rfl) xA),xA,_,_,rfl,rfl,rfl,rfl⟩
theorem Wt(v:AD)(j:An)(d:Int):xC 342 [.wo d,.ptr 2 0 1,.ptr 1 0 1] (jD v j++jT) (.tup []) (jE v (if j.AO=d then⟨CU (CS j 210),[],false⟩else⟨j,[],false⟩)++jT):=by
 obtain⟨AL,A5,Ak,A9,AO,left,AQ⟩:=j;dsimp only;refine zD AF Tryz.func342 ?_;have hv:=Ik v ⟨AL,A5,Ak,A9,AO,left,210⟩ .e0 false rfl;unfold jD jT jE jC at *;simp only[xX,xY]
 by_cases h1:AO=d
 .have f1:=AS h1;rw[if_pos h1];have d1:=Ds.mk [0] (hv);refine wd [0,1,2,9] [] (AM f1) A4 ?_;clear d1;exact⟨⟨[],[.c (jC v ⟨AL,5,Ak,A9,AO,[],210⟩ (.xG ([])) (.d (Ap [])) false),.c [.ptr 0 0 37],.c [.ptr 0 20 37]],_⟩,(A6.trans' (A6.JF 0 35 (.sl 15 []) rfl rfl rfl rfl (by simp[B0])) (A6.ck rfl) xA),xA,_,_,rfl,rfl,rfl,rfl⟩
 .have f1:=eq_false' h1;rw[if_neg h1];refine wd [0,1,2,9] [] (AM f1) A4 ?_;exact⟨⟨[],[.c (jC v ⟨AL,A5,Ak,A9,AO,left,AQ⟩ (.xG left) (.d (Ap [])) false),.c [.ptr 0 0 37],.c [.ptr 0 20 37]],_⟩,(A6.trans' (A6.JF 0 35 (.sl 15 []) rfl rfl rfl rfl (by simp[B0])) (A6.ck rfl) xA),xA,_,_,rfl,rfl,rfl,rfl⟩
theorem jt(v:AD)(j:An)(d:Int)(hb:v.AB.length<=1000)(hl:v.A8.length<=1000):xC 343 [.wo d,.ptr 2 0 1,.ptr 1 0 1] (jD v j++jT) (.tup []) (jE v (if j.Ak.Cj=d then EH v ⟨j.AL,j.A5,gz v j.Ak,j.A9,j.AO,j.left,j.AQ⟩else⟨j,[],false⟩)++jT):=by
 obtain⟨AL,A5,Ak,A9,AO,left,AQ⟩:=j;obtain⟨AH,Cj,Bn,B4,CB,lcode⟩:=Ak;have c1:=tC v ⟨AH,Cj,Bn,B4,CB,lcode⟩ hb hl;generalize gz v ⟨AH,Cj,Bn,B4,CB,lcode⟩=q at *;have c2:=Ow v ⟨AL,A5,q,A9,AO,left,AQ⟩ om;dsimp only;generalize EH v ⟨AL,A5,q,A9,AO,left,AQ⟩=r at *;refine zD AF Tryz.func343 ?_;unfold AD.d AD.A0 Bw.d Bw.A0 at c1;unfold jD jT jE jC at *;simp only[xX,xY]
 by_cases h1:Cj=d
 .have f1:=AS h1;rw[if_pos h1];have d1:=Ds.mk [0] (c2);refine wd [0,1,2,10] [] (AM f1) (AM @c1) ?_;clear d1;exact⟨⟨[],[.c (jC v r.job (.xG r.job.left) (.d (Ap r.BN)) r.own),.c [.ptr 0 0 37],.c [.ptr 0 20 37]],_⟩,(A6.ck rfl),xA,_,_,rfl,rfl,rfl,rfl⟩
 .have f1:=eq_false' h1;rw[if_neg h1];refine wd [0,1,2,10] [] (AM f1) A4 ?_;exact⟨⟨[],[.c (jC v ⟨AL,A5,⟨AH,Cj,Bn,B4,CB,lcode⟩,A9,AO,left,AQ⟩ (.xG left) (.d (Ap [])) false),.c [.ptr 0 0 37],.c [.ptr 0 20 37]],_⟩,(A6.trans' (A6.JF 0 35 (.sl 15 []) rfl rfl rfl rfl (by simp[B0])) (A6.ck rfl) xA),xA,_,_,rfl,rfl,rfl,rfl⟩
theorem ju(v:AD)(j:An)(d:Int)(h:d∉j.left)(hn:j.left.length<=100000):xC 345 [.wo d,.ptr 1 0 1] (jD v j++jT) (.tup []) (jE v ⟨Dm j d 210,[],false⟩++jT):=by
 refine zD AF Tryz.func345 ?_;have c2:=dR v j d 210 h hn;generalize Dm j d 210=q at *;unfold jD jT jE jC at *;simp only[xX,xY];have d1:=Ds.mk [0] (c2);refine wd [0,1] [] A4 A4 ?_;clear d1;exact⟨⟨[],[.c (jC v q (.xG q.left) (.d (Ap [])) false),.c [.ptr 0 0 37],.c [.ptr 0 20 37]],_⟩,(A6.ck rfl),xA,_,_,rfl,rfl,rfl,rfl⟩
theorem eR(v:AD)(j:An)(d:Int)(h:d∈j.left)(hn:j.left.length<=100000):xC 345 [.wo d,.ptr 2 0 1] (jO v j++jT) (.tup []) (jE v ⟨Dm j d 210,[],false⟩++[.gone]++jT):=by
 refine zD AF Tryz.func345 ?_;have c2:=YV v j d 210 h hn;generalize Dm j d 210=q at *;unfold jO jT jE jC at *;simp only[xX,xY];simp only[xX,xY]at c2;have d1:=Ds.mk [0,1] (c2);refine wd [0,1] [] A4 A4 ?_;clear d1;exact⟨⟨[],[.c (jC v q (.xG q.left) (.d (Ap [])) false),.gone,.c [.ptr 0 0 37],.c [.ptr 0 20 37]],_⟩,(A6.ck rfl),xA,_,_,rfl,rfl,rfl,rfl⟩
abbrev Ca:Aw:=[0,1,2,3,4,5,6,7,8,9,10,11,28,36]
theorem qL(v:AD)(j:An)(m:AC)(hb:v.AB.length<=1000)(hl:v.A8.length<=1000)(hn:j.left.length<=100000)(hm:Am m)(h:(Al v&&(m.right&&decide (m.dst=v.id)))=false):xB 131 [v.d,j.d,m.d] (.tup [(JC.mk j [] false).job.d,Ap (JC.mk j [] false).BN,.b (JC.mk j [] false).own]):=by
 have c0:=EQ j om;have c1:=BV v hb hl;have c2:=Wi.CX m (by unfold Am at hm;omega);obtain⟨AL,A5,Ak,A9,AO,left,AQ⟩:=j;unfold AD.d AD.A0 at c1;unfold Wi.AC.d Wi.AC.A0 at c2;unfold An.d An.A0 at c0;refine zF AF Tryz.func131 ?_;unfold AD.d AD.A0 An.d An.A0 Wi.AC.d Wi.AC.A0;dsimp only
 cases h1:Al v with
 |false=>
  rw[h1]at c1;refine wd Ca [2] A4 (AM @c0) ?_ [(0,4),(1,4)];refine wd Ca [6] A4 (AM @c1) ?_;refine wd Ca [] A4 A4 ?_ [(2,6),(3,6),(4,6),(5,6)];exact zE
 |true=>
  rw[h1]at c1 h
  cases h2:m.right with
  |false=>
   rw[h2]at c2;refine wd Ca [2] A4 (AM @c0) ?_ [(0,4),(1,4)];refine wd Ca [6] A4 (Ax @c1 @c2) ?_;refine wd Ca [] A4 A4 ?_ [(2,6),(3,6),(4,6),(5,6)];exact zE
  |true=>
   rw[h2]at c2 h;rw[yF,yF]at h;have f1:=eq_false' (of_decide_eq_false h);refine wd Ca [2] A4 (AM @c0) ?_ [(0,4),(1,4)];refine wd Ca [6] (AM f1) (Ax @c1 @c2) ?_;refine wd Ca [] A4 A4 ?_ [(2,6),(3,6),(4,6),(5,6)];exact zE
theorem u9(v:AD)(j:An)(m:AC)(hb:v.AB.length<=1000)(hl:v.A8.length<=1000)(hn:j.left.length<=100000)(hm:Am m)(h1:Al v=true)(h2:m.right=true)(h3:m.dst=v.id)(h4:j.A5=1):xB 131 [v.d,j.d,m.d] (.tup [(if m.AR=10/\m.As=j.Ak.Cj then EH v ⟨j.AL,j.A5,Ph v j.Ak m,j.A9,j.AO,j.left,j.AQ⟩else⟨j,[],false⟩).job.d,Ap (if m.AR=10/\m.As=j.Ak.Cj then EH v ⟨j.AL,j.A5,Ph v j.Ak m,j.A9,j.AO,j.left,j.AQ⟩else⟨j,[],false⟩).BN,.b (if m.AR=10/\m.As=j.Ak.Cj then EH v ⟨j.AL,j.A5,Ph v j.Ak m,j.A9,j.AO,j.left,j.AQ⟩else⟨j,[],false⟩).own]):=by
 have c0:=EQ j om;have c1:=BV v hb hl;have c2:=Wi.CX m (by unfold Am at hm;omega);have c3:=IN v j;have c4:=nJ v j m hb hl hm;generalize(if m.AR=10/\m.As=j.Ak.Cj then EH v ⟨j.AL,j.A5,Ph v j.Ak m,j.A9,j.AO,j.left,j.AQ⟩else⟨j,[],false⟩)=r at *;obtain⟨AL,A5,Ak,A9,AO,left,AQ⟩:=j;unfold AD.d AD.A0 at c1;unfold Wi.AC.d Wi.AC.A0 at c2;unfold An.d An.A0 at c0;refine zF AF Tryz.func131 ?_;unfold AD.d AD.A0 An.d An.A0 Wi.AC.d Wi.AC.A0;dsimp only at h4;subst h4;rw[h1]at c1;rw[h2]at c2;have f1:=AS h3;unfold Wi.AC.d Wi.AC.A0 at c4;unfold jD jT jE at c4;simp only[xX,xY]at c4;unfold jC at *;unfold UH at *;dsimp only at c0 c3 c4|-;refine wd Ca [2] A4 (AM @c0) ?_ [(0,4),(1,4)];have d1:=Ds.mk [4] (c3);have d2:=Ds.mk [4,5,6] (c4);refine wd Ca [6] (AM f1) (Ax @c1 @c2) ?_ [(1,0),(2,0)];clear d2 d1;refine wd Ca [] A4 A4 ?_ [(2,6),(3,6),(4,6),(5,6)];exact zE
theorem uA(v:AD)(j:An)(m:AC)(hb:v.AB.length<=1000)(hl:v.A8.length<=1000)(hn:j.left.length<=100000)(hm:Am m)(h1:Al v=true)(h2:m.right=true)(h3:m.dst=v.id)(h4:j.A5=2):xB 131 [v.d,j.d,m.d] (.tup [(if m.AR=7/\m.As=j.AO then JM v.id j j.AO m.A8 else⟨j,[],false⟩).job.d,Ap (if m.AR=7/\m.As=j.AO then JM v.id j j.AO m.A8 else⟨j,[],false⟩).BN,.b (if m.AR=7/\m.As=j.AO then JM v.id j j.AO m.A8 else⟨j,[],false⟩).own]):=by
 have c0:=EQ j om;have c1:=BV v hb hl;have c2:=Wi.CX m (by unfold Am at hm;omega);have c3:=IN v j;have c4:=nK v j m hm;generalize(if m.AR=7/\m.As=j.AO then JM v.id j j.AO m.A8 else⟨j,[],false⟩)=r at *;obtain⟨AL,A5,Ak,A9,AO,left,AQ⟩:=j;unfold AD.d AD.A0 at c1;unfold Wi.AC.d Wi.AC.A0 at c2;unfold An.d An.A0 at c0;refine zF AF Tryz.func131 ?_;unfold AD.d AD.A0 An.d An.A0 Wi.AC.d Wi.AC.A0;dsimp only at h4;subst h4;rw[h1]at c1;rw[h2]at c2;have f1:=AS h3;unfold Wi.AC.d Wi.AC.A0 at c4;unfold jD jT jE at c4;simp only[xX,xY]at c4;unfold jC at *;unfold UH at *;dsimp only at c0 c3 c4|-;refine wd Ca [2] A4 (AM @c0) ?_ [(0,4),(1,4)];have d1:=Ds.mk [4] (c3);have d2:=Ds.mk [4,5,6] (c4);refine wd Ca [6] (AM f1) (Ax @c1 @c2) ?_ [(1,0),(2,0)];clear d2 d1;refine wd Ca [] A4 A4 ?_ [(2,6),(3,6),(4,6),(5,6)];exact zE
theorem nX(v:AD)(j:An)(m:AC)(hb:v.AB.length<=1000)(hl:v.A8.length<=1000)(hn:j.left.length<=100000)(hm:Am m)(h1:Al v=true)(h2:m.right=true)(h3:m.dst=v.id)(h4:j.A5=3)(h:m.AR≠11\/m.As∉j.left):xB 131 [v.d,j.d,m.d] (.tup [(JC.mk (if m.AR=11 then Dm j m.As m.AQ else j) [] false).job.d,Ap (JC.mk (if m.AR=11 then Dm j m.As m.AQ else j) [] false).BN,.b (JC.mk (if m.AR=11 then Dm j m.As m.AQ else j) [] false).own]):=by
 have c0:=EQ j om;have c1:=BV v hb hl;have c2:=Wi.CX m (by unfold Am at hm;omega);have c3:=IN v j;have c4:=nL v j m h hn;generalize(JC.mk (if m.AR=11 then Dm j m.As m.AQ else j) [] false)=r at *;obtain⟨AL,A5,Ak,A9,AO,left,AQ⟩:=j;unfold AD.d AD.A0 at c1;unfold Wi.AC.d Wi.AC.A0 at c2;unfold An.d An.A0 at c0;refine zF AF Tryz.func131 ?_;unfold AD.d AD.A0 An.d An.A0 Wi.AC.d Wi.AC.A0;dsimp only at h4;subst h4;rw[h1]at c1;rw[h2]at c2;have f1:=AS h3;unfold Wi.AC.d Wi.AC.A0 at c4;unfold jD jT jE at c4;simp only[xX,xY]at c4;unfold jC at *;unfold UH at *;dsimp only at c0 c3 c4|-;refine wd Ca [2] A4 (AM @c0) ?_ [(0,4),(1,4)];have d1:=Ds.mk [4] (c3);have d2:=Ds.mk [4,5,6] (c4);refine wd Ca [6] (AM f1) (Ax @c1 @c2) ?_ [(1,0),(2,0)];clear d2 d1;refine wd Ca [] A4 A4 ?_ [(2,6),(3,6),(4,6),(5,6)];exact zE
theorem uB(v:AD)(j:An)(m:AC)(hb:v.AB.length<=1000)(hl:v.A8.length<=1000)(hn:j.left.length<=100000)(hm:Am m)(h1:Al v=true)(h2:m.right=true)(h3:m.dst=v.id)(h4:j.A5=4):xB 131 [v.d,j.d,m.d] (.tup [(if m.AR=12/\m.As=j.AO then JC.mk (CU (CS ⟨j.AL,j.A5,j.Ak,if m.AQ=0 then m.A9 else j.A9,j.AO,j.left,j.AQ⟩ m.AQ)) [] false else⟨j,[],false⟩).job.d,Ap (if m.AR=12/\m.As=j.AO then JC.mk (CU (CS ⟨j.AL,j.A5,j.Ak,if m.AQ=0 then m.A9 else j.A9,j.AO,j.left,j.AQ⟩ m.AQ)) [] false else⟨j,[],false⟩).BN,.b (if m.AR=12/\m.As=j.AO then JC.mk (CU (CS ⟨j.AL,j.A5,j.Ak,if m.AQ=0 then m.A9 else j.A9,j.AO,j.left,j.AQ⟩ m.AQ)) [] false else⟨j,[],false⟩).own]):=by
 have c0:=EQ j om;have c1:=BV v hb hl;have c2:=Wi.CX m (by unfold Am at hm;omega);have c3:=IN v j;have c4:=nM v j m;generalize(if m.AR=12/\m.As=j.AO then JC.mk (CU (CS ⟨j.AL,j.A5,j.Ak,if m.AQ=0 then m.A9 else j.A9,j.AO,j.left,j.AQ⟩ m.AQ)) [] false else⟨j,[],false⟩)=r at *;obtain⟨AL,A5,Ak,A9,AO,left,AQ⟩:=j;unfold AD.d AD.A0 at c1;unfold Wi.AC.d Wi.AC.A0 at c2;unfold An.d An.A0 at c0;refine zF AF Tryz.func131 ?_;unfold AD.d AD.A0 An.d An.A0 Wi.AC.d Wi.AC.A0;dsimp only at h4;subst h4;rw[h1]at c1;rw[h2]at c2;have f1:=AS h3;unfold Wi.AC.d Wi.AC.A0 at c4;unfold jD jT jE at c4;simp only[xX,xY]at c4;unfold jC at *;unfold UH at *;dsimp only at c0 c3 c4|-;refine wd Ca [2] A4 (AM @c0) ?_ [(0,4),(1,4)];have d1:=Ds.mk [4] (c3);have d2:=Ds.mk [4,5,6] (c4);refine wd Ca [6] (AM f1) (Ax @c1 @c2) ?_ [(1,0),(2,0)];clear d2 d1;refine wd Ca [] A4 A4 ?_ [(2,6),(3,6),(4,6),(5,6)];exact zE
theorem uE(v:AD)(j:An)(m:AC)(hb:v.AB.length<=1000)(hl:v.A8.length<=1000)(hn:j.left.length<=100000)(hm:Am m)(h1:Al v=true)(h2:m.right=true)(h3:m.dst=v.id)(h4:j.A5≠1/\j.A5≠2/\j.A5≠3/\j.A5≠4):xB 131 [v.d,j.d,m.d] (.tup [(JC.mk j [] false).job.d,Ap (JC.mk j [] false).BN,.b (JC.mk j [] false).own]):=by
 have c0:=EQ j om;have c1:=BV v hb hl;have c2:=Wi.CX m (by unfold Am at hm;omega);have c3:=IN v j;obtain⟨AL,A5,Ak,A9,AO,left,AQ⟩:=j;unfold AD.d AD.A0 at c1;unfold Wi.AC.d Wi.AC.A0 at c2;unfold An.d An.A0 at c0;refine zF AF Tryz.func131 ?_;unfold AD.d AD.A0 An.d An.A0 Wi.AC.d Wi.AC.A0;dsimp only at h4;rw[h1]at c1;rw[h2]at c2;have f1:=AS h3;unfold jC at *;unfold UH at *;have hk:MM A5 [1,2,3,4]=true:=by simp[MM,h4]
 dsimp only at c0 c3|-;refine wd Ca [2] A4 (AM @c0) ?_ [(0,4),(1,4)];have d1:=Ds.mk [4] (c3);have lk1:=hk;refine wd Ca [6] (AM f1) (Ax @c1 @c2) ?_ [(1,0),(2,0)];clear lk1 d1;refine wd Ca [] A4 A4 ?_ [(2,6),(3,6),(4,6),(5,6)];exact zE
abbrev OD:Aw:=[0,1,2,3,4,5,6,7,8,9,10,11,28,36]
theorem uD(v:AD)(j:An)(m:AC)(hb:v.AB.length<=1000)(hl:v.A8.length<=1000)(hn:j.left.length<=100000)(hm:Am m)(h1:Al v=true)(h2:m.right=true)(h3:m.dst=v.id)(h4:j.A5=3)(h:m.AR=11/\m.As∈j.left):xB 131 [v.d,j.d,m.d] (.tup [(Dm j m.As m.AQ).d,Ap [],.b false]):=by
 have h0:j.left≠[]:=fun e=>by have:=h.2;rw[e]at this;cases this
 have c0:=XJ j om h0;have c1:=BV v hb hl;have c2:=Wi.CX m (by unfold Am at hm;omega);have c3:=YO v j;have c4:=gZ v j m h hn;rw[if_pos h.1]at c4;generalize Dm j m.As m.AQ=r at *;obtain⟨AL,A5,Ak,A9,AO,left,AQ⟩:=j;dsimp only at h4;subst h4;unfold AD.d AD.A0 at c1;unfold Wi.AC.d Wi.AC.A0 at c2 c4;unfold An.d An.A0 JL at c0;refine zF AF Tryz.func131 ?_;unfold AD.d AD.A0 An.d An.A0 Wi.AC.d Wi.AC.A0;rw[h1]at c1;rw[h2]at c2;have f1:=AS h3;unfold jO jT jE at c4;simp only[xX,xY]at c4;unfold jC at *;unfold rD at *;dsimp only at c0 c3 c4|-;refine wd OD [1] A4 A4 ?_;refine Mb T.get 2 4 4 5 ⟨[(0,.d (.agg [.i .i64 v.id,.is v.AB,.is v.A8,.i .i64 v.AG,.i .i64 (v.f 0),.i .i64 (v.f 1),.i .i64 (v.f 2),.i .i64 (v.f 3),.i .i64 (v.f 4),.i .i64 (v.f 5),.i .i64 (v.f 6),.i .i64 (v.f 7),.i .i64 (v.f 8),.i .i64 (v.f 9),.i .i64 (v.f 10),.i .i64 (v.f 11),.i .i64 (v.f 12),.i .i64 (v.f 13),.i .i64 (v.f 14),.i .i64 (v.f 15)])),(1,.d (.agg [.i .u8 AL,.i .u8 3,.i .i64 Ak.AH,.i .i64 Ak.Cj,.i .i64 Ak.Bn,.b Ak.B4,.b Ak.CB,.i .i64 Ak.AQ,.s A9.AH,.i .i64 A9.B2,.i .i64 A9.AZ,.b A9.gone,.i .i64 AO,.is left,.i .i64 AQ])),(2,.d (.agg [.i .u8 m.AR,.i .i64 m.Aa,.i .i64 m.As,.i .i64 m.dst,.i .i64 m.AH,.b m.B4,.b m.done,.i .i64 m.AT,.i .i64 m.AG,.is m.A8,.s m.A9.AH,.i .i64 m.A9.B2,.i .i64 m.A9.AZ,.b m.A9.gone,.i .i64 m.AQ])),(3,.ptr 0 0 20),(4,.ptr 1 0 15),(5,.ptr 2 0 15),(6,.ptr 3 0 15),(7,.e0),(8,.wu false),(9,.ptr 5 0 37)],[.c [.wo v.id,.xG v.AB,.xG v.A8,.wo v.AG,.wo (v.f 0),.wo (v.f 1),.wo (v.f 2),.wo (v.f 3),.wo (v.f 4),.wo (v.f 5),.wo (v.f 6),.wo (v.f 7),.wo (v.f 8),.wo (v.f 9),.wo (v.f 10),.wo (v.f 11),.wo (v.f 12),.wo (v.f 13),.wo (v.f 14),.wo (v.f 15)],.c [.wz AL,.wz 3,.wo Ak.AH,.wo Ak.Cj,.wo Ak.Bn,.wu Ak.B4,.wu Ak.CB,.wo Ak.AQ,.xE A9.AH,.wo A9.B2,.wo A9.AZ,.wu A9.gone,.wo AO,.xG left,.wo AQ],.c [.wz m.AR,.wo m.Aa,.wo m.As,.wo m.dst,.wo m.AH,.wu m.B4,.wu m.done,.wo m.AT,.wo m.AG,.xG m.A8,.xE m.A9.AH,.wo m.A9.B2,.wo m.A9.AZ,.wu m.A9.gone,.wo m.AQ],.c [.wz 0,.wz 0,.wo 0,.wo 0,.wo 0,.wu false,.wu false,.wo 0,.xE ([]),.wo 0,.wo 0,.wu false,.wo 0,.e0,.wo 0],.a (.is left),.c [.wo v.id,.xG v.AB,.xG v.A8,.wo v.AG,.wo (v.f 0),.wo (v.f 1),.wo (v.f 2),.wo (v.f 3),.wo (v.f 4),.wo (v.f 5),.wo (v.f 6),.wo (v.f 7),.wo (v.f 8),.wo (v.f 9),.wo (v.f 10),.wo (v.f 11),.wo (v.f 12),.wo (v.f 13),.wo (v.f 14),.wo (v.f 15),.wz AL,.wz 3,.wo Ak.AH,.wo Ak.Cj,.wo Ak.Bn,.wu Ak.B4,.wu Ak.CB,.wo Ak.AQ,.xE A9.AH,.wo A9.B2,.wo A9.AZ,.wu A9.gone,.wo AO,.sl 4 left.length 1,.wo AQ,.e0,.wu false]],46⟩ mixed rfl rfl rfl ?_ ?_ ?_
 .have d1:=Ds.mk [] (c0);refine wd OD [] A4 A4 ?_ [(0,2),(1,2),(0,4),(1,4),(3,4)];clear d1;exact⟨rfl,.inl rfl⟩
 .have d1:=Ds.mk [] (c0);refine wd OD [] A4 A4 ?_ [(0,2),(1,2),(0,3)];clear d1;exact⟨rfl,.inr rfl⟩
 have d1:=Ds.mk [5,4] (c3);have d2:=Ds.mk [5,4,6,7] (c4);refine wd OD [6] (AM f1) (Ax @c1 @c2) ?_ [(1,0),(2,0)];clear d2 d1;refine wd OD [] A4 A4 ?_ [(2,6),(3,6),(4,6),(5,6)];exact BL (xU @An.d.eq_1 @An.A0.eq_1)
theorem ki(v:AD)(j:An)(m:AC)(hb:v.AB.length<=1000)(hl:v.A8.length<=1000)(hn:j.left.length<=100000)(hm:Am m):xB 131 [v.d,j.d,m.d] (.tup [(C5 v j m).job.d,Ap (C5 v j m).BN,.b (C5 v j m).own]):=by
 unfold C5
 cases h:Al v&&(m.right&&decide (m.dst=v.id))with
 |false=>exact qL v j m hb hl hn hm h
 |true=>
  rw[if_pos rfl];simp only[xI,xK]at h;obtain⟨h1,h2,h3⟩:=h
  by_cases p1:j.A5=1
  .rw[if_pos p1];exact u9 v j m hb hl hn hm h1 h2 h3 p1
  rw[if_neg p1]
  by_cases p2:j.A5=2
  .rw[if_pos p2];exact uA v j m hb hl hn hm h1 h2 h3 p2
  rw[if_neg p2]
  by_cases p3:j.A5=3
  .rw[if_pos p3]
   by_cases hk:m.AR=11
   .rw[if_pos hk]
    by_cases hs:m.As∈j.left
    .exact uD v j m hb hl hn hm h1 h2 h3 p3 ⟨hk,hs⟩
    .have:=nX v j m hb hl hn hm h1 h2 h3 p3 (.inr hs);rw[if_pos hk]at this;exact this
   .rw[if_neg hk];have:=nX v j m hb hl hn hm h1 h2 h3 p3 (.inl hk);rw[if_neg hk]at this;exact this
  rw[if_neg p3]
  by_cases p4:j.A5=4
  .rw[if_pos p4];exact uB v j m hb hl hn hm h1 h2 h3 p4
  .rw[if_neg p4];exact uE v j m hb hl hn hm h1 h2 h3 ⟨p1,p2,p3,p4⟩
abbrev Cg:Aw:=[0,1,2,3,4,6,7,8,9,10,11,17,25]
theorem oZ(v:AD)(j:An)(d:Int)(hb:v.AB.length<=1000)(hl:v.A8.length<=1000)(hn:j.left.length<=100000)(h:Al v=false):xB 248 [v.d,j.d,.i .i64 d] (.tup [(JC.mk j [] false).job.d,Ap (JC.mk j [] false).BN,.b (JC.mk j [] false).own]):=by
 have c0:=EQ j om;have c1:=BV v hb hl;obtain⟨AL,A5,Ak,A9,AO,left,AQ⟩:=j;unfold AD.d AD.A0 at c1;unfold An.d An.A0 at c0;refine zF AF Tryz.func248 ?_;unfold AD.d AD.A0 An.d An.A0;dsimp only;rw[h]at c1;refine wd Cg [2] A4 (AM @c0) ?_ [(0,4),(1,4)];refine wd Cg [6] A4 (AM @c1) ?_;refine wd Cg [] A4 A4 ?_ [(2,6),(3,6),(4,6),(5,6)];exact zE
theorem sQ(v:AD)(j:An)(d:Int)(hb:v.AB.length<=1000)(hl:v.A8.length<=1000)(hn:j.left.length<=100000)(h1:Al v=true)(h4:j.A5=1):xB 248 [v.d,j.d,.i .i64 d] (.tup [(if j.Ak.Cj=d then EH v ⟨j.AL,j.A5,gz v j.Ak,j.A9,j.AO,j.left,j.AQ⟩else⟨j,[],false⟩).job.d,Ap (if j.Ak.Cj=d then EH v ⟨j.AL,j.A5,gz v j.Ak,j.A9,j.AO,j.left,j.AQ⟩else⟨j,[],false⟩).BN,.b (if j.Ak.Cj=d then EH v ⟨j.AL,j.A5,gz v j.Ak,j.A9,j.AO,j.left,j.AQ⟩else⟨j,[],false⟩).own]):=by
 have c0:=EQ j om;have c1:=BV v hb hl;have c3:=I6 v j;have c4:=jt v j d hb hl;generalize(if j.Ak.Cj=d then EH v ⟨j.AL,j.A5,gz v j.Ak,j.A9,j.AO,j.left,j.AQ⟩else⟨j,[],false⟩)=r at *;obtain⟨AL,A5,Ak,A9,AO,left,AQ⟩:=j;unfold AD.d AD.A0 at c1;unfold An.d An.A0 at c0;refine zF AF Tryz.func248 ?_;unfold AD.d AD.A0 An.d An.A0;dsimp only at h4;subst h4;rw[h1]at c1;unfold jD jT jE at c4;simp only[xX,xY]at c4;unfold jC at *;unfold Td at *;dsimp only at c0 c3 c4|-;refine wd Cg [2] A4 (AM @c0) ?_ [(0,4),(1,4)];have d1:=Ds.mk [3] (c3);have d2:=Ds.mk [3,4,5] (c4);refine wd Cg [6] A4 (AM @c1) ?_ [(1,0),(2,0)];clear d2 d1;refine wd Cg [] A4 A4 ?_ [(2,6),(3,6),(4,6),(5,6)];exact zE
theorem sR(v:AD)(j:An)(d:Int)(hb:v.AB.length<=1000)(hl:v.A8.length<=1000)(hn:j.left.length<=100000)(h1:Al v=true)(h4:j.A5=2):xB 248 [v.d,j.d,.i .i64 d] (.tup [(if j.AO=d then JC.mk (CU (CS j 210)) [] false else⟨j,[],false⟩).job.d,Ap (if j.AO=d then JC.mk (CU (CS j 210)) [] false else⟨j,[],false⟩).BN,.b (if j.AO=d then JC.mk (CU (CS j 210)) [] false else⟨j,[],false⟩).own]):=by
 have c0:=EQ j om;have c1:=BV v hb hl;have c3:=I6 v j;have c4:=Wt v j d;generalize(if j.AO=d then JC.mk (CU (CS j 210)) [] false else⟨j,[],false⟩)=r at *;obtain⟨AL,A5,Ak,A9,AO,left,AQ⟩:=j;unfold AD.d AD.A0 at c1;unfold An.d An.A0 at c0;refine zF AF Tryz.func248 ?_;unfold AD.d AD.A0 An.d An.A0;dsimp only at h4;subst h4;rw[h1]at c1;unfold jD jT jE at c4;simp only[xX,xY]at c4;unfold jC at *;unfold Td at *;dsimp only at c0 c3 c4|-;refine wd Cg [2] A4 (AM @c0) ?_ [(0,4),(1,4)];have d1:=Ds.mk [3] (c3);have d2:=Ds.mk [3,4,5] (c4);refine wd Cg [6] A4 (AM @c1) ?_ [(1,0),(2,0)];clear d2 d1;refine wd Cg [] A4 A4 ?_ [(2,6),(3,6),(4,6),(5,6)];exact zE
theorem sU(v:AD)(j:An)(d:Int)(hb:v.AB.length<=1000)(hl:v.A8.length<=1000)(hn:j.left.length<=100000)(h1:Al v=true)(h4:j.A5=4):xB 248 [v.d,j.d,.i .i64 d] (.tup [(if j.AO=d then JC.mk (CU (CS j 210)) [] false else⟨j,[],false⟩).job.d,Ap (if j.AO=d then JC.mk (CU (CS j 210)) [] false else⟨j,[],false⟩).BN,.b (if j.AO=d then JC.mk (CU (CS j 210)) [] false else⟨j,[],false⟩).own]):=by
 have c0:=EQ j om;have c1:=BV v hb hl;have c3:=I6 v j;have c4:=Wt v j d;generalize(if j.AO=d then JC.mk (CU (CS j 210)) [] false else⟨j,[],false⟩)=r at *;obtain⟨AL,A5,Ak,A9,AO,left,AQ⟩:=j;unfold AD.d AD.A0 at c1;unfold An.d An.A0 at c0;refine zF AF Tryz.func248 ?_;unfold AD.d AD.A0 An.d An.A0;dsimp only at h4;subst h4;rw[h1]at c1;unfold jD jT jE at c4;simp only[xX,xY]at c4;unfold jC at *;unfold Td at *;dsimp only at c0 c3 c4|-;refine wd Cg [2] A4 (AM @c0) ?_ [(0,4),(1,4)];have d1:=Ds.mk [3] (c3);have d2:=Ds.mk [3,4,5] (c4);refine wd Cg [6] A4 (AM @c1) ?_ [(1,0),(2,0)];clear d2 d1;refine wd Cg [] A4 A4 ?_ [(2,6),(3,6),(4,6),(5,6)];exact zE
theorem sS(v:AD)(j:An)(d:Int)(hb:v.AB.length<=1000)(hl:v.A8.length<=1000)(hn:j.left.length<=100000)(h1:Al v=true)(h4:j.A5=3)(h:d∉j.left):xB 248 [v.d,j.d,.i .i64 d] (.tup [(JC.mk (Dm j d 210) [] false).job.d,Ap (JC.mk (Dm j d 210) [] false).BN,.b (JC.mk (Dm j d 210) [] false).own]):=by
 have c0:=EQ j om;have c1:=BV v hb hl;have c3:=I6 v j;have c4:=ju v j d h hn;generalize(JC.mk (Dm j d 210) [] false)=r at *;obtain⟨AL,A5,Ak,A9,AO,left,AQ⟩:=j;unfold AD.d AD.A0 at c1;unfold An.d An.A0 at c0;refine zF AF Tryz.func248 ?_;unfold AD.d AD.A0 An.d An.A0;dsimp only at h4;subst h4;rw[h1]at c1;unfold jD jT jE at c4;simp only[xX,xY]at c4;unfold jC at *;unfold Td at *;dsimp only at c0 c3 c4|-;refine wd Cg [2] A4 (AM @c0) ?_ [(0,4),(1,4)];have d1:=Ds.mk [3] (c3);have d2:=Ds.mk [3,4,5] (c4);refine wd Cg [6] A4 (AM @c1) ?_ [(1,0),(2,0)];clear d2 d1;refine wd Cg [] A4 A4 ?_ [(2,6),(3,6),(4,6),(5,6)];exact zE
theorem sW(v:AD)(j:An)(d:Int)(hb:v.AB.length<=1000)(hl:v.A8.length<=1000)(hn:j.left.length<=100000)(h1:Al v=true)(h4:j.A5≠1/\j.A5≠2/\j.A5≠3/\j.A5≠4):xB 248 [v.d,j.d,.i .i64 d] (.tup [(JC.mk j [] false).job.d,Ap (JC.mk j [] false).BN,.b (JC.mk j [] false).own]):=by
 have c0:=EQ j om;have c1:=BV v hb hl;have c3:=I6 v j;obtain⟨AL,A5,Ak,A9,AO,left,AQ⟩:=j;unfold AD.d AD.A0 at c1;unfold An.d An.A0 at c0;refine zF AF Tryz.func248 ?_;unfold AD.d AD.A0 An.d An.A0;dsimp only at h4;rw[h1]at c1;unfold jC at *;unfold Td at *;have hk:MM A5 [1,2,3,4]=true:=by simp[MM,h4]
 dsimp only at c0 c3|-;refine wd Cg [2] A4 (AM @c0) ?_ [(0,4),(1,4)];have d1:=Ds.mk [3] (c3);have lk1:=hk;refine wd Cg [6] A4 (AM @c1) ?_ [(1,0),(2,0)];clear lk1 d1;refine wd Cg [] A4 A4 ?_ [(2,6),(3,6),(4,6),(5,6)];exact zE
theorem sV(v:AD)(j:An)(d:Int)(hb:v.AB.length<=1000)(hl:v.A8.length<=1000)(hn:j.left.length<=100000)(h1:Al v=true)(h4:j.A5=3)(h:d∈j.left):xB 248 [v.d,j.d,.i .i64 d] (.tup [(Dm j d 210).d,Ap [],.b false]):=by
 have h0:j.left≠[]:=fun e=>by rw[e]at h;cases h
 have c0:=XJ j om h0;have c1:=BV v hb hl;have c3:=Wu v j;have c4:=eR v j d h hn;generalize Dm j d 210=r at *;obtain⟨AL,A5,Ak,A9,AO,left,AQ⟩:=j;dsimp only at h4;subst h4;unfold AD.d AD.A0 at c1;unfold An.d An.A0 JL at c0;refine zF AF Tryz.func248 ?_;unfold AD.d AD.A0 An.d An.A0;rw[h1]at c1;unfold jO jT jE at c4;simp only[xX,xY]at c4;unfold jC at *;unfold qg at *;dsimp only at c0 c3 c4|-;refine wd Cg [1] A4 A4 ?_;refine Mb T.get 2 4 3 4 ⟨[(0,.d (.agg [.i .i64 v.id,.is v.AB,.is v.A8,.i .i64 v.AG,.i .i64 (v.f 0),.i .i64 (v.f 1),.i .i64 (v.f 2),.i .i64 (v.f 3),.i .i64 (v.f 4),.i .i64 (v.f 5),.i .i64 (v.f 6),.i .i64 (v.f 7),.i .i64 (v.f 8),.i .i64 (v.f 9),.i .i64 (v.f 10),.i .i64 (v.f 11),.i .i64 (v.f 12),.i .i64 (v.f 13),.i .i64 (v.f 14),.i .i64 (v.f 15)])),(1,.d (.agg [.i .u8 AL,.i .u8 3,.i .i64 Ak.AH,.i .i64 Ak.Cj,.i .i64 Ak.Bn,.b Ak.B4,.b Ak.CB,.i .i64 Ak.AQ,.s A9.AH,.i .i64 A9.B2,.i .i64 A9.AZ,.b A9.gone,.i .i64 AO,.is left,.i .i64 AQ])),(2,.wo d),(3,.ptr 0 0 20),(4,.ptr 1 0 15),(6,.ptr 2 0 15),(7,.e0),(8,.wu false),(9,.ptr 4 0 37)],[.c [.wo v.id,.xG v.AB,.xG v.A8,.wo v.AG,.wo (v.f 0),.wo (v.f 1),.wo (v.f 2),.wo (v.f 3),.wo (v.f 4),.wo (v.f 5),.wo (v.f 6),.wo (v.f 7),.wo (v.f 8),.wo (v.f 9),.wo (v.f 10),.wo (v.f 11),.wo (v.f 12),.wo (v.f 13),.wo (v.f 14),.wo (v.f 15)],.c [.wz AL,.wz 3,.wo Ak.AH,.wo Ak.Cj,.wo Ak.Bn,.wu Ak.B4,.wu Ak.CB,.wo Ak.AQ,.xE A9.AH,.wo A9.B2,.wo A9.AZ,.wu A9.gone,.wo AO,.xG left,.wo AQ],.c [.wz 0,.wz 0,.wo 0,.wo 0,.wo 0,.wu false,.wu false,.wo 0,.xE ([]),.wo 0,.wo 0,.wu false,.wo 0,.e0,.wo 0],.a (.is left),.c [.wo v.id,.xG v.AB,.xG v.A8,.wo v.AG,.wo (v.f 0),.wo (v.f 1),.wo (v.f 2),.wo (v.f 3),.wo (v.f 4),.wo (v.f 5),.wo (v.f 6),.wo (v.f 7),.wo (v.f 8),.wo (v.f 9),.wo (v.f 10),.wo (v.f 11),.wo (v.f 12),.wo (v.f 13),.wo (v.f 14),.wo (v.f 15),.wz AL,.wz 3,.wo Ak.AH,.wo Ak.Cj,.wo Ak.Bn,.wu Ak.B4,.wu Ak.CB,.wo Ak.AQ,.xE A9.AH,.wo A9.B2,.wo A9.AZ,.wu A9.gone,.wo AO,.sl 3 left.length 1,.wo AQ,.e0,.wu false]],35⟩ mixed rfl rfl rfl ?_ ?_ ?_
 .have d1:=Ds.mk [] (c0);refine wd Cg [] A4 A4 ?_ [(0,2),(1,2),(0,4),(1,4),(3,4)];clear d1;exact⟨rfl,.inl rfl⟩
 .have d1:=Ds.mk [] (c0);refine wd Cg [] A4 A4 ?_ [(0,2),(1,2),(0,3)];clear d1;exact⟨rfl,.inr rfl⟩
 have d1:=Ds.mk [4,3] (c3);have d2:=Ds.mk [4,3,5,6] (c4);refine wd Cg [6] A4 (AM @c1) ?_ [(1,0),(2,0)];clear d2 d1;refine wd Cg [] A4 A4 ?_ [(2,6),(3,6),(4,6),(5,6)];exact BL (xU @An.d.eq_1 @An.A0.eq_1)
theorem ZU(v:AD)(j:An)(d:Int)(hb:v.AB.length<=1000)(hl:v.A8.length<=1000)(hn:j.left.length<=100000):xB 248 [v.d,j.d,.i .i64 d] (.tup [(C3 v j d).job.d,Ap (C3 v j d).BN,.b (C3 v j d).own]):=by
 unfold C3
 cases h1:Al v with
 |false=>exact oZ v j d hb hl hn h1
 |true=>
  rw[if_pos rfl]
  by_cases p1:j.A5=1
  .rw[if_pos p1];exact sQ v j d hb hl hn h1 p1
  rw[if_neg p1]
  by_cases p2:j.A5=2
  .rw[if_pos (.inl p2)];exact sR v j d hb hl hn h1 p2
  by_cases p4:j.A5=4
  .rw[if_pos (.inr p4)];exact sU v j d hb hl hn h1 p4
  rw[if_neg (fun h=>h.elim p2 p4)]
  by_cases p3:j.A5=3
  .rw[if_pos p3]
   by_cases hs:d∈j.left
   .exact sV v j d hb hl hn h1 p3 hs
   .exact sS v j d hb hl hn h1 p3 hs
  .rw[if_neg p3];exact sW v j d hb hl hn h1 ⟨p1,p2,p3,p4⟩
end Nd
end Go.Proofs.YtkljbfejbakooaaGreatDoor
