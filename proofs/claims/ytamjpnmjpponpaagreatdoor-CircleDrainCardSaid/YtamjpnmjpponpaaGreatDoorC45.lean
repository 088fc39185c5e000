/- Part 45 of a proof. Conditions: those that its theorems state. -/
import Derived.Test.YtamjpnmjpponpaaGreatDoorC42
set_option linter.unusedSimpArgs false
set_option linter.unusedVariables false
set_option linter.unnecessarySimpa false
set_option maxHeartbeats 40000000
set_option maxRecDepth 4000
namespace Go.Proofs.YtamjpnmjpponpaaGreatDoor
namespace Nd
open Go.Gar
open Wi (AF BV B7 Cp Bc)
abbrev cX(c:CS)(i j:Nat):yr:=[.sl i c.nodes.length 76,.sl j c.gone.length 1,.yV c.A6,.d (Ab c.bag.grams),.yO c.bag.lost]
abbrev cB(c:CS):z6:=[.c (cX c 1 2),.a (Ak c.nodes),.a (.is c.gone)]
abbrev kN:z7:=[(.i .u8 1,.fn (.func 104) [] [.ptr 5 0 1]),(.i .u8 10,.fn (.func 106) [] [.ptr 6 0 1]),(.i .u8 11,.fn (.func 107) [] [.ptr 6 0 1])]
abbrev kG:z7:=[(.i .u8 2,.fn (.func 109) [] [.ptr 7 0 1]),(.i .u8 3,.fn (.func 112) [] [.ptr 8 0 1,.ptr 7 0 1]),(.i .u8 4,.fn (.func 114) [] [.ptr 8 0 1,.ptr 7 0 1]),(.i .u8 5,.fn (.func 116) [] [.ptr 8 0 1,.ptr 7 0 1]),(.i .u8 6,.fn (.func 118) [] [.ptr 7 0 1])]
abbrev kM:z7:=[(.i .u8 7,.fn (.func 123) [] [.ptr 9 0 1]),(.i .u8 8,.fn (.func 125) [] [.ptr 10 0 1]),(.i .u8 9,.fn (.func 126) [] [.ptr 10 0 1])]
abbrev cK:z6:=[.m (kN++kG++kM),.c [.mp 3],.c [.ptr 0 0 5],.c [.fn (.func 101) [] [.ptr 5 0 1]],.c [.ptr 0 0 5],.c [.fn (.func 108) [] [.ptr 7 0 1]],.c [.ptr 0 0 5],.c [.fn (.func 119) [] [.ptr 9 0 1]]]
theorem fY(c:CS):yT 43 [.ptr 0 0 5,.mp 3] (cB c++[.m [],.c [.mp 3]]) (.tup []) (cB c++[.m kN,.c [.mp 3],.c [.ptr 0 0 5],.c [.fn (.func 101) [] [.ptr 5 0 1]]]):=by
 refine zC AE Tryz.func43 ?_;simp only[zY,zZ];refine A9 [0,1,2,4] ?_;exact Bh
theorem fV(c:CS):yT 44 [.ptr 0 0 5,.mp 3] (cB c++[.m kN,.c [.mp 3],.c [.ptr 0 0 5],.c [.fn (.func 101) [] [.ptr 5 0 1]]]) (.tup []) (cB c++[.m (kN++kG),.c [.mp 3],.c [.ptr 0 0 5],.c [.fn (.func 101) [] [.ptr 5 0 1]],.c [.ptr 0 0 5],.c [.fn (.func 108) [] [.ptr 7 0 1]]]):=by
 refine zC AE Tryz.func44 ?_;simp only[zY,zZ];refine A9 [0,1,2,4] ?_;exact Bh
theorem Wz(c:CS):yT 45 [.ptr 0 0 5,.mp 3] (cB c++[.m (kN++kG),.c [.mp 3],.c [.ptr 0 0 5],.c [.fn (.func 101) [] [.ptr 5 0 1]],.c [.ptr 0 0 5],.c [.fn (.func 108) [] [.ptr 7 0 1]]]) (.tup []) (cB c++cK):=by
 refine zC AE Tryz.func45 ?_;simp only[zY,zZ];refine A9 [0,1,2,4] ?_;exact Bh
theorem JA(c:CS):yT 21 [.ptr 0 0 5] (cB c) (.fn (.func 46) [] [.ptr 4 0 1]) (cB c++cK):=by
 have d1:=fY c;have d2:=fV c;have d3:=Wz c;refine zC AE Tryz.func21 ?_;simp only[zY,zZ]at *;refine Ax [0,2,3] ?_ (WA [0,1,2,3,4] d1 [0,1,2,3,4,5,6] d2 [0,1,2,3,4,5,6,7,8] d3);exact Bh
theorem Km(c:CS)(l:List B0)(h:BB c.bag)(hl:l.length<=1000)(hs:Bg.small l):yT 103 [.ptr 0 0 5,.d (Ab l)] (cB c) (.tup []) (cB (Ii c l)):=by
 have c1:=Bg.KB c.bag l (by have:=h.n;omega) (fun g hg=>by have:=h.s g hg;omega) hl hs;unfold Ii;refine zC AE Tryz.func103 ?_
 by_cases h0:l.length>0
 .have f1:decide ((l.length:Int)>0)=true:=zU om;generalize Bg.IN c.bag l=b at *;unfold Bg.Du.d at c1;refine AJ [0,1,6] ?_ (AK f1) (AK @c1);exact Bh
 .have f1:decide ((l.length:Int)>0)=false:=zQ om;have e:l=[]:=q18.1 om;subst e;refine Aj [0,1,6] ?_ (AK f1);exact Bh
abbrev nX(n:AA):yp:=.yX n.A7.id:: .is n.A7.A6:: .is n.A7.AB:: .yX n.A7.AH:: .yX (n.A7.f 0):: .yX (n.A7.f 1):: .yX (n.A7.f 2):: .yX (n.A7.f 3):: .yX (n.A7.f 4):: .yX (n.A7.f 5):: .yX (n.A7.f 6):: .yX (n.A7.f 7):: .yX (n.A7.f 8):: .yX (n.A7.f 9):: .yX (n.A7.f 10):: .yX (n.A7.f 11):: .yX (n.A7.f 12):: .yX (n.A7.f 13):: .yX (n.A7.f 14):: .yX (n.A7.f 15):: .yX n.Am:: .yX n.Ac.id:: .yX n.Ac.Ad::(Ag n.Ac.op)::(Az n.BZ):: .i .u8 n.A5:: .yX n.BH:: .i .u8 n.AQ.AR:: .i .u8 n.AQ.A5:: .yX n.AQ.Ap.AI:: .yX n.AQ.Ap.CF:: .yX n.AQ.Ap.C3:: .b n.AQ.Ap.BA:: .b n.AQ.Ap.CK:: .yX n.AQ.Ap.Aa:: .s n.AQ.AC.AI:: .yX n.AQ.AC.B4:: .yX n.AQ.AC.AZ:: .b n.AQ.AC.gone:: .yX n.AQ.Ao:: .is n.AQ.left:: .yX n.AQ.Aa:: .i .u8 n.AX.AR:: .i .u8 n.AX.A5:: .yX n.AX.Ap.AI:: .yX n.AX.Ap.CF:: .yX n.AX.Ap.C3:: .b n.AX.Ap.BA:: .b n.AX.Ap.CK:: .yX n.AX.Ap.Aa:: .s n.AX.AC.AI:: .yX n.AX.AC.B4:: .yX n.AX.AC.AZ:: .b n.AX.AC.gone:: .yX n.AX.Ao:: .is n.AX.left:: .yX n.AX.Aa:: .i .u8 n.AW.AR:: .i .u8 n.AW.A5:: .yX n.AW.Ap.AI:: .yX n.AW.Ap.CF:: .yX n.AW.Ap.C3:: .b n.AW.Ap.BA:: .b n.AW.Ap.CK:: .yX n.AW.Ap.Aa:: .s n.AW.AC.AI:: .yX n.AW.AC.B4:: .yX n.AW.AC.AZ:: .b n.AW.AC.gone:: .yX n.AW.Ao:: .is n.AW.left:: .yX n.AW.Aa:: .yX n.next:: .s n.last::(BU n.keep):: .yX n.bad::[]
theorem Li(n:AA):∀(m:Nat)(l:List AA),m<l.length->setRows 0 (nX n) m (l.map AA.A4)=(l.set m n).map AA.A4
 |_,[],h=>by simp at h
 |0,a::l,_=>rfl
 |m+1,a::l,h=>by
  show a.A4::setRows 0 (nX n) m (l.map AA.A4)=_;rw[Li n m l (by simpa using h)];rfl
theorem Hx(l:List AA)(p:Int)(hn:l.length<=9223372036854775807):yT 31 [.sl 0 l.length 76,.yO p] [.a (Ak l)] (.yO (JI (NJ p) l)) [.a (Ak l)]:=
 Fn.read (NZ l p hn) rfl (by simp[Dv,CG,Ca,C7,BP])
theorem ci{sz:Nat}:∀{es:List (yp)}{m:Nat}{e:yp},es[m]? =some e->(∀e∈es,e.length=sz)->(es.flatten.drop (m*sz)).take sz=e
 |[],m,_,h,_=>by simp at h
 |a::r,0,e,h,hl=>by
  have ha:=hl a (q0J ..);cases h;rw[Nat.zero_mul,List.drop_zero,q0M,List.take_append_of_le_length (Nat.le_of_eq ha.symm),<-ha,q06]
 |a::r,m+1,e,h,hl=>by
  have ha:=hl a (q0J ..);have hm:(m+1)*sz=a.length+m*sz:=by rw[Nat.succ_mul,ha];omega
  rw[q0M,hm,List.drop_length_add_append];exact ci (by simpa using h) fun e he=>hl e (q0P _ he)
theorem LB{l:List AA}{m:Nat}{n:AA}(h:l[m]? =some n):List.take 76 (List.drop (m*76) (slc (Ak l)))=n.A4:=
 ci (by rw[q0G,h];rfl) (Fx l)
theorem ZQ(p:AL):(Wi.Hu p).1.length<=120:=by
 by_cases h:p.length<=112
 .rw[Wi.Tz h];simp only[q04,Wi.rA,Wi.qJ];omega
 .unfold Wi.Hu;rw[zn om];exact zi _
theorem Jt{l:List B0}{id:Int}(h:∀g∈l,MS id g):Bg.small l:=fun g hg=>by
 obtain⟨m,_,_,e⟩:=h g hg;rw[e];show(Cp m).1.length<=100000
 have e2:(Cp m).1=(Wi.Hu (Wi.PT m)).1\/(Cp m).1=[]:=by
  unfold Cp
  cases m.right with
  |true=>exact .inl rfl
  |false=>exact .inr rfl
 rcases e2 with e2|e2<;>rw[e2]
 .exact q0L (ZQ _) (by decide)
 .exact zi _
abbrev FF:BF:=[0,1,2]
abbrev H6:BF:=[0,2,3,5,6,8]
abbrev nN(p:Int):AA:=⟨⟨p,[9,40],[],-1,fun _=> -1⟩,0,⟨p,0,[]⟩,[],0,0,OE,OE,OE,0,[],[],0⟩
theorem ix:yS 87 [BU [],BU []] (.b true):=by
 refine zF AE Tryz.func87 ?_;unfold BU
 try dsimp only[List.map_nil]
 have un:No 1:=trivial;refine A9 [0,1,4,5,10,12,13,14,24] ?_;clear un;exact zE
theorem iw:yT 159 [.d (Ag []),.d (Ag []),.fn (.func 160) [] []] [] (.yP true) []:=by
 refine zC AE Tryz.func159 ?_;unfold Ag
 try dsimp only[List.map_nil]
 have un:No 1:=trivial;refine A9 [0,1,2,6,7,8,9,14,15,16,17,18,30] ?_;clear un;exact Bh
theorem vw(p:Int):yS 93 [Calls.d ⟨p,0,[]⟩,Calls.d ⟨p,0,[]⟩] (.b true):=by
 have f1:=DC p;have d1:=iw;refine zF AE Tryz.func93 ?_;unfold Calls.d Calls.A4;refine Cd [0,1,2,3,4] ?_ (AK f1) (BJ [] d1);exact zE
theorem pH:yS 95 [Az [],Az []] (.b true):=by
 refine zF AE Tryz.func95 ?_;have d1:=O5 [];unfold Az at*
 try dsimp only[List.map_nil]at*
 refine Ax [0,1,3,4,5,6,11,13,14,15,44] ?_ (BJ [] d1);refine zG (K:=fun r _ H'=>H'=[.c [.d (.sl 17 [])],.c [.yP false],.c [.d (.sl 17 [])],.lp r]) ?_ ?_
 .intro r hr;refine zT AE Tryz.func192 ?_;have hk:=hr.ok (k:=3) rfl;have un:No 1:=trivial;refine A9 [0,1,3,4,5,6,7,8,16] ?_;clear un;exact⟨_,A8.refl _,zN _,_,_,rfl,rfl,rfl⟩
 .rintro r hr x H' rfl;refine .inl ⟨rfl,?_⟩;refine A9 [0,1,3,4,5,6,11,13,14,15,44] ?_;exact zE
theorem W9:yS 89 [B9.d OE,B9.d OE] (.b true):=by
 have c1:=Wi.GH [] [] (by decide);refine zF AE Tryz.func89 ?_;unfold B9.d B9.A4;dsimp only[OE,An];refine AO [0,1,2,3,4] ?_ (AK @c1);exact zE
abbrev sFn(f:Nat):AV:=.fn (.func f) [] [.ptr 0 0 76,.ptr 1 0 76]
abbrev El:yr:=[sFn 82,sFn 83,sFn 84,sFn 86,sFn 88,sFn 90,sFn 91,sFn 92,sFn 94]
abbrev sB(n m:AA):z6:=[.c (As n),.c (As m)]
abbrev sT(f:Nat)(n:AA):Prop:=yT f [.ptr 0 0 76,.ptr 1 0 76] (sB n n) (.yP true) (sB n n)
theorem vy(p:Int):sT 82 (nN p):=by
 have f1:=DC p;refine zC AE Tryz.func82 ?_;unfold sB As;dsimp only[nN];refine Aj FF ?_ (AK f1);exact Bh
theorem vz(p:Int):sT 83 (nN p):=by
 refine zC AE Tryz.func83 ?_;unfold sB As;dsimp only[nN];refine A9 FF ?_;exact Bh
theorem w8(p:Int):sT 84 (nN p):=by
 have c1:=jX (nN p).A7 (nN p).A7 sm sm;rw[TC]at c1;unfold AG.d AG.A4 at c1;dsimp only at c1;refine zC AE Tryz.func84 ?_;unfold sB As;dsimp only[nN];refine AO FF ?_ (AK @c1);exact Bh
theorem w9(p:Int):sT 86 (nN p):=by
 have c1:=ix;refine zC AE Tryz.func86 ?_;unfold sB As;dsimp only[nN];refine AO FF ?_ (AK @c1);exact Bh
theorem wB(p:Int):sT 88 (nN p):=by
 have c1:=W9;unfold B9.d B9.A4 at c1;refine zC AE Tryz.func88 ?_;unfold sB As;dsimp only[nN];refine AO FF ?_ (AK @c1);exact Bh
theorem wF(p:Int):sT 90 (nN p):=by
 have c1:=W9;unfold B9.d B9.A4 at c1;refine zC AE Tryz.func90 ?_;unfold sB As;dsimp only[nN];refine AO FF ?_ (AK @c1);exact Bh
theorem wG(p:Int):sT 91 (nN p):=by
 have c1:=W9;unfold B9.d B9.A4 at c1;refine zC AE Tryz.func91 ?_;unfold sB As;dsimp only[nN];refine AO FF ?_ (AK @c1);exact Bh
theorem wI(p:Int):sT 92 (nN p):=by
 have c1:=vw p;unfold Calls.d Calls.A4 at c1;dsimp only at c1;refine zC AE Tryz.func92 ?_;unfold sB As;dsimp only[nN];refine AO FF ?_ (AK @c1);exact Bh
theorem wJ(p:Int):sT 94 (nN p):=by
 have c1:=pH;refine zC AE Tryz.func94 ?_;unfold sB As;dsimp only[nN];refine AO FF ?_ (AK @c1);exact Bh
theorem eF(n m:AA):yT 145 [.bs 2 0 9 1 9] (sB n m++[.c El]) (.fn (.func 194) [] [.ptr 3 0 1]) (sB n m++[.c El,.c [.bs 2 0 9 1 9]]):=by
 refine zD AE Tryz.func145 ?_;simp only[zY,zZ];unfold El sFn;refine A9 FF ?_;exact wE
theorem oK(n:AA)(h1:sT 82 n)(h2:sT 83 n)(h3:sT 84 n)(h4:sT 86 n)(h5:sT 88 n)(h6:sT 90 n)(h7:sT 91 n)(h8:sT 92 n)(h9:sT 94 n):
  yT 64 [.bs 2 0 9 1 9] (sB n n++[.c El]) (.yP true) (sB n n++[.c El]):=by
 have d1:=eF n n;simp only[zY,zZ]at *;refine zC AE Tryz.func64 ?_;refine Ax H6 ?_ (BJ [0,1,2] d1);refine zG (K:=fun r _ H'=>H'=[.c (As n),.c (As n),.c El,.c [.yP false],.c [.bs 2 0 9 1 9],.lp r]) ?_ ?_
 .intro r hr
  have hT:YT Tryz.prog 5 [.yP true] [.c (As n),.c (As n),.c El,.c [.yP false],.c [.bs 2 0 9 1 9],.lp r] fun x K=>x= .yP true/\K=[.c (As n),.c (As n),.c El,.c [.yP false],.c [.bs 2 0 9 1 9],.lp r]:=by
   refine Ar hr rfl rfl rfl ?_;refine A9 H6 ?_;refine zR ?_;refine A9 H6 ?_;exact⟨_,A8.refl _,zN _,rfl,rfl,rfl⟩
  refine zT AE Tryz.func194 ?_;have hk:=zh (L4 n) (hr.ok (k:=5) rfl);have un:No 10:=trivial;have q1:=@hT;refine Ax [0,1,4,5,6,7,8,15] ?_ (zd9 [0,1] h1 [0,1] h2 [0,1] h3 [0,1] h4 [0,1] h5 [0,1] h6 [0,1] h7 [0,1] h8 [0,1] h9);clear q1 un;exact⟨⟨[],[.c (As n),.c (As n),.c El,.c [.yP false],.c [.bs 2 0 9 1 9],.lp r],_⟩,(A8.ck rfl),zN _,_,_,rfl,rfl,rfl⟩
 .rintro r hr y H' rfl;refine .inl ⟨rfl,?_⟩;refine A9 H6 ?_;exact Bh
theorem oJ(n m:AA)(h1:yT 82 [.ptr 0 0 76,.ptr 1 0 76] (sB n m) (.yP false) (sB n m)):
  yT 64 [.bs 2 0 9 1 9] (sB n m++[.c El]) (.yP false) (sB n m++[.c El]):=by
 have d1:=eF n m;simp only[zY,zZ]at *;refine zC AE Tryz.func64 ?_;refine Ax H6 ?_ (BJ [0,1,2] d1);refine zG (K:=fun r _ H'=>H'=[.c (As n),.c (As m),.c El,.c [.yP false],.c [.bs 2 0 9 1 9],.lp (r.left .ret)]) ?_ ?_
 .intro r hr
  have hF:YT Tryz.prog 5 [.yP false] [.c (As n),.c (As m),.c El,.c [.yP false],.c [.bs 2 0 9 1 9],.lp r] fun x K=>x= .yP false/\K=[.c (As n),.c (As m),.c El,.c [.yP false],.c [.bs 2 0 9 1 9],.lp (r.left .ret)]:=by
   refine Ar hr rfl rfl rfl ?_;refine A9 H6 ?_;refine zR ?_;refine A9 H6 ?_;exact⟨_,A8.refl _,zN _,rfl,rfl,rfl⟩
  refine zT AE Tryz.func194 ?_;have hk:=zh (zh (L4 n) (L4 m)) (hr.ok (k:=5) rfl);have un:No 2:=trivial;have q1:=@hF;refine Ax [0,1,4,5,6,7,8,15] ?_ (BJ [0,1] h1);clear q1 un;exact⟨⟨[],[.c (As n),.c (As m),.c El,.c [.yP false],.c [.bs 2 0 9 1 9],.lp (r.left .ret)],_⟩,(A8.ck rfl),zN _,_,_,rfl,rfl,rfl⟩
 .rintro r hr y H' rfl;refine .inr ⟨.ret,rfl,?_⟩;refine A9 H6 ?_;exact Bh
theorem YU(n m:AA)(b:Bool)(d1:yT 64 [.bs 2 0 9 1 9] (sB n m++[.c El]) (.yP b) (sB n m++[.c El])):yS 37 [n.d,m.d] (.b b):=by
 refine zF AE Tryz.func37 ?_;unfold AA.d;rw[show n.A4=nX n from rfl,show m.A4=nX m from rfl];dsimp only[nX];unfold sB As at d1;simp only[zY,zZ]at d1;refine Ax [0,1,2,3,4] ?_ (BJ [0,1,2] d1);exact zE
abbrev H7:BF:=[0,1,2,3,4,5,6,29,32,33,34,44]
abbrev IH:BF:=[0,1,3,5,6,7,15]
abbrev LH:BF:=[0,1,2,3,5,8,9,10]
abbrev dC(n:List AA)(g b:Ai)(r:List B0)(l:Int):D:=.agg [Ak n,.is g,.is b,.sl 3 (r.map B0.A4),.yX l]
abbrev bC(n:List AA)(g b:Ai)(r:List B0)(l:Int):AM:=.c [.d (Ak n),.yV g,.yV b,.d (.sl 3 (r.map B0.A4)),.yO l]
theorem yC(p:Int)(m:AA)(hm:m.Am=1):yS 37 [(nN p).d,m.d] (.b false):=by
 refine YU _ _ _ (oJ _ _ ?_);obtain⟨_,k,_,_,_,_,_,_,_,_,_,_,_⟩:=m;dsimp only at hm;subst hm;refine zC AE Tryz.func82 ?_;unfold sB As;dsimp only[nN];refine A9 [0,1,2] ?_;exact Bh
theorem tX(p:Int):yS 37 [(nN p).d,(nN p).d] (.b true):=YU _ _ _ (oK _ (vy p) (vz p) (w8 p) (w9 p) (wB p) (wF p) (wG p) (wI p) (wJ p))
theorem fP(l:List AA)(g b:Ai)(hl:l.length<=1000)(hg:g.length<=1000)(hb:b.length<=1000)(hs:∀x∈l,yS 37 [x.d,x.d] (.b true)):yS 16 [dC l g b [] 0,dC l g b [] 0] (.b true):=by
 have c1:=Wi.GH g g om;have c2:=Wi.GH b b om;rw[zU rfl]at c1 c2;have c3:=Bg.sA ⟨[],0⟩ ⟨[],0⟩ (by decide);rw[zU rfl]at c3;have f1:=DC (l.length:Int);refine zF AE Tryz.func16 ?_;unfold Bg.Du.d at c3
 try dsimp only[List.map_nil]at c3
 refine By H7 ?_ (AK f1) (Au @c1 @c2) (BJ [] (J9 l));refine zG (K:=fun r _ H'=>H'=[bC l g b [] 0,bC l g b [] 0,.c [.yP false],.c [.d (Ak l)],.lp r]) ?_ ?_
 .intro r hr;refine zT AE Tryz.func63 ?_;refine A9 IH ?_;have hk:=hr.ok (k:=4) rfl;refine C4 (fun k=>k<=l.length) (fun k:Nat=>[(6,.yO k)]) (fun k=>l.length-k) 0 (zi _) (fun _=>rfl) ?_ ?_
  .exact A8.ck rfl
  intro k hkk
  by_cases hkl:k<l.length
  .obtain⟨x,hx⟩:=Ah hkl;have c4:=hs x (q00 hx)
   have hY:YT Tryz.prog 4 [.yO k,.dp x.A4] [bC l g b [] 0,bC l g b [] 0,.c [.yP false],.c [.d (Ak l)],.lp r] fun v K=>v= .yP true/\K=[bC l g b [] 0,bC l g b [] 0,.c [.yP false],.c [.d (Ak l)],.lp r]:=by
    refine Ar hr rfl rfl rfl ?_;unfold AA.d at c4;refine A9 H7 ?_;refine zR ?_;have ix1:=hx;refine AO H7 ?_ (AK @c4);clear ix1;exact⟨⟨[],[bC l g b [] 0,bC l g b [] 0,.c [.yP false],.c [.d (Ak l)],.lp r.busy],_⟩,(A8.ck rfl),zN _,rfl,rfl,rfl⟩
   have ix1:=hx;have q1:=@hY;refine A9 IH ?_;clear q1 ix1;with_reducible repeat' first|constructor|intro hc
   refine⟨k+1,hkl,om,zN _,?_⟩;exact A8.ck rfl
  .have e:k=l.length:=om
   subst e;refine A9 IH ?_;with_reducible repeat' first|constructor|intro hc
   exact⟨_,A8.refl _,zN _,_,_,rfl,rfl,rfl⟩
 .rintro r hr y H' rfl;refine .inl ⟨rfl,?_⟩;refine AO H7 ?_ (AK @c3);exact zE
theorem fO(x y:AA)(l m:List AA)(g b:Ai)(r1 r2:List B0)(l1 l2:Int)(hl:l.length=m.length)(hm:m.length<=1000)(hg:g.length<=1000)(hb:b.length<=1000)(c4:yS 37 [x.d,y.d] (.b false)):yS 16 [dC (x::l) g b r1 l1,dC (y::m) g b r2 l2] (.b false):=by
 have c1:=Wi.GH g g om;have c2:=Wi.GH b b om;rw[zU rfl]at c1 c2;have hx:(x::l)[0]? =some x:=rfl;have hy:(y::m)[0]? =some y:=rfl;have hlx:(x::l).length=(y::m).length:=by simp[hl]
 have hl0:0<(x::l).length:=by simp
 have hlm:(y::m).length<=1001:=by simp;omega
 generalize x::l=L at *;generalize y::m=M at *;have f1:=DC (M.length:Int);have f2:decide (((0:Nat):Int)<L.length)=true:=zU om;refine zF AE Tryz.func16 ?_;refine By H7 ?_ (Au hlx f1) (Au @c1 @c2) (BJ [] (J9 L));refine zG (K:=fun r _ H'=>H'=[bC L g b r1 l1,bC M g b r2 l2,.c [.yP false],.c [.d (Ak L)],.lp (r.left .ret)]) ?_ ?_
 .intro r hr;refine zT AE Tryz.func63 ?_;have hk:=hr.ok (k:=4) rfl
  have hY:YT Tryz.prog 4 [.yO 0,.dp x.A4] [bC L g b r1 l1,bC M g b r2 l2,.c [.yP false],.c [.d (Ak L)],.lp r] fun v K=>v= .yP false/\K=[bC L g b r1 l1,bC M g b r2 l2,.c [.yP false],.c [.d (Ak L)],.lp (r.left .ret)]:=by
   refine Ar hr rfl rfl rfl ?_;unfold AA.d at c4;refine A9 H7 ?_;refine zR ?_;have ix1:=hy;refine AO H7 ?_ (AK @c4);clear ix1;exact⟨⟨[],[bC L g b r1 l1,bC M g b r2 l2,.c [.yP false],.c [.d (Ak L)],.lp r.busy],_⟩,(A8.ck rfl),zN _,rfl,rfl,rfl⟩
  have un:No 1:=trivial;have ix1:=hx;have q1:=@hY;refine Aj IH ?_ (AK f2);clear q1 ix1 un;with_reducible repeat' first|constructor|intro hc
  exact⟨⟨[],[bC L g b r1 l1,bC M g b r2 l2,.c [.yP false],.c [.d (Ak L)],.lp (r.left .ret)],_⟩,(A8.ck rfl),zN _,_,_,rfl,rfl,rfl⟩
 .rintro r hr z H' rfl;refine .inr ⟨.ret,rfl,?_⟩;refine A9 H7 ?_;exact zE
theorem ZP(l:List AA)(g b:Ai)(hl:l.length<=1000):yS 15 [dC l g b [] 0] (.is (ids l)):=by
 refine zF AE Tryz.func15 ?_;refine A9 LH ?_ [] [2];refine BG (A8.ES 1 0 (.is []) rfl rfl rfl rfl trivial) sm ?_;refine Ax LH ?_ (BJ [] (J9 l));obtain⟨If,hI⟩:∃If:Nat->Ai,If=fun k=>ids (l.take k):=⟨_,rfl⟩
 have hI0:If 0=[]:=by rw[hI];rfl
 have hIl:If l.length=ids l:=by rw[hI];dsimp only;rw[q06]
 have hIs:∀k x,l[k]? =some x->If (k+1)=If k++[x.A7.id]:=fun k x hx=>by rw[hI];dsimp only;rw[AY hx];unfold ids;rw[q0f];rfl
 have hIn:∀k,k<=l.length->(If k).length<=1000:=fun k hk=>by rw[hI];unfold ids;simp only[q08,q0D];omega
 rw[<-hIl];clear hI hIl;refine zG (K:=fun r _ H'=>H'=[bC l g b [] 0,.c [.sl 2 (If l.length).length 1],.a (.is (If l.length)),.c [.d (Ak l)],.lp r]) ?_ ?_
 .intro r hr;refine zT AE Tryz.func63 ?_;refine A9 IH ?_;have hk:=hr.ok (k:=4) rfl;refine CM (fun k:Nat=>k<=l.length) (fun k:Nat=>[(6,.yO k)]) (fun k=>[(2,.a (.is (If k))),(1,.c [.sl 2 (If k).length 1])]) (fun k=>l.length-k) 0 (zi _) (fun _=>rfl) (fun _=>rfl) ?_ ?_
  .rw[hI0];exact A8.ck rfl
  intro k hkk;have hn:=hIn k hkk
  by_cases hkl:k<l.length
  .obtain⟨x,hx⟩:=Ah hkl;have h1:=hIs k x hx
   have hY:YT Tryz.prog 4 [.yO k,.dp x.A4] [bC l g b [] 0,.c [.sl 2 (If k).length 1],.a (.is (If k)),.c [.d (Ak l)],.lp r] fun v K=>v= .yP true/\K=[bC l g b [] 0,.c [.sl 2 (If (k+1)).length 1],.a (.is (If (k+1))),.c [.d (Ak l)],.lp r]:=by
    refine Ar hr rfl rfl rfl ?_;refine A9 LH ?_;refine zR ?_;refine A9 LH ?_;exact⟨⟨[],[bC l g b [] 0,.c [.sl 2 (If (k+1)).length 1],.a (.is (If (k+1))),.c [.d (Ak l)],.lp r.busy],_⟩,(have nC:=h1;A8.cn rfl),zN _,rfl,rfl,rfl⟩
   have ix1:=hx;have q1:=@hY;refine A9 IH ?_;clear q1 ix1;with_reducible repeat' first|constructor|intro hc
   refine⟨k+1,hkl,om,zN _,?_⟩;exact A8.ck rfl
  .have e:k=l.length:=om
   subst e;refine A9 IH ?_;with_reducible repeat' first|constructor|intro hc
   exact⟨_,A8.refl _,zN _,_,_,rfl,rfl,rfl⟩
 .rintro r hr y H' rfl;refine .inl ⟨rfl,?_⟩;refine A9 LH ?_;exact zE
end Nd
end Go.Proofs.YtamjpnmjpponpaaGreatDoor
