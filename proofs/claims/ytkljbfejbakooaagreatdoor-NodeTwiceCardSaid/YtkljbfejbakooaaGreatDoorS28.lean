/- Part 28 of a proof. Conditions: those that its theorems state. -/
import Derived.Test.YtkljbfejbakooaaGreatDoorS17
import Derived.Test.YtkljbfejbakooaaGreatDoorS25
set_option linter.unusedSimpArgs false
set_option linter.unusedVariables false
set_option maxHeartbeats 40000000
set_option maxRecDepth 4000
namespace Go.Proofs.YtkljbfejbakooaaGreatDoor
namespace Wi
open Go.Gar
abbrev Gi:List Nat:=[0,2,3,4,5,6,9,30]
abbrev Ez:List Nat:=[0,2,3,4,5,6,7,8,9,10,24,46,61]
theorem eK(b:List UInt8)(hb:b.length<70368744177664):qB 59 [.by b] (.tup [.by (B1 b).1,.i .i64 (B1 b).2]):=by
 rw[<-dy];refine zF A4 Tryz.func59 ?_
 by_cases h8:b.length<8
 .have e:P0 b=([],11):=if_pos h8;refine wd Gi [] A0 A0 ?_;with_reducible repeat' first|constructor|intro hc;try simp only[AB]at hc
  exact Ag e
 have e1:((b.length:Int)-4).toNat=b.length-4:=om
 have hc:=QU ((b.take (b.length-4)).drop 4);have e0:P0 b=if(Bi ((b.take (b.length-4)).drop 4)).2=0/\(Bi ((b.take (b.length-4)).drop 4)).1=b then((b.take (b.length-4)).drop 4,0)else([],12):=if_neg h8
 refine wd Gi [] (A6 e1) A0 ?_;with_reducible repeat' first|constructor|intro hc;try simp only[AB]at hc
 generalize hp:(b.take (b.length-4)).drop 4=p at*
 by_cases hz:(Bi p).2=0
 .have f:=BF hz
  by_cases hq:(Bi p).1=b
  .have e:P0 b=(p,0):=by rw[e0,if_pos ⟨hz,hq⟩]
   have f2:((Bi p).1==b)=true:=by simp[hq]
   refine wd Gi [] (AX f f2) (A6 @hc) ?_;exact Ag e
  .have e:P0 b=([],12):=by rw[e0,if_neg (fun h=>hq h.2)]
   have f2:((Bi p).1==b)=false:=by simp[hq]
   refine wd Gi [] (AX f f2) (A6 @hc) ?_;exact Ag e
 .have e:P0 b=([],12):=by rw[e0,if_neg (fun h=>hz h.1)]
  have f:=BJ hz;refine wd Gi [] (A6 f) (A6 @hc) ?_;exact Ag e
theorem eL(b:List UInt8)(hb:b.length<70368744177664):qB 60 [.by b] (.tup [(DY b).1.d,.i .i64 (DY b).2]):=by
 rw[<-UX];have hn:=C2 b 4 hb (by decide);have hg:=@FN 4 b;have hln:=@D7 4 b;refine zF A4 Tryz.func60 ?_
 cases hp:BC 4 b with
 |none=>
  have e:FQ b=(A5,12):=by unfold FQ;rw[hp]
  rw[hp]at hn;unfold DJ at hn;unfold A2.d A2.cells;refine wd Ez [] A0 (A6 @hn) ?_;exact Ag (qQ e (qQ @A5.eq_1 @AA.eq_1))
 |some p=>
  obtain⟨l,r⟩:=p;obtain⟨hl1,hl2⟩:=hln hp;have hg:=hg hp
  obtain⟨k,c,s,d,rfl⟩:∃k c s d,l=[k,c,s,d]:=by
   rcases l with _|⟨k,_|⟨c,_|⟨s,_|⟨d,_|⟨x,t⟩⟩⟩⟩⟩<;>first|exact⟨_,_,_,_,rfl⟩|(simp at hl1)
  have hk:=hg k sm;rw[hp]at hn;unfold DJ at hn
  by_cases h13:k>=13
  .have e:FQ b=(A5,12):=by unfold FQ;rw[hp];exact if_pos h13
   unfold A2.d A2.cells;refine wd Ez [] A0 (A6 @hn) ?_;with_reducible repeat' first|constructor|intro hc;try simp only[AB]at hc
   exact Ag (qQ e (qQ @A5.eq_1 @AA.eq_1))
  have ek:k%256=k:=om
  have hm:=de ⟨k,c,s,d,0,false,false,0,0,[],AA,0⟩ r om;have hl:=Oq ⟨k,c,s,d,0,false,false,0,0,[],AA,0⟩ r (qP _)
  have e0:FQ b=if(BB ⟨k,c,s,d,0,false,false,0,0,[],AA,0⟩ r).2=true/\(BB ⟨k,c,s,d,0,false,false,0,0,[],AA,0⟩ r).1.right=true/\B4 (BB ⟨k,c,s,d,0,false,false,0,0,[],AA,0⟩ r).1=b then((BB ⟨k,c,s,d,0,false,false,0,0,[],AA,0⟩ r).1,0)else(A5,12):=by
   unfold FQ;rw[hp];exact if_neg h13
  rcases hM:BB ⟨k,c,s,d,0,false,false,0,0,[],AA,0⟩ r with⟨m,is⟩;rw[hM]at hm hl e0;simp only at hl e0;have hP:=N9 m om;unfold ID at hP
  cases is with
  |false=>
   have e:FQ b=(A5,12):=by rw[e0,if_neg (fun h=>Bool.noConfusion h.1)]
   unfold A2.d A2.cells at *;simp only[AA]at hm;have z1:=@hm;refine wd Ez [] (A6 ek) (A6 @hn) ?_;clear z1;with_reducible repeat' first|constructor|intro hc;try simp only[AB]at hc
   exact Ag (qQ e (qQ @A5.eq_1 @AA.eq_1))
  |true=>
   cases hr:m.right with
   |false=>
    have e:FQ b=(A5,12):=by rw[e0,if_neg (fun h=>by rw[hr]at h;exact Bool.noConfusion h.2.1)]
    rw[hr,if_neg (by decide)]at hP;unfold A2.d A2.cells at *;simp only[AA]at hm;have z1:=@hm;refine wd Ez [] (A6 ek) (AX @hn @hP) ?_;clear z1;with_reducible repeat' first|constructor|intro hc;try simp only[AB]at hc
    exact Ag (qQ e (qQ @A5.eq_1 @AA.eq_1))
   |true=>
    rw[hr,if_pos rfl]at hP
    by_cases hq:B4 m=b
    .have e:FQ b=(m,0):=by rw[e0,if_pos ⟨rfl,hr,hq⟩]
     have f2:(B4 m==b)=true:=by simp[hq]
     unfold A2.d A2.cells at *;simp only[AA]at hm;have z1:=@hm;refine wd Ez [] (AX ek f2) (AX @hn @hP) ?_;clear z1;with_reducible repeat' first|constructor|intro hc;try simp only[AB]at hc
     exact Ag e
    .have e:FQ b=(A5,12):=by rw[e0,if_neg (fun h=>hq h.2.2)]
     have f2:(B4 m==b)=false:=by simp[hq]
     unfold A2.d A2.cells at *;simp only[AA]at hm;have z1:=@hm;refine wd Ez [] (AX ek f2) (AX @hn @hP) ?_;clear z1;with_reducible repeat' first|constructor|intro hc;try simp only[AB]at hc
     exact Ag (qQ e (qQ @A5.eq_1 @AA.eq_1))
theorem UQ(m:A2)(hl:m.list.length<9223372036854775807):qB 68 [m.d] (.tup [.by (B7 m).1,.i .i64 (B7 m).2]):=by
 have hP:=N9 m hl
 cases h:m.right with
 |false=>
  have e:B7 m=([],2):=by unfold B7;rw[h];rfl
  have e2:ID m=([],2):=by unfold ID;rw[h];rfl
  rw[e2]at hP;unfold A2.d A2.cells at *;refine zF A4 Tryz.func68 ?_;refine wd [0,1,2,3,4,5,12] [] A0 (A6 @hP) ?_;exact Ag e
 |true=>
  have e:B7 m=Bi (B4 m):=by unfold B7;rw[h];rfl
  have e2:ID m=(B4 m,0):=by unfold ID;rw[h];rfl
  have hC:=QU (B4 m);rw[e2]at hP;unfold A2.d A2.cells at *;refine zF A4 Tryz.func68 ?_;refine wd [0,1,2,3,4,5,12] [] A0 (AX @hP @hC) ?_;exact Ag e
theorem ZS(b:List UInt8):(B1 b).1.length<=112:=by
 obtain⟨p,e,h⟩:∃p e,B1 b=(p,e):=⟨_,_,rfl⟩;rw[h];rcases UF h with⟨_,h2,_⟩|⟨_,_,h3⟩|⟨_,_,h3⟩
 .exact h2
 .rw[h3];exact qP _
 .rw[h3];exact qP _
theorem Zh(b:List UInt8)(hb:b.length<70368744177664):qB 17 [.by b] (.tup [(Ad b).1.d,.i .i64 (Ad b).2]):=by
 have hO:=eK b hb;have hol:=ZS b;refine zF A4 Tryz.func17 ?_
 by_cases h:(B1 b).2=0
 .have e:Ad b=DY (B1 b).1:=if_pos h;have hR:=eL (B1 b).1 om;have f:=BF h;unfold A2.d A2.cells at *;refine wd [0,2,3,4,5,12] [] (A6 f) (AX @hO @hR) ?_;exact Ag e
 .have e:Ad b=(A5,(B1 b).2):=if_neg h;have f:=BJ h;unfold A2.d A2.cells;refine wd [0,2,3,4,5,12] [] (A6 f) (A6 @hO) ?_;exact Ag (qQ e (qQ @A5.eq_1 @AA.eq_1))
end Wi
end Go.Proofs.YtkljbfejbakooaaGreatDoor
namespace Go.Proofs.YtkljbfejbakooaaGreatDoor
namespace Nd
open Go.Gar
open Wi (A2 B5 AU A5 B6 mC B7 Ad)
theorem hU(g:Fl):qB 69 [.agg g.cells,.agg g.cells] (.b true):=by
 refine zF A4 Tryz.func69 ?_;have f1:(g.to==g.to)=true:=A9 rfl;have f2:(g.by_==g.by_)=true:=by simp
 have f3:(g.harmed==g.harmed)=true:=by simp
 unfold Fl.cells;refine wd [0,1,2,3,4] [] (C3 f1 f2 f3) A0 ?_;exact zE
theorem cp(l:List Fl)(hn:l.length<=1048576):qB 22 [KV l,KV l] (.b true):=by
 have f0:((l.length:Int)==(l.length:Int))=true:=A9 rfl;refine zF A4 Tryz.func22 ?_;refine wd [0,1,4,5,10,14,26] [] (A6 f0) A0 ?_;refine CF (fun k=>k<=l.length) (fun k:Nat=>[(5,.pY k)]) (fun k=>l.length-k) 0 (qP _) (fun _=>rfl) ?_ ?_
 .exact A1.ck rfl
 intro k hk
 by_cases hkl:k<l.length
 .have f1:decide ((k:Int)<(l.length:Int))=true:=qM om;obtain⟨x,hx⟩:=AT hkl;have c1:=hU x;unfold Fl.cells at c1;have ix1:=hx;refine wd [0,1,4,5,10,14,26] [] (A6 f1) (A6 @c1) ?_;clear ix1;refine⟨k+1,hkl,om,qG _,?_⟩;exact A1.ck rfl
 .have f1:decide ((k:Int)<(l.length:Int))=false:=qO om;refine wd [0,1,4,5,10,14,26] [] (A6 f1) A0 ?_;exact zE
theorem iU(m:A2)(hm:m.list.length<9223372036854775807):qB 21 [m.d] (.by (B7 m).1):=by
 have c1:=Wi.UQ m hm;refine zF A4 Tryz.func21 ?_;unfold Wi.A2.d Wi.A2.cells at *;refine wd [0,1,2,3] [] A0 (A6 @c1) ?_;exact zE
theorem QT{m:A2}(h:m.right=true):(B7 m).1.length<70368744177664:=by
 have:=Wi.J9 h;rw[Wi.S9 h,Wi.GA om];simp only[qj];have h1:(Wi.hdr (Wi.B4 m).length).length<=100:=by unfold Wi.hdr;simp
 have h2:∀n,(Wi.be4 n).length<=100:=fun n=>by unfold Wi.be4;simp
 have:=h2 (Wi.Ic (Wi.hdr (Wi.B4 m).length++Wi.B4 m));omega
end Nd
end Go.Proofs.YtkljbfejbakooaaGreatDoor
