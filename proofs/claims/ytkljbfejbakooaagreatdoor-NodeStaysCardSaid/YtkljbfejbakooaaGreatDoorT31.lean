/- Part 31 of a proof. Conditions: those that its theorems state. -/
import Derived.Test.YtkljbfejbakooaaGreatDoorT29
import Derived.Test.YtkljbfejbakooaaGreatDoorT30
set_option linter.unusedSimpArgs false
set_option linter.unusedVariables false
set_option maxHeartbeats 40000000
set_option maxRecDepth 4000
namespace Go.Proofs.YtkljbfejbakooaaGreatDoor
namespace Wi
open Go.Gar
def C6(m:AC):AJ×Int:=if m.right then Cu (By m)else([],2)
def BP(b:AJ):AC×Int:=if(Bt b).2=0 then Ev (Bt b).1 else(AN,(Bt b).2)
theorem Vb{m:AC}(h:m.right=true):C6 m=((Cu (By m)).1,0):=by
 have:=L9 h;unfold C6;rw[if_pos h,Hp om]
theorem iK(m:AC)(hl:m.A8.length<9223372036854775807):xB 123 [m.d] (.tup [.by (C6 m).1,.i .i64 (C6 m).2]):=by
 have hP:=YZ m hl
 cases h:m.right with
 |false=>
  have e:C6 m=([],2):=by unfold C6;rw[h];rfl
  have e2:K0 m=([],2):=by unfold K0;rw[h];rfl
  rw[e2]at hP;unfold AC.d AC.A0 at *;refine zF AF Tryz.func123 ?_;refine wd [0,1,2,3,4,5,12] [] A4 (AM @hP) ?_;exact BL e
 |true=>
  have e:C6 m=Cu (By m):=by unfold C6;rw[h];rfl
  have e2:K0 m=(By m,0):=by unfold K0;rw[h];rfl
  have hC:=hU (By m);rw[e2]at hP;unfold AC.d AC.A0 at *;refine zF AF Tryz.func123 ?_;refine wd [0,1,2,3,4,5,12] [] A4 (Ax @hP @hC) ?_;exact BL e
theorem N9(b:AJ)(hb:b.length<70368744177664):xB 43 [.by b] (.tup [(BP b).1.d,.i .i64 (BP b).2]):=by
 have hO:=nw b hb;refine zF AF Tryz.func43 ?_
 by_cases h:(Bt b).2=0
 .have e:BP b=Ev (Bt b).1:=if_pos h;have hR:=o0 (Bt b).1;have f:=C2 h;unfold AC.d AC.A0 at *;refine wd [0,2,3,4,5,12] [] (AM f) (Ax @hO @hR) ?_;exact BL e
 .have e:BP b=(AN,(Bt b).2):=if_neg h;have f:=C4 h;unfold AC.d AC.A0;refine wd [0,2,3,4,5,12] [] (AM f) (AM @hO) ?_;exact BL (xU e (xU @AN.eq_1 @AY.eq_1))
theorem am:AN.right=false:=by decide +kernel
theorem nI{m:AC}(h:m.right=true):BP (Cu (By m)).1=(m,0):=by
 have:=L9 h;unfold BP;rw[SN om];simp only[yG,Y7 h]
end Wi
end Go.Proofs.YtkljbfejbakooaaGreatDoor
namespace Go.Proofs.YtkljbfejbakooaaGreatDoor
namespace Nd
open Go.Gar
open Wi (AC Bp BE AN Bc C6 BP)
abbrev Cn:AW:=⟨0,AN,0,0,0,0⟩
def Bt(c:Calls)(m:AC)(BQ ref now:Int):Calls×AC×Int:=
 if Bs c then
  (if c.op.length=16\/c.AU=1048576 then(c,AN,100)
   else
    let q:AC:={m with Aa:=c.id*1048576+(c.AU+1),As:=c.id}
    if DJ now&&(q.BN&&q.right)then(⟨c.id,c.AU+1,c.op++[⟨c.id*1048576+(c.AU+1),q,BQ,ref,now,1⟩]⟩,q,0)else(c,AN,2))
 else(c,AN,2)
def Q2(id:Int)(m:AC)(x:AW):Bool:=decide (m.Aa=x.id)&&(decide (m.As=x.Ao.dst)&&(decide (m.dst=id)&&decide (m.AR=x.Ao.AR+6)))
def D9(c:Calls)(m:AC):Calls×AW×Bool:=
 if Bs c&&m.right then
  (match c.op.find? (Q2 c.id m)with
   |some x=>(⟨c.id,c.AU,c.op.filter fun y=> !Q2 c.id m y⟩,x,true)
   |none=>(c,Cn,false))
 else(c,Cn,false)
def MW(BA:Int):Int:=if BA<1 then 0 else if BA=1 then 1 else if BA=2 then 2 else 4
def Dc(now:Int)(x:AW):Bool:=decide (3<=x.BA)&&decide (now-x.C0>=MW x.BA)
def MK(now:Int)(x:AW):Bool:=(decide (1<=x.BA)&&decide (x.BA<3))&&decide (now-x.C0>=MW x.BA)
def HC(now:Int)(x:AW):AW:=if MK now x then⟨x.id,x.Ao,x.BQ,x.ref,now,x.BA+1⟩else x
def CH(c:Calls)(now:Int):Calls×List AC×List AW:=
 if Bs c&&DJ now then
  (⟨c.id,c.AU,(c.op.filter fun x=> !Dc now x).map (HC now)⟩,((c.op.filter fun x=> !Dc now x).filter (MK now)).map (·.Ao),c.op.filter (Dc now))
 else(c,[],[])
def NP(c:Calls)(BQ:Int):AW×Bool:=
 if Bs c then
  (match c.op.find? (fun x=>decide (x.BQ=BQ))with
   |some x=>(x,true)
   |none=>(Cn,false))
 else(Cn,false)
def Cr(l:List Past)(As Aa:Int):AC×Bool:=
 match l.find? (fun p=>decide (p.As=As)&&decide (p.Aa=Aa))with
 |some p=>(p.AE,true)
 |none=>(AN,false)
def EJ(l:List Past)(AE:AC):List Past:=
 if AE.right&& !AE.BN then
  (if(Cr l AE.dst AE.Aa).2 then l
   else(l++[(⟨AE.dst,AE.Aa,AE⟩:Past)]).drop ((l.length+1)-40))
 else l
def CV(m:AC):AC:=if m.BN then⟨m.AR+6,m.Aa,m.dst,m.As,0,false,false,0,0,[],AY,0⟩else AN
def LQ(v:AD)(x:Int):Bool:=(BW x&&decide (x≠v.id))&&(decide (v.AG= -1)||Ee v.AG x v.id)
def Eg(v:AD)(x:Int):AD:=if Al v&&LQ v x then{v with AG:=x}else v
def Oj(v:AD)(m:AC):AC:=
 if(Al v&&decide (m.AR=4))&&(decide (m.dst=v.id)&&m.right)then{CV m with AT:=(Eo v m.AH m.B4).1,done:=(Eo v m.AH m.B4).2}else AN
def D3(n:AA)(m:AC):Bool:=(m.BN&&m.right)&&(decide (m.dst=n.A7.id)&&Av n)
def CF(n:AA)(m:AC):AA×AC:=
 let t:=CV m
 if m.AR=1 then(n,{t with AG:=n.A7.AG,A8:=n.A7.A8})
 else if m.AR=2 then(n,t)
 else if m.AR=3 then({n with A7:=Eg n.A7 m.As},t)
 else if m.AR=4 then(n,Oj n.A7 m)
 else if m.AR=5 then({n with keep:=(FI n.keep m.A9).1},{t with AQ:=(FI n.keep m.A9).2})
 else if m.AR=6 then(n,{t with A9:=(E6 n.keep m.A9.AH).1,AQ:=(E6 n.keep m.A9.AH).2})
 else(n,AN)
def BH(n:AA)(m:AC):AA×AC:=
 if D3 n m then
  (if(Cr n.BO m.As m.Aa).2 then(n,(Cr n.BO m.As m.Aa).1)
   else({(CF n m).1 with BO:=EJ n.BO (CF n m).2},(CF n m).2))
 else(n,AN)
abbrev NS:Type:=AA×List Dp
def GG(m:AC):List Dp:=if(C6 m).2=0 then[⟨m.dst,(C6 m).1,false⟩]else[]
def P6(s:NS)(a:AC×Int):NS:=
 if(Bt s.1.AX a.1 a.2 0 s.1.Aj).2.2=0 then({s.1 with AX:=(Bt s.1.AX a.1 a.2 0 s.1.Aj).1},s.2++GG (Bt s.1.AX a.1 a.2 0 s.1.Aj).2.1)
 else(GL s.1 a.2,s.2)
def FC(s:NS)(l:List (AC×Int)):NS:=l.foldl P6 s
def Ei(g:List Dp)(r:AA×List (AC×Int)):NS:=FC (r.1,g) r.2
def L0(s:NS):NS:=
 (CH s.1.AX s.1.Aj).2.2.foldl (fun s x=>Ei s.2 (Cv s.1 x)) ({s.1 with AX:=(CH s.1.AX s.1.Aj).1},s.2++(CH s.1.AX s.1.Aj).2.1.flatMap GG)
def Ko(j:An):Bool:=decide (j.A5=0)||decide (j.A5=5)
def Cc(v:AD)(A5 B8:Int):(Int×Int)×List (AC×Int):=
 if(Al v&&CZ A5 B8)&&decide (A5=0)then((1,FK v),GK 1 (FK v))else((A5,B8),[])
def K5(s:NS):NS:=
 let b:=Cc s.1.A7 s.1.A5 s.1.B8
 FC ({s.1 with A5:=b.1.1,B8:=b.1.2},s.2) b.2
def Pn(v:AD):Int×Bool:=if Al v&&decide (v.AG≠ -1)then(v.AG,true)else(0,false)
def LA(s:NS):NS:=
 if(Pn s.1.A7).2&& !(NP s.1.AX 4).2 then FC s [(⟨2,0,0,(Pn s.1.A7).1,0,false,false,0,0,[],AY,0⟩,4)]else s
def IP(v:AD):Nat->Nat->(Nat->Int)->(Nat->Int)×wk
 |0,_,f=>(f,none)
 |k+1,i,f=>if JY v.id (X5 v.id i) (FK v)then IP v k (i+1) (Vq f i (if FK v=v.id then -1 else FK v))else(f,some i)
def walkT(v:AD)(i:Int):AD×Int×Int×Bool:=
 if Al v then
  let i0:=if 0<=i/\i<16 then i.toNat else 0
  match IP v (16-i0) i0 v.f with
  |(f,none)=>({v with f:=f},0,0,false)
  |(f,some k)=>({v with f:=f},k,X5 v.id k,true)
 else(v,0,0,false)
def G9(s:NS):NS:=
 if Ko s.1.AP then
  let r:=walkT s.1.A7 s.1.next;let n:={s.1 with A7:=r.1,next:=r.2.1}
  if r.2.2.2 then Ei s.2 (Bh n 5 1 r.2.2.1 AY)else(n,s.2)
 else s
def Fi(k:List AK)(AH:AJ):AK×Bool:=
 if decide (0<k.length)&&Ck k then
  let Cj:=if hasK k AH then CY k AH+1 else CY k AH
  (k.getD (if k.length<=Cj then 0 else Cj) AY,true)
 else(AY,false)
def Hh(s:NS):NS:=
 if Ko s.1.Ai&&(Fi s.1.keep s.1.last).2 then
  let x:=(Fi s.1.keep s.1.last).1
  Ei s.2 (Bh {s.1 with last:=x.AH} 6 2 0 x)
 else s
def GP(n:AA):NS:=
 if n.Aj>=1099511627776\/Av n=false then(n,[])
 else Hh (G9 (LA (K5 (L0 ({n with Aj:=n.Aj+1},[])))))
def HV(n:AA)(b:AJ):NS:=
 if Av n then
  (if(BP b).2≠0\/(BP b).1.dst≠n.A7.id then({n with bad:=if n.bad<1099511627776 then n.bad+1 else n.bad},[])
   else if(BP b).1.BN then((BH n (BP b).1).1,GG (BH n (BP b).1).2)
   else if(D9 n.AX (BP b).1).2.2 then Ei [] (Cd {n with AX:=(D9 n.AX (BP b).1).1} (D9 n.AX (BP b).1).2.1 (BP b).1)
   else(n,[]))
 else(n,[])
def UY(AL:Int)(x:AK):Bool:=(decide (AL=2)&&BE x)||(decide (AL=3)&&Bc x.AH)
def OW(n:AA)(AL:Int)(x:AK):NS×Int:=
 if Av n&&UY AL x then
  (if Ko n.Ah then(Ei [] (Bh n 7 AL 0 x),0)else((n,[]),100))
 else((n,[]),2)
def L1(n:AA)(i:Nat)(x:AK):AC:=⟨5,(Gx n.A7.id (n.AX.AU+1+i)).1,n.A7.id,FK n.A7,0,false,false,0,0,[],x,0⟩
def Fb(n:AA):Nat->List AK->List Dp
 |_,[]=>[]
 |i,x::r=>if(Gx n.A7.id (n.AX.AU+1+i)).2=0 then GG (L1 n i x)++Fb n (i+1) r else[]
def Iz(n:AA):List Dp:=if Av n then Fb n 0 n.keep else[]
end Nd
end Go.Proofs.YtkljbfejbakooaaGreatDoor
namespace Go.Proofs.YtkljbfejbakooaaGreatDoor
namespace Nd
open Go.Gar
open Wi (AC Bp BE AN Bc mC C6 BP)
theorem jr(v:AD)(i:Int)(hv:Al v=true)(h0:0<=i)(h1:i<16)(hb:v.AB.length<=1000)(hl:v.A8.length<=1000):xB 172 [v.d,.i .i64 i] (.tup [.i .i64 (if JY v.id (X5 v.id i) (FK v)then FK v else 0),.b (JY v.id (X5 v.id i) (FK v))]):=by
 have c1:=bZ v i hb hl;rw[xM h0,xM h1,hv]at c1;simp only[zh,yG]at c1;have c2:=JZ v hb hl;have c3:=aw v.id (X5 v.id i) (FK v);generalize X5 v.id i=st at *;generalize FK v=fi at *;refine zF AF Tryz.func172 ?_;unfold AD.d AD.A0 at*
 cases hu:JY v.id st fi with
 |true=>
  rw[hu]at c3;refine wd [0,1,2,4,5,6,7,8,16,24] [] A4 (Ci @c1 @c2 @c3) ?_;exact zE
 |false=>
  rw[hu]at c3;refine wd [0,1,2,4,5,6,7,8,16,24] [] A4 (Ci @c1 @c2 @c3) ?_;exact zE
theorem kA(i:Int):xC 171 [.wo i] [] (.fn (.func 253) [] [.ptr 0 0 1]) [.c [.wo i]]:=by
 refine zD AF Tryz.func171 ?_;refine wd [0,1,2] [] A4 A4 ?_;exact⟨_,(A6.ck rfl),xQ _,_,_,rfl,rfl,rfl,rfl⟩
end Nd
end Go.Proofs.YtkljbfejbakooaaGreatDoor
