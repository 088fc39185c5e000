/- Part 24 of a proof. Conditions: those that its theorems state. -/
import Derived.Test.YtkljbfejbakooaaGreatDoorS16
import Derived.Test.YtkljbfejbakooaaGreatDoorS21
set_option linter.unusedSimpArgs false
set_option linter.unusedVariables false
set_option maxHeartbeats 40000000
set_option maxRecDepth 4000
namespace Go.Proofs.YtkljbfejbakooaaGreatDoor
namespace Nd
open Go.Gar
open Wi (A2 B5 AU A5 B6 B7 Ad)
abbrev CR:Call:=⟨0,A5,0,0,0,0⟩
def B1(c:Calls)(m:A2)(why ref now:Int):Calls×A2×Int:=
 if BG c then
  (if c.op.length=16\/c.many=1048576 then(c,A5,100)
   else
    let q:A2:={m with call:=c.id*1048576+(c.many+1),src:=c.id}
    if Gz now&&(q.asks&&q.right)then(⟨c.id,c.many+1,c.op++[⟨c.id*1048576+(c.many+1),q,why,ref,now,1⟩]⟩,q,0)else(c,A5,2))
 else(c,A5,2)
def Mb(id:Int)(m:A2)(x:Call):Bool:=decide (m.call=x.id)&&(decide (m.src=x.msg.dst)&&(decide (m.dst=id)&&decide (m.kind=x.msg.kind+6)))
def Ar(c:Calls)(m:A2):Calls×Call×Bool:=
 if BG c&&m.right then
  (match c.op.find? (Mb c.id m)with
   |some x=>(⟨c.id,c.many,c.op.filter fun y=> !Mb c.id m y⟩,x,true)
   |none=>(c,CR,false))
 else(c,CR,false)
def Be(l:List Past)(src call:Int):A2×Bool:=
 match l.find? (fun p=>decide (p.src=src)&&decide (p.call=call))with
 |some p=>(p.told,true)
 |none=>(A5,false)
def Cq(l:List Past)(told:A2):List Past:=
 if told.right&& !told.asks then
  (if(Be l told.dst told.call).2 then l
   else(l++[(⟨told.dst,told.call,told⟩:Past)]).drop ((l.length+1)-40))
 else l
def BQ(m:A2):A2:=if m.asks then⟨m.kind+6,m.call,m.dst,m.src,0,false,false,0,0,[],AA,0⟩else A5
def JP(v:View)(x:Int):Bool:=(Ai x&&decide (x≠v.id))&&(decide (v.pred= -1)||Ir v.pred x v.id)
def DI(v:View)(x:Int):View:=if AS v&&JP v x then{v with pred:=x}else v
def MQ(v:View)(m:A2):A2:=
 if(AS v&&decide (m.kind=4))&&(decide (m.dst=v.id)&&m.right)then{BQ m with place:=(FY v m.key m.slow).1,done:=(FY v m.key m.slow).2}else A5
def Bc(n:Node)(m:A2):Bool:=(m.asks&&m.right)&&(decide (m.dst=n.view.id)&&Ak n)
def BD(n:Node)(m:A2):Node×A2:=
 let t:=BQ m
 if m.kind=1 then(n,{t with pred:=n.view.pred,list:=n.view.list})
 else if m.kind=2 then(n,t)
 else if m.kind=3 then({n with view:=DI n.view m.src},t)
 else if m.kind=4 then(n,MQ n.view m)
 else if m.kind=5 then({n with keep:=(Dx n.keep m.item).1},{t with code:=(Dx n.keep m.item).2})
 else if m.kind=6 then(n,{t with item:=(Cf n.keep m.item.key).1,code:=(Cf n.keep m.item.key).2})
 else(n,A5)
def AK(n:Node)(m:A2):Node×A2:=
 if Bc n m then
  (if(Be n.seen m.src m.call).2 then(n,(Be n.seen m.src m.call).1)
   else({(BD n m).1 with seen:=Cq n.seen (BD n m).2},(BD n m).2))
 else(n,A5)
abbrev NS:Type:=Node×List Fl
def NP(m:A2):List Fl:=if(B7 m).2=0 then[⟨m.dst,(B7 m).1,false⟩]else[]
def IA(s:NS)(a:A2×Int):NS:=
 if(B1 s.1.calls a.1 a.2 0 s.1.clock).2.2=0 then({s.1 with calls:=(B1 s.1.calls a.1 a.2 0 s.1.clock).1},s.2++NP (B1 s.1.calls a.1 a.2 0 s.1.clock).2.1)
 else(Ee s.1 a.2,s.2)
def Fe(s:NS)(l:List (A2×Int)):NS:=l.foldl IA s
def IV(g:List Fl)(r:Node×List (A2×Int)):NS:=Fe (r.1,g) r.2
def Cs(n:Node)(b:List UInt8):NS:=
 if Ak n then
  (if(Ad b).2≠0\/(Ad b).1.dst≠n.view.id then({n with bad:=if n.bad<1099511627776 then n.bad+1 else n.bad},[])
   else if(Ad b).1.asks then((AK n (Ad b).1).1,NP (AK n (Ad b).1).2)
   else if(Ar n.calls (Ad b).1).2.2 then IV [] (BS {n with calls:=(Ar n.calls (Ad b).1).1} (Ar n.calls (Ad b).1).2.1 (Ad b).1)
   else(n,[]))
 else(n,[])
end Nd
end Go.Proofs.YtkljbfejbakooaaGreatDoor
namespace Go.Proofs.YtkljbfejbakooaaGreatDoor
namespace Nd
open Go.Gar
open Wi (A2 B5 AU A5 B6 mC B7 Ad)
abbrev M4:List Nat:=[0,1,2,3,4,5,6]
theorem iJ(c:Calls)(x:Call)(m:A2)(hk:1<=x.msg.kind/\x.msg.kind<=6):qB 127 [c.d,x.d,m.d] (.b (Mb c.id m x)):=by
 have hT:Mb c.id m x=(decide (m.call=x.id)&&(decide (m.src=x.msg.dst)&&(decide (m.dst=c.id)&&decide (m.kind=x.msg.kind+6)))):=rfl;have f5:(x.msg.kind+6)%256=x.msg.kind+6:=om
 rw[hT];clear hT;refine zF A4 Tryz.func127 ?_;unfold Wi.A2.d Wi.A2.cells Call.d Call.cells Calls.d Calls.cells
 by_cases h1:m.call=x.id
 case neg=>
  have f1:=eq_false' h1;rw[qO h1,uH];refine wd M4 [] (A6 f1) A0 ?_;exact zE
 case pos=>
 have f1:=A9 h1;rw[qM h1,rC]
 by_cases h2:m.src=x.msg.dst
 case neg=>
  have f2:=eq_false' h2;rw[qO h2,uH];refine wd M4 [] (AX f1 f2) A0 ?_;exact zE
 case pos=>
 have f2:=A9 h2;rw[qM h2,rC]
 by_cases h3:m.dst=c.id
 case neg=>
  have f3:=eq_false' h3;rw[qO h3,uH];refine wd M4 [] (C3 f1 f2 f3) A0 ?_;exact zE
 case pos=>
 have f3:=A9 h3;rw[qM h3,rC]
 by_cases h4:m.kind=x.msg.kind+6
 .have f4:=A9 h4;rw[qM h4];refine wd M4 [] (NU f1 f2 f3 f4 f5) A0 ?_;exact zE
 .have f4:=eq_false' h4;rw[qO h4];refine wd M4 [] (NU f1 f2 f3 f4 f5) A0 ?_;exact zE
end Nd
end Go.Proofs.YtkljbfejbakooaaGreatDoor
