/- Part 8 of a proof. Conditions: those that its theorems state. -/
import Derived.Test.YtkljbfejbakooaaGreatDoorT07
set_option linter.unusedSimpArgs false
set_option linter.unusedVariables false
set_option linter.unnecessarySimpa false
set_option maxHeartbeats 40000000
set_option maxRecDepth 4000
namespace Go.Gar
abbrev Tm:=List (List (xL))
def L3:List (xL)->Nat->xL
 |[],_=>none
 |x::_,0=>x
 |_::r,k+1=>L3 r k
def L4:Tm->Nat->List (xL)
 |[],_=>[]
 |c::_,0=>c
 |_::r,k+1=>L4 r k
def KX(e:Tm)(t:Nat):xL:=L3 (L4 e (t/8)) (t%8)
def set1(x:AV):Nat->List (xL)->List (xL)
 |0,[]=>[some x]
 |0,_::r=>some x::r
 |k+1,[]=>none::set1 x k []
 |k+1,y::r=>y::set1 x k r
def TD(j:Nat)(x:AV):Nat->Tm->Tm
 |0,[]=>[set1 x j []]
 |0,c::r=>set1 x j c::r
 |k+1,[]=>[]::TD j x k []
 |k+1,c::r=>c::TD j x k r
def qN(t:Nat)(x:AV)(e:Tm):Tm:=TD (t%8) x (t/8) e
def LH(dst:Option Tmp)(x:AV)(e:Tm):Tm:=
 match dst with
 |some d=>qN d x e
 |none=>e
def gf(e:Tm):Nat->xF
 |0=>[]
 |m+1=>match KX e m with
  |some x=>(m,x)::gf e m
  |none=>gf e m
def ET(e:Tm):xF:=gf e (8*e.length)
def cW:xF->Tm
 |[]=>[]
 |p::r=>qN p.1 p.2 (cW r)
def small(e:Tm):Aw->xF
 |[]=>[]
 |t::r=>match KX e t with
  |some x=>(t,x)::small e r
  |none=>small e r
def fW(e:Tm):Operand->xL
 | .tmp t=>KX e t
 |o=>Db [] o
def resT:List ResultVar->Aw
 |[]=>[]
 | .tmp t::r=>t::resT r
 | .cell a _::r=>a::resT r
def upd(t:Nat)(x:AV):xF->xF
 |[]=>[(t,x)]
 |p::r=>match Nat.beq p.1 t with
  |true=>(t,x)::r
  |false=>p::upd t x r
mutual
def FJ(H:xS):AV->xL
 | .d x=>some (.d x)
 | .u=>some .u
 | .e0=>some .e0
 | .dp cs=>some (.dp cs)
 | .sl id n _=>match H[id]? with
  |some (.a x)=>match Nat.beq n (BK x)with
   |true=>some (.d x)
   |false=>none
  |_=>none
 | .ag cs=>match GH H cs with
  |some l=>some (.ag l)
  |none=>none
 | .tup cs=>match GH H cs with
  |some l=>some (.tup l)
  |none=>none
 | .fn f a b=>match GH H a,GH H b with
  |some p,some q=>some (.fn f p q)
  |_,_=>none
 |_=>none
def GH(H:xS):xD->Option (xD)
 |[]=>some []
 |x::r=>match FJ H x,GH H r with
  |some y,some l=>some (y::l)
  |_,_=>none
end
mutual
def wR:AV->Aw
 | .sl id _ _=>[id]
 | .ag cs| .tup cs=>PP cs
 | .fn _ a b=>PP a++PP b
 |_=>[]
def PP:xD->Aw
 |[]=>[]
 |x::r=>wR x++PP r
end
def oo(id:Nat)(x:D):xL->xL
 |some y=>some (y.Fu id x)
 |none=>none
def YQ(id:Nat)(x:D)(e:Tm):Tm:=e.map fun c=>c.map (oo id x)
def Mg:Aw->Tm->xS->Tm×xS
 |[],e,H=>(e,H)
 |id::r,e,H=>match H[id]? with
  |some (.a x)=>Mg r (YQ id x e) (EP id x 0 H)
  |_=>Mg r e H
def vT(E:Nat->Option Be)(e:Nat):D:=
 match E e with
 |some z=>match z.k with
  | .int .u8=> .by []
  | .int .i64=> .is []
  |_=> .sl z.size []
 |none=> .np
def je(E:Nat->Option Be):Nat->Nat->ww
 |0,_=>[]
 |k+1,t=>match E t with
  |some y=>match y.k with
   | .st fs=>fs.flatMap fun f=>je E k f.2
   | .arr n e=>(List.replicate n (je E k e)).flatten
   | .sl e=>[vT E e]
   |_=>y.zero.map fun _=> .np
  |none=>[]
def wZ:D->AV->AV
 | .by [],.e0=> .d (.by [])
 | .is [],.e0=> .d (.is [])
 | .sl n [],.e0=> .d (.sl n [])
 |_,x=>x
def uV:ww->xD->xD
 |q::l,x::r=>wZ q x::uV l r
 |_,r=>r
def e0A(l:ww):AV->AV
 | .ag cs=> .ag (uV l cs)
 |x=>match l with
  |[q]=>wZ q x
  |_=>x
def Wz(l:ww)(env:xF):List (Nat×Operand)->xF
 |[]=>env
 |p::r=>match p.2 with
  | .tmp t=>match get env t with
   |some x=>Wz l (upd t (e0A l x) env) r
   |none=>Wz l env r
  |_=>Wz l env r
def eK(E:Nat->Option Be)(env:xF)(op:Op):xL:=
 match op with
 | .buildSlice t len ps=>match E t with
  |some y=>match y.k with
   | .sl e=>match Jk E (Wz (je E 8 e) env ps.toList) [] op with
    |some (true,x)=>some x
    |_=>none
   |_=>none
  |none=>none
 |_=>none
def op1(E:Nat->Option Be)(env:xF)(H:xS)(op:Op):Option (AV×xS):=
 match(match op with| .call _=>Ob E env H op|_=>none)with
 |some (true,q)=>some (.sl H.length (BK q) (C7 q),H++[.a q])
 |_=>match eK E env op with
 |some x=>some (x,H)
 |none=>match Jk E env H op with
  |some (true,x)=>some (x,H)
  |_=>match gv E env H op with
   |some (true,f,b)=>some (f H.length,H++[b])
   |_=>match nk E env H op with
    |some (true,x,H')=>some (x,H')
    |_=>match Oe env op with
     |some (true,x)=>some (x,H)
     |_=>match Wr E env H op with
      |some (true,H')=>some (.u,H')
      |_=>match eL E env op with
       |some (true,f,b)=>some (f H.length,H++[b])
       |_=>match Wn E env op with
        |some r=>some (.d (.b r),H)
        |none=>match jq E env H op with
         |some (true,H')=>some (.u,H')
         |_=>none
def wa(E:Nat->Option Be)(env:xF)(H:xS)(op:Op):xN:=
 match op with
 | .call _=>match Ob E env H op with
  |some _=>none
  |none=>Jk E env H op
 |_=>Jk E env H op
def vZ(P:Program)(E:Nat->Option Be)(g:Nat):Bool:=
 match P.funcs[g]? with
 |some fn=>match fn.resultTypes.toList with
  |[t]=>match E t with
   |some y=>match y.k with
    | .int _=>true
    |_=>match y.zero with
     |[.bool _]=>true
     |[.string _]=>true
     |_=>false
   |none=>false
  |_=>false
 |none=>false
def kB:AV->Bool
 | .d x=>flat x
 |_=>false
def ZP(op:Op):Bool:=
 match op with
 | .move _| .assign _| .pick _ _ _| .unOp _ _ _| .makeFunc _ _ _| .extract _ _| .field _ _ _| .index _ _ _| .build _ _| .slice _ _ _ _ _=>true
 |_=>false
def cg(ops:wl)(ks:List Kd)(n:Nat):wi:=
 (List.range n).flatMap fun i=>match V7 ks[i]? with
  |false=>[]
  |true=>(List.range n).filterMap fun k=>match XH ks[k]? && !((Nat.blt k i&&(T3 ops i).testBit k)||(Nat.blt i k&&(T3 ops k).testBit i))with
   |true=>some (i,k)
   |false=>none
mutual
def D.Ji:D->D->Bool
 | .b x,.b y=>x==y
 | .i k n,.i k' n'=>decide (k=k')&&decide (n=n')
 | .s l,.s l'=>decide (l=l')
 | .by l,.by l'=>decide (l=l')
 | .is l,.is l'=>decide (l=l')
 | .agg p,.agg q=>D.Iw p q
 | .tup p,.tup q=>D.Iw p q
 | .sl n p,.sl m q=>Nat.beq n m&&D.TW p q
 | .np,.np=>true
 | .nf,.nf=>true
 | .ni,.ni=>true
 | .nm,.nm=>true
 |_,_=>false
def D.Iw:ww->ww->Bool
 |[],[]=>true
 |x::r,y::l=>D.Ji x y&&D.Iw r l
 |_,_=>false
def D.TW:List (ww)->List (ww)->Bool
 |[],[]=>true
 |x::r,y::l=>D.Iw x y&&D.TW r l
 |_,_=>false
end
mutual
def AV.Ji:AV->AV->Bool
 | .d x,.d y=>D.Ji x y
 | .u,.u=>true
 | .e0,.e0=>true
 | .ptr a b c,.ptr a' b' c'=>Nat.beq a a'&&Nat.beq b b'&&Nat.beq c c'
 | .sl a b c,.sl a' b' c'=>Nat.beq a a'&&Nat.beq b b'&&Nat.beq c c'
 | .bs i j k m n,.bs i' j' k' m' n'=>Nat.beq i i'&&Nat.beq j j'&&Nat.beq k k'&&Nat.beq m m'&&Nat.beq n n'
 | .ep i j k m n,.ep i' j' k' m' n'=>Nat.beq i i'&&Nat.beq j j'&&Nat.beq k k'&&Nat.beq m m'&&Nat.beq n n'
 | .ag p,.ag q=>AV.Iw p q
 | .tup p,.tup q=>AV.Iw p q
 | .fn (.func f) a b,.fn (.func g) p q=>Nat.beq f g&&AV.Iw a p&&AV.Iw b q
 | .yl p,.yl q=>Nat.beq p q
 | .mp p,.mp q=>Nat.beq p q
 | .dp p,.dp q=>D.Iw p q
 |_,_=>false
def AV.Iw:xD->xD->Bool
 |[],[]=>true
 |x::r,y::l=>AV.Ji x y&&AV.Iw r l
 |_,_=>false
end
def uW:xT->xT->Bool
 |[],[]=>true
 |p::r,q::l=>D.Ji p.1 q.1&&AV.Ji p.2 q.2&&uW r l
 |_,_=>false
def AI.Ji:AI->AI->Bool
 | .gone,.gone=>true
 | .c p,.c q=>AV.Iw p q
 | .a x,.a y=>D.Ji x y
 | .m p,.m q=>uW p q
 |_,_=>false
def Ut:AI->AI->AI
 | .lp r0,.lp r=> .lp {r0 with state:=r.state,pending:=r.pending}
 |_,b=>b
def Oh:xS->xS->xS
 |b0::r0,b::r=>Ut b0 b::Oh r0 r
 |_,l=>l
def stB:LoopState->LoopState->Bool
 | .ready,.ready| .busy,.busy| .done,.done| .exhausted,.exhausted=>true
 |_,_=>false
def sG:AI->AI->AI->Bool
 | .lp _,.lp r,.lp q=>stB r.state q.state&&r.pending.isNone&&q.pending.isNone
 | .lp _,_,_=>false
 |_,x,y=>AI.Ji x y
def T5:xS->xS->xS->Bool
 |b::r,x::l,y::m=>sG b x y&&T5 r l m
 |[],x::l,y::m=>AI.Ji x y&&T5 [] l m
 |_,[],[]=>true
 |_,_,_=>false
def Nb(a b:Nat)(e1 e2:Tm):Nat->xF
 |0=>[]
 |t+1=>match KX e1 t,KX e2 t with
  |some x,some y=>match AV.Ji (y.ren (sw a b)) x with
   |true=>(t,x)::Nb a b e1 e2 t
   |false=>Nb a b e1 e2 t
  |_,_=>Nb a b e1 e2 t
def XL(H:xS)(e1:Tm)(H1:xS)(e2:Tm)(H2:xS):wi->Option (Tm×xS)
 |[]=>none
 |p::l=>match Nat.ble H.length p.1&&Nat.ble H.length p.2&&Nat.blt p.1 H1.length&&Nat.blt p.2 H1.length&&Nat.beq H1.length H2.length&&T5 H (W9 p.1 p.2 H2) H1 with
  |true=>some (cW (Nb p.1 p.2 e1 e2 (8*e1.length)),Oh H H1)
  |false=>XL H e1 H1 e2 H2 l
def VL(op:Op):Bool:=
 match op with
 | .alloc _| .box _ _| .makeSlice _ _ _| .makeMap _ _| .call _=>true
 |_=>false
def oW(op:Op):Bool:=
 match op with
 | .alloc _| .box _ _| .makeSlice _ _ _| .makeMap _ _=>true
 |_=>false
def qc(VL:Op->Bool)(ops:wl):wi:=
 (List.range ops.toList.length).flatMap fun k=>match ops.toList[k]? with
  |some o=>match VL o.op with
   |true=>(List.range k).filterMap fun i=>match ops.toList[i]? with
    |some q=>match VL q.op&& !(T3 ops k).testBit i with
     |true=>some (i,k)
     |false=>none
    |none=>none
   |false=>[]
  |none=>[]
def tS(a b:Nat):wi:=(List.range' a (b-a)).flatMap fun j=>(List.range' a (j-a)).map fun i=>(i,j)
def dOK(ops:wl)(ks:List Kd):Bool:=Iv ops ks.reverse (cg ops ks.reverse ops.toList.length)
def Ur(E:Nat->Option Be)(ops:wl)(rs:List Rc)(Hf:xS):wi->Bool
 |[]=>true
 |p::l=>(match ops.toList[p.1]?,rs[p.1]? with
  |some o,some r=>match Jk E r.e (hAt rs Hf (if Nat.blt p.2 p.1 then p.2 else p.2+1)) o.op with
   |some (true,y)=>AV.Ji y r.x
   |_=>false
  |_,_=>false)&&Ur E ops rs Hf l
def qx(env:xF)(c a b:Operand):xN:=
 match Db env c with
 |some (.d (.b t))=>match t with
  |true=>tt (Db env a)
  |false=>tt (Db env b)
 |_=>none
def q1(x:xL)(f:AV->xN):xN:=
 match x with
 |some x=>f x
 |none=>none
def q2(x y:xL)(f:AV->AV->xN):xN:=
 match x,y with
 |some x,some y=>f x y
 |_,_=>none
def evq(E:Nat->Option Be)(env:xF)(H:xS)(op:Op):xN:=
 match op with
 | .move x| .assign x=>tt (Db env x)
 | .pick c a b=>qx env c a b
 | .load t a=>q1 (Db env a) (RL E H t)
 | .nilCheck a=>q1 (Db env a) (bX H)
 | .fieldAddr s a f=>q1 (Db env a) fun x=>Ib E H s x f
 | .field t a f=>q1 (Db env a) fun x=>QH E t x f
 | .indexAddr t a i=>q2 (Db env a) (Db env i) (Ic E H t)
 | .index t a i=>q2 (Db env a) (Db env i) (QI E t)
 | .extract a i=>q1 (Db env a) fun x=>LX x i
 |op=>Jk E env H op
theorem sN{E:Nat->Option Be}{env:xF}{H:xS}{op:Op}:evq E env H op=Jk E env H op:=by
 cases op<;>first|rfl|(simp only[evq,Jk,qx,q1,q2])
def opA(E:Nat->Option Be)(env:xF)(H:xS)(op:Op):Option (AV×xS):=
 match gv E env H op with
 |some (true,f,b)=>some (f H.length,H++[b])
 |_=>op1 E env H op
def opW(E:Nat->Option Be)(env:xF)(H:xS)(op:Op):Option (AV×xS):=
 match nk E env H op with
 |some (true,x,H')=>some (x,H')
 |_=>op1 E env H op
def opQ(E:Nat->Option Be)(env:xF)(H:xS)(op:Op):Option (AV×xS):=
 match evq E env H op with
 |some (true,x)=>some (x,H)
 |_=>op1 E env H op
def uZ(E:Nat->Option Be)(env:xF)(H:xS)(op:Op):Option (AV×xS):=
 match op with
 | .alloc _| .box _ _=>opA E env H op
 | .store _ _ _=>opW E env H op
 | .call _| .buildSlice _ _ _| .makeSlice _ _ _| .makeMap _ _=>op1 E env H op
 |_=>opQ E env H op
mutual
def AV.ids:AV->Aw
 | .ptr id _ _| .sl id _ _| .bs id _ _ _ _| .ep id _ _ _ _| .yl id| .mp id=>[id]
 | .ag cs| .tup cs=>AV.kU cs
 | .fn _ a b=>AV.kU a++AV.kU b
 |_=>[]
def AV.kU:xD->Aw
 |[]=>[]
 |x::r=>x.ids++AV.kU r
end
def AI.ids:AI->Aw
 | .c cs=>AV.kU cs
 | .m es=>es.flatMap fun p=>p.2.ids
 | .lp r=>r.env.flatMap fun p=>p.2.ids
 |_=>[]
def tM(n:Nat):Aw->Bool
 |[]=>false
 |m::r=>match Nat.beq n m with
  |true=>true
  |false=>tM n r
def reach(n0:Nat)(K:xS):Nat->Aw->Aw->Aw
 |0,_,seen=>seen
 |_,[],seen=>seen
 |k+1,id::l,seen=>match Nat.blt id n0||tM id seen with
  |true=>reach n0 K k l seen
  |false=>match K[id]? with
   |some b=>reach n0 K k (b.ids++l) (id::seen)
   |none=>reach n0 K k l seen
def X8(n0:Nat)(l:Aw):Nat->xS->xS
 |_,[]=>[]
 |i,b::r=>(match Nat.blt i n0||tM i l||b.ei with
  |true=>b
  |false=> .gone)::X8 n0 l (i+1) r
def tL(m:Nat):Aw->Nat
 |[]=>m
 |a::r=>match Nat.ble m a with
  |true=>tL (a+1) r
  |false=>tL m r
def wb(n0:Nat)(x:AV)(K:xS):xS:=
 let l:=reach n0 K 4096 x.ids [];let K':=(X8 n0 l 0 K).take (tL n0 l)
 match Nat.ble n0 K'.length&&BY K'.length K'&&x.ok K'.length with
 |true=>K'
 |false=>K
inductive Rq
 |c (ro:wk) (c:Code) (e:Tm) (H:xS) (n:Nat)
 |lo (ro:wk) (c:Code) (e:Tm) (H:xS) (n:Nat)
 |sc (ro:wk) (c0 c:Code) (e:Tm) (H:xS) (n:Nat)
 |l (ro:wk) (ops:wl) (rest:wm) (e:Tm) (H:xS) (n:Nat)
 |t (ro:wk) (ops:wl) (l:wi) (e:Tm) (H:xS) (n:Nat)
 |d (ops:wl) (acc:List Rc) (ks:List Kd) (rest:wm) (e:Tm) (H:xS) (n:Nat)
 |f (g:Nat) (xs:xD) (H:xS)
 |p (g:Nat) (xs:xD) (b:Bool)
 |y (id:Nat) (xs:xD) (H:xS)
abbrev Rz:=Exit×Tm×xS
def one(x:AV)(H:xS):Option Rz:=some (.normal,[[some x]],H)
def TP(E:Nat->Option Be)(fn:Func):Option Rz->Option (AV×xS)
 |some (.ret,e,H)|some (.normal,e,H)=>match Da E (small e (resT fn.results.toList)) H fn.results.toList with
  |some (true,x)=>some (x,H)
  |_=>none
 |_=>none
def Mw:Option Rz->Option (AV×xS)
 |some (_,[[some x]],H)=>some (x,H)
 |_=>none
def oi(P:Program)(g n:Nat):Option (Func×Code):=
 match P.funcs[g]? with
 |some fn=>match fn.body with
  |some c=>match Nat.ble n fn.ntmps with
   |true=>some (fn,c)
   |false=>none
  |none=>none
 |none=>none
def sZ(P:Program)(E:Nat->Option Be)(e:Tm)(H:xS)(g:Nat)(xs:xD):Tm×xS:=
 match vZ P E g with
 |true=>(e,H)
 |false=>match GH H xs with
  |some _=>match PP xs with
   |[]=>(e,H)
   |l=>Mg l e H
  |none=>(e,H)
section
variable (P:Program)(E:Nat->Option Be)(O:Nat->xD->xL)(kp:Nat->Bool)(go:Rq->Option Rz)
def wN(ro:wk)(b:Code)(n:Nat):Option Rz->Option Rz
 |some (.normal,e,H)=>go (.c ro b e H n)
 |r=>r
def r7(ro:wk)(a b:Code)(e:Tm)(H:xS)(n:Nat):xL->Option Rz
 |some (.d (.b t))=>match t with
  |true=>go (.c ro a e H n)
  |false=>go (.c ro b e H n)
 |_=>none
def wJ(id:Nat):Option Rz->Option Rz
 |some (.exit i,e,H)=>match Nat.beq i id with
  |true=>some (.normal,e,H)
  |false=>some (.exit i,e,H)
 |r=>r
def r8(ro:wk)(ops:wl)(e:Tm)(H:xS)(n:Nat):wi->Option Rz
 |[]=>match go (.d ops [] [] ops.toList e H n)with
  |some r=>some r
  |none=>go (.t ro ops (qc VL ops) e H n)
 |l=>go (.t ro ops l e H n)
def wK(ro:wk)(e:Tm)(id n:Nat)(K:xS):Option AI->Option Rz
 |some (.lp r)=>match r.state== .busy with
  |true=>none
  |false=>match r.pending with
   |none=>some (.normal,e,K.set id (.lp (r.at_ .exhausted r.pending)))
   |some c=>go (.c ro c e (K.set id (.lp (r.at_ .exhausted r.pending))) n)
 |_=>none
def wM(ro:wk)(ps:Array Tmp)(asg body:Code)(e:Tm)(H:xS)(n:Nat):xL->Option Rz
 |some (.fn (.func f) first cap)=>match Mw (go (.f f (first++[.yl H.length]++cap) (H++[.lp ⟨.ready,none,0,n,ET e,ps,asg,body⟩])))with
  |some (_,K)=>wK go ro e H.length n K K[H.length]?
  |none=>none
 |_=>none
def sC(ro:wk)(c:Code)(e:Tm)(H:xS)(n:Nat):Option Rz:=
 match c with
 | .skip| .label _=>some (.normal,e,H)
 | .exit id=>some (.exit id,e,H)
 | .goto l=>some (.goto l,e,H)
 | .ret=>some (.ret,e,H)
 | .seq a b=>wN go ro b n (go (.c ro a e H n))
 | .cond o a b=>r7 go ro a b e H n (fW e o)
 | .block id b=>wJ id (go (.c ro b e H n))
 | .loop b=>go (.lo ro b e H n)
 | .scope b=>go (.sc ro b b e H n)
 | .region _ ops dr=>match dr with
  |false=>go (.l ro ops ops.toList e H n)
  |true=>r8 go ro ops e H n (qc oW ops)
 | .rangeFunc g ps asg body=>wM go ro ps asg body e H n (fW e g)
 | .refuse _=>none
def sLo(ro:wk)(c:Code)(n:Nat):Option Rz->Option Rz
 |some (.normal,e,H)=>go (.lo ro c e H n)
 |r=>r
def sSc(ro:wk)(c0:Code)(n:Nat):Option Rz->Option Rz
 |some (.goto l,e,H)=>match findLabel c0 l with
  |some rest=>go (.sc ro c0 rest e H n)
  |none=>some (.goto l,e,H)
 |r=>r
def qz(ro:wk)(ops:wl)(o:Oper)(rest:wm)(n:Nat)(e:Tm)(H:xS):Option Rz:=
 match Af ops (small e (looks ops o)) o,CG (small e (looks ops o)) o.op with
 |some true,some (g,ys)=>match Mw (go (.f g ys H))with
  |some (x,H2)=>go (.l ro ops rest (LH o.dst x e) H2 n)
  |none=>none
 |_,_=>none
def sL4(ro:wk)(ops:wl)(o:Oper)(rest:wm)(n:Nat)(e:Tm)(H:xS):Option (Nat×xD)->Option Rz
 |some (g,xs)=>match sZ P E e H g xs with
  |(e',H')=>qz go ro ops o rest n e' H'
 |none=>none
def sL3(ro:wk)(ops:wl)(o:Oper)(rest:wm)(n:Nat)(e:Tm)(H:xS):Option (Nat×xD)->Option Rz
 |some (id,xs)=>match Mw (go (.y id xs H))with
  |some (x,H')=>go (.l ro ops rest (LH o.dst x e) H' n)
  |none=>none
 |none=>sL4 P E go ro ops o rest n e H (CG (small e (looks ops o)) o.op)
def sL2(ro:wk)(ops:wl)(o:Oper)(rest:wm)(n:Nat)(e:Tm)(H:xS):Option (AV×xS)->Option Rz
 |some (x,H')=>go (.l ro ops rest (LH o.dst x e) H' n)
 |none=>sL3 P E go ro ops o rest n e H (Gn (small e (looks ops o)) o.op)
def sL1(ro:wk)(ops:wl)(o:Oper)(rest:wm)(n:Nat)(e:Tm)(H:xS):Option Bool->Option Rz
 |none=>none
 |some false=>go (.l ro ops rest (LH o.dst (.d (.tup [])) e) H n)
 |some true=>sL2 P E go ro ops o rest n e H (uZ E (small e (looks ops o)) H o.op)
def sL(ro:wk)(ops:wl)(e:Tm)(H:xS)(n:Nat):wm->Option Rz
 |[]=>some (.normal,e,H)
 |o::rest=>match Az o.dst n with
  |false=>none
  |true=>sL1 P E go ro ops o rest n e H (Af ops (small e (looks ops o)) o)
def r9(ro:wk)(ops:wl)(l:wi)(e:Tm)(H:xS)(n:Nat):Option Rz->Option Rz->Option Rz
 |some (_,e1,H1),some (_,e2,H2)=>match XL H e1 H1 e2 H2 (tS H.length H1.length)with
  |some (e',H')=>some (.normal,e',H')
  |none=>go (.t ro ops l e H n)
 |_,_=>go (.t ro ops l e H n)
def sT(ro:wk)(ops:wl)(e:Tm)(H:xS)(n:Nat):wi->Option Rz
 |[]=>none
 |p::l=>match Nat.blt p.1 p.2&&Nat.blt p.2 ops.toList.length&&LV ops&&BY H.length H with
  |false=>none
  |true=>r9 go ro ops l e H n (go (.d (PS p.1 p.2 ops) [] [] (PS p.1 p.2 ops).toList e H n)) (go (.d (PT p.1 p.2 ops) [] [] (PT p.1 p.2 ops).toList e H n))
def PN(ops:wl)(acc:List Rc)(ks:List Kd)(o:Oper)(rest:wm)(n:Nat)(e:Tm)(H:xS)(x:AV)(k:Kd)(H':xS):Option Rz:=
 go (.d ops (⟨small e (looks ops o),H,x,k⟩::acc) (k::ks) rest (LH o.dst x e) H' n)
def sD5(ops:wl)(acc:List Rc)(ks:List Kd)(o:Oper)(rest:wm)(n:Nat)(e:Tm)(H:xS):Option (Nat×xD)->Option Rz
 |none=>none
 |some (g,xs)=>match GH [] xs with
  |some ys=>match Mw (go (.p g ys false))with
   |some (x,[])=>PN go ops acc ks o rest n e H x .any H
   |some (x,b::K)=>PN go ops acc ks o rest n e H (x.ren (rn [] H.length)) .eff (H++Gb (rn [] H.length) (b::K))
   |none=>none
  |none=>match Mw (go (.f g xs H))with
   |some (x,H')=>PN go ops acc ks o rest n e H x .eff H'
   |none=>none
def sD4(ops:wl)(acc:List Rc)(ks:List Kd)(o:Oper)(rest:wm)(n:Nat)(e:Tm)(H:xS):Option (AV×xS)->Option Rz
 |some (x,H')=>PN go ops acc ks o rest n e H x .eff H'
 |none=>sD5 go ops acc ks o rest n e H (CG (small e (looks ops o)) o.op)
def sD3(ops:wl)(acc:List Rc)(ks:List Kd)(o:Oper)(rest:wm)(n:Nat)(e:Tm)(H:xS):xN->Option Rz
 |some (true,x)=>match ZP o.op with
  |true=>PN go ops acc ks o rest n e H x .any H
  |false=>PN go ops acc ks o rest n e H x .quiet H
 |_=>sD4 go ops acc ks o rest n e H (uZ E (small e (looks ops o)) H o.op)
def sD2(ops:wl)(acc:List Rc)(ks:List Kd)(o:Oper)(rest:wm)(n:Nat)(e:Tm)(H:xS):xL->Option Rz
 |some x=>PN go ops acc ks o rest n e H x .any H
 |none=>sD3 E go ops acc ks o rest n e H (wa E (small e (looks ops o)) H o.op)
def sD1(ops:wl)(acc:List Rc)(ks:List Kd)(o:Oper)(rest:wm)(n:Nat)(e:Tm)(H:xS):Option Bool->Option Rz
 |none=>none
 |some false=>PN go ops acc ks o rest n e H (.d (.tup [])) .skip H
 |some true=>sD2 E go ops acc ks o rest n e H (eK E (small e (looks ops o)) o.op)
def sD(ops:wl)(acc:List Rc)(ks:List Kd)(e:Tm)(H:xS)(n:Nat):wm->Option Rz
 |[]=>match dOK ops ks&&Ur E ops acc.reverse H (cg ops ks.reverse ops.toList.length)with
  |true=>some (.normal,e,H)
  |false=>none
 |o::rest=>match Az o.dst n with
  |false=>none
  |true=>sD1 E go ops acc ks o rest n e H (Af ops (small e (looks ops o)) o)
def sP1(b:Bool):Option (AV×xS)->Option Rz
 |some (x,K)=>match FJ K x,b&& !x.ok 0 with
  |some y,false=>one y []
  |_,_=>match wb 0 x K with
   |[]=>none
   |b::l=>one x (b::l)
 |none=>none
def sP(g:Nat)(xs:xD)(b:Bool):xL->Option Rz
 |some y=>one y []
 |none=>match oi P g xs.length with
  |none=>none
  |some (fn,c)=>sP1 b (TP E fn (go (.c none c (cW (EG 0 xs)) [] fn.ntmps)))
def sF1(H:xS):Option (AV×xS)->Option Rz
 |some (x,K)=>match Nat.ble H.length K.length&&BY H.length (K.take H.length)&&x.ok H.length with
  |true=>one x (K.take H.length)
  |false=>one x (wb H.length x K)
 |none=>none
def sF(g:Nat)(xs:xD)(H:xS):Option Rz:=
 match GH [] xs with
 |some ys=>match Mw (go (.p g ys (kp g)))with
  |some (x,[])=>one x H
  |some (x,b::K)=>one (x.ren (rn [] H.length)) (H++Gb (rn [] H.length) (b::K))
  |none=>none
 |none=>match GH H xs with
  |some ys=>match Mw (go (.p g ys false))with
   |some (x,[])=>match kB x with
    |true=>one x H
    |false=>none
   |_=>none
  |none=>match oi P g xs.length with
   |none=>none
   |some (fn,c)=>sF1 H (TP E fn (go (.c none c (cW (EG 0 xs)) H fn.ntmps)))
def sY2(id:Nat)(H:xS):Option Rz->Option Rz
 |some (x,_,H2)=>match ZW x,H2[id]? with
  |some j,some (.lp r2)=>match Nat.ble H.length H2.length with
   |false=>none
   |true=>match BY H.length (H2.take H.length)with
    |true=>one (.d (.b j.isNone)) ((H2.take H.length).set id (.lp (r2.at_ (K8 j) j)))
    |false=>one (.d (.b j.isNone)) (H2.set id (.lp (r2.at_ (K8 j) j)))
  |_,_=>none
 |none=>none
def sY1(id:Nat)(H:xS)(body:Code)(n:Nat):Option Rz->Option Rz
 |some (.normal,e1,H1)=>match H1[id]? with
  |some (.lp r1)=>match r1.state== .ready with
   |false=>none
   |true=>sY2 id H (go (.c (some id) body e1 (H1.set id (.lp (r1.at_ .busy r1.pending))) n))
  |_=>none
 |_=>none
def sY(id:Nat)(xs:xD)(H:xS):Option AI->Option Rz
 |some (.lp r)=>match r.state== .ready&&Nat.beq xs.length r.params.size&&r.params.toList.all (fun t=>Nat.blt t r.n)with
  |false=>none
  |true=>sY1 go id H r.body r.n (go (.c (some id) r.assign (cW (TB r.params.toList xs r.env)) H r.n))
 |_=>none
end
def ex(P:Program)(E:Nat->Option Be)(O:Nat->xD->xL)(kp:Nat->Bool):Nat->Rq->Option Rz
 |0,_=>none
 |k+1,q=>match q with
  | .c ro c e H n=>sC (ex P E O kp k) ro c e H n
  | .lo ro c e H n=>sLo (ex P E O kp k) ro c n (ex P E O kp k (.c ro c e H n))
  | .sc ro c0 c e H n=>sSc (ex P E O kp k) ro c0 n (ex P E O kp k (.c ro c e H n))
  | .l ro ops rest e H n=>sL P E (ex P E O kp k) ro ops e H n rest
  | .t ro ops l e H n=>sT (ex P E O kp k) ro ops e H n l
  | .d ops acc ks rest e H n=>sD E (ex P E O kp k) ops acc ks e H n rest
  | .p g xs b=>sP P E (ex P E O kp k) g xs b (O g xs)
  | .f g xs H=>sF P E kp (ex P E O kp k) g xs H
  | .y id xs H=>sY (ex P E O kp k) id xs H H[id]?
end Go.Gar
namespace Go.Gar
theorem bn{t:Nat}{x:AV}:∀{e:xF}{u:Nat},get (upd t x e) u=get ((t,x)::e) u
 |[],u=>rfl
 |(k,v)::r,u=>by
  simp only[upd,get]
  cases h:Nat.beq k t with
  |true=>
   have e:=xR h;subst e;simp only[get];split<;>simp_all
  |false=>
   simp only[get];have hk:k≠t:=fun e=>by rw[e,zn]at h;cases h
   split
   .rename_i h1;have e1:=xR h1;subst e1
    have h2:Nat.beq t k=false:=by
     cases h3:Nat.beq t k with
     |false=>rfl
     |true=>exact absurd (xR h3).symm hk
    rw[h2];rfl
   .rw[bn (e:=r),get]
theorem Ld{x:AV}:∀{j i:Nat}{c:List (xL)},L3 (set1 x j c) i=if i=j then some x else L3 c i
 |0,i,[]=>by cases i<;>simp[set1,L3]
 |0,i,y::r=>by cases i<;>simp[set1,L3]
 |j+1,i,[]=>by
  cases i with
  |zero=>simp[set1,L3]
  |succ i=>simp only[set1,L3];rw[Ld];simp[L3]
 |j+1,i,y::r=>by
  cases i with
  |zero=>simp[set1,L3]
  |succ i=>simp only[set1,L3];rw[Ld];simp
theorem Nl(i:Nat):L4 [] i=[]:=by cases i<;>rfl
theorem P4{x:AV}{j:Nat}:∀{k i:Nat}{e:Tm},L4 (TD j x k e) i=if i=k then set1 x j (L4 e i)else L4 e i
 |0,i,[]=>by cases i<;>simp[TD,L4]
 |0,i,y::r=>by cases i<;>simp[TD,L4]
 |k+1,i,[]=>by
  cases i with
  |zero=>simp[TD,L4]
  |succ i=>simp only[TD,L4];rw[P4];simp[Nl]
 |k+1,i,y::r=>by
  cases i with
  |zero=>simp[TD,L4]
  |succ i=>simp only[TD,L4];rw[P4];simp
variable {t:Nat}{x:AV}{e:Tm}
theorem UI{u:Nat}:KX (qN t x e) u=if u=t then some x else KX e u:=by
 simp only[KX,qN,P4]
 by_cases h:u=t
 .subst h;simp[Ld]
 .by_cases h1:u/8=t/8
  .rw[if_pos h1,Ld,if_neg om,if_neg h]
  .rw[if_neg h1,if_neg h]
theorem nO:∀{e:Tm}{t:Nat},8*e.length<=t->KX e t=none:=by
 have h:∀{e:Tm}{k:Nat},e.length<=k->L4 e k=[]:=by
  intro e
  induction e with
  |nil=>intro k _;exact Nl k
  |cons c r ih=>
   intro k hk
   cases k with
   |zero=>simp at hk
   |succ k=>exact ih (by simpa using hk)
 intro e t ht;simp only[KX];rw[h om];rfl
theorem X7{e:Tm}:∀{m t:Nat},get (gf e m) t=if t<m then KX e t else none
 |0,t=>by simp[gf,get]
 |m+1,t=>by
  have ih:=X7 (e:=e) (m:=m) (t:=t);simp only[gf];split
  .rename_i x hx;simp only[get];split
   .rename_i hb;have:=xR hb;subst this;rw[if_pos om,hx]
   .rename_i hb;have hne:m≠t:=fun e=>hb (by rw[e,zn])
    rw[ih]
    by_cases h:t<m
    .rw[if_pos h,if_pos om]
    .rw[if_neg h,if_neg om]
  .rename_i hx;rw[ih]
   by_cases h:t<m
   .rw[if_pos h,if_pos om]
   .by_cases h2:t=m
    .subst h2;rw[if_neg h,if_pos om,hx]
    .rw[if_neg h,if_neg om]
theorem Gp:get (ET e) t=KX e t:=by
 unfold ET;rw[X7];split
 .rfl
 .rw[nO om]
theorem Uz:∀{l:xF}{t:Nat},KX (cW l) t=get l t
 |[],t=>by simp[cW,KX,Nl,L3,get]
 |p::r,t=>by
  simp only[cW,get];rw[UI,Uz (l:=r)];split
  .rename_i h;subst h;rw[if_pos (zn _)]
  .rename_i h;rw[if_neg (fun e=>h (xR e).symm)]
theorem Ti{dst:Option Tmp}{u:Nat}:get (ET (LH dst x e)) u=get (Bg dst x (ET e)) u:=by
 cases dst with
 |none=>rfl
 |some d=>
  simp only[LH,Bg,get];rw[Gp,UI,Gp];split
  .rename_i h;subst h;rw[if_pos (zn _)]
  .rename_i h;rw[if_neg (fun e=>h (xR e).symm)]
theorem O0{e:Tm}:∀{l:Aw},small e l=Ey l (ET e)
 |[]=>rfl
 |t::r=>by
  simp only[small,Ey];rw[Gp]
  cases KX e t with
  |none=>exact O0
  |some x=>simp only[O0 (l:=r)]
variable {l:Aw}
theorem Gd(h:get (small e l) t=some x):get (ET e) t=some x:=by
 rw[O0]at h;exact(K6 h).2
theorem kL{id:Nat}{x:D}:get (ET (YQ id x e)) t=get (KS id x (ET e)) t:=by
 have h1:∀{c:List (xL)}{k:Nat},L3 (c.map (oo id x)) k=(L3 c k).map (AV.Fu id x):=by
  intro c
  induction c with
  |nil=>intro k;simp[L3]
  |cons y r ih=>
   intro k
   cases k with
   |zero=>cases y<;>simp[L3,oo]
   |succ k=>simpa[L3]using ih
 have h2:∀{e:Tm}{k:Nat},L4 (YQ id x e) k=(L4 e k).map (oo id x):=by
  intro e
  induction e with
  |nil=>intro k;simp[YQ,Nl]
  |cons y r ih=>
   intro k
   cases k with
   |zero=>simp[YQ,L4]
   |succ k=>simpa[YQ,L4]using ih
 have h3:∀{l:xF},get (KS id x l) t=(get l t).map (AV.Fu id x):=by
  intro l
  induction l with
  |nil=>rfl
  |cons p r ih=>
   simp only[KS,zA,get]at ih|-;split
   .rfl
   .exact ih
 rw[Gp,h3,Gp];simp only[KX];rw[h2,h1]
theorem VW{o:Operand}(h:fW e o=some x):Db (ET e) o=some x:=by
 cases o<;>first|exact h|(simp only[fW]at h;simp only[Db];rw[Gp];exact h)
section
variable {a b:xF}(hs:∀t x,get a t=some x->get b t=some x)
include hs
theorem SK{o:Operand}{x:AV}(h:Db a o=some x):Db b o=some x:=by
 cases o<;>first|exact h|exact hs _ _ h
theorem P5:∀{l:List Operand}{xs:xD},IV a l=some xs->IV b l=some xs
 |[],xs,h=>h
 |o::r,xs,h=>by
  simp only[IV]at h|-;split at h
  .rename_i x l h1 h2;rw[SK hs h1,P5 h2];exact h
  .cases h
theorem Ku{ops:wl}{o:Oper}{r:Bool}(h:Af ops a o=some r):Af ops b o=some r:=by
 unfold Af at h|-;split at h
 .exact h
 .split at h
  .split at h
   .split at h
    .rename_i hx;simp only[*,hs _ _ hx]
    .rename_i hx;simp only[*,hs _ _ hx]
    .cases h
   .cases h
  .cases h
variable {r:Nat×xD}
theorem Uq{op:Op}(h:Gn a op=some r):Gn b op=some r:=by
 unfold Gn at h|-;split at h
 .split at h
  .rename_i h1 h2;simp only[SK hs h1,P5 hs h2];exact h
  .cases h
 .cases h
theorem Wm{op:Op}(h:CG a op=some r):CG b op=some r:=by
 unfold CG at h|-;split at h
 .split at h
  .rename_i h1 h2;simp only[SK hs h1,P5 hs h2];exact h
  .cases h
 .cases h
end
theorem A6.env{S:St}{env:xF}(h:∀t x,get env t=some x->get S.env t=some x):A6 S ⟨env,S.H,S.n⟩:=
 fun _ _ G _ _ r _=>⟨G,⟨r.heap,r.rel,r.size,fun t x hx=>r.env t x (h t x hx),r.marks,r.round⟩,⟨fun id b b' hb hb'=>by rw[hb]at hb';cases hb';exact B7.refl _ _ _,Mem.le_refl _,fun _ h=>h,fun _ _ _ h=> .inl h⟩⟩
mutual
theorem D.HN:∀{x y:D},D.Ji x y=true->x=y
 | .b _,y,h=>by cases y<;>simp_all[D.Ji]
 | .i _ _,y,h=>by cases y<;>simp_all[D.Ji]
 | .s _,y,h=>by cases y<;>simp_all[D.Ji]
 | .by _,y,h=>by cases y<;>simp_all[D.Ji]
 | .is _,y,h=>by cases y<;>simp_all[D.Ji]
 | .agg _,y,h| .tup _,y,h=>by cases y<;>simp only[D.Ji,reduceCtorEq]at h;rw[D.FU h]
 | .sl n a,y,h=>by
  cases y<;>simp only[D.Ji,reduceCtorEq,xI]at h;rw[D.Wh h.2,xR h.1]
 | .np,y,h=>by cases y<;>simp_all[D.Ji]
 | .nf,y,h=>by cases y<;>simp_all[D.Ji]
 | .ni,y,h=>by cases y<;>simp_all[D.Ji]
 | .nm,y,h=>by cases y<;>simp_all[D.Ji]
 | .f _ _,y,h=>by cases y<;>simp[D.Ji]at h
 | .ifc _ _,y,h=>by cases y<;>simp[D.Ji]at h
theorem D.FU:∀{x y:ww},D.Iw x y=true->x=y
 |[],[],_=>rfl
 |[],_::_,h=>by simp[D.Iw]at h
 |_::_,[],h=>by simp[D.Iw]at h
 |x::r,y::l,h=>by
  simp only[D.Iw,xI]at h;rw[D.HN h.1,D.FU h.2]
theorem D.Wh:∀{x y:List (ww)},D.TW x y=true->x=y
 |[],[],_=>rfl
 |[],_::_,h=>by simp[D.TW]at h
 |_::_,[],h=>by simp[D.TW]at h
 |x::r,y::l,h=>by
  simp only[D.TW,xI]at h;rw[D.FU h.1,D.Wh h.2]
end
mutual
theorem AV.HN:∀{x y:AV},AV.Ji x y=true->x=y
 | .d _,y,h=>by cases y<;>simp only[AV.Ji,reduceCtorEq]at h;rw[D.HN h]
 | .u,y,h=>by cases y<;>simp_all[AV.Ji]
 | .e0,y,h=>by cases y<;>simp_all[AV.Ji]
 | .ptr _ _ _,y,h| .sl _ _ _,y,h=>by cases y<;>simp only[AV.Ji,reduceCtorEq,xI]at h;rw[xR h.1.1,xR h.1.2,xR h.2]
 | .ag _,y,h| .tup _,y,h=>by cases y<;>simp only[AV.Ji,reduceCtorEq]at h;rw[AV.FU h]
 | .yl _,y,h| .mp _,y,h=>by cases y<;>simp only[AV.Ji,reduceCtorEq]at h;rw[xR h]
 | .dp _,y,h=>by cases y<;>simp only[AV.Ji,reduceCtorEq]at h;rw[D.FU h]
 | .bs ..,y,h| .ep ..,y,h=>by
  cases y<;>simp only[AV.Ji,reduceCtorEq,xI,KU,xK]at h;obtain⟨⟨⟨⟨rfl,rfl⟩,rfl⟩,rfl⟩,rfl⟩:=h;rfl
 | .fn f a b,y,h=>by
  cases y<;>cases f<;>(try rename_i g p q _;cases g)<;>(try rename_i g p q;cases g)<;>simp only[AV.Ji,reduceCtorEq,xI,KU,xK]at h;rw[h.1.1,AV.FU h.1.2,AV.FU h.2]
theorem AV.FU:∀{x y:xD},AV.Iw x y=true->x=y
 |[],[],_=>rfl
 |[],_::_,h=>by simp[AV.Iw]at h
 |_::_,[],h=>by simp[AV.Iw]at h
 |x::r,y::l,h=>by
  simp only[AV.Iw,xI]at h;rw[AV.HN h.1,AV.FU h.2]
end
theorem Ta{E:Nat->Option Be}{ops:wl}{rs:List Rc}{Hf:xS}:∀{l:wi},Ur E ops rs Hf l=true->E2 E ops rs Hf l
 |[],_=>trivial
 |p::l,h=>by
  simp only[Ur,xI]at h;refine⟨?_,Ta h.2⟩;have h1:=h.1;split at h1
  .rename_i o r ho hr;rw[ho,hr];split at h1
   .rename_i y hy;exact⟨true,by rw[<-AV.HN h1];exact hy,rfl⟩
   .cases h1
  .cases h1
def G0(m:Mem):Gh:=⟨fun _=>none,[],m⟩
mutual
theorem mS{G:Gh}{w:World}(hr:BM G w){m:Mem}(hm:G.m.le m)(hown:∀b k v,Own G b->w.cell? ⟨b,k,none⟩=some v->m b k=some v):∀{x y:AV}{v:Value},FJ G.H x=some y->RV G x v->RV (G0 m) y v
 | .d x,y,v,h,r=>by
  simp only[FJ,xJ]at h;subst h;simp only[RV]at r|-;exact r.mono hm
 | .u,y,v,h,r=>by simp only[FJ,xJ]at h;subst h;trivial
 | .e0,y,v,h,r=>by simp only[FJ,xJ]at h;subst h;simpa only[RV]using r
 | .dp cs,y,v,h,r=>by
  simp only[FJ,xJ]at h;subst h;simp only[RV]at r|-;obtain⟨b,off,h1,h2⟩:=r;exact⟨b,off,h1,Ma.mono hm h2⟩
 | .sl id n sz,y,v,h,r=>by
  simp only[FJ]at h;split at h
  .rename_i x hx;split at h
   .rename_i hn;cases h;have hf:Cq G.H (.sl id n sz) x:=by simp only[Cq];exact⟨hx,xR hn⟩
    have:=Uw hr hm hown hf r;simpa only[RV,G0]using this
   .cases h
  .cases h
 | .ag _,_,_,h,r| .tup _,_,_,h,r=>by
  simp only[FJ]at h;split at h
  .rename_i l hl;cases h;simp only[RV]at r|-;obtain⟨vs,h1,h2⟩:=r;exact⟨vs,h1,Nu hr hm hown hl h2⟩
  .cases h
 | .fn f a b,y,v,h,r=>by
  simp only[FJ]at h;split at h
  .rename_i p q hp hq;cases h;simp only[RV]at r|-;obtain⟨p',q',h1,h2,h3⟩:=r;exact⟨p',q',h1,Nu hr hm hown hp h2,Nu hr hm hown hq h3⟩
  .cases h
 | .ptr ..,y,v,h,r=>by simp[FJ]at h
 | .bs ..,y,v,h,r=>by simp[FJ]at h
 | .ep ..,y,v,h,r=>by simp[FJ]at h
 | .yl ..,y,v,h,r=>by simp[FJ]at h
 | .mp ..,y,v,h,r=>by simp[FJ]at h
theorem Nu{G:Gh}{w:World}(hr:BM G w){m:Mem}(hm:G.m.le m)(hown:∀b k v,Own G b->w.cell? ⟨b,k,none⟩=some v->m b k=some v):∀{xs ys:xD}{vs:wj},GH G.H xs=some ys->Ba G xs vs->Ba (G0 m) ys vs
 |[],ys,vs,h,r=>by simp only[GH,xJ]at h;subst h;simpa only[Ba]using r
 |x::xs,ys,vs,h,r=>by
  simp only[GH]at h;split at h
  .rename_i y l hy hl;cases h;simp only[Ba]at r|-;obtain⟨v,r',h1,h2,h3⟩:=r;exact⟨v,r',h1,mS hr hm hown hy h2,Nu hr hm hown hl h3⟩
  .cases h
end
mutual
theorem cy{H:xS}:∀{x y:AV},FJ H x=some y->∀{m:Mem}{G:Gh}{v:Value},m.le G.m->RV (G0 m) y v->RV G y v
 | .d x,y,h=>by
  intro hm r;simp only[FJ,xJ]at h;subst h;simp only[RV]at r|-;exact r.mono hm
 | .u,y,h=>by intro hm r;simp only[FJ,xJ]at h;subst h;trivial
 | .e0,y,h=>by intro hm r;simp only[FJ,xJ]at h;subst h;simpa only[RV]using r
 | .dp cs,y,h=>by
  intro hm r;simp only[FJ,xJ]at h;subst h;simp only[RV]at r|-;obtain⟨b,off,h1,h2⟩:=r;exact⟨b,off,h1,Ma.mono hm h2⟩
 | .sl id n sz,y,h=>by
  intro hm r;simp only[FJ]at h;split at h
  .split at h
   .cases h;simp only[RV]at r|-;exact r.mono hm
   .cases h
  .cases h
 | .ag _,_,h| .tup _,_,h=>by
  intro hm r;simp only[FJ]at h;split at h
  .rename_i l hl;cases h;simp only[RV]at r|-;obtain⟨vs,h1,h2⟩:=r;exact⟨vs,h1,Ns hl hm h2⟩
  .cases h
 | .fn f a b,y,h=>by
  intro hm r;simp only[FJ]at h;split at h
  .rename_i p q hp hq;cases h;simp only[RV]at r|-;obtain⟨p',q',h1,h2,h3⟩:=r;exact⟨p',q',h1,Ns hp hm h2,Ns hq hm h3⟩
  .cases h
 | .ptr ..,y,h=>by simp[FJ]at h
 | .bs ..,y,h=>by simp[FJ]at h
 | .ep ..,y,h=>by simp[FJ]at h
 | .yl ..,y,h=>by simp[FJ]at h
 | .mp ..,y,h=>by simp[FJ]at h
theorem Ns{H:xS}:∀{xs ys:xD},GH H xs=some ys->∀{m:Mem}{G:Gh}{vs:wj},m.le G.m->Ba (G0 m) ys vs->Ba G ys vs
 |[],ys,h=>by intro hm r;simp only[GH,xJ]at h;subst h;simpa only[Ba]using r
 |x::xs,ys,h=>by
  intro hm r;simp only[GH]at h;split at h
  .rename_i y l hy hl;cases h;simp only[Ba]at r|-;obtain⟨v,r',h1,h2,h3⟩:=r;exact⟨v,r',h1,cy hy hm h2,Ns hl hm h3⟩
  .cases h
end
mutual
theorem tq{G:Gh}:∀{x y:AV}{v:Value},FJ [] x=some y->RV G x v->RV (G0 G.m) y v
 | .d _,_,_,h,r| .dp _,_,_,h,r=>by simp only[FJ,xJ]at h;subst h;simpa only[RV,G0]using r
 | .u,y,v,h,r=>by simp only[FJ,xJ]at h;subst h;trivial
 | .e0,y,v,h,r=>by simp only[FJ,xJ]at h;subst h;simpa only[RV]using r
 | .sl id n sz,y,v,h,r=>by simp[FJ]at h
 | .ag _,_,_,h,r| .tup _,_,_,h,r=>by
  simp only[FJ]at h;split at h
  .rename_i l hl;cases h;simp only[RV]at r|-;obtain⟨vs,h1,h2⟩:=r;exact⟨vs,h1,Nt hl h2⟩
  .cases h
 | .fn f a b,y,v,h,r=>by
  simp only[FJ]at h;split at h
  .rename_i p q hp hq;cases h;simp only[RV]at r|-;obtain⟨p',q',h1,h2,h3⟩:=r;exact⟨p',q',h1,Nt hp h2,Nt hq h3⟩
  .cases h
 | .ptr ..,y,v,h,r=>by simp[FJ]at h
 | .bs ..,y,v,h,r=>by simp[FJ]at h
 | .ep ..,y,v,h,r=>by simp[FJ]at h
 | .yl ..,y,v,h,r=>by simp[FJ]at h
 | .mp ..,y,v,h,r=>by simp[FJ]at h
theorem Nt{G:Gh}:∀{xs ys:xD}{vs:wj},GH [] xs=some ys->Ba G xs vs->Ba (G0 G.m) ys vs
 |[],ys,vs,h,r=>by simp only[GH,xJ]at h;subst h;simpa only[Ba]using r
 |x::xs,ys,vs,h,r=>by
  simp only[GH]at h;split at h
  .rename_i y l hy hl;cases h;simp only[Ba]at r|-;obtain⟨v,r',h1,h2,h3⟩:=r;exact⟨v,r',h1,tq hy h2,Nt hl h3⟩
  .cases h
end
def W6(P:Program)(f:FuncId)(xs:xD)(y:AV):Prop:=
 FJ [] y=some y/\I0 P f/\∀(m:Mem)(w:World)(vs:wn),N3 m w->o3 m->Ba (G0 m) xs vs.toList->
  CallsIn Fence.wide 0 P f vs w fun e w'=>∃v m',e= .returned v/\RV (G0 m') y v/\m.le m'/\N3 m' w'/\(∀b k v,m' b k=some v->m b k=some v\/w.heap.size<=b)/\
   w'.os=w.os/\w'.tape=w.tape/\w'.output=w.output/\w.heap.size<=w'.heap.size/\∀b,b<w.heap.size->w'.heap[b]? =w.heap[b]?
variable {P:Program}{f:FuncId}
theorem W6.toFn{ds:ww}{r:D}(h:W6 P f (ds.map .d) (.d r)):Fn P f ds r:=by
 refine⟨h.2.1,fun m w vs hm hst hargs=>(h.2.2 m w vs hm hst (Ke.2 hargs)).mono ?_⟩;rintro e w' ⟨v,m',rfl,h1,rest⟩;exact⟨v,m',rfl,by simpa only[RV,G0]using h1,rest⟩
variable {xs:xD}
theorem Fn.toP{ds:ww}{r:D}(h:Fn P f ds r)(hx:MO xs ds):W6 P f xs (.d r):=by
 refine⟨rfl,h.1,fun m w vs hm hst hargs=>(h.2 m w vs hm hst (OU (G:=G0 m) hx hargs)).mono ?_⟩;rintro e w' ⟨v,m',rfl,h1,rest⟩;exact⟨v,m',rfl,by simpa only[RV,G0]using h1,rest⟩
mutual
theorem Y3{H:xS}:∀{x y:AV},FJ H x=some y->FJ [] y=some y
 | .d _,_,h| .u,_,h| .e0,_,h| .dp _,_,h=>by simp only[FJ,xJ]at h;subst h;rfl
 | .sl id n sz,y,h=>by
  simp only[FJ]at h;split at h
  .split at h
   .cases h;rfl
   .cases h
  .cases h
 | .ag _,_,h| .tup _,_,h=>by
  simp only[FJ]at h;split at h
  .rename_i l hl;cases h;simp only[FJ,Lk hl]
  .cases h
 | .fn f a b,y,h=>by
  simp only[FJ]at h;split at h
  .rename_i p q hp hq;cases h;simp only[FJ,Lk hp,Lk hq]
  .cases h
 | .ptr ..,y,h=>by simp[FJ]at h
 | .bs ..,y,h=>by simp[FJ]at h
 | .ep ..,y,h=>by simp[FJ]at h
 | .yl ..,y,h=>by simp[FJ]at h
 | .mp ..,y,h=>by simp[FJ]at h
theorem Lk{H:xS}:∀{xs ys:xD},GH H xs=some ys->GH [] ys=some ys
 |[],ys,h=>by simp only[GH,xJ]at h;subst h;rfl
 |x::xs,ys,h=>by
  simp only[GH]at h;split at h
  .rename_i y l hy hl;cases h;simp only[GH,Y3 hy,Lk hl]
  .cases h
end
section
variable {P:Program}{ro:wk}{S:St}{Q:Exit->St->Prop}{E:Nat->Option Be}
variable {f:FuncId}{xs:xD}{y:AV}
theorem iC{fn:Func}{c:Code}(hE:CP P E)(hf:P.funcs[f]? =some fn)(hb:fn.body=some c)(hname:(fn.name== "runtime.NumGoroutine")=false)(hn:xs.length<=fn.ntmps)(h:W P none c ⟨EG 0 xs,[],fn.ntmps⟩ (MZ fun S'=>∃cc x,Da E S'.env S'.H fn.results.toList=some (cc,x)/\cc=true/\FJ S'.H x=some y))(hy:FJ [] y=some y):W6 P f xs y:=by
 refine⟨hy,⟨fn,hf,hname,by rw[hb];rfl⟩,fun m w vs hm hst hargs=> ?_⟩;have hr:BM (G0 m) w:=⟨fun id b hb=>by simp[G0]at hb,fun id id' p q b N N' hp=>by simp[G0]at hp,hm,fun b ho=>by obtain⟨id,N,q,hq,_⟩:=ho;simp[G0]at hq,hst⟩;have hno:∀b,¬Own (G0 m) b:=fun b ho=>by obtain⟨id,N,q,hq,_⟩:=ho;simp[G0]at hq
 refine R6 (G:=G0 m) (K:=fun x H=>FJ H x=some y) hE hf hb hn h rfl hr hargs ?_;intro x v G' w1 w' ms hK hv h1 h2 hfr ht hms
 let m':Mem:=fun b k=>match G'.m b k with
  |some v=>some v
  |none=>if w.heap.size<=b then w'.cell? ⟨b,k,none⟩else none
 have hle:G'.m.le m':=fun b k v hv=>by simp only[m',hv]
 have hmem:N3 m' w':=by
  intro b k v hv;simp only[m']at hv;split at hv
  .rename_i u hu;cases hv;exact h2.mem b k _ hu
  .split at hv
   .exact hv
   .cases hv
 refine⟨v,m',rfl,mS h2 hle ?_ hK hv,Mem.le_trans hfr.gle.mem hle,hmem,?_,ht.os.trans hfr.os,ht.tape.trans hfr.tape,ht.output.trans hfr.output,by rw[ht.size];exact hfr.size,fun b hb=> ?_⟩
 .intro b k v ho hc
  have hge:w.heap.size<=b:=by
   rcases yO b w.heap.size with hlt|hge
   .exact absurd ho (hfr.keep b hlt (hno b)).2
   .exact hge
  simp only[m',h2.sep b ho k,if_pos hge,hc]
 .intro b k v hv;simp only[m']at hv;split at hv
  .rename_i u hu;cases hv;rcases hfr.memNew b k _ hu with h3|h3|h3
   .exact .inl h3
   .exact absurd h3 (hno b)
   .exact .inr h3
  .split at hv
   .rename_i hge;exact .inr hge
   .cases hv
 .exact(ht.other b fun hm=>by have:=hms b hm;omega).trans (hfr.keep b hb (hno b)).1
theorem W6.uf{ys:xD}(h:W6 P f ys y)(hx:GH [] xs=some ys)(H:xS):KR P f xs H fun x H'=>x=y/\H'=H:=by
 refine⟨h.2.1,fun G w vs hG hr hargs=>(h.2.2 G.m w vs hr.mem hr.st (Nt hx hargs)).mono ?_⟩;rintro e w' ⟨v,m',rfl,h1,h2,h3,h4,h5,h6,h7,h8,h9⟩;obtain⟨k1,k2⟩:=Jp hr h5 h6 h7 h8 h9 m' h2 h4 h3;exact⟨v,y,{G with m:=m'},rfl,⟨rfl,hG⟩,cy h.1 (Mem.le_refl _) h1,k1,k2⟩
open Classical in
theorem W6.read{ys:xD}(h:W6 P f ys y)(hr:kB y=true){H:xS}(hx:GH H xs=some ys):KR P f xs H fun x H'=>x=y/\H'=H:=by
 refine⟨h.2.1,fun G w vs hG hrel hargs=> ?_⟩;let m:Mem:=fun b k=>if Own G b then w.cell? ⟨b,k,none⟩else G.m b k
 have hle:G.m.le m:=fun b k v hv=>by
  by_cases ho:Own G b
  .rw[hrel.sep b ho k]at hv;cases hv
  .simp only[m,if_neg ho,hv]
 have hmem:N3 m w:=fun b k v hv=>by
  simp only[m]at hv;split at hv
  .exact hv
  .exact hrel.mem b k v hv
 have hds:Ba (G0 m) ys vs.toList:=Nu hrel hle (fun b k v ho hc=>by simp only[m,if_pos ho,hc]) (by rw[hG];exact hx) hargs;refine(h.2.2 m w vs hmem (Mem.le_trans hrel.st hle) hds).mono ?_;rintro e w' ⟨v,m',rfl,h1,h2,h3,h4,h5,h6,h7,h8,h9⟩
 obtain⟨k1,k2⟩:=Jp hrel h5 h6 h7 h8 h9 G.m (Mem.le_refl _) (fun _ _ _ h=> .inl h) (fun b k u hu=>by
  rw[World.cell?_of_block (w:=w) (h9 b (IC hrel hu))]
  exact hrel.mem b k u hu)
 refine⟨v,y,G,rfl,⟨rfl,hG⟩,?_,k1,k2⟩;cases y<;>simp only[kB,yJ]at hr;simp only[RV]at h1|-;exact QM hr h1
end
theorem Z1:∀{x y:xT},uW x y=true->x=y
 |[],[],_=>rfl
 |[],_::_,h=>by simp[uW]at h
 |_::_,[],h=>by simp[uW]at h
 |(a,b)::r,(c,d)::l,h=>by
  simp only[uW,xI]at h;rw[show a=c from D.HN h.1.1,show b=d from AV.HN h.1.2,Z1 h.2]
theorem AI.HN{x y:AI}(h:AI.Ji x y=true):x=y:=by
 cases x<;>cases y<;>simp only[AI.Ji,reduceCtorEq]at h
 .rfl
 .rw[AV.FU h]
 .rw[D.HN h]
 .rw[Z1 h]
theorem u5{x y:LoopState}(h:stB x y=true):x=y:=by cases x<;>cases y<;>first|rfl|cases h
theorem oV{b x y:AI}(h:sG b x y=true)(hx:Ut b x=x):x=Ut b y:=by
 cases b<;>cases x<;>cases y<;>simp only[sG,AI.Ji,reduceCtorEq,xI]at h<;>simp only[Ut]at hx|-
 case lp.lp.lp r0 r q=>
  obtain⟨⟨h1,h2⟩,h3⟩:=h;rw[<-hx,u5 h1,Option.isNone_iff_eq_none.1 h2,Option.isNone_iff_eq_none.1 h3]
 all_goals first|rfl|rw[AV.FU h]|rw[D.HN h]|rw[Z1 h]
theorem Ue:∀{H A B:xS},T5 H A B=true->(∀(j:Nat)(b x:AI),H[j]? =some b->A[j]? =some x->Ut b x=x)->A=Oh H B
 |b::r,x::l,y::m,h,hf=>by
  simp only[T5,xI]at h;rw[Oh,oV h.1 (hf 0 b x rfl rfl),Ue h.2 fun j c z hc hz=>hf (j+1) c z (by simpa using hc) (by simpa using hz)]
 |[],x::l,y::m,h,_=>by
  simp only[T5,xI]at h;have:=Ue h.2 fun j c z hc _=>by simp at hc
  rw[AI.HN h.1,this];simp[Oh]
 |[],[],[],_,_=>rfl
 |_::_,[],[],_,_=>rfl
 |[],[],_::_,h,_=>by simp[T5]at h
 |_::_,[],_::_,h,_=>by simp[T5]at h
 |[],_::_,[],h,_=>by simp[T5]at h
 |_::_,_::_,[],h,_=>by simp[T5]at h
theorem bj:∀{H K:xS},(∀(j:Nat)(b x:AI),H[j]? =some b->K[j]? =some x->Ut b x=x)->Oh H K=K
 |b::r,x::l,h=>by rw[Oh,h 0 b x rfl rfl,bj fun j c z hc hz=>h (j+1) c z (by simpa using hc) (by simpa using hz)]
 |[],_,_|_::_,[],_=>by simp[Oh]
def we(H K:xS):Prop:=∀(j:Nat)(b x:AI),H[j]? =some b->K[j]? =some x->Ut b x=x
variable {G:Gh}
theorem tI{G':Gh}(h:J2 G G'):we G.H G'.H:=by
 intro j b x hb hx;obtain⟨x',hx',hs⟩:=h.blk j b hb;rw[hx]at hx';cases hx';cases b<;>cases x<;>simp only[Ut];rename_i r r';simp only[B7]at hs;obtain⟨_,h1,h2,h3,h4,h5,h6⟩:=hs;cases r;cases r';simp_all
variable {H K:xS}
theorem tJ{a b:Nat}(h:we H K)(ho:BY H.length H=true)(ha:H.length<=a)(hb:H.length<=b)(ha':a<K.length)(hb':b<K.length):we H (W9 a b K):=by
 intro j c x hc hx;have hj:j<H.length:=(xW.1 hc).1;rw[Lq ha' hb',aZ ha hb hj,yN]at hx;obtain⟨z,hz,rfl⟩:=hx;have hf:=h j c z hc hz;cases c<;>cases z<;>simp only[Ut,AI.ren]at hf|-;rename_i r q;have ho:=Jr ho hc;have he:KV (sw a b) r.env=r.env:=Vi (fun i hi=>aZ ha hb hi) ho;have hf:=AI.lp.inj hf;rw[<-hf];simp[he]
theorem XK{a b:Nat}{e1 e2:Tm}:∀{m:Nat},(∀t x,get (Nb a b e1 e2 m) t=some x->KX e1 t=some x)/\∃l',KV (sw a b) l'=Nb a b e1 e2 m/\∀t y,get l' t=some y->KX e2 t=some y
 |0=>⟨(fun _ _ h=>by cases h),[],rfl,(fun _ _ h=>by cases h)⟩
 |m+1=>by
  obtain⟨h1,l',h2,h3⟩:=XK (a:=a) (b:=b) (e1:=e1) (e2:=e2) (m:=m);simp only[Nb];split
  .rename_i x y hx hy;split
   .rename_i he;refine⟨fun t z hz=> ?_,(m,y)::l',by simp only[KV];rw[h2,AV.HN he],fun t z hz=> ?_⟩
    .simp only[get]at hz;split at hz
     .rename_i hb;cases hz;rw[<-xR hb];exact hx
     .exact h1 _ _ hz
    .simp only[get]at hz;split at hz
     .rename_i hb;cases hz;rw[<-xR hb];exact hy
     .exact h3 _ _ hz
   .exact⟨h1,l',h2,h3⟩
  .exact⟨h1,l',h2,h3⟩
section
variable {F:Fence}{n:Nat}{P:Program}{ops:wl}{ro:wk}{E:Nat->Option Be}{S S0:St}{acc:List Rc}{rest:wm}
theorem ai{o:Oper}{a:Act}{w:World}{K K':Act->World->Prop}{Q Q':Exit->Act->World->Prop}(h:∀a w,K a w->K' a w)(hq:∀e a w,Q e a w->Q' e a w)
  (hh:o.wpIn F n P a w K Q):o.wpIn F n P a w K' Q':=by
 unfold Oper.wpIn at *;refine⟨hh.1,?_⟩;have hh:=hh.2;generalize(o.semAt F.round a.eval).run P w=r at*
 cases r with
 |ok x w'=>
  cases x<;>simp only[Oper.uponIn]at hh|-<;>
   first
    |exact h _ _ hh
    |exact⟨hh.1,CallsIn.mono hh.2 (fun e w'' he=>by cases e<;>first|exact h _ _ he|exact hq _ _ _ he|(obtain⟨a0,w0,h0⟩:=he;exact⟨a0,w0,hq _ _ _ h0⟩))⟩
    |exact⟨hh.1,RowsIn.mono hh.2 (fun _ _ he=>h _ _ he)⟩
    |exact⟨hh.1,RoundIn.mono hh.2 (fun e w'' he=>by cases e<;>first|exact h _ _ he|exact hq _ _ _ he|(obtain⟨a0,w0,h0⟩:=he;exact⟨a0,w0,hq _ _ _ h0⟩))⟩
 |halt x w'=>cases x<;>simp only[Oper.uponIn]at hh|-<;>first|exact hq _ _ _ hh|exact hh
theorem Gv{md:Region.Mode}{Q Q':Exit->Act->World->Prop}(hq:∀e a w,Q e a w->Q' e a w):∀(fuel:Nat)(listed:wv)(a:Act)(w:World),wpAnyIn F n P md ops Q fuel listed a w->wpAnyIn F n P md ops Q' fuel listed a w
 |0,listed,a,w,h=>⟨h.1,hq _ _ _ h.2⟩
 |fuel+1,listed,a,w,h=>by
  refine⟨fun e=>hq _ _ _ (h.1 e),fun i hi=> ?_⟩;have h2:=h.2 i hi;unfold wpOpIn at h2|-;split
  .rename_i ho;simp only[ho]at h2;exact Gv hq _ _ _ _ h2
  .rename_i o ho;simp only[ho]at h2;split
   .rename_i hw;simp only[hw,yG]at h2;exact ai (fun _ _ k=>Gv hq _ _ _ _ k) hq h2
   .rename_i hw;simp only[hw]at h2;exact⟨h2.1,Gv hq _ _ _ _ h2.2⟩
variable {Q:Exit->St->Prop}
theorem bA{Q':Exit->St->Prop}(h:Jg P ro ops S Q)(hq:∀e S',Q e S'->we S.H S'.H->Q' e S'):Jg P ro ops S Q':=by
 intro N G a w r;refine Gv ?_ _ _ _ _ (h N G a w r);rintro e a' w' ⟨S',G',q,r',k⟩;exact⟨S',G',hq e S' q (by rw[<-r.heap,<-r'.heap];exact tI k.gle),r',k⟩
theorem iT{id:Nat}(hm:P.follows .mixedOrders=true)(h:Jg P ro ops S (Qw Q)):W P ro (.region id ops true) S Q:=by
 refine Q7 (Q':=Qw Q) (fun N G a w r=>wpIn_region_any hm (h N G a w r)) ?_;rintro e S' ⟨env,h1,h2⟩;exact .inr ⟨env,h1,h2⟩
theorem rU{l:wi}(hE:CP P E)(hd:Iv ops (acc.reverse.map Rc.k) l=true)(hx:E2 E ops acc.reverse S.H l)(hQ:Q .normal S):Wd P ro E ops S0 (Jg P ro ops S0 (Qw Q)) acc [] S:=by
 intro Sr ht hH hn he hr;refine Mc hE ht hd (by rw[hH];exact hx) ⟨S.env,he,?_⟩;rw[hH,hn];exact hQ
theorem XM{id i k n:Nat}{e e1 e2 e':Tm}{H H1 H2 H':xS}{Q:Exit->St->Prop}(hm:P.follows .mixedOrders=true)(hik:(Nat.blt i k&&Nat.blt k ops.toList.length&&LV ops)=true)(ho:BY H.length H=true)
  (h1:∀Q:Exit->St->Prop,Q .normal ⟨ET e1,H1,n⟩->Jg P ro (PS i k ops) ⟨ET e,H,n⟩ (Qw Q)) (h2:∀Q:Exit->St->Prop,Q .normal ⟨ET e2,H2,n⟩->Jg P ro (PT i k ops) ⟨ET e,H,n⟩ (Qw Q)):
  ∀{l:wi},XL H e1 H1 e2 H2 l=some (e',H')->Q .normal ⟨ET e',H',n⟩->W P ro (.region id ops true) ⟨ET e,H,n⟩ Q
 |[],h,_=>by simp[XL]at h
 |p::l,h,hQ=>by
  simp only[XL]at h;split at h
  .rename_i hc;cases h;simp only[xI]at hc;obtain⟨⟨⟨⟨⟨c1,c2⟩,c3⟩,c4⟩,c5⟩,c7⟩:=hc;simp only[Nat.ble_eq,zZ,KU,xK]at c1 c2 c3 c4 c5;obtain⟨j1,l',j2,j3⟩:=XK (a:=p.1) (b:=p.2) (e1:=e1) (e2:=e2) (m:=8*e1.length)
   have hfl:∀{H K:xS},(Oh H K).length=K.length:=by
    intro H
    induction H with
    |nil=>intro K;simp[Oh]
    |cons b r ih=>intro K;cases K<;>simp[Oh,ih]
   refine Q7 (Q':=fun x S'=>x= .normal/\S'=⟨Nb p.1 p.2 e1 e2 (8*e1.length),Oh H H1,n⟩) (qV (S1:=⟨Nb p.1 p.2 e1 e2 (8*e1.length),Oh H H1,n⟩) i k p.1 p.2 hm hik ho (by simp only[hfl,xI,Nat.ble_eq,zZ];exact⟨⟨⟨c1,c2⟩,c3⟩,c4⟩) (bA (h1 (fun e S'=>e= .normal/\S'=⟨ET e1,H1,n⟩) ⟨rfl,rfl⟩) ?_) (bA (h2 (fun e S'=>e= .normal/\S'=⟨ET e2,H2,n⟩) ⟨rfl,rfl⟩) ?_) ⟨rfl,rfl⟩) ?_
   .rintro x ⟨Se,SH,Sn⟩ ⟨env,q1,rfl,q2⟩ hl;cases q2;refine⟨_,fun t x hx=>q1 t x (by rw[Gp];exact j1 t x hx),rfl,.inl ?_⟩;simp only[bj hl]
   .rintro x ⟨Se,SH,Sn⟩ ⟨env,q1,rfl,q2⟩ hl;cases q2;refine⟨l',fun t x hx=>q1 t x (by rw[Gp];exact j3 t x hx),rfl,.inr ?_⟩;simp only[gT];rw[j2,<-Ue c7 (tJ hl ho c1 c2 (zU c3 (Nat.le_of_eq c5)) (zU c4 (Nat.le_of_eq c5)))]
   .rintro x S' ⟨rfl,rfl⟩;refine .inr ⟨_,fun t x hx=> ?_,hQ⟩;rw[Gp,Uz]at hx;exact hx
  .exact XM hm hik ho h1 h2 h hQ
variable {l:xF}
theorem qU{c:Code}{H:xS}{n:Nat}(h:W P ro c ⟨ET (cW l),H,n⟩ Q):W P ro c ⟨l,H,n⟩ Q:=
 fun N G a w r=>h N G a w (r.RE fun t x hx=>by rw[Gp,Uz]at hx;exact hx)
theorem iS{c:Code}{H K:xS}{n:Nat}{e:Tm}{x:Exit}(ts:Aw)(h:∀Q:Exit->St->Prop,Q x ⟨ET e,K,n⟩->W P ro c ⟨ET (cW l),H,n⟩ Q)(hQ:Q x ⟨small e ts,K,n⟩):W P ro c ⟨l,H,n⟩ Q:=by
 refine qU (Q7 (Q':=fun y S'=>y=x/\S'=⟨ET e,K,n⟩) (h _ ⟨rfl,rfl⟩) ?_);rintro y S' ⟨rfl,rfl⟩;exact .inr ⟨_,fun t x hx=>Gd hx,hQ⟩
end
mutual
theorem rdV0:∀{x y:AV},FJ [] x=some y->y=x/\x.ok 0=true
 | .d _,_,h| .u,_,h| .e0,_,h| .dp _,_,h=>by simp only[FJ,xJ]at h;exact⟨h.symm,rfl⟩
 | .ag _,_,h| .tup _,_,h=>by
  simp only[FJ]at h;split at h
  .rename_i l hl;cases h;obtain⟨rfl,h2⟩:=Y4 hl;exact⟨rfl,h2⟩
  .cases h
 | .fn f a b,y,h=>by
  simp only[FJ]at h;split at h
  .rename_i p q hp hq;cases h;obtain⟨rfl,h2⟩:=Y4 hp;obtain⟨rfl,h3⟩:=Y4 hq;exact⟨rfl,by simp only[AV.ok,h2,h3];rfl⟩
  .cases h
 | .sl ..,y,h=>by simp[FJ]at h
 | .ptr ..,y,h=>by simp[FJ]at h
 | .bs ..,y,h=>by simp[FJ]at h
 | .ep ..,y,h=>by simp[FJ]at h
 | .yl ..,y,h=>by simp[FJ]at h
 | .mp ..,y,h=>by simp[FJ]at h
theorem Y4:∀{xs ys:xD},GH [] xs=some ys->ys=xs/\AV.oks 0 xs=true
 |[],ys,h=>by simp only[GH,xJ]at h;exact⟨h.symm,rfl⟩
 |x::xs,ys,h=>by
  simp only[GH]at h;split at h
  .rename_i y l hy hl;cases h;obtain⟨rfl,h1⟩:=rdV0 hy;obtain⟨rfl,h2⟩:=Y4 hl;exact⟨rfl,by simp only[AV.oks,h1,h2];rfl⟩
  .cases h
end
theorem BJ.up{ys:xD}(h:BJ P f ys [] x K)(hx:GH [] xs=some ys)(H:xS):BJ P f xs H (x.ren (rn [] H.length)) (H++Gb (rn [] H.length) K):=by
 obtain⟨rfl,h2⟩:=Y4 hx;have:=BJ.ren (H2:=H) [] h rfl trivial rfl h2;rw[AV.Ll (k:=0) (fun i hi=>absurd hi (Nat.not_lt_zero _)) h2]at this;exact this
theorem jb{q:D}:∀{x:AV}{v:Value},RV G x v->RV G (wZ q x) v:=by
 intro x v h;unfold wZ;split
 .obtain⟨a,rfl⟩:=h;simp only[RV,RD,Ye,YW];exact⟨a,0,rfl,xH _,.inl rfl⟩
 .obtain⟨a,rfl⟩:=h;simp only[RV,RD,Ye,vj];exact⟨a,0,rfl,xH _,.inl rfl⟩
 .obtain⟨a,rfl⟩:=h;simp only[RV,RD];exact⟨a,0,rfl,xH _,.inl trivial⟩
 .exact h
theorem jd{G:Gh}:∀{l:ww}{xs:xD}{vs:wj},Ba G xs vs->Ba G (uV l xs) vs
 |q::l,x::r,vs,h=>by
  simp only[uV,Ba]at h|-;obtain⟨v,w,h1,h2,h3⟩:=h;exact⟨v,w,h1,jb h2,jd h3⟩
 |[],_,_,h=>by simpa only[uV]using h
 |_::_,[],_,h=>by simpa only[uV]using h
theorem sI{l:ww}{v:Value}(h:RV G x v):RV G (e0A l x) v:=by
 unfold e0A;split
 .simp only[RV]at h|-;obtain⟨vs,h1,h2⟩:=h;exact⟨vs,h1,jd h2⟩
 .split
  .exact jb h
  .exact h
theorem QL{l:ww}{G:Gh}{a:wn}:∀{ps:List (Nat×Operand)}{env:xF},HX G env a->HX G (Wz l env ps) a
 |[],_,h=>h
 |p::r,env,h=>by
  simp only[Wz];split
  .split
   .rename_i x hx;refine QL fun u y hy=> ?_
    rw[bn]at hy;simp only[get]at hy;split at hy
    .rename_i hb;cases hy;obtain⟨v,h1,h2⟩:=h _ x hx;rw[<-xR hb];exact⟨v,h1,sI h2⟩
    .exact h u y hy
   .exact QL h
  .exact QL h
theorem EU.up{o:Oper}{H':xS}{n:Nat}(h:EU P o ⟨small e l,H,n⟩ x H'):EU P o ⟨ET e,H,n⟩ x H':=
 fun ro N G a w r=>h ro N G a w (r.RE fun _ _ hx=>Gd hx)
variable {E:Nat->Option Be}
theorem bS(hE:CP P E){o:Oper}{S:St}(h:eK E S.env o.op=some x)(H:xS):EU P o ⟨S.env,H,S.n⟩ x H:=by
 unfold eK at h;split at h
 .rename_i t len ps hop;split at h
  .rename_i y hy;split at h
   .rename_i e he;split at h
    .rename_i x' hx;cases h;have hx':Jk E (Wz (je E 8 e) S.env ps.toList) H o.op=some (true,x):=by rw[hop]at hx|-;exact hx
     have:=Jl (S:=⟨Wz (je E 8 e) S.env ps.toList,H,S.n⟩) hE hx' rfl;intro ro N G a w r;exact this ro N G a w ⟨r.heap,r.rel,r.size,QL r.env,r.marks,r.round⟩
    .cases h
   .cases h
  .cases h
 .cases h
theorem NJ{env:xF}{op:Op}(h:eK E env op=some x):∀c,op≠ .defer c:=fun c e=>by subst e;cases h
theorem Tj(n0:Nat)(l:Aw):∀(K:xS)(i m:Nat),Bj ((X8 n0 l i K).take m) K
 |[],i,m=>by simp[X8,Bj]
 |b::r,i,0=>by simp[Bj]
 |b::r,i,m+1=>by
  simp only[X8,List.take_succ_cons,Bj];refine⟨?_,Tj n0 l r (i+1) m⟩;split
  .exact .inr rfl
  .rename_i h;exact .inl ⟨rfl,by cases hb:b.ei with|false=>rfl|true=>rw[hb,Bool.or_true]at h;cases h⟩
theorem BJ.gc(h:BJ P f xs H x K):BJ P f xs H x (wb H.length x K):=by
 simp only[wb];split
 .rename_i hc;rw[xI,xI]at hc;exact BJ.drop _ h (Tj _ _ _ _ _) hc.1.2 hc.2 hc.1.1
 .exact h
end Go.Gar
namespace Go.Gar
def Snd(P:Program)(E:Nat->Option Be):Rq->Rz->Prop
 | .c ro c e H n,r=>∀Q:Exit->St->Prop,Q r.1 ⟨ET r.2.1,r.2.2,n⟩->W P ro c ⟨ET e,H,n⟩ Q
 | .lo ro c e H n,r=>r.1≠ .normal/\∃m,∀Q:Exit->St->Prop,Q r.1 ⟨ET r.2.1,r.2.2,n⟩->W P ro c ⟨ET e,H,n⟩ (uo P ro c Q m)
 | .sc ro c0 c e H n,r=>∃j,∀Q:Exit->St->Prop,Q r.1 ⟨ET r.2.1,r.2.2,n⟩->W P ro c ⟨ET e,H,n⟩ (Fa P ro c0 Q j)
 | .l ro ops rest e H n,r=>r.1= .normal/\∀(i:Nat)(Q:Exit->St->Prop),Q .normal ⟨ET r.2.1,r.2.2,n⟩->Wl P ro ops i rest ⟨ET e,H,n⟩ Q
 | .t ro ops _ e H n,r=>r.1= .normal/\∀(id:Nat)(Q:Exit->St->Prop),Q .normal ⟨ET r.2.1,r.2.2,n⟩->W P ro (.region id ops true) ⟨ET e,H,n⟩ Q
 | .d ops acc ks rest e H n,r=>ks=acc.map Rc.k->r.1= .normal/\∀(ro:wk)(S0:St)(Q:Exit->St->Prop),Q .normal ⟨ET r.2.1,r.2.2,n⟩->Wd P ro E ops S0 (Jg P ro ops S0 (Qw Q)) acc rest ⟨ET e,H,n⟩
 | .f g xs H,r=>∀x K,Mw (some r)=some (x,K)->KR P g xs H fun y K'=>y=x/\K'=K
 | .p g xs _,r=>∀x K,Mw (some r)=some (x,K)->(K=[]->W6 P g xs x)/\(K≠[]->BJ P g xs [] x K)
 | .y id xs H,r=>(∃r0,H[id]? =some (.lp r0))/\∀x K,Mw (some r)=some (x,K)->YT P id xs H fun y K'=>y=x/\K'=K
section
variable {P:Program}{ro:wk}{S:St}{Q:Exit->St->Prop}{E:Nat->Option Be}
variable {x:AV}{H K:xS}
theorem Hi{y:AV}{r:Rz}(h:one x H=some r)(k:Mw (some r)=some (y,K)):y=x/\K=H:=by
 simp only[one,xJ]at h;subst h;simp only[Mw,xJ,xZ]at k;exact⟨k.1.symm,k.2.symm⟩
variable {c:Code}
theorem dV{e:Exit}{S':St}(he:∀l,e≠ .goto l)(h:Q e S')(j:Nat):Fa P ro c Q j e S':=by
 rw[Ha he];exact h
theorem eg{op:Op}(h:ZP op=true)(env:xF)(H H':xS):Jk E env H op=Jk E env H' op:=by
 cases op<;>first|rfl|(simp[ZP]at h)
theorem sK{env:xF}{op:Op}{r:Bool×AV}(h:wa E env H op=some r):Jk E env H op=some r:=by
 unfold wa at h;split at h
 .split at h
  .cases h
  .exact h
 .exact h
theorem Oi{n:Nat}:∀(l:Aw)(e:Tm)(H:xS),(Mg l e H).2.length=H.length/\∀{ops:wl}{i:Nat}{rest:wm},Wl P ro ops i rest ⟨ET (Mg l e H).1,(Mg l e H).2,n⟩ Q->Wl P ro ops i rest ⟨ET e,H,n⟩ Q
 |[],e,H=>⟨rfl,fun h=>h⟩
 |id::r,e,H=>by
  simp only[Mg];split
  .rename_i x hx;obtain⟨h2,h3⟩:=Oi (n:=n) r (YQ id x e) (EP id x 0 H);refine⟨h2.trans E5,fun h=>J7 (A6.freeze (S:=⟨ET e,H,n⟩) id hx) (by show H.length<=(EP id x 0 H).length;rw[E5];exact xH _) ?_⟩;exact J7 (S:=⟨KS id x (ET e),EP id x 0 H,n⟩) (S':=⟨ET (YQ id x e),EP id x 0 H,n⟩) (A6.env (S:=⟨KS id x (ET e),EP id x 0 H,n⟩) fun t y hy=>by rw[<-kL];exact hy) (xH _) (h3 h)
  .exact Oi r e H
variable {g n:Nat}{fn:Func}
theorem bk(h:oi P g n=some (fn,c)):P.funcs[g]? =some fn/\fn.body=some c/\n<=fn.ntmps:=by
 unfold oi at h;split at h
 .rename_i fn' hf;split at h
  .rename_i c' hb;split at h
   .rename_i hn;cases h;exact⟨hf,hb,yY hn⟩
   .cases h
  .cases h
 .cases h
theorem WU{o:Option Rz}(h:TP E fn o=some (x,K)):∃y e,o=some (y,e,K)/\(y= .ret\/y= .normal)/\Da E (small e (resT fn.results.toList)) K fn.results.toList=some (true,x):=by
 unfold TP at h;split at h
 .split at h
  .rename_i x' hx;cases h;exact⟨_,_,rfl,.inl rfl,hx⟩
  .cases h
 .split at h
  .rename_i x' hx;cases h;exact⟨_,_,rfl,.inr rfl,hx⟩
  .cases h
 .cases h
theorem ao{K:St->Prop}{e:Exit}{S':St}(he:e= .ret\/e= .normal)(h:K S'):MZ K e S':=by
 rcases he with rfl|rfl<;>exact h
variable {H':xS}
theorem VU(hE:CP P E){o:Oper}(h:op1 E S.env S.H o.op=some (x,H')):EU P o S x H'/\∀c,o.op≠ .defer c:=by
 unfold op1 at h;split at h
 .rename_i q hq;cases h;split at hq
  .exact⟨Uh hE hq rfl,Jj hq⟩
  .cases hq
 .split at h
  .rename_i h1;cases h;exact⟨bS hE h1 _,NJ h1⟩
  split at h
  .rename_i h1;cases h;exact⟨Jl hE h1 rfl,H0 h1⟩
  .split at h
   .rename_i h1;cases h;exact⟨RF hE h1 rfl,Ia h1⟩
   .split at h
    .rename_i h1;cases h;exact⟨RN hE h1 rfl,Ie h1⟩
    .split at h
     .rename_i h1;cases h;exact⟨TZ h1 rfl,Kl h1⟩
     .split at h
      .rename_i h1;cases h;exact⟨Un hE h1 rfl,Jm h1⟩
      .split at h
       .rename_i h1;cases h;exact⟨bU hE h1 rfl,NK h1⟩
       .split at h
        .rename_i h1;cases h;exact⟨Wo hE h1,fun c e=>by rw[e]at h1;cases h1⟩
        .split at h
         .rename_i h1;cases h;exact⟨bY hE h1 rfl,NM h1⟩
         .cases h
theorem lz(hE:CP P E){o:Oper}(h:uZ E S.env S.H o.op=some (x,H')):EU P o S x H'/\∀c,o.op≠ .defer c:=by
 have key:opA E S.env S.H o.op=some (x,H')\/opW E S.env S.H o.op=some (x,H')\/opQ E S.env S.H o.op=some (x,H')\/op1 E S.env S.H o.op=some (x,H'):=by
  unfold uZ at h;split at h<;>first|exact .inl h|exact .inr (.inl h)|exact .inr (.inr (.inl h))|exact .inr (.inr (.inr h))
 rcases key with h|h|h|h
 .unfold opA at h;split at h
  .rename_i h1;cases h;exact⟨RF hE h1 rfl,Ia h1⟩
  .exact VU hE h
 .unfold opW at h;split at h
  .rename_i h1;cases h;exact⟨RN hE h1 rfl,Ie h1⟩
  .exact VU hE h
 .unfold opQ at h;split at h
  .rename_i h1;cases h;rw[sN]at h1;exact⟨Jl hE h1 rfl,H0 h1⟩
  .exact VU hE h
 .exact VU hE h
theorem F7{r:Option Rz}(h:Mw r=some (x,K)):∃s,r=some s/\Mw (some s)=some (x,K):=by
 cases r with
 |none=>simp[Mw]at h
 |some s=>exact⟨s,rfl,h⟩
variable {ops:wl}{rest:wm}{dst:Option Tmp}{e:Tm}
theorem bF{i:Nat}(h:Wl P ro ops i rest ⟨ET (LH dst x e),H,n⟩ Q):Wl P ro ops i rest ⟨Bg dst x (ET e),H,n⟩ Q:=
 J7 (S:=⟨Bg dst x (ET e),H,n⟩) (S':=⟨ET (LH dst x e),H,n⟩) (A6.env (S:=⟨Bg dst x (ET e),H,n⟩) fun t y hy=>by rw[<-Ti];exact hy) (xH _) h
theorem bD{S0:St}{A:Prop}{acc:List Rc}(h:Wd P ro E ops S0 A acc rest ⟨ET (LH dst x e),H,n⟩):Wd P ro E ops S0 A acc rest ⟨Bg dst x (ET e),H,n⟩:=
 UQ (S:=⟨Bg dst x (ET e),H,n⟩) (env:=ET (LH dst x e)) (fun t y hy=>by rw[<-Ti];exact hy) h
theorem YM(n:Nat):∀(H:xS),Bj (H.take n) H:=by
 intro H;have:=HJ (H.take n) (H.drop n);rwa [yg]at this
theorem oj{xs:xD}{e':Tm}(h:sZ P E e H g xs=(e',H')):H'.length=H.length/\∀{ops:wl}{i:Nat}{rest:wm},Wl P ro ops i rest ⟨ET e',H',n⟩ Q->Wl P ro ops i rest ⟨ET e,H,n⟩ Q:=by
 unfold sZ at h;split at h
 .cases h;exact⟨rfl,fun h=>h⟩
 .split at h
  .split at h
   .cases h;exact⟨rfl,fun h=>h⟩
   .obtain⟨a,b⟩:=Oi (P:=P) (ro:=ro) (Q:=Q) (n:=n) (PP xs) e H;rw[h]at a b;exact⟨a,b⟩
  .cases h;exact⟨rfl,fun h=>h⟩
theorem Qx{A:Prop}(h:Wd P ro E ops S A [] ops.toList S):A:=h S .nil rfl rfl (fun _ _ h=>h) (fun k=>sm)
theorem qb(hE:CP P E){xs:xD}{y:Exit}(hf:P.funcs[g]? =some fn)(hb:fn.body=some c)(hname:(fn.name== "runtime.NumGoroutine")=false)(hn:xs.length<=fn.ntmps)(he:∀Q:Exit->St->Prop,Q y ⟨ET e,K,fn.ntmps⟩->W P none c ⟨ET (cW (EG 0 xs)),H,fn.ntmps⟩ Q)(hy:y= .ret\/y= .normal)(hr:Da E (small e (resT fn.results.toList)) K fn.results.toList=some (true,x)):BJ P g xs H x K:=
 WB hE hf hb hname hn (iS (resT fn.results.toList) he (ao hy ⟨true,x,hr,rfl,rfl,rfl⟩))
section
variable {O:Nat->xD->xL}{kp:Nat->Bool}{k:Nat}
theorem qf(hE:CP P E)(hm:P.follows .mixedOrders=true)(hname:∀(g:Nat)(fn:Func), P.funcs[g]? =some fn->(fn.name== "runtime.NumGoroutine")=false)(hO:∀g xs y, O g xs=some y->W6 P g xs y):
  ∀(k:Nat)(q:Rq)(r:Rz),ex P E O kp k q=some r->Snd P E q r:=by
 intro k
 induction k with
 |zero=>intro q r h;simp[ex]at h
 |succ k ih=>
 intro q r h
 cases q with
 |c ro c e H n=>
  simp only[ex]at h
  cases c with
  |skip=>simp only[sC,xJ]at h;subst h;exact fun Q hQ=>GV hQ
  |label l=>simp only[sC,xJ]at h;subst h;exact fun Q hQ=>Q8 hQ
  |exit id=>simp only[sC,xJ]at h;subst h;exact fun Q hQ=>GU hQ
  |goto l=>simp only[sC,xJ]at h;subst h;exact fun Q hQ=>UO hQ
  |ret=>simp only[sC,xJ]at h;subst h;exact fun Q hQ=>J5 hQ
  |refuse w=>simp[sC]at h
  |seq a b=>
   simp only[sC]at h;generalize hx:ex P E O kp k (.c ro a e H n)=z at h;intro Q hQ;refine J6 ?_;unfold wN at h;split at h
   .exact ih _ _ hx _ (ih _ _ h _ hQ)
   .rename_i hne;subst h;refine ih _ _ hx _ ?_;obtain⟨y,e',H'⟩:=r;cases y<;>first|exact hQ|exact(hne _ _ rfl).elim
  |cond o a b=>
   simp only[sC]at h;generalize hx:fW e o=z at h;unfold r7 at h;split at h
   .split at h
    .exact fun Q hQ=>E1 (VW hx) (ih _ _ h Q hQ)
    .exact fun Q hQ=>E0 (VW hx) (ih _ _ h Q hQ)
   .cases h
  |block id b=>
   simp only[sC]at h;generalize hx:ex P E O kp k (.c ro b e H n)=z at h;intro Q hQ;refine F0 ?_;unfold wJ at h;split at h
   .split at h
    .rename_i hb;cases h;refine ih _ _ hx _ ?_;simp only[Kc,hb,yG];exact hQ
    .rename_i hb;cases h;refine ih _ _ hx _ ?_;simp only[Kc,hb,yJ,yC];exact hQ
   .rename_i hne;subst h;refine ih _ _ hx _ ?_;obtain⟨y,e',H'⟩:=r;cases y<;>first|exact hQ|exact(hne _ _ _ rfl).elim
  |loop b=>
   simp only[sC]at h;obtain⟨_,m,h2⟩:=ih _ _ h;exact fun Q hQ=>az m (h2 Q hQ)
  |scope b=>
   simp only[sC]at h;obtain⟨j,h1⟩:=ih _ _ h;exact fun Q hQ=>UP j (h1 Q hQ)
  |region id ops dr=>
   simp only[sC]at h;obtain⟨y,e',H'⟩:=r;split at h
   .obtain⟨h1,h2⟩:=ih _ _ h;simp only at h1;subst h1;exact fun Q hQ=>EW (h2 0 Q hQ)
   .unfold r8 at h;split at h
    .split at h
     .rename_i r' hr';cases h;obtain⟨h1,h2⟩:=ih _ _ hr' rfl;simp only at h1;subst h1;exact fun Q hQ=>iT hm (Qx (h2 ro ⟨ET e,H,n⟩ Q hQ))
     .obtain⟨h1,h2⟩:=ih _ _ h;simp only at h1;subst h1;exact fun Q hQ=>h2 id Q hQ
    .obtain⟨h1,h2⟩:=ih _ _ h;simp only at h1;subst h1;exact fun Q hQ=>h2 id Q hQ
  |rangeFunc g ps asg body=>
   simp only[sC]at h;generalize hg:fW e g=z at h;unfold wM at h;split at h
   .split at h
    .rename_i x0 K hv;unfold wK at h;split at h
     .rename_i r1 hK;split at h
      .cases h
      .rename_i hb;obtain⟨s,hs,hv'⟩:=F7 hv;have hT:=ih _ _ hs _ _ hv';intro Q hQ;refine WI (S:=⟨ET e,H,n⟩) (VW hg) hT ?_;rintro x H' ⟨rfl,rfl⟩;refine⟨r1,hK,hb,?_⟩
       cases hp:r1.pending with
       |none=>
        simp only[hp,xJ]at h|-;subst h;exact hQ
       |some c=>
        simp only[hp]at h|-;exact ih _ _ h Q hQ
     .cases h
    .cases h
   .cases h
 |lo ro c e H n=>
  simp only[ex]at h;generalize hx:ex P E O kp k (.c ro c e H n)=z at h;unfold sLo at h;split at h
  .obtain⟨g1,m,g2⟩:=ih _ _ h;exact⟨g1,m+1,fun Q hQ=>ih _ _ hx _ (g2 Q hQ)⟩
  .rename_i hne;subst h;obtain⟨y,e',H'⟩:=r;refine⟨by rintro rfl;exact hne _ _ rfl,0,fun Q hQ=>ih _ _ hx _ ?_⟩;cases y<;>first|exact hQ|exact(hne _ _ rfl).elim
 |sc ro c0 c e H n=>
  simp only[ex]at h;generalize hx:ex P E O kp k (.c ro c e H n)=z at h;unfold sSc at h;split at h
  .split at h
   .rename_i rest hl;obtain⟨j,g⟩:=ih _ _ h;exact⟨j+1,fun Q hQ=>ih _ _ hx _ (by simp only[Fa,hl];exact g Q hQ)⟩
   .rename_i hl;cases h;exact⟨0,fun Q hQ=>ih _ _ hx _ ⟨hl,hQ⟩⟩
  .rename_i hne;subst h;obtain⟨y,e',H'⟩:=r;exact⟨0,fun Q hQ=>ih _ _ hx _ (dV (fun l e'=>by subst e';exact hne _ _ _ rfl) hQ 0)⟩
 |l ro ops rest e H n=>
  simp only[ex]at h
  cases rest with
  |nil=>simp only[sL,xJ]at h;subst h;exact⟨rfl,fun i Q hQ=>Yj hQ⟩
  |cons o rest=>
   simp only[sL]at h;split at h
   .cases h
   rename_i hd;generalize hg:Af ops (small e (looks ops o)) o=z at h;unfold sL1 at h;split at h
   .cases h
   .obtain⟨h1,h2⟩:=ih _ _ h;exact⟨h1,fun i Q hQ=>bE (S:=⟨ET e,H,n⟩) (Ku (fun _ _ hx=>Gd hx) hg) hd (bF (h2 _ Q hQ))⟩
   .have hg':=Ku (b:=ET e) (fun _ _ hx=>Gd hx) hg;generalize ho:uZ E (small e (looks ops o)) H o.op=z at h;unfold sL2 at h;split at h
    .obtain⟨h1,h2⟩:=ih _ _ h;obtain⟨o1,o2⟩:=lz (S:=⟨small e (looks ops o),H,n⟩) hE ho;exact⟨h1,fun i Q hQ=>NA (S:=⟨ET e,H,n⟩) hg' o1.up o2 hd (bF (h2 _ Q hQ))⟩
    .generalize hy:Gn (small e (looks ops o)) o.op=z at h;unfold sL3 at h;split at h
     .split at h
      .rename_i x H' hv;obtain⟨s,hs,hv'⟩:=F7 hv;obtain⟨⟨r0,hlp⟩,hT⟩:=ih _ _ hs;have hT:=hT _ _ hv';obtain⟨h1,h2⟩:=ih _ _ h;exact⟨h1,fun i Q hQ=>vL (S:=⟨ET e,H,n⟩) hg' (Uq (fun _ _ hx=>Gd hx) hy) hd hlp hT (fun r H' he=>by obtain⟨e1,e2⟩:=he;subst e1;subst e2;exact bF (h2 _ Q hQ))⟩
      .cases h
     .generalize hc:CG (small e (looks ops o)) o.op=z at h;unfold sL4 at h;split at h
      .split at h;rename_i e' H' hfz;unfold qz at h;split at h
       .rename_i g' ys hg2 hc2;split at h
        .rename_i x H2 hv;obtain⟨s,hs,hv'⟩:=F7 hv;have hT:=ih _ _ hs _ _ hv';obtain⟨h1,h2⟩:=ih _ _ h;refine⟨h1,fun i Q hQ=> ?_⟩;obtain⟨z2,z3⟩:=oj (ro:=ro) (Q:=Q) (n:=n) hfz;exact z3 (oD (S:=⟨ET e',H',n⟩) (Ku (fun _ _ hx=>Gd hx) hg2) (Wm (fun _ _ hx=>Gd hx) hc2) hd hT (fun r H' he=>by obtain⟨e1,e2⟩:=he;subst e1;subst e2;exact bF (h2 _ Q hQ)))
        .cases h
       .cases h
      .cases h
 |t ro ops l e H n=>
  simp only[ex]at h
  cases l with
  |nil=>simp[sT]at h
  |cons p l=>
   simp only[sT]at h;split at h
   .cases h
   rename_i hc;rw[xI]at hc;generalize h1:ex P E O kp k (.d (PS p.1 p.2 ops) [] [] (PS p.1 p.2 ops).toList e H n)=z1 at h;generalize h2:ex P E O kp k (.d (PT p.1 p.2 ops) [] [] (PT p.1 p.2 ops).toList e H n)=z2 at h;unfold r9 at h;split at h
   .split at h
    .rename_i hj;cases h;obtain⟨a1,a2⟩:=ih _ _ h1 rfl;obtain⟨b1,b2⟩:=ih _ _ h2 rfl;exact⟨rfl,fun id Q hQ=>XM hm hc.1 hc.2 (fun Q hQ=>Qx (a2 ro ⟨ET e,H,n⟩ Q hQ)) (fun Q hQ=>Qx (b2 ro ⟨ET e,H,n⟩ Q hQ)) hj hQ⟩
    .exact(ih (.t ro ops l e H n) r h :)
   .exact(ih (.t ro ops l e H n) r h :)
 |d ops acc ks rest e H n=>
  simp only[ex]at h;intro hks
  cases rest with
  |nil=>
   simp only[sD]at h;split at h
   .rename_i hb;cases h;rw[xI]at hb;have hk:ks.reverse=acc.reverse.map Rc.k:=by rw[hks,List.map_reverse]
    have hb1:=hb.1;unfold dOK at hb1;rw[hk]at hb1;exact⟨rfl,fun ro S0 Q hQ=>rU (S:=⟨ET e,H,n⟩) hE hb1 (by rw[<-hk];exact Ta hb.2) hQ⟩
   .cases h
  |cons o rest=>
   simp only[sD]at h;have hsm:=O0 (e:=e) (l:=looks ops o);split at h
   .cases h
   rename_i hd;generalize hg:Af ops (small e (looks ops o)) o=z at h
   have fin:∀{x:AV}{kd:Kd}{H':xS},PN (ex P E O kp k) ops acc ks o rest n e H x kd H'=some r->(∀ro,(⟨Ey (looks ops o) (ET e),H,x,kd⟩:Rc).ok P ro E ops n o H')->
     r.1= .normal/\∀(ro:wk)(S0:St)(Q:Exit->St->Prop),Q .normal ⟨ET r.2.1,r.2.2,n⟩->Wd P ro E ops S0 (Jg P ro ops S0 (Qw Q)) acc (o::rest) ⟨ET e,H,n⟩:=by
    intro x kd H' h hok;unfold PN at h;rw[hsm]at h;obtain⟨h1,h2⟩:=ih _ _ h (by rw[hks];rfl);exact⟨h1,fun ro S0 Q hQ=>KD (S:=⟨ET e,H,n⟩) (x:=x) (k:=kd) (H':=H') (hok ro) (bD (h2 ro S0 Q hQ))⟩
   unfold sD1 at h;rw[hsm]at hg;split at h
   .cases h
   .unfold PN at h;rw[hsm]at h;obtain⟨h1,h2⟩:=ih _ _ h (by rw[hks];rfl);exact⟨h1,fun ro S0 Q hQ=>bC (S:=⟨ET e,H,n⟩) hg hd (bD (h2 ro S0 Q hQ))⟩
   .generalize hx:eK E (small e (looks ops o)) o.op=z at h;unfold sD2 at h;split at h
    .rw[hsm]at hx;exact fin h fun ro=>⟨hd,hg,fun H=>(bS (S:=⟨Ey (looks ops o) (ET e),H,n⟩) hE hx H).step (NJ hx),rfl⟩
    .generalize hx:wa E (small e (looks ops o)) H o.op=z at h;unfold sD3 at h;split at h
     .have hq:=sK hx;rw[hsm]at hq;split at h
      .rename_i hf;unfold PN at h;rw[hsm]at h;obtain⟨h1,h2⟩:=ih _ _ h (by rw[hks];rfl);exact⟨h1,fun ro S0 Q hQ=>oB (S:=⟨ET e,H,n⟩) hE hg (fun H'=>by rw[eg hf _ H' H];exact hq) hd rfl (bD (h2 ro S0 Q hQ))⟩
      .unfold PN at h;rw[hsm]at h;obtain⟨h1,h2⟩:=ih _ _ h (by rw[hks];rfl);exact⟨h1,fun ro S0 Q hQ=>vE (S:=⟨ET e,H,n⟩) hg hq hd rfl (bD (h2 ro S0 Q hQ))⟩
     .generalize ho:uZ E (small e (looks ops o)) H o.op=z at h;unfold sD4 at h;split at h
      .rw[hsm]at ho;obtain⟨o1,o2⟩:=lz (S:=⟨Ey (looks ops o) (ET e),H,n⟩) hE ho;exact fin h fun ro=>⟨hd,hg,o1.step o2⟩
      .generalize hc:CG (small e (looks ops o)) o.op=z at h;unfold sD5 at h;rw[hsm]at hc;split at h
       .cases h
       .split at h
        .rename_i ys hx;split at h
         .rename_i x hv;obtain⟨s,hs,hv'⟩:=F7 hv;have hP:=(ih _ _ hs _ _ hv').1 rfl;exact fin h fun ro=>⟨hd,hg,fun H=>Qv (S:=⟨Ey (looks ops o) (ET e),H,n⟩) hc (W6.uf hP hx H),rfl⟩
         .rename_i x b K hv;obtain⟨s,hs,hv'⟩:=F7 hv;have hP:=(ih _ _ hs _ _ hv').2 sm;exact fin h fun ro=>⟨hd,hg,Qv (S:=⟨Ey (looks ops o) (ET e),H,n⟩) hc (BJ.up hP hx H)⟩
         .cases h
        .split at h
         .rename_i x H' hv;obtain⟨s,hs,hv'⟩:=F7 hv;have hT:=ih _ _ hs _ _ hv';exact fin h fun ro=>⟨hd,hg,Qv (S:=⟨Ey (looks ops o) (ET e),H,n⟩) hc hT⟩
         .cases h
 |p g xs b0=>
  simp only[ex]at h;generalize hy:O g xs=z at h;unfold sP at h;split at h
  .intro x K hv;obtain⟨rfl,rfl⟩:=Hi h hv;exact⟨fun _=>hO _ _ _ hy,fun k=>absurd rfl k⟩
  .split at h
   .cases h
   .rename_i fn c hf;generalize hb:TP E fn (ex P E O kp k (.c none c (cW (EG 0 xs)) [] fn.ntmps))=z at h;unfold sP1 at h;split at h
    .rename_i x K;obtain⟨y,e,he,hr,hev⟩:=WU hb;obtain⟨f1,f2,f3⟩:=bk hf;split at h
     .rename_i y' hy' _;intro x' K' hv;obtain⟨rfl,rfl⟩:=Hi h hv;exact⟨fun _=>iC hE f1 f2 (hname _ _ f1) f3 (iS (resT fn.results.toList) (ih _ _ he) (ao hr ⟨true,x,hev,rfl,hy'⟩)) (Y3 hy'),fun k=>absurd rfl k⟩
     .split at h
      .cases h
      .rename_i b l hgc;intro x' K' hv;obtain⟨rfl,rfl⟩:=Hi h hv;have hT:=(qb hE f1 f2 (hname _ _ f1) f3 (ih _ _ he) hr hev).gc;rw[show([]:xS).length=0 from rfl,hgc]at hT;exact⟨(fun k=>by cases k),fun _=>hT⟩
    .cases h
 |f g xs H=>
  simp only[ex,sF]at h;split at h
  .rename_i ys hx;split at h
   .rename_i x hv;intro x' K' hv2;obtain⟨rfl,rfl⟩:=Hi h hv2;obtain⟨s,hs,hv'⟩:=F7 hv;exact W6.uf ((ih _ _ hs _ _ hv').1 rfl) hx _
   .rename_i x b K hv;intro x' K' hv2;obtain⟨rfl,rfl⟩:=Hi h hv2;obtain⟨s,hs,hv'⟩:=F7 hv;exact BJ.up ((ih _ _ hs _ _ hv').2 sm) hx H
   .cases h
  .split at h
   .rename_i ys hx;split at h
    .rename_i x hv;split at h
     .rename_i hfl;intro x' K' hv2;obtain⟨rfl,rfl⟩:=Hi h hv2;obtain⟨s,hs,hv'⟩:=F7 hv;exact W6.read ((ih _ _ hs _ _ hv').1 rfl) hfl hx
     .cases h
    .cases h
   .split at h
    .cases h
    .rename_i fn c hf;generalize hb:TP E fn (ex P E O kp k (.c none c (cW (EG 0 xs)) H fn.ntmps))=z at h;unfold sF1 at h;split at h
     .rename_i x K;obtain⟨y,e,he,hr,hev⟩:=WU hb;obtain⟨f1,f2,f3⟩:=bk hf;have hT:BJ P g xs H x K:=qb hE f1 f2 (hname _ _ f1) f3 (ih _ _ he) hr hev;split at h
      .rename_i hb2;intro x' K' hv2;obtain⟨rfl,rfl⟩:=Hi h hv2;rw[xI,xI]at hb2;have hl:=yY hb2.1.1;have hlen:(K.take H.length).length=H.length:=by rw[yM];omega
       exact BJ.drop _ hT (YM _ _) (by rw[hlen];exact hb2.1.2) (by rw[hlen];exact hb2.2) (by rw[hlen];exact Nat.ble_eq_true_of_le (xH _))
      .intro x' K' hv2;obtain⟨rfl,rfl⟩:=Hi h hv2;exact hT.gc
     .cases h
 |y id xs H=>
  simp only[ex]at h;generalize hlp:H[id]? =z at h;unfold sY at h;split at h
  .rename_i r0;split at h
   .cases h
   rename_i hb;rw[xI,xI]at hb;generalize h1:ex P E O kp k (.c (some id) r0.assign (cW (TB r0.params.toList xs r0.env)) H r0.n)=z at h;unfold sY1 at h;split at h
   .rename_i e1 H1;split at h
    .rename_i r1 hr1;split at h
     .cases h
     rename_i hrdy;generalize h2:ex P E O kp k (.c (some id) r0.body e1 (H1.set id (.lp (r1.at_ .busy r1.pending))) r0.n)=z at h;unfold sY2 at h;split at h
     .rename_i x2 e2 H2;split at h
      .rename_i j r2 hj hr2;split at h
       .cases h
       rename_i hlen;have hl:=yY hlen;have hid:id<H.length:=(xW.1 hlp).1;refine⟨⟨r0,hlp⟩,fun x K hv=> ?_⟩
       have key:∀S'':St,A6 ⟨ET e2,H2,r0.n⟩ S''->H.length<=S''.H.length->S''.H[id]? =some (.lp r2)->one (.d (.b j.isNone)) (S''.H.set id (.lp (r2.at_ (K8 j) j)))=some r->YT P id xs H fun y K'=>y=x/\K'=K:=by
        intro S'' ht hle hi ho;obtain⟨rfl,rfl⟩:=Hi ho hv;have hs0:r0.state= .ready:=by have:=hb.1.1;revert this;cases r0.state<;>decide
        have hs1:r1.state= .ready:=by revert hrdy;cases r1.state<;>decide
        refine bG hlp hs0 (xR hb.1.2) (fun t ht=> ?_) (qU (ih _ _ h1 _ ⟨r1,hr1,hs1,?_⟩))
        .have:=yc.1 hb.2 t ht;simpa using this
        .exact ih _ _ h2 _ ⟨j,hj,S'',ht,hle,zU hid hle,r2,hi,rfl,rfl⟩
       have hlen2:(H2.take H.length).length=H.length:=by rw[yM];omega
       split at h
       .rename_i hk;exact key ⟨[],H2.take H.length,r0.n⟩ (A6.cut rfl trivial (YM _ _) (by rw[hlen2];exact hk) rfl) (by show H.length<=(H2.take H.length).length;omega) (by show(H2.take H.length)[id]? =_;rw[List.getElem?_take_of_lt hid];exact hr2) h
       .exact key ⟨ET e2,H2,r0.n⟩ (A6.refl _) hl hr2 h
      .cases h
     .cases h
    .cases h
   .cases h
  .cases h
end
end
end Go.Gar
