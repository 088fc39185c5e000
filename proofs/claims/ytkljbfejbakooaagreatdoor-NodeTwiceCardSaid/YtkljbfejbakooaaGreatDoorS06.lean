/- Part 6 of a proof. Conditions: those that its theorems state. -/
import Derived.Test.YtkljbfejbakooaaGreatDoorS05
set_option linter.unusedSimpArgs false
set_option linter.unusedVariables false
set_option linter.unnecessarySimpa false
set_option maxHeartbeats 40000000
set_option maxRecDepth 4000
namespace Go.Gar
abbrev Tm:=List (List (Option AV))
def J4:List (Option AV)->Nat->Option AV
 |[],_=>none
 |x::_,0=>x
 |_::r,k+1=>J4 r k
def J5:Tm->Nat->List (Option AV)
 |[],_=>[]
 |c::_,0=>c
 |_::r,k+1=>J5 r k
def Ie(e:Tm)(t:Nat):Option AV:=J4 (J5 e (t/8)) (t%8)
def set1(x:AV):Nat->List (Option AV)->List (Option AV)
 |0,[]=>[some x]
 |0,_::r=>some x::r
 |k+1,[]=>none::set1 x k []
 |k+1,y::r=>y::set1 x k r
def Pg(j:Nat)(x:AV):Nat->Tm->Tm
 |0,[]=>[set1 x j []]
 |0,c::r=>set1 x j c::r
 |k+1,[]=>[]::Pg j x k []
 |k+1,c::r=>c::Pg j x k r
def jU(t:Nat)(x:AV)(e:Tm):Tm:=Pg (t%8) x (t/8) e
def JG(dst:Option Tmp)(x:AV)(e:Tm):Tm:=
 match dst with
 |some d=>jU d x e
 |none=>e
def aL(e:Tm):Nat->List (Nat×AV)
 |0=>[]
 |m+1=>match Ie e m with
  |some x=>(m,x)::aL e m
  |none=>aL e m
def D1(e:Tm):List (Nat×AV):=aL e (8*e.length)
def XU:List (Nat×AV)->Tm
 |[]=>[]
 |p::r=>jU p.1 p.2 (XU r)
def small(e:Tm):List Nat->List (Nat×AV)
 |[]=>[]
 |t::r=>match Ie e t with
  |some x=>(t,x)::small e r
  |none=>small e r
def ZQ(e:Tm):Operand->Option AV
 | .tmp t=>Ie e t
 |o=>CH [] o
def resT:List ResultVar->List Nat
 |[]=>[]
 | .tmp t::r=>t::resT r
 | .cell a _::r=>a::resT r
def upd(t:Nat)(x:AV):List (Nat×AV)->List (Nat×AV)
 |[]=>[(t,x)]
 |p::r=>match Nat.beq p.1 t with
  |true=>(t,x)::r
  |false=>p::upd t x r
mutual
def Dy(H:List A3):AV->Option AV
 | .d x=>some (.d x)
 | .u=>some .u
 | .e0=>some .e0
 | .dp cs=>some (.dp cs)
 | .sl id n _=>match H[id]? with
  |some (.a x)=>match Nat.beq n (AP x)with
   |true=>some (.d x)
   |false=>none
  |_=>none
 | .ag cs=>match Ea H cs with
  |some l=>some (.ag l)
  |none=>none
 | .tup cs=>match Ea H cs with
  |some l=>some (.tup l)
  |none=>none
 | .fn f a b=>match Ea H a,Ea H b with
  |some p,some q=>some (.fn f p q)
  |_,_=>none
 |_=>none
def Ea(H:List A3):List AV->Option (List AV)
 |[]=>some []
 |x::r=>match Dy H x,Ea H r with
  |some y,some l=>some (y::l)
  |_,_=>none
end
mutual
def pM:AV->List Nat
 | .sl id _ _=>[id]
 | .ag cs| .tup cs=>Mn cs
 | .fn _ a b=>Mn a++Mn b
 |_=>[]
def Mn:List AV->List Nat
 |[]=>[]
 |x::r=>pM x++Mn r
end
def gv(id:Nat)(x:D):Option AV->Option AV
 |some y=>some (y.EN id x)
 |none=>none
def Un(id:Nat)(x:D)(e:Tm):Tm:=e.map fun c=>c.map (gv id x)
def KS:List Nat->Tm->List A3->Tm×List A3
 |[],e,H=>(e,H)
 |id::r,e,H=>match H[id]? with
  |some (.a x)=>KS r (Un id x e) (Cx id x 0 H)
  |_=>KS r e H
def oa(E:Nat->Option Ao)(e:Nat):D:=
 match E e with
 |some z=>match z.k with
  | .int .u8=> .by []
  | .int .i64=> .is []
  |_=> .sl z.size []
 |none=> .np
def bm(E:Nat->Option Ao):Nat->Nat->List D
 |0,_=>[]
 |k+1,t=>match E t with
  |some y=>match y.k with
   | .st fs=>fs.flatMap fun f=>bm E k f.2
   | .arr n e=>(List.replicate n (bm E k e)).flatten
   | .sl e=>[oa E e]
   |_=>y.zero.map fun _=> .np
  |none=>[]
def pP:D->AV->AV
 | .by [],.e0=> .d (.by [])
 | .is [],.e0=> .d (.is [])
 | .sl n [],.e0=> .d (.sl n [])
 |_,x=>x
def nY:List D->List AV->List AV
 |q::l,x::r=>pP q x::nY l r
 |_,r=>r
def e0A(l:List D):AV->AV
 | .ag cs=> .ag (nY l cs)
 |x=>match l with
  |[q]=>pP q x
  |_=>x
def TY(l:List D)(env:List (Nat×AV)):List (Nat×Operand)->List (Nat×AV)
 |[]=>env
 |p::r=>match p.2 with
  | .tmp t=>match get env t with
   |some x=>TY l (upd t (e0A l x) env) r
   |none=>TY l env r
  |_=>TY l env r
def Yo(E:Nat->Option Ao)(env:List (Nat×AV))(op:Op):Option AV:=
 match op with
 | .buildSlice t len ps=>match E t with
  |some y=>match y.k with
   | .sl e=>match Hu E (TY (bm E 8 e) env ps.toList) [] op with
    |some (true,x)=>some x
    |_=>none
   |_=>none
  |none=>none
 |_=>none
def op1(E:Nat->Option Ao)(env:List (Nat×AV))(H:List A3)(op:Op):Option (AV×List A3):=
 match(match op with| .call _=>MJ E env H op|_=>none)with
 |some (true,q)=>some (.sl H.length (AP q) (B9 q),H++[.a q])
 |_=>match Yo E env op with
 |some x=>some (x,H)
 |none=>match Hu E env H op with
  |some (true,x)=>some (x,H)
  |_=>match aU E env H op with
   |some (true,f,b)=>some (f H.length,H++[b])
   |_=>match fZ E env H op with
    |some (true,x,H')=>some (x,H')
    |_=>match MM env op with
     |some (true,x)=>some (x,H)
     |_=>match TU E env H op with
      |some (true,H')=>some (.u,H')
      |_=>match Yr E env op with
       |some (true,f,b)=>some (f H.length,H++[b])
       |_=>match TQ E env op with
        |some r=>some (.d (.b r),H)
        |none=>match cH E env H op with
         |some (true,H')=>some (.u,H')
         |_=>none
def pQ(E:Nat->Option Ao)(env:List (Nat×AV))(H:List A3)(op:Op):Option (Bool×AV):=
 match op with
 | .call _=>match MJ E env H op with
  |some _=>none
  |none=>Hu E env H op
 |_=>Hu E env H op
def og(P:Program)(E:Nat->Option Ao)(g:Nat):Bool:=
 match P.funcs[g]? with
 |some fn=>match fn.resultTypes.toList with
  |[t]=>match E t with
   |some y=>match y.k with
    | .int _=>true
    |_=>match y.zero with
     |[.bool _]=>true
     |[.string _]=>true
     |_=>false
   |none=>false
  |_=>false
 |none=>false
def cW:AV->Bool
 | .d x=>flat x
 |_=>false
def VO(op:Op):Bool:=
 match op with
 | .move _| .assign _| .pick _ _ _| .unOp _ _ _| .makeFunc _ _ _| .extract _ _| .field _ _ _| .index _ _ _| .build _ _| .slice _ _ _ _ _=>true
 |_=>false
def Xe(ops:Array Oper)(ks:List Kd)(n:Nat):List (Nat×Nat):=
 (List.range n).flatMap fun i=>match Rf ks[i]? with
  |false=>[]
  |true=>(List.range n).filterMap fun k=>match To ks[k]? && !((Nat.blt k i&&(PV ops i).testBit k)||(Nat.blt i k&&(PV ops k).testBit i))with
   |true=>some (i,k)
   |false=>none
mutual
def D.Hs:D->D->Bool
 | .b x,.b y=>x==y
 | .i k n,.i k' n'=>decide (k=k')&&decide (n=n')
 | .s l,.s l'=>decide (l=l')
 | .by l,.by l'=>decide (l=l')
 | .is l,.is l'=>decide (l=l')
 | .agg p,.agg q=>D.HB p q
 | .tup p,.tup q=>D.HB p q
 | .sl n p,.sl m q=>Nat.beq n m&&D.Q3 p q
 | .np,.np=>true
 | .nf,.nf=>true
 | .ni,.ni=>true
 | .nm,.nm=>true
 |_,_=>false
def D.HB:List D->List D->Bool
 |[],[]=>true
 |x::r,y::l=>D.Hs x y&&D.HB r l
 |_,_=>false
def D.Q3:List (List D)->List (List D)->Bool
 |[],[]=>true
 |x::r,y::l=>D.HB x y&&D.Q3 r l
 |_,_=>false
end
mutual
def AV.Hs:AV->AV->Bool
 | .d x,.d y=>D.Hs x y
 | .u,.u=>true
 | .e0,.e0=>true
 | .ptr a b c,.ptr a' b' c'=>Nat.beq a a'&&Nat.beq b b'&&Nat.beq c c'
 | .sl a b c,.sl a' b' c'=>Nat.beq a a'&&Nat.beq b b'&&Nat.beq c c'
 | .bs i j k m n,.bs i' j' k' m' n'=>Nat.beq i i'&&Nat.beq j j'&&Nat.beq k k'&&Nat.beq m m'&&Nat.beq n n'
 | .ep i j k m n,.ep i' j' k' m' n'=>Nat.beq i i'&&Nat.beq j j'&&Nat.beq k k'&&Nat.beq m m'&&Nat.beq n n'
 | .ag p,.ag q=>AV.HB p q
 | .tup p,.tup q=>AV.HB p q
 | .fn (.func f) a b,.fn (.func g) p q=>Nat.beq f g&&AV.HB a p&&AV.HB b q
 | .yl p,.yl q=>Nat.beq p q
 | .mp p,.mp q=>Nat.beq p q
 | .dp p,.dp q=>D.HB p q
 |_,_=>false
def AV.HB:List AV->List AV->Bool
 |[],[]=>true
 |x::r,y::l=>AV.Hs x y&&AV.HB r l
 |_,_=>false
end
def nZ:List (D×AV)->List (D×AV)->Bool
 |[],[]=>true
 |p::r,q::l=>D.Hs p.1 q.1&&AV.Hs p.2 q.2&&nZ r l
 |_,_=>false
def A3.Hs:A3->A3->Bool
 | .gone,.gone=>true
 | .c p,.c q=>AV.HB p q
 | .a x,.a y=>D.Hs x y
 | .m p,.m q=>nZ p q
 |_,_=>false
def RN:A3->A3->A3
 | .lp r0,.lp r=> .lp {r0 with state:=r.state,pending:=r.pending}
 |_,b=>b
def MO:List A3->List A3->List A3
 |b0::r0,b::r=>RN b0 b::MO r0 r
 |_,l=>l
def stB:LoopState->LoopState->Bool
 | .ready,.ready| .busy,.busy| .done,.done| .exhausted,.exhausted=>true
 |_,_=>false
def lK:A3->A3->A3->Bool
 | .lp _,.lp r,.lp q=>stB r.state q.state&&r.pending.isNone&&q.pending.isNone
 | .lp _,_,_=>false
 |_,x,y=>A3.Hs x y
def PY:List A3->List A3->List A3->Bool
 |b::r,x::l,y::m=>lK b x y&&PY r l m
 |[],x::l,y::m=>A3.Hs x y&&PY [] l m
 |_,[],[]=>true
 |_,_,_=>false
def LS(a b:Nat)(e1 e2:Tm):Nat->List (Nat×AV)
 |0=>[]
 |t+1=>match Ie e1 t,Ie e2 t with
  |some x,some y=>match AV.Hs (y.ren (sw a b)) x with
   |true=>(t,x)::LS a b e1 e2 t
   |false=>LS a b e1 e2 t
  |_,_=>LS a b e1 e2 t
def Tt(H:List A3)(e1:Tm)(H1:List A3)(e2:Tm)(H2:List A3):List (Nat×Nat)->Option (Tm×List A3)
 |[]=>none
 |p::l=>match Nat.ble H.length p.1&&Nat.ble H.length p.2&&Nat.blt p.1 H1.length&&Nat.blt p.2 H1.length&&Nat.beq H1.length H2.length&&PY H (Sl p.1 p.2 H2) H1 with
  |true=>some (XU (LS p.1 p.2 e1 e2 (8*e1.length)),MO H H1)
  |false=>Tt H e1 H1 e2 H2 l
def Ro(op:Op):Bool:=
 match op with
 | .alloc _| .box _ _| .makeSlice _ _ _| .makeMap _ _| .call _=>true
 |_=>false
def gZ(op:Op):Bool:=
 match op with
 | .alloc _| .box _ _| .makeSlice _ _ _| .makeMap _ _=>true
 |_=>false
def jn(Ro:Op->Bool)(ops:Array Oper):List (Nat×Nat):=
 (List.range ops.toList.length).flatMap fun k=>match ops.toList[k]? with
  |some o=>match Ro o.op with
   |true=>(List.range k).filterMap fun i=>match ops.toList[i]? with
    |some q=>match Ro q.op&& !(PV ops k).testBit i with
     |true=>some (i,k)
     |false=>none
    |none=>none
   |false=>[]
  |none=>[]
def mO(a b:Nat):List (Nat×Nat):=(List.range' a (b-a)).flatMap fun j=>(List.range' a (j-a)).map fun i=>(i,j)
def dOK(ops:Array Oper)(ks:List Kd):Bool:=HA ops ks.reverse (Xe ops ks.reverse ops.toList.length)
def RJ(E:Nat->Option Ao)(ops:Array Oper)(rs:List Rc)(Hf:List A3):List (Nat×Nat)->Bool
 |[]=>true
 |p::l=>(match ops.toList[p.1]?,rs[p.1]? with
  |some o,some r=>match Hu E r.e (hAt rs Hf (if Nat.blt p.2 p.1 then p.2 else p.2+1)) o.op with
   |some (true,y)=>AV.Hs y r.x
   |_=>false
  |_,_=>false)&&RJ E ops rs Hf l
def kC(env:List (Nat×AV))(c a b:Operand):Option (Bool×AV):=
 match CH env c with
 |some (.d (.b t))=>match t with
  |true=>tt (CH env a)
  |false=>tt (CH env b)
 |_=>none
def q1(x:Option AV)(f:AV->Option (Bool×AV)):Option (Bool×AV):=
 match x with
 |some x=>f x
 |none=>none
def q2(x y:Option AV)(f:AV->AV->Option (Bool×AV)):Option (Bool×AV):=
 match x,y with
 |some x,some y=>f x y
 |_,_=>none
def evq(E:Nat->Option Ao)(env:List (Nat×AV))(H:List A3)(op:Op):Option (Bool×AV):=
 match op with
 | .move x| .assign x=>tt (CH env x)
 | .pick c a b=>kC env c a b
 | .load t a=>q1 (CH env a) (OW E H t)
 | .nilCheck a=>q1 (CH env a) (X1 H)
 | .fieldAddr s a f=>q1 (CH env a) fun x=>Gq E H s x f
 | .field t a f=>q1 (CH env a) fun x=>Nh E t x f
 | .indexAddr t a i=>q2 (CH env a) (CH env i) (Gr E H t)
 | .index t a i=>q2 (CH env a) (CH env i) (Ni E t)
 | .extract a i=>q1 (CH env a) fun x=>JV x i
 |op=>Hu E env H op
theorem lR{E:Nat->Option Ao}{env:List (Nat×AV)}{H:List A3}{op:Op}:evq E env H op=Hu E env H op:=by
 cases op<;>first|rfl|(simp only[evq,Hu,kC,q1,q2])
def opA(E:Nat->Option Ao)(env:List (Nat×AV))(H:List A3)(op:Op):Option (AV×List A3):=
 match aU E env H op with
 |some (true,f,b)=>some (f H.length,H++[b])
 |_=>op1 E env H op
def opW(E:Nat->Option Ao)(env:List (Nat×AV))(H:List A3)(op:Op):Option (AV×List A3):=
 match fZ E env H op with
 |some (true,x,H')=>some (x,H')
 |_=>op1 E env H op
def opQ(E:Nat->Option Ao)(env:List (Nat×AV))(H:List A3)(op:Op):Option (AV×List A3):=
 match evq E env H op with
 |some (true,x)=>some (x,H)
 |_=>op1 E env H op
def nh(E:Nat->Option Ao)(env:List (Nat×AV))(H:List A3)(op:Op):Option (AV×List A3):=
 match op with
 | .alloc _| .box _ _=>opA E env H op
 | .store _ _ _=>opW E env H op
 | .call _| .buildSlice _ _ _| .makeSlice _ _ _| .makeMap _ _=>op1 E env H op
 |_=>opQ E env H op
mutual
def AV.ids:AV->List Nat
 | .ptr id _ _| .sl id _ _| .bs id _ _ _ _| .ep id _ _ _ _| .yl id| .mp id=>[id]
 | .ag cs| .tup cs=>AV.cy cs
 | .fn _ a b=>AV.cy a++AV.cy b
 |_=>[]
def AV.cy:List AV->List Nat
 |[]=>[]
 |x::r=>x.ids++AV.cy r
end
def A3.ids:A3->List Nat
 | .c cs=>AV.cy cs
 | .m es=>es.flatMap fun p=>p.2.ids
 | .lp r=>r.env.flatMap fun p=>p.2.ids
 |_=>[]
def mJ(n:Nat):List Nat->Bool
 |[]=>false
 |m::r=>match Nat.beq n m with
  |true=>true
  |false=>mJ n r
def reach(n0:Nat)(K:List A3):Nat->List Nat->List Nat->List Nat
 |0,_,seen=>seen
 |_,[],seen=>seen
 |k+1,id::l,seen=>match Nat.blt id n0||mJ id seen with
  |true=>reach n0 K k l seen
  |false=>match K[id]? with
   |some b=>reach n0 K k (b.ids++l) (id::seen)
   |none=>reach n0 K k l seen
def Ti(n0:Nat)(l:List Nat):Nat->List A3->List A3
 |_,[]=>[]
 |i,b::r=>(match Nat.blt i n0||mJ i l||b.Z8 with
  |true=>b
  |false=> .gone)::Ti n0 l (i+1) r
def mI(m:Nat):List Nat->Nat
 |[]=>m
 |a::r=>match Nat.ble m a with
  |true=>mI (a+1) r
  |false=>mI m r
def pR(n0:Nat)(x:AV)(K:List A3):List A3:=
 let l:=reach n0 K 4096 x.ids [];let K':=(Ti n0 l 0 K).take (mI n0 l)
 match Nat.ble n0 K'.length&&Ae K'.length K'&&x.ok K'.length with
 |true=>K'
 |false=>K
inductive Rq
 |c (ro:Option Nat) (c:Code) (e:Tm) (H:List A3) (n:Nat)
 |lo (ro:Option Nat) (c:Code) (e:Tm) (H:List A3) (n:Nat)
 |sc (ro:Option Nat) (c0 c:Code) (e:Tm) (H:List A3) (n:Nat)
 |l (ro:Option Nat) (ops:Array Oper) (rest:List Oper) (e:Tm) (H:List A3) (n:Nat)
 |t (ro:Option Nat) (ops:Array Oper) (l:List (Nat×Nat)) (e:Tm) (H:List A3) (n:Nat)
 |d (ops:Array Oper) (acc:List Rc) (ks:List Kd) (rest:List Oper) (e:Tm) (H:List A3) (n:Nat)
 |f (g:Nat) (xs:List AV) (H:List A3)
 |p (g:Nat) (xs:List AV) (b:Bool)
 |y (id:Nat) (xs:List AV) (H:List A3)
abbrev Rz:=Exit×Tm×List A3
def one(x:AV)(H:List A3):Option Rz:=some (.normal,[[some x]],H)
def Px(E:Nat->Option Ao)(fn:Func):Option Rz->Option (AV×List A3)
 |some (.ret,e,H)|some (.normal,e,H)=>match CG E (small e (resT fn.results.toList)) H fn.results.toList with
  |some (true,x)=>some (x,H)
  |_=>none
 |_=>none
def Kj:Option Rz->Option (AV×List A3)
 |some (_,[[some x]],H)=>some (x,H)
 |_=>none
def gn(P:Program)(g n:Nat):Option (Func×Code):=
 match P.funcs[g]? with
 |some fn=>match fn.body with
  |some c=>match Nat.ble n fn.ntmps with
   |true=>some (fn,c)
   |false=>none
  |none=>none
 |none=>none
def lU(P:Program)(E:Nat->Option Ao)(e:Tm)(H:List A3)(g:Nat)(xs:List AV):Tm×List A3:=
 match og P E g with
 |true=>(e,H)
 |false=>match Ea H xs with
  |some _=>match Mn xs with
   |[]=>(e,H)
   |l=>KS l e H
  |none=>(e,H)
section
variable (P:Program)(E:Nat->Option Ao)(O:Nat->List AV->Option AV)(kp:Nat->Bool)(go:Rq->Option Rz)
def pI(ro:Option Nat)(b:Code)(n:Nat):Option Rz->Option Rz
 |some (.normal,e,H)=>go (.c ro b e H n)
 |r=>r
def kF(ro:Option Nat)(a b:Code)(e:Tm)(H:List A3)(n:Nat):Option AV->Option Rz
 |some (.d (.b t))=>match t with
  |true=>go (.c ro a e H n)
  |false=>go (.c ro b e H n)
 |_=>none
def pE(id:Nat):Option Rz->Option Rz
 |some (.exit i,e,H)=>match Nat.beq i id with
  |true=>some (.normal,e,H)
  |false=>some (.exit i,e,H)
 |r=>r
def kG(ro:Option Nat)(ops:Array Oper)(e:Tm)(H:List A3)(n:Nat):List (Nat×Nat)->Option Rz
 |[]=>match go (.d ops [] [] ops.toList e H n)with
  |some r=>some r
  |none=>go (.t ro ops (jn Ro ops) e H n)
 |l=>go (.t ro ops l e H n)
def pG(ro:Option Nat)(e:Tm)(id n:Nat)(K:List A3):Option A3->Option Rz
 |some (.lp r)=>match r.state== .busy with
  |true=>none
  |false=>match r.pending with
   |none=>some (.normal,e,K.set id (.lp (r.at_ .exhausted r.pending)))
   |some c=>go (.c ro c e (K.set id (.lp (r.at_ .exhausted r.pending))) n)
 |_=>none
def pH(ro:Option Nat)(ps:Array Tmp)(asg body:Code)(e:Tm)(H:List A3)(n:Nat):Option AV->Option Rz
 |some (.fn (.func f) first cap)=>match Kj (go (.f f (first++[.yl H.length]++cap) (H++[.lp ⟨.ready,none,0,n,D1 e,ps,asg,body⟩])))with
  |some (_,K)=>pG go ro e H.length n K K[H.length]?
  |none=>none
 |_=>none
def sC(ro:Option Nat)(c:Code)(e:Tm)(H:List A3)(n:Nat):Option Rz:=
 match c with
 | .skip| .label _=>some (.normal,e,H)
 | .exit id=>some (.exit id,e,H)
 | .goto l=>some (.goto l,e,H)
 | .ret=>some (.ret,e,H)
 | .seq a b=>pI go ro b n (go (.c ro a e H n))
 | .cond o a b=>kF go ro a b e H n (ZQ e o)
 | .block id b=>pE id (go (.c ro b e H n))
 | .loop b=>go (.lo ro b e H n)
 | .scope b=>go (.sc ro b b e H n)
 | .region _ ops dr=>match dr with
  |false=>go (.l ro ops ops.toList e H n)
  |true=>kG go ro ops e H n (jn gZ ops)
 | .rangeFunc g ps asg body=>pH go ro ps asg body e H n (ZQ e g)
 | .refuse _=>none
def sLo(ro:Option Nat)(c:Code)(n:Nat):Option Rz->Option Rz
 |some (.normal,e,H)=>go (.lo ro c e H n)
 |r=>r
def sSc(ro:Option Nat)(c0:Code)(n:Nat):Option Rz->Option Rz
 |some (.goto l,e,H)=>match findLabel c0 l with
  |some rest=>go (.sc ro c0 rest e H n)
  |none=>some (.goto l,e,H)
 |r=>r
def kE(ro:Option Nat)(ops:Array Oper)(o:Oper)(rest:List Oper)(n:Nat)(e:Tm)(H:List A3):Option Rz:=
 match A8 ops (small e (looks ops o)) o,BE (small e (looks ops o)) o.op with
 |some true,some (g,ys)=>match Kj (go (.f g ys H))with
  |some (x,H2)=>go (.l ro ops rest (JG o.dst x e) H2 n)
  |none=>none
 |_,_=>none
def sL4(ro:Option Nat)(ops:Array Oper)(o:Oper)(rest:List Oper)(n:Nat)(e:Tm)(H:List A3):Option (Nat×List AV)->Option Rz
 |some (g,xs)=>match lU P E e H g xs with
  |(e',H')=>kE go ro ops o rest n e' H'
 |none=>none
def sL3(ro:Option Nat)(ops:Array Oper)(o:Oper)(rest:List Oper)(n:Nat)(e:Tm)(H:List A3):Option (Nat×List AV)->Option Rz
 |some (id,xs)=>match Kj (go (.y id xs H))with
  |some (x,H')=>go (.l ro ops rest (JG o.dst x e) H' n)
  |none=>none
 |none=>sL4 P E go ro ops o rest n e H (BE (small e (looks ops o)) o.op)
def sL2(ro:Option Nat)(ops:Array Oper)(o:Oper)(rest:List Oper)(n:Nat)(e:Tm)(H:List A3):Option (AV×List A3)->Option Rz
 |some (x,H')=>go (.l ro ops rest (JG o.dst x e) H' n)
 |none=>sL3 P E go ro ops o rest n e H (F6 (small e (looks ops o)) o.op)
def sL1(ro:Option Nat)(ops:Array Oper)(o:Oper)(rest:List Oper)(n:Nat)(e:Tm)(H:List A3):Option Bool->Option Rz
 |none=>none
 |some false=>go (.l ro ops rest (JG o.dst (.d (.tup [])) e) H n)
 |some true=>sL2 P E go ro ops o rest n e H (nh E (small e (looks ops o)) H o.op)
def sL(ro:Option Nat)(ops:Array Oper)(e:Tm)(H:List A3)(n:Nat):List Oper->Option Rz
 |[]=>some (.normal,e,H)
 |o::rest=>match AE o.dst n with
  |false=>none
  |true=>sL1 P E go ro ops o rest n e H (A8 ops (small e (looks ops o)) o)
def kI(ro:Option Nat)(ops:Array Oper)(l:List (Nat×Nat))(e:Tm)(H:List A3)(n:Nat):Option Rz->Option Rz->Option Rz
 |some (_,e1,H1),some (_,e2,H2)=>match Tt H e1 H1 e2 H2 (mO H.length H1.length)with
  |some (e',H')=>some (.normal,e',H')
  |none=>go (.t ro ops l e H n)
 |_,_=>go (.t ro ops l e H n)
def sT(ro:Option Nat)(ops:Array Oper)(e:Tm)(H:List A3)(n:Nat):List (Nat×Nat)->Option Rz
 |[]=>none
 |p::l=>match Nat.blt p.1 p.2&&Nat.blt p.2 ops.toList.length&&JS ops&&Ae H.length H with
  |false=>none
  |true=>kI go ro ops l e H n (go (.d (Mp p.1 p.2 ops) [] [] (Mp p.1 p.2 ops).toList e H n)) (go (.d (Mq p.1 p.2 ops) [] [] (Mq p.1 p.2 ops).toList e H n))
def Ml(ops:Array Oper)(acc:List Rc)(ks:List Kd)(o:Oper)(rest:List Oper)(n:Nat)(e:Tm)(H:List A3)(x:AV)(k:Kd)(H':List A3):Option Rz:=
 go (.d ops (⟨small e (looks ops o),H,x,k⟩::acc) (k::ks) rest (JG o.dst x e) H' n)
def sD5(ops:Array Oper)(acc:List Rc)(ks:List Kd)(o:Oper)(rest:List Oper)(n:Nat)(e:Tm)(H:List A3):Option (Nat×List AV)->Option Rz
 |none=>none
 |some (g,xs)=>match Ea [] xs with
  |some ys=>match Kj (go (.p g ys false))with
   |some (x,[])=>Ml go ops acc ks o rest n e H x .any H
   |some (x,b::K)=>Ml go ops acc ks o rest n e H (x.ren (rn [] H.length)) .eff (H++Eu (rn [] H.length) (b::K))
   |none=>none
  |none=>match Kj (go (.f g xs H))with
   |some (x,H')=>Ml go ops acc ks o rest n e H x .eff H'
   |none=>none
def sD4(ops:Array Oper)(acc:List Rc)(ks:List Kd)(o:Oper)(rest:List Oper)(n:Nat)(e:Tm)(H:List A3):Option (AV×List A3)->Option Rz
 |some (x,H')=>Ml go ops acc ks o rest n e H x .eff H'
 |none=>sD5 go ops acc ks o rest n e H (BE (small e (looks ops o)) o.op)
def sD3(ops:Array Oper)(acc:List Rc)(ks:List Kd)(o:Oper)(rest:List Oper)(n:Nat)(e:Tm)(H:List A3):Option (Bool×AV)->Option Rz
 |some (true,x)=>match VO o.op with
  |true=>Ml go ops acc ks o rest n e H x .any H
  |false=>Ml go ops acc ks o rest n e H x .quiet H
 |_=>sD4 go ops acc ks o rest n e H (nh E (small e (looks ops o)) H o.op)
def sD2(ops:Array Oper)(acc:List Rc)(ks:List Kd)(o:Oper)(rest:List Oper)(n:Nat)(e:Tm)(H:List A3):Option AV->Option Rz
 |some x=>Ml go ops acc ks o rest n e H x .any H
 |none=>sD3 E go ops acc ks o rest n e H (pQ E (small e (looks ops o)) H o.op)
def sD1(ops:Array Oper)(acc:List Rc)(ks:List Kd)(o:Oper)(rest:List Oper)(n:Nat)(e:Tm)(H:List A3):Option Bool->Option Rz
 |none=>none
 |some false=>Ml go ops acc ks o rest n e H (.d (.tup [])) .skip H
 |some true=>sD2 E go ops acc ks o rest n e H (Yo E (small e (looks ops o)) o.op)
def sD(ops:Array Oper)(acc:List Rc)(ks:List Kd)(e:Tm)(H:List A3)(n:Nat):List Oper->Option Rz
 |[]=>match dOK ops ks&&RJ E ops acc.reverse H (Xe ops ks.reverse ops.toList.length)with
  |true=>some (.normal,e,H)
  |false=>none
 |o::rest=>match AE o.dst n with
  |false=>none
  |true=>sD1 E go ops acc ks o rest n e H (A8 ops (small e (looks ops o)) o)
def sP1(b:Bool):Option (AV×List A3)->Option Rz
 |some (x,K)=>match Dy K x,b&& !x.ok 0 with
  |some y,false=>one y []
  |_,_=>match pR 0 x K with
   |[]=>none
   |b::l=>one x (b::l)
 |none=>none
def sP(g:Nat)(xs:List AV)(b:Bool):Option AV->Option Rz
 |some y=>one y []
 |none=>match gn P g xs.length with
  |none=>none
  |some (fn,c)=>sP1 b (Px E fn (go (.c none c (XU (Cn 0 xs)) [] fn.ntmps)))
def sF1(H:List A3):Option (AV×List A3)->Option Rz
 |some (x,K)=>match Nat.ble H.length K.length&&Ae H.length (K.take H.length)&&x.ok H.length with
  |true=>one x (K.take H.length)
  |false=>one x (pR H.length x K)
 |none=>none
def sF(g:Nat)(xs:List AV)(H:List A3):Option Rz:=
 match Ea [] xs with
 |some ys=>match Kj (go (.p g ys (kp g)))with
  |some (x,[])=>one x H
  |some (x,b::K)=>one (x.ren (rn [] H.length)) (H++Eu (rn [] H.length) (b::K))
  |none=>none
 |none=>match Ea H xs with
  |some ys=>match Kj (go (.p g ys false))with
   |some (x,[])=>match cW x with
    |true=>one x H
    |false=>none
   |_=>none
  |none=>match gn P g xs.length with
   |none=>none
   |some (fn,c)=>sF1 H (Px E fn (go (.c none c (XU (Cn 0 xs)) H fn.ntmps)))
def sY2(id:Nat)(H:List A3):Option Rz->Option Rz
 |some (x,_,H2)=>match VT x,H2[id]? with
  |some j,some (.lp r2)=>match Nat.ble H.length H2.length with
   |false=>none
   |true=>match Ae H.length (H2.take H.length)with
    |true=>one (.d (.b j.isNone)) ((H2.take H.length).set id (.lp (r2.at_ (II j) j)))
    |false=>one (.d (.b j.isNone)) (H2.set id (.lp (r2.at_ (II j) j)))
  |_,_=>none
 |none=>none
def sY1(id:Nat)(H:List A3)(body:Code)(n:Nat):Option Rz->Option Rz
 |some (.normal,e1,H1)=>match H1[id]? with
  |some (.lp r1)=>match r1.state== .ready with
   |false=>none
   |true=>sY2 id H (go (.c (some id) body e1 (H1.set id (.lp (r1.at_ .busy r1.pending))) n))
  |_=>none
 |_=>none
def sY(id:Nat)(xs:List AV)(H:List A3):Option A3->Option Rz
 |some (.lp r)=>match r.state== .ready&&Nat.beq xs.length r.params.size&&r.params.toList.all (fun t=>Nat.blt t r.n)with
  |false=>none
  |true=>sY1 go id H r.body r.n (go (.c (some id) r.assign (XU (Pe r.params.toList xs r.env)) H r.n))
 |_=>none
end
def ex(P:Program)(E:Nat->Option Ao)(O:Nat->List AV->Option AV)(kp:Nat->Bool):Nat->Rq->Option Rz
 |0,_=>none
 |k+1,q=>match q with
  | .c ro c e H n=>sC (ex P E O kp k) ro c e H n
  | .lo ro c e H n=>sLo (ex P E O kp k) ro c n (ex P E O kp k (.c ro c e H n))
  | .sc ro c0 c e H n=>sSc (ex P E O kp k) ro c0 n (ex P E O kp k (.c ro c e H n))
  | .l ro ops rest e H n=>sL P E (ex P E O kp k) ro ops e H n rest
  | .t ro ops l e H n=>sT (ex P E O kp k) ro ops e H n l
  | .d ops acc ks rest e H n=>sD E (ex P E O kp k) ops acc ks e H n rest
  | .p g xs b=>sP P E (ex P E O kp k) g xs b (O g xs)
  | .f g xs H=>sF P E kp (ex P E O kp k) g xs H
  | .y id xs H=>sY (ex P E O kp k) id xs H H[id]?
end Go.Gar
namespace Go.Gar
theorem XA{t:Nat}{x:AV}:∀{e:List (Nat×AV)}{u:Nat},get (upd t x e) u=get ((t,x)::e) u
 |[],u=>rfl
 |(k,v)::r,u=>by
  simp only[upd,get]
  cases h:Nat.beq k t with
  |true=>
   have e:=qL h;subst e;simp only[get];split<;>simp_all
  |false=>
   simp only[get];have hk:k≠t:=fun e=>by rw[e,tq]at h;cases h
   split
   .rename_i h1;have e1:=qL h1;subst e1
    have h2:Nat.beq t k=false:=by
     cases h3:Nat.beq t k with
     |false=>rfl
     |true=>exact absurd (qL h3).symm hk
    rw[h2];rfl
   .rw[XA (e:=r),get]
theorem Ja{x:AV}:∀{j i:Nat}{c:List (Option AV)},J4 (set1 x j c) i=if i=j then some x else J4 c i
 |0,i,[]=>by cases i<;>simp[set1,J4]
 |0,i,y::r=>by cases i<;>simp[set1,J4]
 |j+1,i,[]=>by
  cases i with
  |zero=>simp[set1,J4]
  |succ i=>simp only[set1,J4];rw[Ja];simp[J4]
 |j+1,i,y::r=>by
  cases i with
  |zero=>simp[set1,J4]
  |succ i=>simp only[set1,J4];rw[Ja];simp
theorem LY(i:Nat):J5 [] i=[]:=by cases i<;>rfl
theorem Ma{x:AV}{j:Nat}:∀{k i:Nat}{e:Tm},J5 (Pg j x k e) i=if i=k then set1 x j (J5 e i)else J5 e i
 |0,i,[]=>by cases i<;>simp[Pg,J5]
 |0,i,y::r=>by cases i<;>simp[Pg,J5]
 |k+1,i,[]=>by
  cases i with
  |zero=>simp[Pg,J5]
  |succ i=>simp only[Pg,J5];rw[Ma];simp[LY]
 |k+1,i,y::r=>by
  cases i with
  |zero=>simp[Pg,J5]
  |succ i=>simp only[Pg,J5];rw[Ma];simp
variable {t:Nat}{x:AV}{e:Tm}
theorem Qf{u:Nat}:Ie (jU t x e) u=if u=t then some x else Ie e u:=by
 simp only[Ie,jU,Ma]
 by_cases h:u=t
 .subst h;simp[Ja]
 .by_cases h1:u/8=t/8
  .rw[if_pos h1,Ja,if_neg om,if_neg h]
  .rw[if_neg h1,if_neg h]
theorem fM:∀{e:Tm}{t:Nat},8*e.length<=t->Ie e t=none:=by
 have h:∀{e:Tm}{k:Nat},e.length<=k->J5 e k=[]:=by
  intro e
  induction e with
  |nil=>intro k _;exact LY k
  |cons c r ih=>
   intro k hk
   cases k with
   |zero=>simp at hk
   |succ k=>exact ih (by simpa using hk)
 intro e t ht;simp only[Ie];rw[h om];rfl
theorem Tg{e:Tm}:∀{m t:Nat},get (aL e m) t=if t<m then Ie e t else none
 |0,t=>by simp[aL,get]
 |m+1,t=>by
  have ih:=Tg (e:=e) (m:=m) (t:=t);simp only[aL];split
  .rename_i x hx;simp only[get];split
   .rename_i hb;have:=qL hb;subst this;rw[if_pos om,hx]
   .rename_i hb;have hne:m≠t:=fun e=>hb (by rw[e,tq])
    rw[ih]
    by_cases h:t<m
    .rw[if_pos h,if_pos om]
    .rw[if_neg h,if_neg om]
  .rename_i hx;rw[ih]
   by_cases h:t<m
   .rw[if_pos h,if_pos om]
   .by_cases h2:t=m
    .subst h2;rw[if_neg h,if_pos om,hx]
    .rw[if_neg h,if_neg om]
theorem F7:get (D1 e) t=Ie e t:=by
 unfold D1;rw[Tg];split
 .rfl
 .rw[fM om]
theorem RU:∀{l:List (Nat×AV)}{t:Nat},Ie (XU l) t=get l t
 |[],t=>by simp[XU,Ie,LY,J4,get]
 |p::r,t=>by
  simp only[XU,get];rw[Qf,RU (l:=r)];split
  .rename_i h;subst h;rw[if_pos (tq _)]
  .rename_i h;rw[if_neg (fun e=>h (qL e).symm)]
theorem Q9{dst:Option Tmp}{u:Nat}:get (D1 (JG dst x e)) u=get (Ap dst x (D1 e)) u:=by
 cases dst with
 |none=>rfl
 |some d=>
  simp only[JG,Ap,get];rw[F7,Qf,F7];split
  .rename_i h;subst h;rw[if_pos (tq _)]
  .rename_i h;rw[if_neg (fun e=>h (qL e).symm)]
theorem Lr{e:Tm}:∀{l:List Nat},small e l=Db l (D1 e)
 |[]=>rfl
 |t::r=>by
  simp only[small,Db];rw[F7]
  cases Ie e t with
  |none=>exact Lr
  |some x=>simp only[Lr (l:=r)]
variable {l:List Nat}
theorem Ew(h:get (small e l) t=some x):get (D1 e) t=some x:=by
 rw[Lr]at h;exact(IG h).2
theorem ce{id:Nat}{x:D}:get (D1 (Un id x e)) t=get (IZ id x (D1 e)) t:=by
 have h1:∀{c:List (Option AV)}{k:Nat},J4 (c.map (gv id x)) k=(J4 c k).map (AV.EN id x):=by
  intro c
  induction c with
  |nil=>intro k;simp[J4]
  |cons y r ih=>
   intro k
   cases k with
   |zero=>cases y<;>simp[J4,gv]
   |succ k=>simpa[J4]using ih
 have h2:∀{e:Tm}{k:Nat},J5 (Un id x e) k=(J5 e k).map (gv id x):=by
  intro e
  induction e with
  |nil=>intro k;simp[Un,LY]
  |cons y r ih=>
   intro k
   cases k with
   |zero=>simp[Un,J5]
   |succ k=>simpa[Un,J5]using ih
 have h3:∀{l:List (Nat×AV)},get (IZ id x l) t=(get l t).map (AV.EN id x):=by
  intro l
  induction l with
  |nil=>rfl
  |cons p r ih=>
   simp only[IZ,sO,get]at ih|-;split
   .rfl
   .exact ih
 rw[F7,h3,F7];simp only[Ie];rw[h2,h1]
theorem Rx{o:Operand}(h:ZQ e o=some x):CH (D1 e) o=some x:=by
 cases o<;>first|exact h|(simp only[ZQ]at h;simp only[CH];rw[F7];exact h)
section
variable {a b:List (Nat×AV)}(hs:∀t x,get a t=some x->get b t=some x)
include hs
theorem Oy{o:Operand}{x:AV}(h:CH a o=some x):CH b o=some x:=by
 cases o<;>first|exact h|exact hs _ _ h
theorem Mc:∀{l:List Operand}{xs:List AV},Gk a l=some xs->Gk b l=some xs
 |[],xs,h=>h
 |o::r,xs,h=>by
  simp only[Gk]at h|-;split at h
  .rename_i x l h1 h2;rw[Oy hs h1,Mc h2];exact h
  .cases h
theorem Iz{ops:Array Oper}{o:Oper}{r:Bool}(h:A8 ops a o=some r):A8 ops b o=some r:=by
 unfold A8 at h|-;split at h
 .exact h
 .split at h
  .split at h
   .split at h
    .rename_i hx;simp only[*,hs _ _ hx]
    .rename_i hx;simp only[*,hs _ _ hx]
    .cases h
   .cases h
  .cases h
variable {r:Nat×List AV}
theorem RI{op:Op}(h:F6 a op=some r):F6 b op=some r:=by
 unfold F6 at h|-;split at h
 .split at h
  .rename_i h1 h2;simp only[Oy hs h1,Mc hs h2];exact h
  .cases h
 .cases h
theorem TP{op:Op}(h:BE a op=some r):BE b op=some r:=by
 unfold BE at h|-;split at h
 .split at h
  .rename_i h1 h2;simp only[Oy hs h1,Mc hs h2];exact h
  .cases h
 .cases h
end
theorem A1.env{S:St}{env:List (Nat×AV)}(h:∀t x,get env t=some x->get S.env t=some x):A1 S ⟨env,S.H,S.n⟩:=
 fun _ _ G _ _ r _=>⟨G,⟨r.heap,r.rel,r.size,fun t x hx=>r.env t x (h t x hx),r.marks,r.round⟩,⟨fun id b b' hb hb'=>by rw[hb]at hb';cases hb';exact AI.refl _ _ _,Mem.le_refl _,fun _ h=>h,fun _ _ _ h=> .inl h⟩⟩
mutual
theorem D.FW:∀{x y:D},D.Hs x y=true->x=y
 | .b _,y,h=>by cases y<;>simp_all[D.Hs]
 | .i _ _,y,h=>by cases y<;>simp_all[D.Hs]
 | .s _,y,h=>by cases y<;>simp_all[D.Hs]
 | .by _,y,h=>by cases y<;>simp_all[D.Hs]
 | .is _,y,h=>by cases y<;>simp_all[D.Hs]
 | .agg _,y,h| .tup _,y,h=>by cases y<;>simp only[D.Hs,reduceCtorEq]at h;rw[D.E5 h]
 | .sl n a,y,h=>by
  cases y<;>simp only[D.Hs,reduceCtorEq,qH]at h;rw[D.TM h.2,qL h.1]
 | .np,y,h=>by cases y<;>simp_all[D.Hs]
 | .nf,y,h=>by cases y<;>simp_all[D.Hs]
 | .ni,y,h=>by cases y<;>simp_all[D.Hs]
 | .nm,y,h=>by cases y<;>simp_all[D.Hs]
 | .f _ _,y,h=>by cases y<;>simp[D.Hs]at h
 | .ifc _ _,y,h=>by cases y<;>simp[D.Hs]at h
theorem D.E5:∀{x y:List D},D.HB x y=true->x=y
 |[],[],_=>rfl
 |[],_::_,h=>by simp[D.HB]at h
 |_::_,[],h=>by simp[D.HB]at h
 |x::r,y::l,h=>by
  simp only[D.HB,qH]at h;rw[D.FW h.1,D.E5 h.2]
theorem D.TM:∀{x y:List (List D)},D.Q3 x y=true->x=y
 |[],[],_=>rfl
 |[],_::_,h=>by simp[D.Q3]at h
 |_::_,[],h=>by simp[D.Q3]at h
 |x::r,y::l,h=>by
  simp only[D.Q3,qH]at h;rw[D.E5 h.1,D.TM h.2]
end
mutual
theorem AV.FW:∀{x y:AV},AV.Hs x y=true->x=y
 | .d _,y,h=>by cases y<;>simp only[AV.Hs,reduceCtorEq]at h;rw[D.FW h]
 | .u,y,h=>by cases y<;>simp_all[AV.Hs]
 | .e0,y,h=>by cases y<;>simp_all[AV.Hs]
 | .ptr _ _ _,y,h| .sl _ _ _,y,h=>by cases y<;>simp only[AV.Hs,reduceCtorEq,qH]at h;rw[qL h.1.1,qL h.1.2,qL h.2]
 | .ag _,y,h| .tup _,y,h=>by cases y<;>simp only[AV.Hs,reduceCtorEq]at h;rw[AV.E5 h]
 | .yl _,y,h| .mp _,y,h=>by cases y<;>simp only[AV.Hs,reduceCtorEq]at h;rw[qL h]
 | .dp _,y,h=>by cases y<;>simp only[AV.Hs,reduceCtorEq]at h;rw[D.E5 h]
 | .bs ..,y,h| .ep ..,y,h=>by
  cases y<;>simp only[AV.Hs,reduceCtorEq,qH,Ia,qJ]at h;obtain⟨⟨⟨⟨rfl,rfl⟩,rfl⟩,rfl⟩,rfl⟩:=h;rfl
 | .fn f a b,y,h=>by
  cases y<;>cases f<;>(try rename_i g p q _;cases g)<;>(try rename_i g p q;cases g)<;>simp only[AV.Hs,reduceCtorEq,qH,Ia,qJ]at h;rw[h.1.1,AV.E5 h.1.2,AV.E5 h.2]
theorem AV.E5:∀{x y:List AV},AV.HB x y=true->x=y
 |[],[],_=>rfl
 |[],_::_,h=>by simp[AV.HB]at h
 |_::_,[],h=>by simp[AV.HB]at h
 |x::r,y::l,h=>by
  simp only[AV.HB,qH]at h;rw[AV.FW h.1,AV.E5 h.2]
end
theorem Q7{E:Nat->Option Ao}{ops:Array Oper}{rs:List Rc}{Hf:List A3}:∀{l:List (Nat×Nat)},RJ E ops rs Hf l=true->CI E ops rs Hf l
 |[],_=>trivial
 |p::l,h=>by
  simp only[RJ,qH]at h;refine⟨?_,Q7 h.2⟩;have h1:=h.1;split at h1
  .rename_i o r ho hr;rw[ho,hr];split at h1
   .rename_i y hy;exact⟨true,by rw[<-AV.FW h1];exact hy,rfl⟩
   .cases h1
  .cases h1
def G0(m:Mem):Gh:=⟨fun _=>none,[],m⟩
mutual
theorem eQ{G:Gh}{w:World}(hr:AR G w){m:Mem}(hm:G.m.le m)(hown:∀b k v,Own G b->w.cell? ⟨b,k,none⟩=some v->m b k=some v):∀{x y:AV}{v:Value},Dy G.H x=some y->RV G x v->RV (G0 m) y v
 | .d x,y,v,h,r=>by
  simp only[Dy,qI]at h;subst h;simp only[RV]at r|-;exact r.mono hm
 | .u,y,v,h,r=>by simp only[Dy,qI]at h;subst h;trivial
 | .e0,y,v,h,r=>by simp only[Dy,qI]at h;subst h;simpa only[RV]using r
 | .dp cs,y,v,h,r=>by
  simp only[Dy,qI]at h;subst h;simp only[RV]at r|-;obtain⟨b,off,h1,h2⟩:=r;exact⟨b,off,h1,KN.mono hm h2⟩
 | .sl id n sz,y,v,h,r=>by
  simp only[Dy]at h;split at h
  .rename_i x hx;split at h
   .rename_i hn;cases h;have hf:Bb G.H (.sl id n sz) x:=by simp only[Bb];exact⟨hx,qL hn⟩
    have:=RQ hr hm hown hf r;simpa only[RV,G0]using this
   .cases h
  .cases h
 | .ag _,_,_,h,r| .tup _,_,_,h,r=>by
  simp only[Dy]at h;split at h
  .rename_i l hl;cases h;simp only[RV]at r|-;obtain⟨vs,h1,h2⟩:=r;exact⟨vs,h1,Lh hr hm hown hl h2⟩
  .cases h
 | .fn f a b,y,v,h,r=>by
  simp only[Dy]at h;split at h
  .rename_i p q hp hq;cases h;simp only[RV]at r|-;obtain⟨p',q',h1,h2,h3⟩:=r;exact⟨p',q',h1,Lh hr hm hown hp h2,Lh hr hm hown hq h3⟩
  .cases h
 | .ptr ..,y,v,h,r=>by simp[Dy]at h
 | .bs ..,y,v,h,r=>by simp[Dy]at h
 | .ep ..,y,v,h,r=>by simp[Dy]at h
 | .yl ..,y,v,h,r=>by simp[Dy]at h
 | .mp ..,y,v,h,r=>by simp[Dy]at h
theorem Lh{G:Gh}{w:World}(hr:AR G w){m:Mem}(hm:G.m.le m)(hown:∀b k v,Own G b->w.cell? ⟨b,k,none⟩=some v->m b k=some v):∀{xs ys:List AV}{vs:List Value},Ea G.H xs=some ys->Al G xs vs->Al (G0 m) ys vs
 |[],ys,vs,h,r=>by simp only[Ea,qI]at h;subst h;simpa only[Al]using r
 |x::xs,ys,vs,h,r=>by
  simp only[Ea]at h;split at h
  .rename_i y l hy hl;cases h;simp only[Al]at r|-;obtain⟨v,r',h1,h2,h3⟩:=r;exact⟨v,r',h1,eQ hr hm hown hy h2,Lh hr hm hown hl h3⟩
  .cases h
end
mutual
theorem Xo{H:List A3}:∀{x y:AV},Dy H x=some y->∀{m:Mem}{G:Gh}{v:Value},m.le G.m->RV (G0 m) y v->RV G y v
 | .d x,y,h=>by
  intro hm r;simp only[Dy,qI]at h;subst h;simp only[RV]at r|-;exact r.mono hm
 | .u,y,h=>by intro hm r;simp only[Dy,qI]at h;subst h;trivial
 | .e0,y,h=>by intro hm r;simp only[Dy,qI]at h;subst h;simpa only[RV]using r
 | .dp cs,y,h=>by
  intro hm r;simp only[Dy,qI]at h;subst h;simp only[RV]at r|-;obtain⟨b,off,h1,h2⟩:=r;exact⟨b,off,h1,KN.mono hm h2⟩
 | .sl id n sz,y,h=>by
  intro hm r;simp only[Dy]at h;split at h
  .split at h
   .cases h;simp only[RV]at r|-;exact r.mono hm
   .cases h
  .cases h
 | .ag _,_,h| .tup _,_,h=>by
  intro hm r;simp only[Dy]at h;split at h
  .rename_i l hl;cases h;simp only[RV]at r|-;obtain⟨vs,h1,h2⟩:=r;exact⟨vs,h1,Lf hl hm h2⟩
  .cases h
 | .fn f a b,y,h=>by
  intro hm r;simp only[Dy]at h;split at h
  .rename_i p q hp hq;cases h;simp only[RV]at r|-;obtain⟨p',q',h1,h2,h3⟩:=r;exact⟨p',q',h1,Lf hp hm h2,Lf hq hm h3⟩
  .cases h
 | .ptr ..,y,h=>by simp[Dy]at h
 | .bs ..,y,h=>by simp[Dy]at h
 | .ep ..,y,h=>by simp[Dy]at h
 | .yl ..,y,h=>by simp[Dy]at h
 | .mp ..,y,h=>by simp[Dy]at h
theorem Lf{H:List A3}:∀{xs ys:List AV},Ea H xs=some ys->∀{m:Mem}{G:Gh}{vs:List Value},m.le G.m->Al (G0 m) ys vs->Al G ys vs
 |[],ys,h=>by intro hm r;simp only[Ea,qI]at h;subst h;simpa only[Al]using r
 |x::xs,ys,h=>by
  intro hm r;simp only[Ea]at h;split at h
  .rename_i y l hy hl;cases h;simp only[Al]at r|-;obtain⟨v,r',h1,h2,h3⟩:=r;exact⟨v,r',h1,Xo hy hm h2,Lf hl hm h3⟩
  .cases h
end
mutual
theorem mi{G:Gh}:∀{x y:AV}{v:Value},Dy [] x=some y->RV G x v->RV (G0 G.m) y v
 | .d _,_,_,h,r| .dp _,_,_,h,r=>by simp only[Dy,qI]at h;subst h;simpa only[RV,G0]using r
 | .u,y,v,h,r=>by simp only[Dy,qI]at h;subst h;trivial
 | .e0,y,v,h,r=>by simp only[Dy,qI]at h;subst h;simpa only[RV]using r
 | .sl id n sz,y,v,h,r=>by simp[Dy]at h
 | .ag _,_,_,h,r| .tup _,_,_,h,r=>by
  simp only[Dy]at h;split at h
  .rename_i l hl;cases h;simp only[RV]at r|-;obtain⟨vs,h1,h2⟩:=r;exact⟨vs,h1,Lg hl h2⟩
  .cases h
 | .fn f a b,y,v,h,r=>by
  simp only[Dy]at h;split at h
  .rename_i p q hp hq;cases h;simp only[RV]at r|-;obtain⟨p',q',h1,h2,h3⟩:=r;exact⟨p',q',h1,Lg hp h2,Lg hq h3⟩
  .cases h
 | .ptr ..,y,v,h,r=>by simp[Dy]at h
 | .bs ..,y,v,h,r=>by simp[Dy]at h
 | .ep ..,y,v,h,r=>by simp[Dy]at h
 | .yl ..,y,v,h,r=>by simp[Dy]at h
 | .mp ..,y,v,h,r=>by simp[Dy]at h
theorem Lg{G:Gh}:∀{xs ys:List AV}{vs:List Value},Ea [] xs=some ys->Al G xs vs->Al (G0 G.m) ys vs
 |[],ys,vs,h,r=>by simp only[Ea,qI]at h;subst h;simpa only[Al]using r
 |x::xs,ys,vs,h,r=>by
  simp only[Ea]at h;split at h
  .rename_i y l hy hl;cases h;simp only[Al]at r|-;obtain⟨v,r',h1,h2,h3⟩:=r;exact⟨v,r',h1,mi hy h2,Lg hl h3⟩
  .cases h
end
def Si(P:Program)(f:FuncId)(xs:List AV)(y:AV):Prop:=
 Dy [] y=some y/\GK P f/\∀(m:Mem)(w:World)(vs:Array Value),Ko m w->fv m->Al (G0 m) xs vs.toList->
  CallsIn Fence.wide 0 P f vs w fun e w'=>∃v m',e= .returned v/\RV (G0 m') y v/\m.le m'/\Ko m' w'/\(∀b k v,m' b k=some v->m b k=some v\/w.heap.size<=b)/\
   w'.os=w.os/\w'.tape=w.tape/\w'.output=w.output/\w.heap.size<=w'.heap.size/\∀b,b<w.heap.size->w'.heap[b]? =w.heap[b]?
variable {P:Program}{f:FuncId}
theorem Si.toFn{ds:List D}{r:D}(h:Si P f (ds.map .d) (.d r)):Fn P f ds r:=by
 refine⟨h.2.1,fun m w vs hm hst hargs=>(h.2.2 m w vs hm hst (Ij.2 hargs)).mono ?_⟩;rintro e w' ⟨v,m',rfl,h1,rest⟩;exact⟨v,m',rfl,by simpa only[RV,G0]using h1,rest⟩
variable {xs:List AV}
theorem Fn.toP{ds:List D}{r:D}(h:Fn P f ds r)(hx:Ig xs ds):Si P f xs (.d r):=by
 refine⟨rfl,h.1,fun m w vs hm hst hargs=>(h.2 m w vs hm hst (OD (G:=G0 m) hx hargs)).mono ?_⟩;rintro e w' ⟨v,m',rfl,h1,rest⟩;exact⟨v,m',rfl,by simpa only[RV,G0]using h1,rest⟩
mutual
theorem UU{H:List A3}:∀{x y:AV},Dy H x=some y->Dy [] y=some y
 | .d _,_,h| .u,_,h| .e0,_,h| .dp _,_,h=>by simp only[Dy,qI]at h;subst h;rfl
 | .sl id n sz,y,h=>by
  simp only[Dy]at h;split at h
  .split at h
   .cases h;rfl
   .cases h
  .cases h
 | .ag _,_,h| .tup _,_,h=>by
  simp only[Dy]at h;split at h
  .rename_i l hl;cases h;simp only[Dy,Ji hl]
  .cases h
 | .fn f a b,y,h=>by
  simp only[Dy]at h;split at h
  .rename_i p q hp hq;cases h;simp only[Dy,Ji hp,Ji hq]
  .cases h
 | .ptr ..,y,h=>by simp[Dy]at h
 | .bs ..,y,h=>by simp[Dy]at h
 | .ep ..,y,h=>by simp[Dy]at h
 | .yl ..,y,h=>by simp[Dy]at h
 | .mp ..,y,h=>by simp[Dy]at h
theorem Ji{H:List A3}:∀{xs ys:List AV},Ea H xs=some ys->Ea [] ys=some ys
 |[],ys,h=>by simp only[Ea,qI]at h;subst h;rfl
 |x::xs,ys,h=>by
  simp only[Ea]at h;split at h
  .rename_i y l hy hl;cases h;simp only[Ea,UU hy,Ji hl]
  .cases h
end
section
variable {P:Program}{ro:Option Nat}{S:St}{Q:Exit->St->Prop}{E:Nat->Option Ao}
variable {f:FuncId}{xs:List AV}{y:AV}
theorem aZ{fn:Func}{c:Code}(hE:BN P E)(hf:P.funcs[f]? =some fn)(hb:fn.body=some c)(hname:(fn.name== "runtime.NumGoroutine")=false)(hn:xs.length<=fn.ntmps)(h:W P none c ⟨Cn 0 xs,[],fn.ntmps⟩ (KM fun S'=>∃cc x,CG E S'.env S'.H fn.results.toList=some (cc,x)/\cc=true/\Dy S'.H x=some y))(hy:Dy [] y=some y):Si P f xs y:=by
 refine⟨hy,⟨fn,hf,hname,by rw[hb];rfl⟩,fun m w vs hm hst hargs=> ?_⟩;have hr:AR (G0 m) w:=⟨fun id b hb=>by simp[G0]at hb,fun id id' p q b N N' hp=>by simp[G0]at hp,hm,fun b ho=>by obtain⟨id,N,q,hq,_⟩:=ho;simp[G0]at hq,hst⟩;have hno:∀b,¬Own (G0 m) b:=fun b ho=>by obtain⟨id,N,q,hq,_⟩:=ho;simp[G0]at hq
 refine OI (G:=G0 m) (K:=fun x H=>Dy H x=some y) hE hf hb hn h rfl hr hargs ?_;intro x v G' w1 w' ms hK hv h1 h2 hfr ht hms
 let m':Mem:=fun b k=>match G'.m b k with
  |some v=>some v
  |none=>if w.heap.size<=b then w'.cell? ⟨b,k,none⟩else none
 have hle:G'.m.le m':=fun b k v hv=>by simp only[m',hv]
 have hmem:Ko m' w':=by
  intro b k v hv;simp only[m']at hv;split at hv
  .rename_i u hu;cases hv;exact h2.mem b k _ hu
  .split at hv
   .exact hv
   .cases hv
 refine⟨v,m',rfl,eQ h2 hle ?_ hK hv,Mem.le_trans hfr.gle.mem hle,hmem,?_,ht.os.trans hfr.os,ht.tape.trans hfr.tape,ht.output.trans hfr.output,by rw[ht.size];exact hfr.size,fun b hb=> ?_⟩
 .intro b k v ho hc
  have hge:w.heap.size<=b:=by
   rcases rG b w.heap.size with hlt|hge
   .exact absurd ho (hfr.keep b hlt (hno b)).2
   .exact hge
  simp only[m',h2.sep b ho k,if_pos hge,hc]
 .intro b k v hv;simp only[m']at hv;split at hv
  .rename_i u hu;cases hv;rcases hfr.memNew b k _ hu with h3|h3|h3
   .exact .inl h3
   .exact absurd h3 (hno b)
   .exact .inr h3
  .split at hv
   .rename_i hge;exact .inr hge
   .cases hv
 .exact(ht.other b fun hm=>by have:=hms b hm;omega).trans (hfr.keep b hb (hno b)).1
theorem Si.nq{ys:List AV}(h:Si P f ys y)(hx:Ea [] xs=some ys)(H:List A3):IY P f xs H fun x H'=>x=y/\H'=H:=by
 refine⟨h.2.1,fun G w vs hG hr hargs=>(h.2.2 G.m w vs hr.mem hr.st (Lg hx hargs)).mono ?_⟩;rintro e w' ⟨v,m',rfl,h1,h2,h3,h4,h5,h6,h7,h8,h9⟩;obtain⟨k1,k2⟩:=Hz hr h5 h6 h7 h8 h9 m' h2 h4 h3;exact⟨v,y,{G with m:=m'},rfl,⟨rfl,hG⟩,Xo h.1 (Mem.le_refl _) h1,k1,k2⟩
open Classical in
theorem Si.read{ys:List AV}(h:Si P f ys y)(hr:cW y=true){H:List A3}(hx:Ea H xs=some ys):IY P f xs H fun x H'=>x=y/\H'=H:=by
 refine⟨h.2.1,fun G w vs hG hrel hargs=> ?_⟩;let m:Mem:=fun b k=>if Own G b then w.cell? ⟨b,k,none⟩else G.m b k
 have hle:G.m.le m:=fun b k v hv=>by
  by_cases ho:Own G b
  .rw[hrel.sep b ho k]at hv;cases hv
  .simp only[m,if_neg ho,hv]
 have hmem:Ko m w:=fun b k v hv=>by
  simp only[m]at hv;split at hv
  .exact hv
  .exact hrel.mem b k v hv
 have hds:Al (G0 m) ys vs.toList:=Lh hrel hle (fun b k v ho hc=>by simp only[m,if_pos ho,hc]) (by rw[hG];exact hx) hargs;refine(h.2.2 m w vs hmem (Mem.le_trans hrel.st hle) hds).mono ?_;rintro e w' ⟨v,m',rfl,h1,h2,h3,h4,h5,h6,h7,h8,h9⟩
 obtain⟨k1,k2⟩:=Hz hrel h5 h6 h7 h8 h9 G.m (Mem.le_refl _) (fun _ _ _ h=> .inl h) (fun b k u hu=>by
  rw[World.cell?_of_block (w:=w) (h9 b (GU hrel hu))]
  exact hrel.mem b k u hu)
 refine⟨v,y,G,rfl,⟨rfl,hG⟩,?_,k1,k2⟩;cases y<;>simp only[cW,rD]at hr;simp only[RV]at h1|-;exact Nl hr h1
end
theorem V7:∀{x y:List (D×AV)},nZ x y=true->x=y
 |[],[],_=>rfl
 |[],_::_,h=>by simp[nZ]at h
 |_::_,[],h=>by simp[nZ]at h
 |(a,b)::r,(c,d)::l,h=>by
  simp only[nZ,qH]at h;rw[show a=c from D.FW h.1.1,show b=d from AV.FW h.1.2,V7 h.2]
theorem A3.FW{x y:A3}(h:A3.Hs x y=true):x=y:=by
 cases x<;>cases y<;>simp only[A3.Hs,reduceCtorEq]at h
 .rfl
 .rw[AV.E5 h]
 .rw[D.FW h]
 .rw[V7 h]
theorem mn{x y:LoopState}(h:stB x y=true):x=y:=by cases x<;>cases y<;>first|rfl|cases h
theorem gY{b x y:A3}(h:lK b x y=true)(hx:RN b x=x):x=RN b y:=by
 cases b<;>cases x<;>cases y<;>simp only[lK,A3.Hs,reduceCtorEq,qH]at h<;>simp only[RN]at hx|-
 case lp.lp.lp r0 r q=>
  obtain⟨⟨h1,h2⟩,h3⟩:=h;rw[<-hx,mn h1,Option.isNone_iff_eq_none.1 h2,Option.isNone_iff_eq_none.1 h3]
 all_goals first|rfl|rw[AV.E5 h]|rw[D.FW h]|rw[V7 h]
theorem R5:∀{H A B:List A3},PY H A B=true->(∀(j:Nat)(b x:A3),H[j]? =some b->A[j]? =some x->RN b x=x)->A=MO H B
 |b::r,x::l,y::m,h,hf=>by
  simp only[PY,qH]at h;rw[MO,gY h.1 (hf 0 b x rfl rfl),R5 h.2 fun j c z hc hz=>hf (j+1) c z (by simpa using hc) (by simpa using hz)]
 |[],x::l,y::m,h,_=>by
  simp only[PY,qH]at h;have:=R5 h.2 fun j c z hc _=>by simp at hc
  rw[A3.FW h.1,this];simp[MO]
 |[],[],[],_,_=>rfl
 |_::_,[],[],_,_=>rfl
 |[],[],_::_,h,_=>by simp[PY]at h
 |_::_,[],_::_,h,_=>by simp[PY]at h
 |[],_::_,[],h,_=>by simp[PY]at h
 |_::_,_::_,[],h,_=>by simp[PY]at h
theorem X7:∀{H K:List A3},(∀(j:Nat)(b x:A3),H[j]? =some b->K[j]? =some x->RN b x=x)->MO H K=K
 |b::r,x::l,h=>by rw[MO,h 0 b x rfl rfl,X7 fun j c z hc hz=>h (j+1) c z (by simpa using hc) (by simpa using hz)]
 |[],_,_|_::_,[],_=>by simp[MO]
def pT(H K:List A3):Prop:=∀(j:Nat)(b x:A3),H[j]? =some b->K[j]? =some x->RN b x=x
variable {G:Gh}
theorem mF{G':Gh}(h:HH G G'):pT G.H G'.H:=by
 intro j b x hb hx;obtain⟨x',hx',hs⟩:=h.blk j b hb;rw[hx]at hx';cases hx';cases b<;>cases x<;>simp only[RN];rename_i r r';simp only[AI]at hs;obtain⟨_,h1,h2,h3,h4,h5,h6⟩:=hs;cases r;cases r';simp_all
variable {H K:List A3}
theorem mG{a b:Nat}(h:pT H K)(ho:Ae H.length H=true)(ha:H.length<=a)(hb:H.length<=b)(ha':a<K.length)(hb':b<K.length):pT H (Sl a b K):=by
 intro j c x hc hx;have hj:j<H.length:=(qN.1 hc).1;rw[Jn ha' hb',WG ha hb hj,rF]at hx;obtain⟨z,hz,rfl⟩:=hx;have hf:=h j c z hc hz;cases c<;>cases z<;>simp only[RN,A3.ren]at hf|-;rename_i r q;have ho:=I2 ho hc;have he:Ib (sw a b) r.env=r.env:=SG (fun i hi=>WG ha hb hi) ho;have hf:=A3.lp.inj hf;rw[<-hf];simp[he]
theorem Ts{a b:Nat}{e1 e2:Tm}:∀{m:Nat},(∀t x,get (LS a b e1 e2 m) t=some x->Ie e1 t=some x)/\∃l',Ib (sw a b) l'=LS a b e1 e2 m/\∀t y,get l' t=some y->Ie e2 t=some y
 |0=>⟨(fun _ _ h=>by cases h),[],rfl,(fun _ _ h=>by cases h)⟩
 |m+1=>by
  obtain⟨h1,l',h2,h3⟩:=Ts (a:=a) (b:=b) (e1:=e1) (e2:=e2) (m:=m);simp only[LS];split
  .rename_i x y hx hy;split
   .rename_i he;refine⟨fun t z hz=> ?_,(m,y)::l',by simp only[Ib];rw[h2,AV.FW he],fun t z hz=> ?_⟩
    .simp only[get]at hz;split at hz
     .rename_i hb;cases hz;rw[<-qL hb];exact hx
     .exact h1 _ _ hz
    .simp only[get]at hz;split at hz
     .rename_i hb;cases hz;rw[<-qL hb];exact hy
     .exact h3 _ _ hz
   .exact⟨h1,l',h2,h3⟩
  .exact⟨h1,l',h2,h3⟩
section
variable {F:Fence}{n:Nat}{P:Program}{ops:Array Oper}{ro:Option Nat}{E:Nat->Option Ao}{S S0:St}{acc:List Rc}{rest:List Oper}
theorem WL{o:Oper}{a:Act}{w:World}{K K':Act->World->Prop}{Q Q':Exit->Act->World->Prop}(h:∀a w,K a w->K' a w)(hq:∀e a w,Q e a w->Q' e a w)
  (hh:o.wpIn F n P a w K Q):o.wpIn F n P a w K' Q':=by
 unfold Oper.wpIn at *;refine⟨hh.1,?_⟩;have hh:=hh.2;generalize(o.semAt F.round a.eval).run P w=r at*
 cases r with
 |ok x w'=>
  cases x<;>simp only[Oper.uponIn]at hh|-<;>
   first
    |exact h _ _ hh
    |exact⟨hh.1,CallsIn.mono hh.2 (fun e w'' he=>by cases e<;>first|exact h _ _ he|exact hq _ _ _ he|(obtain⟨a0,w0,h0⟩:=he;exact⟨a0,w0,hq _ _ _ h0⟩))⟩
    |exact⟨hh.1,RowsIn.mono hh.2 (fun _ _ he=>h _ _ he)⟩
    |exact⟨hh.1,RoundIn.mono hh.2 (fun e w'' he=>by cases e<;>first|exact h _ _ he|exact hq _ _ _ he|(obtain⟨a0,w0,h0⟩:=he;exact⟨a0,w0,hq _ _ _ h0⟩))⟩
 |halt x w'=>cases x<;>simp only[Oper.uponIn]at hh|-<;>first|exact hq _ _ _ hh|exact hh
theorem FD{md:Region.Mode}{Q Q':Exit->Act->World->Prop}(hq:∀e a w,Q e a w->Q' e a w):∀(fuel:Nat)(listed:Array Bool)(a:Act)(w:World),wpAnyIn F n P md ops Q fuel listed a w->wpAnyIn F n P md ops Q' fuel listed a w
 |0,listed,a,w,h=>⟨h.1,hq _ _ _ h.2⟩
 |fuel+1,listed,a,w,h=>by
  refine⟨fun e=>hq _ _ _ (h.1 e),fun i hi=> ?_⟩;have h2:=h.2 i hi;unfold wpOpIn at h2|-;split
  .rename_i ho;simp only[ho]at h2;exact FD hq _ _ _ _ h2
  .rename_i o ho;simp only[ho]at h2;split
   .rename_i hw;simp only[hw,qw]at h2;exact WL (fun _ _ k=>FD hq _ _ _ _ k) hq h2
   .rename_i hw;simp only[hw]at h2;exact⟨h2.1,FD hq _ _ _ _ h2.2⟩
variable {Q:Exit->St->Prop}
theorem Wb{Q':Exit->St->Prop}(h:Hq P ro ops S Q)(hq:∀e S',Q e S'->pT S.H S'.H->Q' e S'):Hq P ro ops S Q':=by
 intro N G a w r;refine FD ?_ _ _ _ _ (h N G a w r);rintro e a' w' ⟨S',G',q,r',k⟩;exact⟨S',G',hq e S' q (by rw[<-r.heap,<-r'.heap];exact mF k.gle),r',k⟩
theorem ax{id:Nat}(hm:P.follows .mixedOrders=true)(h:Hq P ro ops S (Qw Q)):W P ro (.region id ops true) S Q:=by
 refine NY (Q':=Qw Q) (fun N G a w r=>wpIn_region_any hm (h N G a w r)) ?_;rintro e S' ⟨env,h1,h2⟩;exact .inr ⟨env,h1,h2⟩
theorem kc{l:List (Nat×Nat)}(hE:BN P E)(hd:HA ops (acc.reverse.map Rc.k) l=true)(hx:CI E ops acc.reverse S.H l)(hQ:Q .normal S):Wd P ro E ops S0 (Hq P ro ops S0 (Qw Q)) acc [] S:=by
 intro Sr ht hH hn he hr;refine KO hE ht hd (by rw[hH];exact hx) ⟨S.env,he,?_⟩;rw[hH,hn];exact hQ
theorem Tu{id i k n:Nat}{e e1 e2 e':Tm}{H H1 H2 H':List A3}{Q:Exit->St->Prop}(hm:P.follows .mixedOrders=true)(hik:(Nat.blt i k&&Nat.blt k ops.toList.length&&JS ops)=true)(ho:Ae H.length H=true)
  (h1:∀Q:Exit->St->Prop,Q .normal ⟨D1 e1,H1,n⟩->Hq P ro (Mp i k ops) ⟨D1 e,H,n⟩ (Qw Q)) (h2:∀Q:Exit->St->Prop,Q .normal ⟨D1 e2,H2,n⟩->Hq P ro (Mq i k ops) ⟨D1 e,H,n⟩ (Qw Q)):
  ∀{l:List (Nat×Nat)},Tt H e1 H1 e2 H2 l=some (e',H')->Q .normal ⟨D1 e',H',n⟩->W P ro (.region id ops true) ⟨D1 e,H,n⟩ Q
 |[],h,_=>by simp[Tt]at h
 |p::l,h,hQ=>by
  simp only[Tt]at h;split at h
  .rename_i hc;cases h;simp only[qH]at hc;obtain⟨⟨⟨⟨⟨c1,c2⟩,c3⟩,c4⟩,c5⟩,c7⟩:=hc;simp only[Nat.ble_eq,tX,Ia,qJ]at c1 c2 c3 c4 c5;obtain⟨j1,l',j2,j3⟩:=Ts (a:=p.1) (b:=p.2) (e1:=e1) (e2:=e2) (m:=8*e1.length)
   have hfl:∀{H K:List A3},(MO H K).length=K.length:=by
    intro H
    induction H with
    |nil=>intro K;simp[MO]
    |cons b r ih=>intro K;cases K<;>simp[MO,ih]
   refine NY (Q':=fun x S'=>x= .normal/\S'=⟨LS p.1 p.2 e1 e2 (8*e1.length),MO H H1,n⟩) (jd (S1:=⟨LS p.1 p.2 e1 e2 (8*e1.length),MO H H1,n⟩) i k p.1 p.2 hm hik ho (by simp only[hfl,qH,Nat.ble_eq,tX];exact⟨⟨⟨c1,c2⟩,c3⟩,c4⟩) (Wb (h1 (fun e S'=>e= .normal/\S'=⟨D1 e1,H1,n⟩) ⟨rfl,rfl⟩) ?_) (Wb (h2 (fun e S'=>e= .normal/\S'=⟨D1 e2,H2,n⟩) ⟨rfl,rfl⟩) ?_) ⟨rfl,rfl⟩) ?_
   .rintro x ⟨Se,SH,Sn⟩ ⟨env,q1,rfl,q2⟩ hl;cases q2;refine⟨_,fun t x hx=>q1 t x (by rw[F7];exact j1 t x hx),rfl,.inl ?_⟩;simp only[X7 hl]
   .rintro x ⟨Se,SH,Sn⟩ ⟨env,q1,rfl,q2⟩ hl;cases q2;refine⟨l',fun t x hx=>q1 t x (by rw[F7];exact j3 t x hx),rfl,.inr ?_⟩;simp only[aG];rw[j2,<-R5 c7 (mG hl ho c1 c2 (tK c3 (Nat.le_of_eq c5)) (tK c4 (Nat.le_of_eq c5)))]
   .rintro x S' ⟨rfl,rfl⟩;refine .inr ⟨_,fun t x hx=> ?_,hQ⟩;rw[F7,RU]at hx;exact hx
  .exact Tu hm hik ho h1 h2 h hQ
variable {l:List (Nat×AV)}
theorem jb{c:Code}{H:List A3}{n:Nat}(h:W P ro c ⟨D1 (XU l),H,n⟩ Q):W P ro c ⟨l,H,n⟩ Q:=
 fun N G a w r=>h N G a w (r.OQ fun t x hx=>by rw[F7,RU]at hx;exact hx)
theorem aw{c:Code}{H K:List A3}{n:Nat}{e:Tm}{x:Exit}(ts:List Nat)(h:∀Q:Exit->St->Prop,Q x ⟨D1 e,K,n⟩->W P ro c ⟨D1 (XU l),H,n⟩ Q)(hQ:Q x ⟨small e ts,K,n⟩):W P ro c ⟨l,H,n⟩ Q:=by
 refine jb (NY (Q':=fun y S'=>y=x/\S'=⟨D1 e,K,n⟩) (h _ ⟨rfl,rfl⟩) ?_);rintro y S' ⟨rfl,rfl⟩;exact .inr ⟨_,fun t x hx=>Ew hx,hQ⟩
end
mutual
theorem rdV0:∀{x y:AV},Dy [] x=some y->y=x/\x.ok 0=true
 | .d _,_,h| .u,_,h| .e0,_,h| .dp _,_,h=>by simp only[Dy,qI]at h;exact⟨h.symm,rfl⟩
 | .ag _,_,h| .tup _,_,h=>by
  simp only[Dy]at h;split at h
  .rename_i l hl;cases h;obtain⟨rfl,h2⟩:=UV hl;exact⟨rfl,h2⟩
  .cases h
 | .fn f a b,y,h=>by
  simp only[Dy]at h;split at h
  .rename_i p q hp hq;cases h;obtain⟨rfl,h2⟩:=UV hp;obtain⟨rfl,h3⟩:=UV hq;exact⟨rfl,by simp only[AV.ok,h2,h3];rfl⟩
  .cases h
 | .sl ..,y,h=>by simp[Dy]at h
 | .ptr ..,y,h=>by simp[Dy]at h
 | .bs ..,y,h=>by simp[Dy]at h
 | .ep ..,y,h=>by simp[Dy]at h
 | .yl ..,y,h=>by simp[Dy]at h
 | .mp ..,y,h=>by simp[Dy]at h
theorem UV:∀{xs ys:List AV},Ea [] xs=some ys->ys=xs/\AV.oks 0 xs=true
 |[],ys,h=>by simp only[Ea,qI]at h;exact⟨h.symm,rfl⟩
 |x::xs,ys,h=>by
  simp only[Ea]at h;split at h
  .rename_i y l hy hl;cases h;obtain⟨rfl,h1⟩:=rdV0 hy;obtain⟨rfl,h2⟩:=UV hl;exact⟨rfl,by simp only[AV.oks,h1,h2];rfl⟩
  .cases h
end
theorem AY.up{ys:List AV}(h:AY P f ys [] x K)(hx:Ea [] xs=some ys)(H:List A3):AY P f xs H (x.ren (rn [] H.length)) (H++Eu (rn [] H.length) K):=by
 obtain⟨rfl,h2⟩:=UV hx;have:=AY.ren (H2:=H) [] h rfl trivial rfl h2;rw[AV.Jj (k:=0) (fun i hi=>absurd hi (Nat.not_lt_zero _)) h2]at this;exact this
theorem bj{q:D}:∀{x:AV}{v:Value},RV G x v->RV G (pP q x) v:=by
 intro x v h;unfold pP;split
 .obtain⟨a,rfl⟩:=h;simp only[RV,RD,Ut,Uo];exact⟨a,0,rfl,qG _,.inl rfl⟩
 .obtain⟨a,rfl⟩:=h;simp only[RV,RD,Ut,oo];exact⟨a,0,rfl,qG _,.inl rfl⟩
 .obtain⟨a,rfl⟩:=h;simp only[RV,RD];exact⟨a,0,rfl,qG _,.inl trivial⟩
 .exact h
theorem bk{G:Gh}:∀{l:List D}{xs:List AV}{vs:List Value},Al G xs vs->Al G (nY l xs) vs
 |q::l,x::r,vs,h=>by
  simp only[nY,Al]at h|-;obtain⟨v,w,h1,h2,h3⟩:=h;exact⟨v,w,h1,bj h2,bk h3⟩
 |[],_,_,h=>by simpa only[nY]using h
 |_::_,[],_,h=>by simpa only[nY]using h
theorem lM{l:List D}{v:Value}(h:RV G x v):RV G (e0A l x) v:=by
 unfold e0A;split
 .simp only[RV]at h|-;obtain⟨vs,h1,h2⟩:=h;exact⟨vs,h1,bk h2⟩
 .split
  .exact bj h
  .exact h
theorem Nk{l:List D}{G:Gh}{a:Array Value}:∀{ps:List (Nat×Operand)}{env:List (Nat×AV)},Fi G env a->Fi G (TY l env ps) a
 |[],_,h=>h
 |p::r,env,h=>by
  simp only[TY];split
  .split
   .rename_i x hx;refine Nk fun u y hy=> ?_
    rw[XA]at hy;simp only[get]at hy;split at hy
    .rename_i hb;cases hy;obtain⟨v,h1,h2⟩:=h _ x hx;rw[<-qL hb];exact⟨v,h1,lM h2⟩
    .exact h u y hy
   .exact Nk h
  .exact Nk h
theorem D2.up{o:Oper}{H':List A3}{n:Nat}(h:D2 P o ⟨small e l,H,n⟩ x H'):D2 P o ⟨D1 e,H,n⟩ x H':=
 fun ro N G a w r=>h ro N G a w (r.OQ fun _ _ hx=>Ew hx)
variable {E:Nat->Option Ao}
theorem Wx(hE:BN P E){o:Oper}{S:St}(h:Yo E S.env o.op=some x)(H:List A3):D2 P o ⟨S.env,H,S.n⟩ x H:=by
 unfold Yo at h;split at h
 .rename_i t len ps hop;split at h
  .rename_i y hy;split at h
   .rename_i e he;split at h
    .rename_i x' hx;cases h;have hx':Hu E (TY (bm E 8 e) S.env ps.toList) H o.op=some (true,x):=by rw[hop]at hx|-;exact hx
     have:=Hv (S:=⟨TY (bm E 8 e) S.env ps.toList,H,S.n⟩) hE hx' rfl;intro ro N G a w r;exact this ro N G a w ⟨r.heap,r.rel,r.size,Nk r.env,r.marks,r.round⟩
    .cases h
   .cases h
  .cases h
 .cases h
theorem LB{env:List (Nat×AV)}{op:Op}(h:Yo E env op=some x):∀c,op≠ .defer c:=fun c e=>by subst e;cases h
theorem QA(n0:Nat)(l:List Nat):∀(K:List A3)(i m:Nat),Au ((Ti n0 l i K).take m) K
 |[],i,m=>by simp[Ti,Au]
 |b::r,i,0=>by simp[Au]
 |b::r,i,m+1=>by
  simp only[Ti,List.take_succ_cons,Au];refine⟨?_,QA n0 l r (i+1) m⟩;split
  .exact .inr rfl
  .rename_i h;exact .inl ⟨rfl,by cases hb:b.Z8 with|false=>rfl|true=>rw[hb,Bool.or_true]at h;cases h⟩
theorem AY.gc(h:AY P f xs H x K):AY P f xs H x (pR H.length x K):=by
 simp only[pR];split
 .rename_i hc;rw[qH,qH]at hc;exact AY.drop _ h (QA _ _ _ _ _) hc.1.2 hc.2 hc.1.1
 .exact h
end Go.Gar
namespace Go.Gar
def Snd(P:Program)(E:Nat->Option Ao):Rq->Rz->Prop
 | .c ro c e H n,r=>∀Q:Exit->St->Prop,Q r.1 ⟨D1 r.2.1,r.2.2,n⟩->W P ro c ⟨D1 e,H,n⟩ Q
 | .lo ro c e H n,r=>r.1≠ .normal/\∃m,∀Q:Exit->St->Prop,Q r.1 ⟨D1 r.2.1,r.2.2,n⟩->W P ro c ⟨D1 e,H,n⟩ (o0 P ro c Q m)
 | .sc ro c0 c e H n,r=>∃j,∀Q:Exit->St->Prop,Q r.1 ⟨D1 r.2.1,r.2.2,n⟩->W P ro c ⟨D1 e,H,n⟩ (EA P ro c0 Q j)
 | .l ro ops rest e H n,r=>r.1= .normal/\∀(i:Nat)(Q:Exit->St->Prop),Q .normal ⟨D1 r.2.1,r.2.2,n⟩->Wl P ro ops i rest ⟨D1 e,H,n⟩ Q
 | .t ro ops _ e H n,r=>r.1= .normal/\∀(id:Nat)(Q:Exit->St->Prop),Q .normal ⟨D1 r.2.1,r.2.2,n⟩->W P ro (.region id ops true) ⟨D1 e,H,n⟩ Q
 | .d ops acc ks rest e H n,r=>ks=acc.map Rc.k->r.1= .normal/\∀(ro:Option Nat)(S0:St)(Q:Exit->St->Prop),Q .normal ⟨D1 r.2.1,r.2.2,n⟩->Wd P ro E ops S0 (Hq P ro ops S0 (Qw Q)) acc rest ⟨D1 e,H,n⟩
 | .f g xs H,r=>∀x K,Kj (some r)=some (x,K)->IY P g xs H fun y K'=>y=x/\K'=K
 | .p g xs _,r=>∀x K,Kj (some r)=some (x,K)->(K=[]->Si P g xs x)/\(K≠[]->AY P g xs [] x K)
 | .y id xs H,r=>(∃r0,H[id]? =some (.lp r0))/\∀x K,Kj (some r)=some (x,K)->YT P id xs H fun y K'=>y=x/\K'=K
section
variable {P:Program}{ro:Option Nat}{S:St}{Q:Exit->St->Prop}{E:Nat->Option Ao}
variable {x:AV}{H K:List A3}
theorem Fx{y:AV}{r:Rz}(h:one x H=some r)(k:Kj (some r)=some (y,K)):y=x/\K=H:=by
 simp only[one,qI]at h;subst h;simp only[Kj,qI,qR]at k;exact⟨k.1.symm,k.2.symm⟩
variable {c:Code}
theorem YC{e:Exit}{S':St}(he:∀l,e≠ .goto l)(h:Q e S')(j:Nat):EA P ro c Q j e S':=by
 rw[Fp he];exact h
theorem Z7{op:Op}(h:VO op=true)(env:List (Nat×AV))(H H':List A3):Hu E env H op=Hu E env H' op:=by
 cases op<;>first|rfl|(simp[VO]at h)
theorem lO{env:List (Nat×AV)}{op:Op}{r:Bool×AV}(h:pQ E env H op=some r):Hu E env H op=some r:=by
 unfold pQ at h;split at h
 .split at h
  .cases h
  .exact h
 .exact h
theorem MP{n:Nat}:∀(l:List Nat)(e:Tm)(H:List A3),(KS l e H).2.length=H.length/\∀{ops:Array Oper}{i:Nat}{rest:List Oper},Wl P ro ops i rest ⟨D1 (KS l e H).1,(KS l e H).2,n⟩ Q->Wl P ro ops i rest ⟨D1 e,H,n⟩ Q
 |[],e,H=>⟨rfl,fun h=>h⟩
 |id::r,e,H=>by
  simp only[KS];split
  .rename_i x hx;obtain⟨h2,h3⟩:=MP (n:=n) r (Un id x e) (Cx id x 0 H);refine⟨h2.trans Ce,fun h=>Il (A1.freeze (S:=⟨D1 e,H,n⟩) id hx) (by show H.length<=(Cx id x 0 H).length;rw[Ce];exact qG _) ?_⟩;exact Il (S:=⟨IZ id x (D1 e),Cx id x 0 H,n⟩) (S':=⟨D1 (Un id x e),Cx id x 0 H,n⟩) (A1.env (S:=⟨IZ id x (D1 e),Cx id x 0 H,n⟩) fun t y hy=>by rw[<-ce];exact hy) (qG _) (h3 h)
  .exact MP r e H
variable {g n:Nat}{fn:Func}
theorem X8(h:gn P g n=some (fn,c)):P.funcs[g]? =some fn/\fn.body=some c/\n<=fn.ntmps:=by
 unfold gn at h;split at h
 .rename_i fn' hf;split at h
  .rename_i c' hb;split at h
   .rename_i hn;cases h;exact⟨hf,hb,rY hn⟩
   .cases h
  .cases h
 .cases h
theorem TB{o:Option Rz}(h:Px E fn o=some (x,K)):∃y e,o=some (y,e,K)/\(y= .ret\/y= .normal)/\CG E (small e (resT fn.results.toList)) K fn.results.toList=some (true,x):=by
 unfold Px at h;split at h
 .split at h
  .rename_i x' hx;cases h;exact⟨_,_,rfl,.inl rfl,hx⟩
  .cases h
 .split at h
  .rename_i x' hx;cases h;exact⟨_,_,rfl,.inr rfl,hx⟩
  .cases h
 .cases h
theorem WR{K:St->Prop}{e:Exit}{S':St}(he:e= .ret\/e= .normal)(h:K S'):KM K e S':=by
 rcases he with rfl|rfl<;>exact h
variable {H':List A3}
theorem Rv(hE:BN P E){o:Oper}(h:op1 E S.env S.H o.op=some (x,H')):D2 P o S x H'/\∀c,o.op≠ .defer c:=by
 unfold op1 at h;split at h
 .rename_i q hq;cases h;split at hq
  .exact⟨R7 hE hq rfl,Ht hq⟩
  .cases hq
 .split at h
  .rename_i h1;cases h;exact⟨Wx hE h1 _,LB h1⟩
  split at h
  .rename_i h1;cases h;exact⟨Hv hE h1 rfl,FG h1⟩
  .split at h
   .rename_i h1;cases h;exact⟨OR hE h1 rfl,Gp h1⟩
   .split at h
    .rename_i h1;cases h;exact⟨OX hE h1 rfl,Gs h1⟩
    .split at h
     .rename_i h1;cases h;exact⟨Q6 h1 rfl,Is h1⟩
     .split at h
      .rename_i h1;cases h;exact⟨RF hE h1 rfl,Hw h1⟩
      .split at h
       .rename_i h1;cases h;exact⟨Wy hE h1 rfl,LC h1⟩
       .split at h
        .rename_i h1;cases h;exact⟨TR hE h1,fun c e=>by rw[e]at h1;cases h1⟩
        .split at h
         .rename_i h1;cases h;exact⟨X2 hE h1 rfl,LD h1⟩
         .cases h
theorem e8(hE:BN P E){o:Oper}(h:nh E S.env S.H o.op=some (x,H')):D2 P o S x H'/\∀c,o.op≠ .defer c:=by
 have key:opA E S.env S.H o.op=some (x,H')\/opW E S.env S.H o.op=some (x,H')\/opQ E S.env S.H o.op=some (x,H')\/op1 E S.env S.H o.op=some (x,H'):=by
  unfold nh at h;split at h<;>first|exact .inl h|exact .inr (.inl h)|exact .inr (.inr (.inl h))|exact .inr (.inr (.inr h))
 rcases key with h|h|h|h
 .unfold opA at h;split at h
  .rename_i h1;cases h;exact⟨OR hE h1 rfl,Gp h1⟩
  .exact Rv hE h
 .unfold opW at h;split at h
  .rename_i h1;cases h;exact⟨OX hE h1 rfl,Gs h1⟩
  .exact Rv hE h
 .unfold opQ at h;split at h
  .rename_i h1;cases h;rw[lR]at h1;exact⟨Hv hE h1 rfl,FG h1⟩
  .exact Rv hE h
 .exact Rv hE h
theorem Dn{r:Option Rz}(h:Kj r=some (x,K)):∃s,r=some s/\Kj (some s)=some (x,K):=by
 cases r with
 |none=>simp[Kj]at h
 |some s=>exact⟨s,rfl,h⟩
variable {ops:Array Oper}{rest:List Oper}{dst:Option Tmp}{e:Tm}
theorem Wh{i:Nat}(h:Wl P ro ops i rest ⟨D1 (JG dst x e),H,n⟩ Q):Wl P ro ops i rest ⟨Ap dst x (D1 e),H,n⟩ Q:=
 Il (S:=⟨Ap dst x (D1 e),H,n⟩) (S':=⟨D1 (JG dst x e),H,n⟩) (A1.env (S:=⟨Ap dst x (D1 e),H,n⟩) fun t y hy=>by rw[<-Q9];exact hy) (qG _) h
theorem We{S0:St}{A:Prop}{acc:List Rc}(h:Wd P ro E ops S0 A acc rest ⟨D1 (JG dst x e),H,n⟩):Wd P ro E ops S0 A acc rest ⟨Ap dst x (D1 e),H,n⟩:=
 Qn (S:=⟨Ap dst x (D1 e),H,n⟩) (env:=D1 (JG dst x e)) (fun t y hy=>by rw[<-Q9];exact hy) h
theorem Uj(n:Nat):∀(H:List A3),Au (H.take n) H:=by
 intro H;have:=FT (H.take n) (H.drop n);rwa [rX]at this
theorem gr{xs:List AV}{e':Tm}(h:lU P E e H g xs=(e',H')):H'.length=H.length/\∀{ops:Array Oper}{i:Nat}{rest:List Oper},Wl P ro ops i rest ⟨D1 e',H',n⟩ Q->Wl P ro ops i rest ⟨D1 e,H,n⟩ Q:=by
 unfold lU at h;split at h
 .cases h;exact⟨rfl,fun h=>h⟩
 .split at h
  .split at h
   .cases h;exact⟨rfl,fun h=>h⟩
   .obtain⟨a,b⟩:=MP (P:=P) (ro:=ro) (Q:=Q) (n:=n) (Mn xs) e H;rw[h]at a b;exact⟨a,b⟩
  .cases h;exact⟨rfl,fun h=>h⟩
theorem OA{A:Prop}(h:Wd P ro E ops S A [] ops.toList S):A:=h S .nil rfl rfl (fun _ _ h=>h) (fun k=>sm)
theorem jm(hE:BN P E){xs:List AV}{y:Exit}(hf:P.funcs[g]? =some fn)(hb:fn.body=some c)(hname:(fn.name== "runtime.NumGoroutine")=false)(hn:xs.length<=fn.ntmps)(he:∀Q:Exit->St->Prop,Q y ⟨D1 e,K,fn.ntmps⟩->W P none c ⟨D1 (XU (Cn 0 xs)),H,fn.ntmps⟩ Q)(hy:y= .ret\/y= .normal)(hr:CG E (small e (resT fn.results.toList)) K fn.results.toList=some (true,x)):AY P g xs H x K:=
 So hE hf hb hname hn (aw (resT fn.results.toList) he (WR hy ⟨true,x,hr,rfl,rfl,rfl⟩))
section
variable {O:Nat->List AV->Option AV}{kp:Nat->Bool}{k:Nat}
theorem jp(hE:BN P E)(hm:P.follows .mixedOrders=true)(hname:∀(g:Nat)(fn:Func), P.funcs[g]? =some fn->(fn.name== "runtime.NumGoroutine")=false)(hO:∀g xs y, O g xs=some y->Si P g xs y):
  ∀(k:Nat)(q:Rq)(r:Rz),ex P E O kp k q=some r->Snd P E q r:=by
 intro k
 induction k with
 |zero=>intro q r h;simp[ex]at h
 |succ k ih=>
 intro q r h
 cases q with
 |c ro c e H n=>
  simp only[ex]at h
  cases c with
  |skip=>simp only[sC,qI]at h;subst h;exact fun Q hQ=>Eo hQ
  |label l=>simp only[sC,qI]at h;subst h;exact fun Q hQ=>JN hQ
  |exit id=>simp only[sC,qI]at h;subst h;exact fun Q hQ=>En hQ
  |goto l=>simp only[sC,qI]at h;subst h;exact fun Q hQ=>ME hQ
  |ret=>simp only[sC,qI]at h;subst h;exact fun Q hQ=>HN hQ
  |refuse w=>simp[sC]at h
  |seq a b=>
   simp only[sC]at h;generalize hx:ex P E O kp k (.c ro a e H n)=z at h;intro Q hQ;refine HO ?_;unfold pI at h;split at h
   .exact ih _ _ hx _ (ih _ _ h _ hQ)
   .rename_i hne;subst h;refine ih _ _ hx _ ?_;obtain⟨y,e',H'⟩:=r;cases y<;>first|exact hQ|exact(hne _ _ rfl).elim
  |cond o a b=>
   simp only[sC]at h;generalize hx:ZQ e o=z at h;unfold kF at h;split at h
   .split at h
    .exact fun Q hQ=>Cc (Rx hx) (ih _ _ h Q hQ)
    .exact fun Q hQ=>Cb (Rx hx) (ih _ _ h Q hQ)
   .cases h
  |block id b=>
   simp only[sC]at h;generalize hx:ex P E O kp k (.c ro b e H n)=z at h;intro Q hQ;refine De ?_;unfold pE at h;split at h
   .split at h
    .rename_i hb;cases h;refine ih _ _ hx _ ?_;simp only[Ii,hb,qw];exact hQ
    .rename_i hb;cases h;refine ih _ _ hx _ ?_;simp only[Ii,hb,rD,ql];exact hQ
   .rename_i hne;subst h;refine ih _ _ hx _ ?_;obtain⟨y,e',H'⟩:=r;cases y<;>first|exact hQ|exact(hne _ _ _ rfl).elim
  |loop b=>
   simp only[sC]at h;obtain⟨_,m,h2⟩:=ih _ _ h;exact fun Q hQ=>Wa m (h2 Q hQ)
  |scope b=>
   simp only[sC]at h;obtain⟨j,h1⟩:=ih _ _ h;exact fun Q hQ=>Qm j (h1 Q hQ)
  |region id ops dr=>
   simp only[sC]at h;obtain⟨y,e',H'⟩:=r;split at h
   .obtain⟨h1,h2⟩:=ih _ _ h;simp only at h1;subst h1;exact fun Q hQ=>Dz (h2 0 Q hQ)
   .unfold kG at h;split at h
    .split at h
     .rename_i r' hr';cases h;obtain⟨h1,h2⟩:=ih _ _ hr' rfl;simp only at h1;subst h1;exact fun Q hQ=>ax hm (OA (h2 ro ⟨D1 e,H,n⟩ Q hQ))
     .obtain⟨h1,h2⟩:=ih _ _ h;simp only at h1;subst h1;exact fun Q hQ=>h2 id Q hQ
    .obtain⟨h1,h2⟩:=ih _ _ h;simp only at h1;subst h1;exact fun Q hQ=>h2 id Q hQ
  |rangeFunc g ps asg body=>
   simp only[sC]at h;generalize hg:ZQ e g=z at h;unfold pH at h;split at h
   .split at h
    .rename_i x0 K hv;unfold pG at h;split at h
     .rename_i r1 hK;split at h
      .cases h
      .rename_i hb;obtain⟨s,hs,hv'⟩:=Dn hv;have hT:=ih _ _ hs _ _ hv';intro Q hQ;refine Sx (S:=⟨D1 e,H,n⟩) (Rx hg) hT ?_;rintro x H' ⟨rfl,rfl⟩;refine⟨r1,hK,hb,?_⟩
       cases hp:r1.pending with
       |none=>
        simp only[hp,qI]at h|-;subst h;exact hQ
       |some c=>
        simp only[hp]at h|-;exact ih _ _ h Q hQ
     .cases h
    .cases h
   .cases h
 |lo ro c e H n=>
  simp only[ex]at h;generalize hx:ex P E O kp k (.c ro c e H n)=z at h;unfold sLo at h;split at h
  .obtain⟨g1,m,g2⟩:=ih _ _ h;exact⟨g1,m+1,fun Q hQ=>ih _ _ hx _ (g2 Q hQ)⟩
  .rename_i hne;subst h;obtain⟨y,e',H'⟩:=r;refine⟨by rintro rfl;exact hne _ _ rfl,0,fun Q hQ=>ih _ _ hx _ ?_⟩;cases y<;>first|exact hQ|exact(hne _ _ rfl).elim
 |sc ro c0 c e H n=>
  simp only[ex]at h;generalize hx:ex P E O kp k (.c ro c e H n)=z at h;unfold sSc at h;split at h
  .split at h
   .rename_i rest hl;obtain⟨j,g⟩:=ih _ _ h;exact⟨j+1,fun Q hQ=>ih _ _ hx _ (by simp only[EA,hl];exact g Q hQ)⟩
   .rename_i hl;cases h;exact⟨0,fun Q hQ=>ih _ _ hx _ ⟨hl,hQ⟩⟩
  .rename_i hne;subst h;obtain⟨y,e',H'⟩:=r;exact⟨0,fun Q hQ=>ih _ _ hx _ (YC (fun l e'=>by subst e';exact hne _ _ _ rfl) hQ 0)⟩
 |l ro ops rest e H n=>
  simp only[ex]at h
  cases rest with
  |nil=>simp only[sL,qI]at h;subst h;exact⟨rfl,fun i Q hQ=>Qq hQ⟩
  |cons o rest=>
   simp only[sL]at h;split at h
   .cases h
   rename_i hd;generalize hg:A8 ops (small e (looks ops o)) o=z at h;unfold sL1 at h;split at h
   .cases h
   .obtain⟨h1,h2⟩:=ih _ _ h;exact⟨h1,fun i Q hQ=>Wg (S:=⟨D1 e,H,n⟩) (Iz (fun _ _ hx=>Ew hx) hg) hd (Wh (h2 _ Q hQ))⟩
   .have hg':=Iz (b:=D1 e) (fun _ _ hx=>Ew hx) hg;generalize ho:nh E (small e (looks ops o)) H o.op=z at h;unfold sL2 at h;split at h
    .obtain⟨h1,h2⟩:=ih _ _ h;obtain⟨o1,o2⟩:=e8 (S:=⟨small e (looks ops o),H,n⟩) hE ho;exact⟨h1,fun i Q hQ=>L1 (S:=⟨D1 e,H,n⟩) hg' o1.up o2 hd (Wh (h2 _ Q hQ))⟩
    .generalize hy:F6 (small e (looks ops o)) o.op=z at h;unfold sL3 at h;split at h
     .split at h
      .rename_i x H' hv;obtain⟨s,hs,hv'⟩:=Dn hv;obtain⟨⟨r0,hlp⟩,hT⟩:=ih _ _ hs;have hT:=hT _ _ hv';obtain⟨h1,h2⟩:=ih _ _ h;exact⟨h1,fun i Q hQ=>oO (S:=⟨D1 e,H,n⟩) hg' (RI (fun _ _ hx=>Ew hx) hy) hd hlp hT (fun r H' he=>by obtain⟨e1,e2⟩:=he;subst e1;subst e2;exact Wh (h2 _ Q hQ))⟩
      .cases h
     .generalize hc:BE (small e (looks ops o)) o.op=z at h;unfold sL4 at h;split at h
      .split at h;rename_i e' H' hfz;unfold kE at h;split at h
       .rename_i g' ys hg2 hc2;split at h
        .rename_i x H2 hv;obtain⟨s,hs,hv'⟩:=Dn hv;have hT:=ih _ _ hs _ _ hv';obtain⟨h1,h2⟩:=ih _ _ h;refine⟨h1,fun i Q hQ=> ?_⟩;obtain⟨z2,z3⟩:=gr (ro:=ro) (Q:=Q) (n:=n) hfz;exact z3 (gF (S:=⟨D1 e',H',n⟩) (Iz (fun _ _ hx=>Ew hx) hg2) (TP (fun _ _ hx=>Ew hx) hc2) hd hT (fun r H' he=>by obtain⟨e1,e2⟩:=he;subst e1;subst e2;exact Wh (h2 _ Q hQ)))
        .cases h
       .cases h
      .cases h
 |t ro ops l e H n=>
  simp only[ex]at h
  cases l with
  |nil=>simp[sT]at h
  |cons p l=>
   simp only[sT]at h;split at h
   .cases h
   rename_i hc;rw[qH]at hc;generalize h1:ex P E O kp k (.d (Mp p.1 p.2 ops) [] [] (Mp p.1 p.2 ops).toList e H n)=z1 at h;generalize h2:ex P E O kp k (.d (Mq p.1 p.2 ops) [] [] (Mq p.1 p.2 ops).toList e H n)=z2 at h;unfold kI at h;split at h
   .split at h
    .rename_i hj;cases h;obtain⟨a1,a2⟩:=ih _ _ h1 rfl;obtain⟨b1,b2⟩:=ih _ _ h2 rfl;exact⟨rfl,fun id Q hQ=>Tu hm hc.1 hc.2 (fun Q hQ=>OA (a2 ro ⟨D1 e,H,n⟩ Q hQ)) (fun Q hQ=>OA (b2 ro ⟨D1 e,H,n⟩ Q hQ)) hj hQ⟩
    .exact(ih (.t ro ops l e H n) r h :)
   .exact(ih (.t ro ops l e H n) r h :)
 |d ops acc ks rest e H n=>
  simp only[ex]at h;intro hks
  cases rest with
  |nil=>
   simp only[sD]at h;split at h
   .rename_i hb;cases h;rw[qH]at hb;have hk:ks.reverse=acc.reverse.map Rc.k:=by rw[hks,List.map_reverse]
    have hb1:=hb.1;unfold dOK at hb1;rw[hk]at hb1;exact⟨rfl,fun ro S0 Q hQ=>kc (S:=⟨D1 e,H,n⟩) hE hb1 (by rw[<-hk];exact Q7 hb.2) hQ⟩
   .cases h
  |cons o rest=>
   simp only[sD]at h;have hsm:=Lr (e:=e) (l:=looks ops o);split at h
   .cases h
   rename_i hd;generalize hg:A8 ops (small e (looks ops o)) o=z at h
   have fin:∀{x:AV}{kd:Kd}{H':List A3},Ml (ex P E O kp k) ops acc ks o rest n e H x kd H'=some r->(∀ro,(⟨Db (looks ops o) (D1 e),H,x,kd⟩:Rc).ok P ro E ops n o H')->
     r.1= .normal/\∀(ro:Option Nat)(S0:St)(Q:Exit->St->Prop),Q .normal ⟨D1 r.2.1,r.2.2,n⟩->Wd P ro E ops S0 (Hq P ro ops S0 (Qw Q)) acc (o::rest) ⟨D1 e,H,n⟩:=by
    intro x kd H' h hok;unfold Ml at h;rw[hsm]at h;obtain⟨h1,h2⟩:=ih _ _ h (by rw[hks];rfl);exact⟨h1,fun ro S0 Q hQ=>IN (S:=⟨D1 e,H,n⟩) (x:=x) (k:=kd) (H':=H') (hok ro) (We (h2 ro S0 Q hQ))⟩
   unfold sD1 at h;rw[hsm]at hg;split at h
   .cases h
   .unfold Ml at h;rw[hsm]at h;obtain⟨h1,h2⟩:=ih _ _ h (by rw[hks];rfl);exact⟨h1,fun ro S0 Q hQ=>Wc (S:=⟨D1 e,H,n⟩) hg hd (We (h2 ro S0 Q hQ))⟩
   .generalize hx:Yo E (small e (looks ops o)) o.op=z at h;unfold sD2 at h;split at h
    .rw[hsm]at hx;exact fin h fun ro=>⟨hd,hg,fun H=>(Wx (S:=⟨Db (looks ops o) (D1 e),H,n⟩) hE hx H).step (LB hx),rfl⟩
    .generalize hx:pQ E (small e (looks ops o)) H o.op=z at h;unfold sD3 at h;split at h
     .have hq:=lO hx;rw[hsm]at hq;split at h
      .rename_i hf;unfold Ml at h;rw[hsm]at h;obtain⟨h1,h2⟩:=ih _ _ h (by rw[hks];rfl);exact⟨h1,fun ro S0 Q hQ=>gD (S:=⟨D1 e,H,n⟩) hE hg (fun H'=>by rw[Z7 hf _ H' H];exact hq) hd rfl (We (h2 ro S0 Q hQ))⟩
      .unfold Ml at h;rw[hsm]at h;obtain⟨h1,h2⟩:=ih _ _ h (by rw[hks];rfl);exact⟨h1,fun ro S0 Q hQ=>oI (S:=⟨D1 e,H,n⟩) hg hq hd rfl (We (h2 ro S0 Q hQ))⟩
     .generalize ho:nh E (small e (looks ops o)) H o.op=z at h;unfold sD4 at h;split at h
      .rw[hsm]at ho;obtain⟨o1,o2⟩:=e8 (S:=⟨Db (looks ops o) (D1 e),H,n⟩) hE ho;exact fin h fun ro=>⟨hd,hg,o1.step o2⟩
      .generalize hc:BE (small e (looks ops o)) o.op=z at h;unfold sD5 at h;rw[hsm]at hc;split at h
       .cases h
       .split at h
        .rename_i ys hx;split at h
         .rename_i x hv;obtain⟨s,hs,hv'⟩:=Dn hv;have hP:=(ih _ _ hs _ _ hv').1 rfl;exact fin h fun ro=>⟨hd,hg,fun H=>O8 (S:=⟨Db (looks ops o) (D1 e),H,n⟩) hc (Si.nq hP hx H),rfl⟩
         .rename_i x b K hv;obtain⟨s,hs,hv'⟩:=Dn hv;have hP:=(ih _ _ hs _ _ hv').2 sm;exact fin h fun ro=>⟨hd,hg,O8 (S:=⟨Db (looks ops o) (D1 e),H,n⟩) hc (AY.up hP hx H)⟩
         .cases h
        .split at h
         .rename_i x H' hv;obtain⟨s,hs,hv'⟩:=Dn hv;have hT:=ih _ _ hs _ _ hv';exact fin h fun ro=>⟨hd,hg,O8 (S:=⟨Db (looks ops o) (D1 e),H,n⟩) hc hT⟩
         .cases h
 |p g xs b0=>
  simp only[ex]at h;generalize hy:O g xs=z at h;unfold sP at h;split at h
  .intro x K hv;obtain⟨rfl,rfl⟩:=Fx h hv;exact⟨fun _=>hO _ _ _ hy,fun k=>absurd rfl k⟩
  .split at h
   .cases h
   .rename_i fn c hf;generalize hb:Px E fn (ex P E O kp k (.c none c (XU (Cn 0 xs)) [] fn.ntmps))=z at h;unfold sP1 at h;split at h
    .rename_i x K;obtain⟨y,e,he,hr,hev⟩:=TB hb;obtain⟨f1,f2,f3⟩:=X8 hf;split at h
     .rename_i y' hy' _;intro x' K' hv;obtain⟨rfl,rfl⟩:=Fx h hv;exact⟨fun _=>aZ hE f1 f2 (hname _ _ f1) f3 (aw (resT fn.results.toList) (ih _ _ he) (WR hr ⟨true,x,hev,rfl,hy'⟩)) (UU hy'),fun k=>absurd rfl k⟩
     .split at h
      .cases h
      .rename_i b l hgc;intro x' K' hv;obtain⟨rfl,rfl⟩:=Fx h hv;have hT:=(jm hE f1 f2 (hname _ _ f1) f3 (ih _ _ he) hr hev).gc;rw[show([]:List A3).length=0 from rfl,hgc]at hT;exact⟨(fun k=>by cases k),fun _=>hT⟩
    .cases h
 |f g xs H=>
  simp only[ex,sF]at h;split at h
  .rename_i ys hx;split at h
   .rename_i x hv;intro x' K' hv2;obtain⟨rfl,rfl⟩:=Fx h hv2;obtain⟨s,hs,hv'⟩:=Dn hv;exact Si.nq ((ih _ _ hs _ _ hv').1 rfl) hx _
   .rename_i x b K hv;intro x' K' hv2;obtain⟨rfl,rfl⟩:=Fx h hv2;obtain⟨s,hs,hv'⟩:=Dn hv;exact AY.up ((ih _ _ hs _ _ hv').2 sm) hx H
   .cases h
  .split at h
   .rename_i ys hx;split at h
    .rename_i x hv;split at h
     .rename_i hfl;intro x' K' hv2;obtain⟨rfl,rfl⟩:=Fx h hv2;obtain⟨s,hs,hv'⟩:=Dn hv;exact Si.read ((ih _ _ hs _ _ hv').1 rfl) hfl hx
     .cases h
    .cases h
   .split at h
    .cases h
    .rename_i fn c hf;generalize hb:Px E fn (ex P E O kp k (.c none c (XU (Cn 0 xs)) H fn.ntmps))=z at h;unfold sF1 at h;split at h
     .rename_i x K;obtain⟨y,e,he,hr,hev⟩:=TB hb;obtain⟨f1,f2,f3⟩:=X8 hf;have hT:AY P g xs H x K:=jm hE f1 f2 (hname _ _ f1) f3 (ih _ _ he) hr hev;split at h
      .rename_i hb2;intro x' K' hv2;obtain⟨rfl,rfl⟩:=Fx h hv2;rw[qH,qH]at hb2;have hl:=rY hb2.1.1;have hlen:(K.take H.length).length=H.length:=by rw[rM];omega
       exact AY.drop _ hT (Uj _ _) (by rw[hlen];exact hb2.1.2) (by rw[hlen];exact hb2.2) (by rw[hlen];exact Nat.ble_eq_true_of_le (qG _))
      .intro x' K' hv2;obtain⟨rfl,rfl⟩:=Fx h hv2;exact hT.gc
     .cases h
 |y id xs H=>
  simp only[ex]at h;generalize hlp:H[id]? =z at h;unfold sY at h;split at h
  .rename_i r0;split at h
   .cases h
   rename_i hb;rw[qH,qH]at hb;generalize h1:ex P E O kp k (.c (some id) r0.assign (XU (Pe r0.params.toList xs r0.env)) H r0.n)=z at h;unfold sY1 at h;split at h
   .rename_i e1 H1;split at h
    .rename_i r1 hr1;split at h
     .cases h
     rename_i hrdy;generalize h2:ex P E O kp k (.c (some id) r0.body e1 (H1.set id (.lp (r1.at_ .busy r1.pending))) r0.n)=z at h;unfold sY2 at h;split at h
     .rename_i x2 e2 H2;split at h
      .rename_i j r2 hj hr2;split at h
       .cases h
       rename_i hlen;have hl:=rY hlen;have hid:id<H.length:=(qN.1 hlp).1;refine⟨⟨r0,hlp⟩,fun x K hv=> ?_⟩
       have key:∀S'':St,A1 ⟨D1 e2,H2,r0.n⟩ S''->H.length<=S''.H.length->S''.H[id]? =some (.lp r2)->one (.d (.b j.isNone)) (S''.H.set id (.lp (r2.at_ (II j) j)))=some r->YT P id xs H fun y K'=>y=x/\K'=K:=by
        intro S'' ht hle hi ho;obtain⟨rfl,rfl⟩:=Fx ho hv;have hs0:r0.state= .ready:=by have:=hb.1.1;revert this;cases r0.state<;>decide
        have hs1:r1.state= .ready:=by revert hrdy;cases r1.state<;>decide
        refine Wj hlp hs0 (qL hb.1.2) (fun t ht=> ?_) (jb (ih _ _ h1 _ ⟨r1,hr1,hs1,?_⟩))
        .have:=sK.1 hb.2 t ht;simpa using this
        .exact ih _ _ h2 _ ⟨j,hj,S'',ht,hle,tK hid hle,r2,hi,rfl,rfl⟩
       have hlen2:(H2.take H.length).length=H.length:=by rw[rM];omega
       split at h
       .rename_i hk;exact key ⟨[],H2.take H.length,r0.n⟩ (A1.cut rfl trivial (Uj _ _) (by rw[hlen2];exact hk) rfl) (by show H.length<=(H2.take H.length).length;omega) (by show(H2.take H.length)[id]? =_;rw[List.getElem?_take_of_lt hid];exact hr2) h
       .exact key ⟨D1 e2,H2,r0.n⟩ (A1.refl _) hl hr2 h
      .cases h
     .cases h
    .cases h
   .cases h
  .cases h
end
end
end Go.Gar
