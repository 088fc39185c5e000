/- Part 8 of a proof, put together by a program. Conditions: none beyond those that a theorem states. -/
import Derived.Test.YtkljbfejbakooaaGreatDoorN07
set_option linter.unusedSimpArgs false
set_option linter.unusedVariables false
set_option linter.unnecessarySimpa false
set_option maxHeartbeats 40000000
namespace Go.Gar
abbrev Tm:=List (List (Option AV))
def IQ : List (Option AV) → Nat → Option AV
 | [],_ => none
 | x :: _,0 => x
 | _ :: r,k + 1 => IQ r k
def IR : Tm → Nat → List (Option AV)
 | [],_ => []
 | c :: _,0 => c
 | _ :: r,k + 1 => IR r k
def I2 (e : Tm) (t : Nat) : Option AV:=IQ (IR e (t / 8)) (t % 8)
def set1 (x : AV) : Nat → List (Option AV) → List (Option AV)
 | 0,[] => [some x]
 | 0,_ :: r => some x :: r
 | k + 1,[] => none :: set1 x k []
 | k + 1,y :: r => y :: set1 x k r
def OP (j : Nat) (x : AV) : Nat → Tm → Tm
 | 0,[] => [set1 x j []]
 | 0,c :: r => set1 x j c :: r
 | k + 1,[] => [] :: OP j x k []
 | k + 1,c :: r => c :: OP j x k r
def eZ (t : Nat) (x : AV) (e : Tm) : Tm:=OP (t % 8) x (t / 8) e
def Ii (dst : Option Tmp) (x : AV) (e : Tm) : Tm :=
 match dst with
 | some d => eZ d x e
 | none => e
def Xr (e : Tm) : Nat → List (Nat × AV)
 | 0 => []
 | m + 1 => match I2 e m with
  | some x => (m,x) :: Xr e m
  | none => Xr e m
def Cn (e : Tm) : List (Nat × AV):=Xr e (8 * e.length)
def Vd : List (Nat × AV) → Tm
 | [] => []
 | p :: r => eZ p.1 p.2 (Vd r)
def small (e : Tm) : List Nat → List (Nat × AV)
 | [] => []
 | t :: r => match I2 e t with
  | some x => (t,x) :: small e r
  | none => small e r
def X8 (e : Tm) : Operand → Option AV
 | .tmp t => I2 e t
 | o => C9 [] o
def resT : List ResultVar → List Nat
 | [] => []
 | .tmp t :: r => t :: resT r
 | .cell a _ :: r => a :: resT r
def upd (t : Nat) (x : AV) : List (Nat × AV) → List (Nat × AV)
 | [] => [(t,x)]
 | p :: r => match Nat.beq p.1 t with
  | true => (t,x) :: r
  | false => p :: upd t x r
mutual
def Ch (H : List A5) : AV → Option AV
 | .d x => some (.d x)
 | .u => some .u
 | .e0 => some .e0
 | .dp cs => some (.dp cs)
 | .sl id n _ => match H[id]? with
  | some (.a x) => match Nat.beq n (AB x) with
   | true => some (.d x)
   | false => none
  | _ => none
 | .ag cs => match EG H cs with
  | some l => some (.ag l)
  | none => none
 | .tup cs => match EG H cs with
  | some l => some (.tup l)
  | none => none
 | .fn f a b => match EG H a,EG H b with
  | some p,some q => some (.fn f p q)
  | _,_ => none
 | _ => none
def EG (H : List A5) : List AV → Option (List AV)
 | [] => some []
 | x :: r => match Ch H x,EG H r with
  | some y,some l => some (y :: l)
  | _,_ => none
end
mutual
def lJ : AV → List Nat
 | .sl id _ _ => [id]
 | .ag cs | .tup cs => Li cs
 | .fn _ a b => Li a ++ Li b
 | _ => []
def Li : List AV → List Nat
 | [] => []
 | x :: r => lJ x ++ Li r
end
def dO (id : Nat) (x : D) : Option AV → Option AV
 | some y => some (y.Dc id x)
 | none => none
def T6 (id : Nat) (x : D) (e : Tm) : Tm:=e.map fun c => c.map (dO id x)
def Jq : List Nat → Tm → List A5 → Tm × List A5
 | [],e,H => (e,H)
 | id :: r,e,H => match H[id]? with
  | some (.a x) => Jq r (T6 id x e) (D8 id x 0 H)
  | _ => Jq r e H
def kR (E : Nat → Option Ad) (e : Nat) : D :=
 match E e with
 | some z => match z.k with
  | .int .u8 => .by []
  | .int .i64 => .is []
  | _ => .sl z.size []
 | none => .np
def ZA (E : Nat → Option Ad) : Nat → Nat → List D
 | 0,_ => []
 | k + 1,t => match E t with
  | some y => match y.k with
   | .st fs => fs.flatMap fun f => ZA E k f.2
   | .arr n e => (List.replicate n (ZA E k e)).flatten
   | .sl e => [kR E e]
   | _ => y.zero.map fun _ => .np
  | none => []
def lP : D → AV → AV
 | .by [],.e0 => .d (.by [])
 | .is [],.e0 => .d (.is [])
 | .sl n [],.e0 => .d (.sl n [])
 | _,x => x
def jQ : List D → List AV → List AV
 | q :: l,x :: r => lP q x :: jQ l r
 | _,r => r
def e0A (l : List D) : AV → AV
 | .ag cs => .ag (jQ l cs)
 | x => match l with
  | [q] => lP q x
  | _ => x
def Rr (l : List D) (env : List (Nat × AV)) : List (Nat × Operand) → List (Nat × AV)
 | [] => env
 | p :: r => match p.2 with
  | .tmp t => match get env t with
   | some x => Rr l (upd t (e0A l x) env) r
   | none => Rr l env r
  | _ => Rr l env r
def WX (E : Nat → Option Ad) (env : List (Nat × AV)) (op : Op) : Option AV :=
 match op with
 | .buildSlice t len ps => match E t with
  | some y => match y.k with
   | .sl e => match HO E (Rr (ZA E 8 e) env ps.toList) [] op with
    | some (true,x) => some x
    | _ => none
   | _ => none
  | none => none
 | _ => none
def op1 (E : Nat → Option Ad) (env : List (Nat × AV)) (H : List A5) (op : Op) : Option (AV × List A5) :=
 match (match op with | .call _ => LJ E env H op | _ => none) with
 | some (true,q) => some (.sl H.length (AB q) (B8 q),H ++ [.a q])
 | _ => match WX E env op with
 | some x => some (x,H)
 | none => match HO E env H op with
  | some (true,x) => some (x,H)
  | _ => match Y3 E env H op with
   | some (true,f,b) => some (f H.length,H ++ [b])
   | _ => match bq E env H op with
    | some (true,x,H') => some (x,H')
    | _ => match LN env op with
     | some (true,x) => some (x,H)
     | _ => match Rn E env H op with
      | some (true,H') => some (.u,H')
      | _ => match WY E env op with
       | some (true,f,b) => some (f H.length,H ++ [b])
       | _ => match Rj E env op with
        | some r => some (.d (.b r),H)
        | none => match ZM E env H op with
         | some (true,H') => some (.u,H')
         | _ => none
def lR (E : Nat → Option Ad) (env : List (Nat × AV)) (H : List A5) (op : Op) : Option (Bool × AV) :=
 match op with
 | .call _ => match LJ E env H op with
  | some _ => none
  | none => HO E env H op
 | _ => HO E env H op
def kX (P : Program) (E : Nat → Option Ad) (g : Nat) : Bool :=
 match P.funcs[g]? with
 | some fn => match fn.resultTypes.toList with
  | [t] => match E t with
   | some y => match y.k with
    | .int _ => true
    | _ => match y.zero with
     | [.bool _] => true
     | [.string _] => true
     | _ => false
   | none => false
  | _ => false
 | none => false
def ZV : AV → Bool
 | .d x => flat x
 | _ => false
def To (op : Op) : Bool :=
 match op with
 | .move _ | .assign _ | .pick _ _ _ | .unOp _ _ _ | .makeFunc _ _ _ | .extract _ _ | .field _ _ _ | .index _ _ _ | .build _ _ | .slice _ _ _ _ _ => true
 | _ => false
def Vl (ops : Array Oper) (ks : List Kd) (n : Nat) : List (Nat × Nat) :=
 (List.range n).flatMap fun i => match QD ks[i]? with
  | false => []
  | true => (List.range n).filterMap fun k => match SB ks[k]? && !((Nat.blt k i && (OF ops i).testBit k) || (Nat.blt i k && (OF ops k).testBit i)) with
   | true => some (i,k)
   | false => none
mutual
def D.GK : D → D → Bool
 | .b x,.b y => x == y
 | .i k n,.i k' n' => decide (k = k') && decide (n = n')
 | .s l,.s l' => decide (l = l')
 | .by l,.by l' => decide (l = l')
 | .is l,.is l' => decide (l = l')
 | .agg p,.agg q => D.Gc p q
 | .tup p,.tup q => D.Gc p q
 | .sl n p,.sl m q => Nat.beq n m && D.Of p q
 | .np,.np => true
 | .nf,.nf => true
 | .ni,.ni => true
 | .nm,.nm => true
 | _,_ => false
def D.Gc : List D → List D → Bool
 | [],[] => true
 | x :: r,y :: l => D.GK x y && D.Gc r l
 | _,_ => false
def D.Of : List (List D) → List (List D) → Bool
 | [],[] => true
 | x :: r,y :: l => D.Gc x y && D.Of r l
 | _,_ => false
end
mutual
def AV.GK : AV → AV → Bool
 | .d x,.d y => D.GK x y
 | .u,.u => true
 | .e0,.e0 => true
 | .ptr a b c,.ptr a' b' c' => Nat.beq a a' && Nat.beq b b' && Nat.beq c c'
 | .sl a b c,.sl a' b' c' => Nat.beq a a' && Nat.beq b b' && Nat.beq c c'
 | .bs i j k m n,.bs i' j' k' m' n' => Nat.beq i i' && Nat.beq j j' && Nat.beq k k' && Nat.beq m m' && Nat.beq n n'
 | .ep i j k m n,.ep i' j' k' m' n' => Nat.beq i i' && Nat.beq j j' && Nat.beq k k' && Nat.beq m m' && Nat.beq n n'
 | .ag p,.ag q => AV.Gc p q
 | .tup p,.tup q => AV.Gc p q
 | .fn (.func f) a b,.fn (.func g) p q => Nat.beq f g && AV.Gc a p && AV.Gc b q
 | .yl p,.yl q => Nat.beq p q
 | .mp p,.mp q => Nat.beq p q
 | .dp p,.dp q => D.Gc p q
 | _,_ => false
def AV.Gc : List AV → List AV → Bool
 | [],[] => true
 | x :: r,y :: l => AV.GK x y && AV.Gc r l
 | _,_ => false
end
def jR : List (D × AV) → List (D × AV) → Bool
 | [],[] => true
 | p :: r,q :: l => D.GK p.1 q.1 && AV.GK p.2 q.2 && jR r l
 | _,_ => false
def A5.GK : A5 → A5 → Bool
 | .gone,.gone => true
 | .c p,.c q => AV.Gc p q
 | .a x,.a y => D.GK x y
 | .m p,.m q => jR p q
 | _,_ => false
def Q3 : A5 → A5 → A5
 | .lp r0,.lp r => .lp { r0 with state:=r.state,pending:=r.pending }
 | _,b => b
def KS : List A5 → List A5 → List A5
 | b0 :: r0,b :: r => Q3 b0 b :: KS r0 r
 | _,l => l
def stB : LoopState → LoopState → Bool
 | .ready,.ready | .busy,.busy | .done,.done | .exhausted,.exhausted => true
 | _,_ => false
def gS : A5 → A5 → A5 → Bool
 | .lp _,.lp r,.lp q => stB r.state q.state && r.pending.isNone && q.pending.isNone
 | .lp _,_,_ => false
 | _,x,y => A5.GK x y
def OH : List A5 → List A5 → List A5 → Bool
 | b :: r,x :: l,y :: m => gS b x y && OH r l m
 | [],x :: l,y :: m => A5.GK x y && OH [] l m
 | _,[],[] => true
 | _,_,_ => false
def Kf (a b : Nat) (e1 e2 : Tm) : Nat → List (Nat × AV)
 | 0 => []
 | t + 1 => match I2 e1 t,I2 e2 t with
  | some x,some y => match AV.GK (y.ren (sw a b)) x with
   | true => (t,x) :: Kf a b e1 e2 t
   | false => Kf a b e1 e2 t
  | _,_ => Kf a b e1 e2 t
def SI (H : List A5) (e1 : Tm) (H1 : List A5) (e2 : Tm) (H2 : List A5) : List (Nat × Nat) → Option (Tm × List A5)
 | [] => none
 | p :: l => match Nat.ble H.length p.1 && Nat.ble H.length p.2 && Nat.blt p.1 H1.length && Nat.blt p.2 H1.length && Nat.beq H1.length H2.length && OH H (R1 p.1 p.2 H2) H1 with
  | true => some (Vd (Kf p.1 p.2 e1 e2 (8 * e1.length)),KS H H1)
  | false => SI H e1 H1 e2 H2 l
def QM (op : Op) : Bool :=
 match op with
 | .alloc _ | .box _ _ | .makeSlice _ _ _ | .makeMap _ _ | .call _ => true
 | _ => false
def dA (op : Op) : Bool :=
 match op with
 | .alloc _ | .box _ _ | .makeSlice _ _ _ | .makeMap _ _ => true
 | _ => false
def ey (QM : Op → Bool) (ops : Array Oper) : List (Nat × Nat) :=
 (List.range ops.toList.length).flatMap fun k => match ops.toList[k]? with
  | some o => match QM o.op with
   | true => (List.range k).filterMap fun i => match ops.toList[i]? with
    | some q => match QM q.op && !(OF ops k).testBit i with
     | true => some (i,k)
     | false => none
    | none => none
   | false => []
  | none => []
def iR (a b : Nat) : List (Nat × Nat):=(List.range' a (b - a)).flatMap fun j => (List.range' a (j - a)).map fun i => (i,j)
def dOK (ops : Array Oper) (ks : List Kd) : Bool:=Gb ops ks.reverse (Vl ops ks.reverse ops.toList.length)
def Q1 (E : Nat → Option Ad) (ops : Array Oper) (rs : List Rc) (Hf : List A5) : List (Nat × Nat) → Bool
 | [] => true
 | p :: l => (match ops.toList[p.1]?,rs[p.1]? with
  | some o,some r => match HO E r.e (hAt rs Hf (if Nat.blt p.2 p.1 then p.2 else p.2 + 1)) o.op with
   | some (true,y) => AV.GK y r.x
   | _ => false
  | _,_ => false) && Q1 E ops rs Hf l
def fP (env : List (Nat × AV)) (c a b : Operand) : Option (Bool × AV) :=
 match C9 env c with
 | some (.d (.b t)) => match t with
  | true => tt (C9 env a)
  | false => tt (C9 env b)
 | _ => none
def q1 (x : Option AV) (f : AV → Option (Bool × AV)) : Option (Bool × AV) :=
 match x with
 | some x => f x
 | none => none
def q2 (x y : Option AV) (f : AV → AV → Option (Bool × AV)) : Option (Bool × AV) :=
 match x,y with
 | some x,some y => f x y
 | _,_ => none
def evq (E : Nat → Option Ad) (env : List (Nat × AV)) (H : List A5) (op : Op) : Option (Bool × AV) :=
 match op with
 | .move x | .assign x => tt (C9 env x)
 | .pick c a b => fP env c a b
 | .load t a => q1 (C9 env a) (NK E H t)
 | .nilCheck a => q1 (C9 env a) (VI H)
 | .fieldAddr s a f => q1 (C9 env a) fun x => GN E H s x f
 | .field t a f => q1 (C9 env a) fun x => MS E t x f
 | .indexAddr t a i => q2 (C9 env a) (C9 env i) (GO E H t)
 | .index t a i => q2 (C9 env a) (C9 env i) (MU E t)
 | .extract a i => q1 (C9 env a) fun x => Iw x i
 | op => HO E env H op
theorem gZ {E : Nat → Option Ad} {env : List (Nat × AV)} {H : List A5} {op : Op} : evq E env H op = HO E env H op:=by
 cases op <;> first | rfl | (simp only [evq,HO,fP,q1,q2])
def opA (E : Nat → Option Ad) (env : List (Nat × AV)) (H : List A5) (op : Op) : Option (AV × List A5) :=
 match Y3 E env H op with
 | some (true,f,b) => some (f H.length,H ++ [b])
 | _ => op1 E env H op
def opW (E : Nat → Option Ad) (env : List (Nat × AV)) (H : List A5) (op : Op) : Option (AV × List A5) :=
 match bq E env H op with
 | some (true,x,H') => some (x,H')
 | _ => op1 E env H op
def opQ (E : Nat → Option Ad) (env : List (Nat × AV)) (H : List A5) (op : Op) : Option (AV × List A5) :=
 match evq E env H op with
 | some (true,x) => some (x,H)
 | _ => op1 E env H op
def jW (E : Nat → Option Ad) (env : List (Nat × AV)) (H : List A5) (op : Op) : Option (AV × List A5) :=
 match op with
 | .alloc _ | .box _ _ => opA E env H op
 | .store _ _ _ => opW E env H op
 | .call _ | .buildSlice _ _ _ | .makeSlice _ _ _ | .makeMap _ _ => op1 E env H op
 | _ => opQ E env H op
mutual
def AV.ids : AV → List Nat
 | .ptr id _ _ | .sl id _ _ | .bs id _ _ _ _ | .ep id _ _ _ _ | .yl id | .mp id => [id]
 | .ag cs | .tup cs => AV.Zl cs
 | .fn _ a b => AV.Zl a ++ AV.Zl b
 | _ => []
def AV.Zl : List AV → List Nat
 | [] => []
 | x :: r => x.ids ++ AV.Zl r
end
def A5.ids : A5 → List Nat
 | .c cs => AV.Zl cs
 | .m es => es.flatMap fun p => p.2.ids
 | .lp r => r.env.flatMap fun p => p.2.ids
 | _ => []
def iL (n : Nat) : List Nat → Bool
 | [] => false
 | m :: r => match Nat.beq n m with
  | true => true
  | false => iL n r
def reach (n0 : Nat) (K : List A5) : Nat → List Nat → List Nat → List Nat
 | 0,_,seen => seen
 | _,[],seen => seen
 | k + 1,id :: l,seen => match Nat.blt id n0 || iL id seen with
  | true => reach n0 K k l seen
  | false => match K[id]? with
   | some b => reach n0 K k (b.ids ++ l) (id :: seen)
   | none => reach n0 K k l seen
def Ry (n0 : Nat) (l : List Nat) : Nat → List A5 → List A5
 | _,[] => []
 | i,b :: r => (match Nat.blt i n0 || iL i l || b.Wo with
  | true => b
  | false => .gone) :: Ry n0 l (i + 1) r
def iK (m : Nat) : List Nat → Nat
 | [] => m
 | a :: r => match Nat.ble m a with
  | true => iK (a + 1) r
  | false => iK m r
def lS (n0 : Nat) (x : AV) (K : List A5) : List A5 :=
 let l:=reach n0 K 4096 x.ids [];let K':=(Ry n0 l 0 K).take (iK n0 l)
 match Nat.ble n0 K'.length && Ag K'.length K' && x.ok K'.length with
 | true => K'
 | false => K
inductive Rq
 | c (ro : Option Nat) (c : Code) (e : Tm) (H : List A5) (n : Nat)
 | lo (ro : Option Nat) (c : Code) (e : Tm) (H : List A5) (n : Nat)
 | sc (ro : Option Nat) (c0 c : Code) (e : Tm) (H : List A5) (n : Nat)
 | l (ro : Option Nat) (ops : Array Oper) (rest : List Oper) (e : Tm) (H : List A5) (n : Nat)
 | t (ro : Option Nat) (ops : Array Oper) (l : List (Nat × Nat)) (e : Tm) (H : List A5) (n : Nat)
 | d (ops : Array Oper) (acc : List Rc) (ks : List Kd) (rest : List Oper) (e : Tm) (H : List A5) (n : Nat)
 | f (g : Nat) (xs : List AV) (H : List A5)
 | p (g : Nat) (xs : List AV) (b : Bool)
 | y (id : Nat) (xs : List AV) (H : List A5)
abbrev Rz:=Exit × Tm × List A5
def one (x : AV) (H : List A5) : Option Rz:=some (.normal,[[some x]],H)
def Ob (E : Nat → Option Ad) (fn : Func) : Option Rz → Option (AV × List A5)
 | some (.ret,e,H) | some (.normal,e,H) => match CQ E (small e (resT fn.results.toList)) H fn.results.toList with
  | some (true,x) => some (x,H)
  | _ => none
 | _ => none
def K3 : Option Rz → Option (AV × List A5)
 | some (_,[[some x]],H) => some (x,H)
 | _ => none
def dK (P : Program) (g n : Nat) : Option (Func × Code) :=
 match P.funcs[g]? with
 | some fn => match fn.body with
  | some c => match Nat.ble n fn.ntmps with
   | true => some (fn,c)
   | false => none
  | none => none
 | none => none
def gg (P : Program) (E : Nat → Option Ad) (e : Tm) (H : List A5) (g : Nat) (xs : List AV) : Tm × List A5 :=
 match kX P E g with
 | true => (e,H)
 | false => match EG H xs with
  | some _ => match Li xs with
   | [] => (e,H)
   | l => Jq l e H
  | none => (e,H)
section
variable (P : Program) (E : Nat → Option Ad) (O : Nat → List AV → Option AV) (kp : Nat → Bool) (go : Rq → Option Rz)
def lD (ro : Option Nat) (b : Code) (n : Nat) : Option Rz → Option Rz
 | some (.normal,e,H) => go (.c ro b e H n)
 | r => r
def fU (ro : Option Nat) (a b : Code) (e : Tm) (H : List A5) (n : Nat) : Option AV → Option Rz
 | some (.d (.b t)) => match t with
  | true => go (.c ro a e H n)
  | false => go (.c ro b e H n)
 | _ => none
def lA (id : Nat) : Option Rz → Option Rz
 | some (.exit i,e,H) => match Nat.beq i id with
  | true => some (.normal,e,H)
  | false => some (.exit i,e,H)
 | r => r
def fV (ro : Option Nat) (ops : Array Oper) (e : Tm) (H : List A5) (n : Nat) : List (Nat × Nat) → Option Rz
 | [] => match go (.d ops [] [] ops.toList e H n) with
  | some r => some r
  | none => go (.t ro ops (ey QM ops) e H n)
 | l => go (.t ro ops l e H n)
def lB (ro : Option Nat) (e : Tm) (id n : Nat) (K : List A5) : Option A5 → Option Rz
 | some (.lp r) => match r.state == .busy with
  | true => none
  | false => match r.pending with
   | none => some (.normal,e,K.set id (.lp (r.at_ .exhausted r.pending)))
   | some c => go (.c ro c e (K.set id (.lp (r.at_ .exhausted r.pending))) n)
 | _ => none
def lC (ro : Option Nat) (ps : Array Tmp) (asg body : Code) (e : Tm) (H : List A5) (n : Nat) : Option AV → Option Rz
 | some (.fn (.func f) first cap) => match K3 (go (.f f (first ++ [.yl H.length] ++ cap) (H ++ [.lp ⟨.ready,none,0,n,Cn e,ps,asg,body⟩]))) with
  | some (_,K) => lB go ro e H.length n K K[H.length]?
  | none => none
 | _ => none
def sC (ro : Option Nat) (c : Code) (e : Tm) (H : List A5) (n : Nat) : Option Rz :=
 match c with
 | .skip | .label _ => some (.normal,e,H)
 | .exit id => some (.exit id,e,H)
 | .goto l => some (.goto l,e,H)
 | .ret => some (.ret,e,H)
 | .seq a b => lD go ro b n (go (.c ro a e H n))
 | .cond o a b => fU go ro a b e H n (X8 e o)
 | .block id b => lA id (go (.c ro b e H n))
 | .loop b => go (.lo ro b e H n)
 | .scope b => go (.sc ro b b e H n)
 | .region _ ops dr => match dr with
  | false => go (.l ro ops ops.toList e H n)
  | true => fV go ro ops e H n (ey dA ops)
 | .rangeFunc g ps asg body => lC go ro ps asg body e H n (X8 e g)
 | .refuse _ => none
def sLo (ro : Option Nat) (c : Code) (n : Nat) : Option Rz → Option Rz
 | some (.normal,e,H) => go (.lo ro c e H n)
 | r => r
def sSc (ro : Option Nat) (c0 : Code) (n : Nat) : Option Rz → Option Rz
 | some (.goto l,e,H) => match findLabel c0 l with
  | some rest => go (.sc ro c0 rest e H n)
  | none => some (.goto l,e,H)
 | r => r
def fS (ro : Option Nat) (ops : Array Oper) (o : Oper) (rest : List Oper) (n : Nat) (e : Tm) (H : List A5) : Option Rz :=
 match AA ops (small e (looks ops o)) o,B4 (small e (looks ops o)) o.op with
 | some true,some (g,ys) => match K3 (go (.f g ys H)) with
  | some (x,H2) => go (.l ro ops rest (Ii o.dst x e) H2 n)
  | none => none
 | _,_ => none
def sL4 (ro : Option Nat) (ops : Array Oper) (o : Oper) (rest : List Oper) (n : Nat) (e : Tm) (H : List A5) : Option (Nat × List AV) → Option Rz
 | some (g,xs) => match gg P E e H g xs with
  | (e',H') => fS go ro ops o rest n e' H'
 | none => none
def sL3 (ro : Option Nat) (ops : Array Oper) (o : Oper) (rest : List Oper) (n : Nat) (e : Tm) (H : List A5) : Option (Nat × List AV) → Option Rz
 | some (id,xs) => match K3 (go (.y id xs H)) with
  | some (x,H') => go (.l ro ops rest (Ii o.dst x e) H' n)
  | none => none
 | none => sL4 P E go ro ops o rest n e H (B4 (small e (looks ops o)) o.op)
def sL2 (ro : Option Nat) (ops : Array Oper) (o : Oper) (rest : List Oper) (n : Nat) (e : Tm) (H : List A5) : Option (AV × List A5) → Option Rz
 | some (x,H') => go (.l ro ops rest (Ii o.dst x e) H' n)
 | none => sL3 P E go ro ops o rest n e H (Ed (small e (looks ops o)) o.op)
def sL1 (ro : Option Nat) (ops : Array Oper) (o : Oper) (rest : List Oper) (n : Nat) (e : Tm) (H : List A5) : Option Bool → Option Rz
 | none => none
 | some false => go (.l ro ops rest (Ii o.dst (.d (.tup [])) e) H n)
 | some true => sL2 P E go ro ops o rest n e H (jW E (small e (looks ops o)) H o.op)
def sL (ro : Option Nat) (ops : Array Oper) (e : Tm) (H : List A5) (n : Nat) : List Oper → Option Rz
 | [] => some (.normal,e,H)
 | o :: rest => match AH o.dst n with
  | false => none
  | true => sL1 P E go ro ops o rest n e H (AA ops (small e (looks ops o)) o)
def fW (ro : Option Nat) (ops : Array Oper) (l : List (Nat × Nat)) (e : Tm) (H : List A5) (n : Nat) : Option Rz → Option Rz → Option Rz
 | some (_,e1,H1),some (_,e2,H2) => match SI H e1 H1 e2 H2 (iR H.length H1.length) with
  | some (e',H') => some (.normal,e',H')
  | none => go (.t ro ops l e H n)
 | _,_ => go (.t ro ops l e H n)
def sT (ro : Option Nat) (ops : Array Oper) (e : Tm) (H : List A5) (n : Nat) : List (Nat × Nat) → Option Rz
 | [] => none
 | p :: l => match Nat.blt p.1 p.2 && Nat.blt p.2 ops.toList.length && Iu ops && Ag H.length H with
  | false => none
  | true => fW go ro ops l e H n (go (.d (Lk p.1 p.2 ops) [] [] (Lk p.1 p.2 ops).toList e H n)) (go (.d (Ll p.1 p.2 ops) [] [] (Ll p.1 p.2 ops).toList e H n))
def Lh (ops : Array Oper) (acc : List Rc) (ks : List Kd) (o : Oper) (rest : List Oper) (n : Nat) (e : Tm) (H : List A5) (x : AV) (k : Kd) (H' : List A5) : Option Rz :=
 go (.d ops (⟨small e (looks ops o),H,x,k⟩ :: acc) (k :: ks) rest (Ii o.dst x e) H' n)
def sD5 (ops : Array Oper) (acc : List Rc) (ks : List Kd) (o : Oper) (rest : List Oper) (n : Nat) (e : Tm) (H : List A5) : Option (Nat × List AV) → Option Rz
 | none => none
 | some (g,xs) => match EG [] xs with
  | some ys => match K3 (go (.p g ys false)) with
   | some (x,[]) => Lh go ops acc ks o rest n e H x .any H
   | some (x,b :: K) => Lh go ops acc ks o rest n e H (x.ren (rn [] H.length)) .eff (H ++ ES (rn [] H.length) (b :: K))
   | none => none
  | none => match K3 (go (.f g xs H)) with
   | some (x,H') => Lh go ops acc ks o rest n e H x .eff H'
   | none => none
def sD4 (ops : Array Oper) (acc : List Rc) (ks : List Kd) (o : Oper) (rest : List Oper) (n : Nat) (e : Tm) (H : List A5) : Option (AV × List A5) → Option Rz
 | some (x,H') => Lh go ops acc ks o rest n e H x .eff H'
 | none => sD5 go ops acc ks o rest n e H (B4 (small e (looks ops o)) o.op)
def sD3 (ops : Array Oper) (acc : List Rc) (ks : List Kd) (o : Oper) (rest : List Oper) (n : Nat) (e : Tm) (H : List A5) : Option (Bool × AV) → Option Rz
 | some (true,x) => match To o.op with
  | true => Lh go ops acc ks o rest n e H x .any H
  | false => Lh go ops acc ks o rest n e H x .quiet H
 | _ => sD4 go ops acc ks o rest n e H (jW E (small e (looks ops o)) H o.op)
def sD2 (ops : Array Oper) (acc : List Rc) (ks : List Kd) (o : Oper) (rest : List Oper) (n : Nat) (e : Tm) (H : List A5) : Option AV → Option Rz
 | some x => Lh go ops acc ks o rest n e H x .any H
 | none => sD3 E go ops acc ks o rest n e H (lR E (small e (looks ops o)) H o.op)
def sD1 (ops : Array Oper) (acc : List Rc) (ks : List Kd) (o : Oper) (rest : List Oper) (n : Nat) (e : Tm) (H : List A5) : Option Bool → Option Rz
 | none => none
 | some false => Lh go ops acc ks o rest n e H (.d (.tup [])) .skip H
 | some true => sD2 E go ops acc ks o rest n e H (WX E (small e (looks ops o)) o.op)
def sD (ops : Array Oper) (acc : List Rc) (ks : List Kd) (e : Tm) (H : List A5) (n : Nat) : List Oper → Option Rz
 | [] => match dOK ops ks && Q1 E ops acc.reverse H (Vl ops ks.reverse ops.toList.length) with
  | true => some (.normal,e,H)
  | false => none
 | o :: rest => match AH o.dst n with
  | false => none
  | true => sD1 E go ops acc ks o rest n e H (AA ops (small e (looks ops o)) o)
def sP1 (b : Bool) : Option (AV × List A5) → Option Rz
 | some (x,K) => match Ch K x,b && !x.ok 0 with
  | some y,false => one y []
  | _,_ => match lS 0 x K with
   | [] => none
   | b :: l => one x (b :: l)
 | none => none
def sP (g : Nat) (xs : List AV) (b : Bool) : Option AV → Option Rz
 | some y => one y []
 | none => match dK P g xs.length with
  | none => none
  | some (fn,c) => sP1 b (Ob E fn (go (.c none c (Vd (CP 0 xs)) [] fn.ntmps)))
def sF1 (H : List A5) : Option (AV × List A5) → Option Rz
 | some (x,K) => match Nat.ble H.length K.length && Ag H.length (K.take H.length) && x.ok H.length with
  | true => one x (K.take H.length)
  | false => one x (lS H.length x K)
 | none => none
def sF (g : Nat) (xs : List AV) (H : List A5) : Option Rz :=
 match EG [] xs with
 | some ys => match K3 (go (.p g ys (kp g))) with
  | some (x,[]) => one x H
  | some (x,b :: K) => one (x.ren (rn [] H.length)) (H ++ ES (rn [] H.length) (b :: K))
  | none => none
 | none => match EG H xs with
  | some ys => match K3 (go (.p g ys false)) with
   | some (x,[]) => match ZV x with
    | true => one x H
    | false => none
   | _ => none
  | none => match dK P g xs.length with
   | none => none
   | some (fn,c) => sF1 H (Ob E fn (go (.c none c (Vd (CP 0 xs)) H fn.ntmps)))
def sY2 (id : Nat) (H : List A5) : Option Rz → Option Rz
 | some (x,_,H2) => match Ty x,H2[id]? with
  | some j,some (.lp r2) => match Nat.ble H.length H2.length with
   | false => none
   | true => match Ag H.length (H2.take H.length) with
    | true => one (.d (.b j.isNone)) ((H2.take H.length).set id (.lp (r2.at_ (Hi j) j)))
    | false => one (.d (.b j.isNone)) (H2.set id (.lp (r2.at_ (Hi j) j)))
  | _,_ => none
 | none => none
def sY1 (id : Nat) (H : List A5) (body : Code) (n : Nat) : Option Rz → Option Rz
 | some (.normal,e1,H1) => match H1[id]? with
  | some (.lp r1) => match r1.state == .ready with
   | false => none
   | true => sY2 id H (go (.c (some id) body e1 (H1.set id (.lp (r1.at_ .busy r1.pending))) n))
  | _ => none
 | _ => none
def sY (id : Nat) (xs : List AV) (H : List A5) : Option A5 → Option Rz
 | some (.lp r) => match r.state == .ready && Nat.beq xs.length r.params.size && r.params.toList.all (fun t => Nat.blt t r.n) with
  | false => none
  | true => sY1 go id H r.body r.n (go (.c (some id) r.assign (Vd (ON r.params.toList xs r.env)) H r.n))
 | _ => none
end
def ex (P : Program) (E : Nat → Option Ad) (O : Nat → List AV → Option AV) (kp : Nat → Bool) : Nat → Rq → Option Rz
 | 0,_ => none
 | k + 1,q => match q with
  | .c ro c e H n => sC (ex P E O kp k) ro c e H n
  | .lo ro c e H n => sLo (ex P E O kp k) ro c n (ex P E O kp k (.c ro c e H n))
  | .sc ro c0 c e H n => sSc (ex P E O kp k) ro c0 n (ex P E O kp k (.c ro c e H n))
  | .l ro ops rest e H n => sL P E (ex P E O kp k) ro ops e H n rest
  | .t ro ops l e H n => sT (ex P E O kp k) ro ops e H n l
  | .d ops acc ks rest e H n => sD E (ex P E O kp k) ops acc ks e H n rest
  | .p g xs b => sP P E (ex P E O kp k) g xs b (O g xs)
  | .f g xs H => sF P E kp (ex P E O kp k) g xs H
  | .y id xs H => sY (ex P E O kp k) id xs H H[id]?
end Go.Gar
namespace Go.Gar
theorem VR {t : Nat} {x : AV} : ∀ {e : List (Nat × AV)} {u : Nat},get (upd t x e) u = get ((t,x) :: e) u
 | [],u => rfl
 | (k,v) :: r,u => by
  simp only [upd,get]
  cases h : Nat.beq k t with
  | true =>
   have e:=Nat.eq_of_beq_eq_true h;subst e;simp only [get];split <;> simp_all
  | false =>
   simp only [get];have hk : k ≠ t:=fun e => by rw [e,Nat.beq_refl] at h;cases h
   split
   ·rename_i h1;have e1:=Nat.eq_of_beq_eq_true h1;subst e1
    have h2 : Nat.beq t k = false:=by
     cases h3 : Nat.beq t k with
     | false => rfl
     | true => exact absurd (Nat.eq_of_beq_eq_true h3).symm hk
    rw [h2];rfl
   ·rw [VR (e:=r),get]
theorem J2 {x : AV} : ∀ {j i : Nat} {c : List (Option AV)},IQ (set1 x j c) i = if i = j then some x else IQ c i
 | 0,i,[] => by cases i <;> simp [set1,IQ]
 | 0,i,y :: r => by cases i <;> simp [set1,IQ]
 | j + 1,i,[] => by
  cases i with
  | zero => simp [set1,IQ]
  | succ i => simp only [set1,IQ];rw [J2];simp [IQ]
 | j + 1,i,y :: r => by
  cases i with
  | zero => simp [set1,IQ]
  | succ i => simp only [set1,IQ];rw [J2];simp
theorem Kl (i : Nat) : IR [] i = []:=by cases i <;> rfl
theorem LW {x : AV} {j : Nat} : ∀ {k i : Nat} {e : Tm},IR (OP j x k e) i = if i = k then set1 x j (IR e i) else IR e i
 | 0,i,[] => by cases i <;> simp [OP,IR]
 | 0,i,y :: r => by cases i <;> simp [OP,IR]
 | k + 1,i,[] => by
  cases i with
  | zero => simp [OP,IR]
  | succ i => simp only [OP,IR];rw [LW];simp [Kl]
 | k + 1,i,y :: r => by
  cases i with
  | zero => simp [OP,IR]
  | succ i => simp only [OP,IR];rw [LW];simp
variable {t : Nat} {x : AV} {e : Tm}
theorem PO {u : Nat} : I2 (eZ t x e) u = if u = t then some x else I2 e u:=by
 simp only [I2,eZ,LW]
 by_cases h : u = t
 ·subst h;simp [J2]
 ·by_cases h1 : u / 8 = t / 8
  ·rw [if_pos h1,J2,if_neg (by omega),if_neg h]
  ·rw [if_neg h1,if_neg h]
theorem bi : ∀ {e : Tm} {t : Nat},8 * e.length ≤ t → I2 e t = none:=by
 have h : ∀ {e : Tm} {k : Nat},e.length ≤ k → IR e k = []:=by
  intro e
  induction e with
  | nil => intro k _;exact Kl k
  | cons c r ih =>
   intro k hk
   cases k with
   | zero => simp at hk
   | succ k => exact ih (by simpa using hk)
 intro e t ht;simp only [I2];rw [h (by omega)];rfl
theorem Rx {e : Tm} : ∀ {m t : Nat},get (Xr e m) t = if t < m then I2 e t else none
 | 0,t => by simp [Xr,get]
 | m + 1,t => by
  have ih:=Rx (e:=e) (m:=m) (t:=t);simp only [Xr];split
  ·rename_i x hx;simp only [get];split
   ·rename_i hb;have:=Nat.eq_of_beq_eq_true hb;subst this;rw [if_pos (by omega),hx]
   ·rename_i hb;have hne : m ≠ t:=fun e => hb (by rw [e,Nat.beq_refl])
    rw [ih]
    by_cases h : t < m
    ·rw [if_pos h,if_pos (by omega)]
    ·rw [if_neg h,if_neg (by omega)]
  ·rename_i hx;rw [ih]
   by_cases h : t < m
   ·rw [if_pos h,if_pos (by omega)]
   ·by_cases h2 : t = m
    ·subst h2;rw [if_neg h,if_pos (by omega),hx]
    ·rw [if_neg h,if_neg (by omega)]
theorem Ee : get (Cn e) t = I2 e t:=by
 unfold Cn;rw [Rx];split
 ·rfl
 ·rw [bi (by omega)]
theorem Q8 : ∀ {l : List (Nat × AV)} {t : Nat},I2 (Vd l) t = get l t
 | [],t => by simp [Vd,I2,Kl,IQ,get]
 | p :: r,t => by
  simp only [Vd,get];rw [PO,Q8 (l:=r)];split
  ·rename_i h;subst h;rw [if_pos (Nat.beq_refl _)]
  ·rename_i h;rw [if_neg (fun e => h (Nat.eq_of_beq_eq_true e).symm)]
theorem On {dst : Option Tmp} {u : Nat} : get (Cn (Ii dst x e)) u = get (Ah dst x (Cn e)) u:=by
 cases dst with
 | none => rfl
 | some d =>
  simp only [Ii,Ah,get];rw [Ee,PO,Ee];split
  ·rename_i h;subst h;rw [if_pos (Nat.beq_refl _)]
  ·rename_i h;rw [if_neg (fun e => h (Nat.eq_of_beq_eq_true e).symm)]
theorem Ky {e : Tm} : ∀ {l : List Nat},small e l = DG l (Cn e)
 | [] => rfl
 | t :: r => by
  simp only [small,DG];rw [Ee]
  cases I2 e t with
  | none => exact Ky
  | some x => simp only [Ky (l:=r)]
variable {l : List Nat}
theorem EU (h : get (small e l) t = some x) : get (Cn e) t = some x:=by
 rw [Ky] at h;exact (Hg h).2
theorem Zb {id : Nat} {x : D} : get (Cn (T6 id x e)) t = get (IE id x (Cn e)) t:=by
 have h1 : ∀ {c : List (Option AV)} {k : Nat},IQ (c.map (dO id x)) k = (IQ c k).map (AV.Dc id x):=by
  intro c
  induction c with
  | nil => intro k;simp [IQ]
  | cons y r ih =>
   intro k
   cases k with
   | zero => cases y <;> simp [IQ,dO]
   | succ k => simpa [IQ] using ih
 have h2 : ∀ {e : Tm} {k : Nat},IR (T6 id x e) k = (IR e k).map (dO id x):=by
  intro e
  induction e with
  | nil => intro k;simp [T6,Kl]
  | cons y r ih =>
   intro k
   cases k with
   | zero => simp [T6,IR]
   | succ k => simpa [T6,IR] using ih
 have h3 : ∀ {l : List (Nat × AV)},get (IE id x l) t = (get l t).map (AV.Dc id x):=by
  intro l
  induction l with
  | nil => rfl
  | cons p r ih =>
   simp only [IE,List.map_cons,get] at ih ⊢;split
   ·rfl
   ·exact ih
 rw [Ee,h3,Ee];simp only [I2];rw [h2,h1]
theorem QT {o : Operand} (h : X8 e o = some x) : C9 (Cn e) o = some x:=by
 cases o <;> first | exact h | (simp only [X8] at h;simp only [C9];rw [Ee];exact h)
section
variable {a b : List (Nat × AV)} (hs : ∀ t x,get a t = some x → get b t = some x)
include hs
theorem Nn {o : Operand} {x : AV} (h : C9 a o = some x) : C9 b o = some x:=by
 cases o <;> first | exact h | exact hs _ _ h
theorem LX : ∀ {l : List Operand} {xs : List AV},Ge a l = some xs → Ge b l = some xs
 | [],xs,h => h
 | o :: r,xs,h => by
  simp only [Ge] at h ⊢;split at h
  ·rename_i x l h1 h2;rw [Nn hs h1,LX h2];exact h
  ·cases h
theorem IK {ops : Array Oper} {o : Oper} {r : Bool} (h : AA ops a o = some r) : AA ops b o = some r:=by
 unfold AA at h ⊢;split at h
 ·exact h
 ·split at h
  ·split at h
   ·split at h
    ·rename_i hx;simp only [*,hs _ _ hx]
    ·rename_i hx;simp only [*,hs _ _ hx]
    ·cases h
   ·cases h
  ·cases h
variable {r : Nat × List AV}
theorem Q0 {op : Op} (h : Ed a op = some r) : Ed b op = some r:=by
 unfold Ed at h ⊢;split at h
 ·split at h
  ·rename_i h1 h2;simp only [Nn hs h1,LX hs h2];exact h
  ·cases h
 ·cases h
theorem Ri {op : Op} (h : B4 a op = some r) : B4 b op = some r:=by
 unfold B4 at h ⊢;split at h
 ·split at h
  ·rename_i h1 h2;simp only [Nn hs h1,LX hs h2];exact h
  ·cases h
 ·cases h
end
theorem A3.env {S : St} {env : List (Nat × AV)} (h : ∀ t x,get env t = some x → get S.env t = some x) : A3 S ⟨env,S.H,S.n⟩ :=
 fun _ _ G _ _ r _ => ⟨G,⟨r.heap,r.rel,r.size,fun t x hx => r.env t x (h t x hx),r.marks,r.round⟩,⟨fun id b b' hb hb' => by rw [hb] at hb';cases hb';exact AG.refl _ _ _,Mem.le_refl _,fun _ h => h,fun _ _ _ h => .inl h⟩⟩
mutual
theorem D.F1 : ∀ {x y : D},D.GK x y = true → x = y
 | .b _,y,h => by cases y <;> simp_all [D.GK]
 | .i _ _,y,h => by cases y <;> simp_all [D.GK]
 | .s _,y,h => by cases y <;> simp_all [D.GK]
 | .by _,y,h => by cases y <;> simp_all [D.GK]
 | .is _,y,h => by cases y <;> simp_all [D.GK]
 | .agg a,y,h => by cases y <;> simp only [D.GK,reduceCtorEq] at h;rw [D.D2 h]
 | .tup a,y,h => by cases y <;> simp only [D.GK,reduceCtorEq] at h;rw [D.D2 h]
 | .sl n a,y,h => by
  cases y <;> simp only [D.GK,reduceCtorEq,Bool.and_eq_true] at h;rw [D.Re h.2,Nat.eq_of_beq_eq_true h.1]
 | .np,y,h => by cases y <;> simp_all [D.GK]
 | .nf,y,h => by cases y <;> simp_all [D.GK]
 | .ni,y,h => by cases y <;> simp_all [D.GK]
 | .nm,y,h => by cases y <;> simp_all [D.GK]
 | .f _ _,y,h => by cases y <;> simp [D.GK] at h
 | .ifc _ _,y,h => by cases y <;> simp [D.GK] at h
theorem D.D2 : ∀ {x y : List D},D.Gc x y = true → x = y
 | [],[],_ => rfl
 | [],_ :: _,h => by simp [D.Gc] at h
 | _ :: _,[],h => by simp [D.Gc] at h
 | x :: r,y :: l,h => by
  simp only [D.Gc,Bool.and_eq_true] at h;rw [D.F1 h.1,D.D2 h.2]
theorem D.Re : ∀ {x y : List (List D)},D.Of x y = true → x = y
 | [],[],_ => rfl
 | [],_ :: _,h => by simp [D.Of] at h
 | _ :: _,[],h => by simp [D.Of] at h
 | x :: r,y :: l,h => by
  simp only [D.Of,Bool.and_eq_true] at h;rw [D.D2 h.1,D.Re h.2]
end
mutual
theorem AV.F1 : ∀ {x y : AV},AV.GK x y = true → x = y
 | .d _,y,h => by cases y <;> simp only [AV.GK,reduceCtorEq] at h;rw [D.F1 h]
 | .u,y,h => by cases y <;> simp_all [AV.GK]
 | .e0,y,h => by cases y <;> simp_all [AV.GK]
 | .ptr _ _ _,y,h => by cases y <;> simp only [AV.GK,reduceCtorEq,Bool.and_eq_true] at h;rw [Nat.eq_of_beq_eq_true h.1.1,Nat.eq_of_beq_eq_true h.1.2,Nat.eq_of_beq_eq_true h.2]
 | .sl _ _ _,y,h => by cases y <;> simp only [AV.GK,reduceCtorEq,Bool.and_eq_true] at h;rw [Nat.eq_of_beq_eq_true h.1.1,Nat.eq_of_beq_eq_true h.1.2,Nat.eq_of_beq_eq_true h.2]
 | .ag _,y,h => by cases y <;> simp only [AV.GK,reduceCtorEq] at h;rw [AV.D2 h]
 | .yl _,y,h => by cases y <;> simp only [AV.GK,reduceCtorEq] at h;rw [Nat.eq_of_beq_eq_true h]
 | .mp _,y,h => by cases y <;> simp only [AV.GK,reduceCtorEq] at h;rw [Nat.eq_of_beq_eq_true h]
 | .dp _,y,h => by cases y <;> simp only [AV.GK,reduceCtorEq] at h;rw [D.D2 h]
 | .bs ..,y,h => by
  cases y <;> simp only [AV.GK,reduceCtorEq,Bool.and_eq_true,Hz,decide_eq_true_eq] at h;obtain ⟨⟨⟨⟨rfl,rfl⟩,rfl⟩,rfl⟩,rfl⟩:=h;rfl
 | .ep ..,y,h => by
  cases y <;> simp only [AV.GK,reduceCtorEq,Bool.and_eq_true,Hz,decide_eq_true_eq] at h;obtain ⟨⟨⟨⟨rfl,rfl⟩,rfl⟩,rfl⟩,rfl⟩:=h;rfl
 | .tup _,y,h => by cases y <;> simp only [AV.GK,reduceCtorEq] at h;rw [AV.D2 h]
 | .fn f a b,y,h => by
  cases y <;> cases f <;> (try rename_i g p q _;cases g) <;> (try rename_i g p q;cases g) <;> simp only [AV.GK,reduceCtorEq,Bool.and_eq_true,Hz,decide_eq_true_eq] at h;rw [h.1.1,AV.D2 h.1.2,AV.D2 h.2]
theorem AV.D2 : ∀ {x y : List AV},AV.Gc x y = true → x = y
 | [],[],_ => rfl
 | [],_ :: _,h => by simp [AV.Gc] at h
 | _ :: _,[],h => by simp [AV.Gc] at h
 | x :: r,y :: l,h => by
  simp only [AV.Gc,Bool.and_eq_true] at h;rw [AV.F1 h.1,AV.D2 h.2]
end
theorem Oj {E : Nat → Option Ad} {ops : Array Oper} {rs : List Rc} {Hf : List A5} : ∀ {l : List (Nat × Nat)},Q1 E ops rs Hf l = true → C8 E ops rs Hf l
 | [],_ => trivial
 | p :: l,h => by
  simp only [Q1,Bool.and_eq_true] at h;refine ⟨?_,Oj h.2⟩;have h1:=h.1;split at h1
  ·rename_i o r ho hr;rw [ho,hr];split at h1
   ·rename_i y hy;exact ⟨true,by rw [← AV.F1 h1];exact hy,rfl⟩
   ·cases h1
  ·cases h1
def G0 (m : Mem) : Gh:=⟨fun _ => none,[],m⟩
mutual
theorem bI {G : Gh} {w : World} (hr : AQ G w) {m : Mem} (hm : G.m.le m) (hown : ∀ b k v,Own G b → w.cell? ⟨b,k,none⟩ = some v → m b k = some v) : ∀ {x y : AV} {v : Value},Ch G.H x = some y → RV G x v → RV (G0 m) y v
 | .d x,y,v,h,r => by
  simp only [Ch,Option.some.injEq] at h;subst h;simp only [RV] at r ⊢;exact r.mono hm
 | .u,y,v,h,r => by simp only [Ch,Option.some.injEq] at h;subst h;trivial
 | .e0,y,v,h,r => by simp only [Ch,Option.some.injEq] at h;subst h;simpa only [RV] using r
 | .dp cs,y,v,h,r => by
  simp only [Ch,Option.some.injEq] at h;subst h;simp only [RV] at r ⊢;obtain ⟨b,off,h1,h2⟩:=r;exact ⟨b,off,h1,Jm.mono hm h2⟩
 | .sl id n sz,y,v,h,r => by
  simp only [Ch] at h;split at h
  ·rename_i x hx;split at h
   ·rename_i hn;cases h;have hf : BN G.H (.sl id n sz) x:=by simp only [BN];exact ⟨hx,Nat.eq_of_beq_eq_true hn⟩
    have:=Q6 hr hm hown hf r;simpa only [RV,G0] using this
   ·cases h
  ·cases h
 | .ag cs,y,v,h,r => by
  simp only [Ch] at h;split at h
  ·rename_i l hl;cases h;simp only [RV] at r ⊢;obtain ⟨vs,h1,h2⟩:=r;exact ⟨vs,h1,JD hr hm hown hl h2⟩
  ·cases h
 | .tup cs,y,v,h,r => by
  simp only [Ch] at h;split at h
  ·rename_i l hl;cases h;simp only [RV] at r ⊢;obtain ⟨vs,h1,h2⟩:=r;exact ⟨vs,h1,JD hr hm hown hl h2⟩
  ·cases h
 | .fn f a b,y,v,h,r => by
  simp only [Ch] at h;split at h
  ·rename_i p q hp hq;cases h;simp only [RV] at r ⊢;obtain ⟨p',q',h1,h2,h3⟩:=r;exact ⟨p',q',h1,JD hr hm hown hp h2,JD hr hm hown hq h3⟩
  ·cases h
 | .ptr ..,y,v,h,r => by simp [Ch] at h
 | .bs ..,y,v,h,r => by simp [Ch] at h
 | .ep ..,y,v,h,r => by simp [Ch] at h
 | .yl ..,y,v,h,r => by simp [Ch] at h
 | .mp ..,y,v,h,r => by simp [Ch] at h
theorem JD {G : Gh} {w : World} (hr : AQ G w) {m : Mem} (hm : G.m.le m) (hown : ∀ b k v,Own G b → w.cell? ⟨b,k,none⟩ = some v → m b k = some v) : ∀ {xs ys : List AV} {vs : List Value},EG G.H xs = some ys → AY G xs vs → AY (G0 m) ys vs
 | [],ys,vs,h,r => by simp only [EG,Option.some.injEq] at h;subst h;simpa only [AY] using r
 | x :: xs,ys,vs,h,r => by
  simp only [EG] at h;split at h
  ·rename_i y l hy hl;cases h;simp only [AY] at r ⊢;obtain ⟨v,r',h1,h2,h3⟩:=r;exact ⟨v,r',h1,bI hr hm hown hy h2,JD hr hm hown hl h3⟩
  ·cases h
end
mutual
theorem Vs {H : List A5} : ∀ {x y : AV},Ch H x = some y → ∀ {m : Mem} {G : Gh} {v : Value},m.le G.m → RV (G0 m) y v → RV G y v
 | .d x,y,h => by
  intro hm r;simp only [Ch,Option.some.injEq] at h;subst h;simp only [RV] at r ⊢;exact r.mono hm
 | .u,y,h => by intro hm r;simp only [Ch,Option.some.injEq] at h;subst h;trivial
 | .e0,y,h => by intro hm r;simp only [Ch,Option.some.injEq] at h;subst h;simpa only [RV] using r
 | .dp cs,y,h => by
  intro hm r;simp only [Ch,Option.some.injEq] at h;subst h;simp only [RV] at r ⊢;obtain ⟨b,off,h1,h2⟩:=r;exact ⟨b,off,h1,Jm.mono hm h2⟩
 | .sl id n sz,y,h => by
  intro hm r;simp only [Ch] at h;split at h
  ·split at h
   ·cases h;simp only [RV] at r ⊢;exact r.mono hm
   ·cases h
  ·cases h
 | .ag cs,y,h => by
  intro hm r;simp only [Ch] at h;split at h
  ·rename_i l hl;cases h;simp only [RV] at r ⊢;obtain ⟨vs,h1,h2⟩:=r;exact ⟨vs,h1,IZ hl hm h2⟩
  ·cases h
 | .tup cs,y,h => by
  intro hm r;simp only [Ch] at h;split at h
  ·rename_i l hl;cases h;simp only [RV] at r ⊢;obtain ⟨vs,h1,h2⟩:=r;exact ⟨vs,h1,IZ hl hm h2⟩
  ·cases h
 | .fn f a b,y,h => by
  intro hm r;simp only [Ch] at h;split at h
  ·rename_i p q hp hq;cases h;simp only [RV] at r ⊢;obtain ⟨p',q',h1,h2,h3⟩:=r;exact ⟨p',q',h1,IZ hp hm h2,IZ hq hm h3⟩
  ·cases h
 | .ptr ..,y,h => by simp [Ch] at h
 | .bs ..,y,h => by simp [Ch] at h
 | .ep ..,y,h => by simp [Ch] at h
 | .yl ..,y,h => by simp [Ch] at h
 | .mp ..,y,h => by simp [Ch] at h
theorem IZ {H : List A5} : ∀ {xs ys : List AV},EG H xs = some ys → ∀ {m : Mem} {G : Gh} {vs : List Value},m.le G.m → AY (G0 m) ys vs → AY G ys vs
 | [],ys,h => by intro hm r;simp only [EG,Option.some.injEq] at h;subst h;simpa only [AY] using r
 | x :: xs,ys,h => by
  intro hm r;simp only [EG] at h;split at h
  ·rename_i y l hy hl;cases h;simp only [AY] at r ⊢;obtain ⟨v,r',h1,h2,h3⟩:=r;exact ⟨v,r',h1,Vs hy hm h2,IZ hl hm h3⟩
  ·cases h
end
mutual
theorem im {G : Gh} : ∀ {x y : AV} {v : Value},Ch [] x = some y → RV G x v → RV (G0 G.m) y v
 | .d x,y,v,h,r => by simp only [Ch,Option.some.injEq] at h;subst h;simpa only [RV,G0] using r
 | .u,y,v,h,r => by simp only [Ch,Option.some.injEq] at h;subst h;trivial
 | .e0,y,v,h,r => by simp only [Ch,Option.some.injEq] at h;subst h;simpa only [RV] using r
 | .dp cs,y,v,h,r => by simp only [Ch,Option.some.injEq] at h;subst h;simpa only [RV,G0] using r
 | .sl id n sz,y,v,h,r => by simp [Ch] at h
 | .ag cs,y,v,h,r => by
  simp only [Ch] at h;split at h
  ·rename_i l hl;cases h;simp only [RV] at r ⊢;obtain ⟨vs,h1,h2⟩:=r;exact ⟨vs,h1,JA hl h2⟩
  ·cases h
 | .tup cs,y,v,h,r => by
  simp only [Ch] at h;split at h
  ·rename_i l hl;cases h;simp only [RV] at r ⊢;obtain ⟨vs,h1,h2⟩:=r;exact ⟨vs,h1,JA hl h2⟩
  ·cases h
 | .fn f a b,y,v,h,r => by
  simp only [Ch] at h;split at h
  ·rename_i p q hp hq;cases h;simp only [RV] at r ⊢;obtain ⟨p',q',h1,h2,h3⟩:=r;exact ⟨p',q',h1,JA hp h2,JA hq h3⟩
  ·cases h
 | .ptr ..,y,v,h,r => by simp [Ch] at h
 | .bs ..,y,v,h,r => by simp [Ch] at h
 | .ep ..,y,v,h,r => by simp [Ch] at h
 | .yl ..,y,v,h,r => by simp [Ch] at h
 | .mp ..,y,v,h,r => by simp [Ch] at h
theorem JA {G : Gh} : ∀ {xs ys : List AV} {vs : List Value},EG [] xs = some ys → AY G xs vs → AY (G0 G.m) ys vs
 | [],ys,vs,h,r => by simp only [EG,Option.some.injEq] at h;subst h;simpa only [AY] using r
 | x :: xs,ys,vs,h,r => by
  simp only [EG] at h;split at h
  ·rename_i y l hy hl;cases h;simp only [AY] at r ⊢;obtain ⟨v,r',h1,h2,h3⟩:=r;exact ⟨v,r',h1,im hy h2,JA hl h3⟩
  ·cases h
end
def R0 (P : Program) (f : FuncId) (xs : List AV) (y : AV) : Prop :=
 Ch [] y = some y ∧ Fe P f ∧ ∀ (m : Mem) (w : World) (vs : Array Value),K6 m w → cI m → AY (G0 m) xs vs.toList →
  CallsIn Fence.wide 0 P f vs w fun e w' => ∃ v m',e = .returned v ∧ RV (G0 m') y v ∧ m.le m' ∧ K6 m' w' ∧ (∀ b k v,m' b k = some v → m b k = some v ∨ w.heap.size ≤ b) ∧
   w'.os = w.os ∧ w'.tape = w.tape ∧ w'.output = w.output ∧ w.heap.size ≤ w'.heap.size ∧ ∀ b,b < w.heap.size → w'.heap[b]? = w.heap[b]?
variable {P : Program} {f : FuncId}
theorem R0.toFn {ds : List D} {r : D} (h : R0 P f (ds.map .d) (.d r)) : Fn P f ds r:=by
 refine ⟨h.2.1,fun m w vs hm hst hargs => (h.2.2 m w vs hm hst (Jc.2 hargs)).mono ?_⟩;rintro e w' ⟨v,m',rfl,h1,rest⟩;exact ⟨v,m',rfl,by simpa only [RV,G0] using h1,rest⟩
variable {xs : List AV}
theorem Fn.toP {ds : List D} {r : D} (h : Fn P f ds r) (hx : Ho xs ds) : R0 P f xs (.d r):=by
 refine ⟨rfl,h.1,fun m w vs hm hst hargs => (h.2 m w vs hm hst (N2 (G:=G0 m) hx hargs)).mono ?_⟩;rintro e w' ⟨v,m',rfl,h1,rest⟩;exact ⟨v,m',rfl,by simpa only [RV,G0] using h1,rest⟩
mutual
theorem Su {H : List A5} : ∀ {x y : AV},Ch H x = some y → Ch [] y = some y
 | .d x,y,h => by simp only [Ch,Option.some.injEq] at h;subst h;rfl
 | .u,y,h => by simp only [Ch,Option.some.injEq] at h;subst h;rfl
 | .e0,y,h => by simp only [Ch,Option.some.injEq] at h;subst h;rfl
 | .dp cs,y,h => by simp only [Ch,Option.some.injEq] at h;subst h;rfl
 | .sl id n sz,y,h => by
  simp only [Ch] at h;split at h
  ·split at h
   ·cases h;rfl
   ·cases h
  ·cases h
 | .ag cs,y,h => by
  simp only [Ch] at h;split at h
  ·rename_i l hl;cases h;simp only [Ch,H6 hl]
  ·cases h
 | .tup cs,y,h => by
  simp only [Ch] at h;split at h
  ·rename_i l hl;cases h;simp only [Ch,H6 hl]
  ·cases h
 | .fn f a b,y,h => by
  simp only [Ch] at h;split at h
  ·rename_i p q hp hq;cases h;simp only [Ch,H6 hp,H6 hq]
  ·cases h
 | .ptr ..,y,h => by simp [Ch] at h
 | .bs ..,y,h => by simp [Ch] at h
 | .ep ..,y,h => by simp [Ch] at h
 | .yl ..,y,h => by simp [Ch] at h
 | .mp ..,y,h => by simp [Ch] at h
theorem H6 {H : List A5} : ∀ {xs ys : List AV},EG H xs = some ys → EG [] ys = some ys
 | [],ys,h => by simp only [EG,Option.some.injEq] at h;subst h;rfl
 | x :: xs,ys,h => by
  simp only [EG] at h;split at h
  ·rename_i y l hy hl;cases h;simp only [EG,Su hy,H6 hl]
  ·cases h
end
section
variable {P : Program} {ro : Option Nat} {S : St} {Q : Exit → St → Prop} {E : Nat → Option Ad}
variable {f : FuncId} {xs : List AV} {y : AV}
theorem Y8 {fn : Func} {c : Code} (hE : BF P E) (hf : P.funcs[f]? = some fn) (hb : fn.body = some c) (hname : (fn.name == "runtime.NumGoroutine") = false) (hn : xs.length ≤ fn.ntmps) (h : W P none c ⟨CP 0 xs,[],fn.ntmps⟩ (Jl fun S' => ∃ cc x,CQ E S'.env S'.H fn.results.toList = some (cc,x) ∧ cc = true ∧ Ch S'.H x = some y)) (hy : Ch [] y = some y) : R0 P f xs y:=by
 refine ⟨hy,⟨fn,hf,hname,by rw [hb];rfl⟩,fun m w vs hm hst hargs => ?_⟩;have hr : AQ (G0 m) w:=⟨fun id b hb => by simp [G0] at hb,fun id id' p q b N N' hp => by simp [G0] at hp,hm,fun b ho => by obtain ⟨id,N,q,hq,_⟩:=ho;simp [G0] at hq,hst⟩;have hno : ∀ b,¬ Own (G0 m) b:=fun b ho => by obtain ⟨id,N,q,hq,_⟩:=ho;simp [G0] at hq
 refine N7 (G:=G0 m) (K:=fun x H => Ch H x = some y) hE hf hb hn h rfl hr hargs ?_;intro x v G' w1 w' ms hK hv h1 h2 hfr ht hms
 let m' : Mem:=fun b k => match G'.m b k with
  | some v => some v
  | none => if w.heap.size ≤ b then w'.cell? ⟨b,k,none⟩ else none
 have hle : G'.m.le m':=fun b k v hv => by simp only [m',hv]
 have hmem : K6 m' w':=by
  intro b k v hv;simp only [m'] at hv;split at hv
  ·rename_i u hu;cases hv;exact h2.mem b k _ hu
  ·split at hv
   ·exact hv
   ·cases hv
 refine ⟨v,m',rfl,bI h2 hle ?_ hK hv,Mem.le_trans hfr.gle.mem hle,hmem,?_,ht.os.trans hfr.os,ht.tape.trans hfr.tape,ht.output.trans hfr.output,by rw [ht.size];exact hfr.size,fun b hb => ?_⟩
 ·intro b k v ho hc
  have hge : w.heap.size ≤ b:=by
   rcases Nat.lt_or_ge b w.heap.size with hlt | hge
   ·exact absurd ho (hfr.keep b hlt (hno b)).2
   ·exact hge
  simp only [m',h2.sep b ho k,if_pos hge,hc]
 ·intro b k v hv;simp only [m'] at hv;split at hv
  ·rename_i u hu;cases hv;rcases hfr.memNew b k _ hu with h3 | h3 | h3
   ·exact .inl h3
   ·exact absurd h3 (hno b)
   ·exact .inr h3
  ·split at hv
   ·rename_i hge;exact .inr hge
   ·cases hv
 ·exact (ht.other b fun hm => by have:=hms b hm;omega).trans (hfr.keep b hb (hno b)).1
theorem R0.jb {ys : List AV} (h : R0 P f ys y) (hx : EG [] xs = some ys) (H : List A5) : Ja P f xs H fun x H' => x = y ∧ H' = H:=by
 refine ⟨h.2.1,fun G w vs hG hr hargs => (h.2.2 G.m w vs hr.mem hr.st (JA hx hargs)).mono ?_⟩;rintro e w' ⟨v,m',rfl,h1,h2,h3,h4,h5,h6,h7,h8,h9⟩;obtain ⟨k1,k2⟩:=HS hr h5 h6 h7 h8 h9 m' h2 h4 h3;exact ⟨v,y,{ G with m:=m' },rfl,⟨rfl,hG⟩,Vs h.1 (Mem.le_refl _) h1,k1,k2⟩
open Classical in
theorem R0.read {ys : List AV} (h : R0 P f ys y) (hr : ZV y = true) {H : List A5} (hx : EG H xs = some ys) : Ja P f xs H fun x H' => x = y ∧ H' = H:=by
 refine ⟨h.2.1,fun G w vs hG hrel hargs => ?_⟩;let m : Mem:=fun b k => if Own G b then w.cell? ⟨b,k,none⟩ else G.m b k
 have hle : G.m.le m:=fun b k v hv => by
  by_cases ho : Own G b
  ·rw [hrel.sep b ho k] at hv;cases hv
  ·simp only [m,if_neg ho,hv]
 have hmem : K6 m w:=fun b k v hv => by
  simp only [m] at hv;split at hv
  ·exact hv
  ·exact hrel.mem b k v hv
 have hds : AY (G0 m) ys vs.toList:=JD hrel hle (fun b k v ho hc => by simp only [m,if_pos ho,hc]) (by rw [hG];exact hx) hargs;refine (h.2.2 m w vs hmem (Mem.le_trans hrel.st hle) hds).mono ?_;rintro e w' ⟨v,m',rfl,h1,h2,h3,h4,h5,h6,h7,h8,h9⟩
 obtain ⟨k1,k2⟩:=HS hrel h5 h6 h7 h8 h9 G.m (Mem.le_refl _) (fun _ _ _ h => .inl h) (fun b k u hu => by
  rw [World.cell?_of_block (w:=w) (h9 b (Fx hrel hu))]
  exact hrel.mem b k u hu)
 refine ⟨v,y,G,rfl,⟨rfl,hG⟩,?_,k1,k2⟩;cases y <;> simp only [ZV,Bool.false_eq_true] at hr;simp only [RV] at h1 ⊢;exact VO hr h1
end
theorem TS : ∀ {x y : List (D × AV)},jR x y = true → x = y
 | [],[],_ => rfl
 | [],_ :: _,h => by simp [jR] at h
 | _ :: _,[],h => by simp [jR] at h
 | (a,b) :: r,(c,d) :: l,h => by
  simp only [jR,Bool.and_eq_true] at h;rw [show a = c from D.F1 h.1.1,show b = d from AV.F1 h.1.2,TS h.2]
theorem A5.F1 {x y : A5} (h : A5.GK x y = true) : x = y:=by
 cases x <;> cases y <;> simp only [A5.GK,reduceCtorEq] at h
 ·rfl
 ·rw [AV.D2 h]
 ·rw [D.F1 h]
 ·rw [TS h]
theorem io {x y : LoopState} (h : stB x y = true) : x = y:=by cases x <;> cases y <;> first | rfl | cases h
theorem cz {b x y : A5} (h : gS b x y = true) (hx : Q3 b x = x) : x = Q3 b y:=by
 cases b <;> cases x <;> cases y <;> simp only [gS,A5.GK,reduceCtorEq,Bool.and_eq_true] at h <;> simp only [Q3] at hx ⊢
 case lp.lp.lp r0 r q =>
  obtain ⟨⟨h1,h2⟩,h3⟩:=h;rw [← hx,io h1,Option.isNone_iff_eq_none.1 h2,Option.isNone_iff_eq_none.1 h3]
 all_goals first | rfl | rw [AV.D2 h] | rw [D.F1 h] | rw [TS h]
theorem Pp : ∀ {H A B : List A5},OH H A B = true → (∀ (j : Nat) (b x : A5),H[j]? = some b → A[j]? = some x → Q3 b x = x) → A = KS H B
 | b :: r,x :: l,y :: m,h,hf => by
  simp only [OH,Bool.and_eq_true] at h;rw [KS,cz h.1 (hf 0 b x rfl rfl),Pp h.2 fun j c z hc hz => hf (j + 1) c z (by simpa using hc) (by simpa using hz)]
 | [],x :: l,y :: m,h,_ => by
  simp only [OH,Bool.and_eq_true] at h;have:=Pp h.2 fun j c z hc _ => by simp at hc
  rw [A5.F1 h.1,this];simp [KS]
 | [],[],[],_,_ => rfl
 | _ :: _,[],[],_,_ => rfl
 | [],[],_ :: _,h,_ => by simp [OH] at h
 | _ :: _,[],_ :: _,h,_ => by simp [OH] at h
 | [],_ :: _,[],h,_ => by simp [OH] at h
 | _ :: _,_ :: _,[],h,_ => by simp [OH] at h
theorem VN : ∀ {H K : List A5},(∀ (j : Nat) (b x : A5),H[j]? = some b → K[j]? = some x → Q3 b x = x) → KS H K = K
 | b :: r,x :: l,h => by rw [KS,h 0 b x rfl rfl,VN fun j c z hc hz => h (j + 1) c z (by simpa using hc) (by simpa using hz)]
 | [],_,_ => by simp [KS]
 | _ :: _,[],_ => by simp [KS]
def lU (H K : List A5) : Prop:=∀ (j : Nat) (b x : A5),H[j]? = some b → K[j]? = some x → Q3 b x = x
variable {G : Gh}
theorem iH {G' : Gh} (h : I3 G G') : lU G.H G'.H:=by
 intro j b x hb hx;obtain ⟨x',hx',hs⟩:=h.blk j b hb;rw [hx] at hx';cases hx';cases b <;> cases x <;> simp only [Q3];rename_i r r';simp only [AG] at hs;obtain ⟨_,h1,h2,h3,h4,h5,h6⟩:=hs;cases r;cases r';simp_all
variable {H K : List A5}
theorem iI {a b : Nat} (h : lU H K) (ho : Ag H.length H = true) (ha : H.length ≤ a) (hb : H.length ≤ b) (ha' : a < K.length) (hb' : b < K.length) : lU H (R1 a b K):=by
 intro j c x hc hx;have hj : j < H.length:=(List.getElem?_eq_some_iff.1 hc).1;rw [JF ha' hb',Uh ha hb hj,Option.map_eq_some_iff] at hx;obtain ⟨z,hz,rfl⟩:=hx;have hf:=h j c z hc hz;cases c <;> cases z <;> simp only [Q3,A5.ren] at hf ⊢;rename_i r q;have ho:=HU ho hc;have he : I0 (sw a b) r.env = r.env:=Qh (fun i hi => Uh ha hb hi) ho;have hf:=A5.lp.inj hf;rw [← hf];simp [he]
theorem SG {a b : Nat} {e1 e2 : Tm} : ∀ {m : Nat},(∀ t x,get (Kf a b e1 e2 m) t = some x → I2 e1 t = some x) ∧ ∃ l',I0 (sw a b) l' = Kf a b e1 e2 m ∧ ∀ t y,get l' t = some y → I2 e2 t = some y
 | 0 => ⟨(fun _ _ h => by cases h),[],rfl,(fun _ _ h => by cases h)⟩
 | m + 1 => by
  obtain ⟨h1,l',h2,h3⟩:=SG (a:=a) (b:=b) (e1:=e1) (e2:=e2) (m:=m);simp only [Kf];split
  ·rename_i x y hx hy;split
   ·rename_i he;refine ⟨fun t z hz => ?_,(m,y) :: l',by simp only [I0];rw [h2,AV.F1 he],fun t z hz => ?_⟩
    ·simp only [get] at hz;split at hz
     ·rename_i hb;cases hz;rw [← Nat.eq_of_beq_eq_true hb];exact hx
     ·exact h1 _ _ hz
    ·simp only [get] at hz;split at hz
     ·rename_i hb;cases hz;rw [← Nat.eq_of_beq_eq_true hb];exact hy
     ·exact h3 _ _ hz
   ·exact ⟨h1,l',h2,h3⟩
  ·exact ⟨h1,l',h2,h3⟩
section
variable {F : Fence} {n : Nat} {P : Program} {ops : Array Oper} {ro : Option Nat} {E : Nat → Option Ad} {S S0 : St} {acc : List Rc} {rest : List Oper}
theorem Uk {o : Oper} {a : Act} {w : World} {K K' : Act → World → Prop} {Q Q' : Exit → Act → World → Prop} (h : ∀ a w,K a w → K' a w) (hq : ∀ e a w,Q e a w → Q' e a w)
  (hh : o.wpIn F n P a w K Q) : o.wpIn F n P a w K' Q':=by
 unfold Oper.wpIn at *;refine ⟨hh.1,?_⟩;have hh:=hh.2;generalize (o.semAt F.round a.eval).run P w = r at *
 cases r with
 | ok x w' =>
  cases x <;> simp only [Oper.uponIn] at hh ⊢ <;>
   first
    | exact h _ _ hh
    | exact ⟨hh.1,CallsIn.mono hh.2 (fun e w'' he => by cases e <;> first | exact h _ _ he | exact hq _ _ _ he | (obtain ⟨a0,w0,h0⟩:=he;exact ⟨a0,w0,hq _ _ _ h0⟩))⟩
    | exact ⟨hh.1,RowsIn.mono hh.2 (fun _ _ he => h _ _ he)⟩
    | exact ⟨hh.1,RoundIn.mono hh.2 (fun e w'' he => by cases e <;> first | exact h _ _ he | exact hq _ _ _ he | (obtain ⟨a0,w0,h0⟩:=he;exact ⟨a0,w0,hq _ _ _ h0⟩))⟩
 | halt x w' => cases x <;> simp only [Oper.uponIn] at hh ⊢ <;> first | exact hq _ _ _ hh | exact hh
theorem El {md : Region.Mode} {Q Q' : Exit → Act → World → Prop} (hq : ∀ e a w,Q e a w → Q' e a w) : ∀ (fuel : Nat) (listed : Array Bool) (a : Act) (w : World),wpAnyIn F n P md ops Q fuel listed a w → wpAnyIn F n P md ops Q' fuel listed a w
 | 0,listed,a,w,h => ⟨h.1,hq _ _ _ h.2⟩
 | fuel + 1,listed,a,w,h => by
  refine ⟨fun e => hq _ _ _ (h.1 e),fun i hi => ?_⟩;have h2:=h.2 i hi;unfold wpOpIn at h2 ⊢;split
  ·rename_i ho;simp only [ho] at h2;exact El hq _ _ _ _ h2
  ·rename_i o ho;simp only [ho] at h2;split
   ·rename_i hw;simp only [hw,if_true] at h2;exact Uk (fun _ _ k => El hq _ _ _ _ k) hq h2
   ·rename_i hw;simp only [hw] at h2;exact ⟨h2.1,El hq _ _ _ _ h2.2⟩
variable {Q : Exit → St → Prop}
theorem Uw {Q' : Exit → St → Prop} (h : HJ P ro ops S Q) (hq : ∀ e S',Q e S' → lU S.H S'.H → Q' e S') : HJ P ro ops S Q':=by
 intro N G a w r;refine El ?_ _ _ _ _ (h N G a w r);rintro e a' w' ⟨S',G',q,r',k⟩;exact ⟨S',G',hq e S' q (by rw [← r.heap,← r'.heap];exact iH k.gle),r',k⟩
theorem YO {id : Nat} (hm : P.follows .mixedOrders = true) (h : HJ P ro ops S (Qw Q)) : W P ro (.region id ops true) S Q:=by
 refine MM (Q':=Qw Q) (fun N G a w r => wpIn_region_any hm (h N G a w r)) ?_;rintro e S' ⟨env,h1,h2⟩;exact .inr ⟨env,h1,h2⟩
theorem fz {l : List (Nat × Nat)} (hE : BF P E) (hd : Gb ops (acc.reverse.map Rc.k) l = true) (hx : C8 E ops acc.reverse S.H l) (hQ : Q .normal S) : Wd P ro E ops S0 (HJ P ro ops S0 (Qw Q)) acc [] S:=by
 intro Sr ht hH hn he hr;refine Jn hE ht hd (by rw [hH];exact hx) ⟨S.env,he,?_⟩;rw [hH,hn];exact hQ
theorem SJ {id i k n : Nat} {e e1 e2 e' : Tm} {H H1 H2 H' : List A5} {Q : Exit → St → Prop} (hm : P.follows .mixedOrders = true) (hik : (Nat.blt i k && Nat.blt k ops.toList.length && Iu ops) = true) (ho : Ag H.length H = true)
  (h1 : ∀ Q : Exit → St → Prop,Q .normal ⟨Cn e1,H1,n⟩ → HJ P ro (Lk i k ops) ⟨Cn e,H,n⟩ (Qw Q)) (h2 : ∀ Q : Exit → St → Prop,Q .normal ⟨Cn e2,H2,n⟩ → HJ P ro (Ll i k ops) ⟨Cn e,H,n⟩ (Qw Q)) :
  ∀ {l : List (Nat × Nat)},SI H e1 H1 e2 H2 l = some (e',H') → Q .normal ⟨Cn e',H',n⟩ → W P ro (.region id ops true) ⟨Cn e,H,n⟩ Q
 | [],h,_ => by simp [SI] at h
 | p :: l,h,hQ => by
  simp only [SI] at h;split at h
  ·rename_i hc;cases h;simp only [Bool.and_eq_true] at hc;obtain ⟨⟨⟨⟨⟨c1,c2⟩,c3⟩,c4⟩,c5⟩,c7⟩:=hc;simp only [Nat.ble_eq,Nat.blt_eq,Hz,decide_eq_true_eq] at c1 c2 c3 c4 c5;obtain ⟨j1,l',j2,j3⟩:=SG (a:=p.1) (b:=p.2) (e1:=e1) (e2:=e2) (m:=8 * e1.length)
   have hfl : ∀ {H K : List A5},(KS H K).length = K.length:=by
    intro H
    induction H with
    | nil => intro K;simp [KS]
    | cons b r ih => intro K;cases K <;> simp [KS,ih]
   refine MM (Q':=fun x S' => x = .normal ∧ S' = ⟨Kf p.1 p.2 e1 e2 (8 * e1.length),KS H H1,n⟩) (eh (S1:=⟨Kf p.1 p.2 e1 e2 (8 * e1.length),KS H H1,n⟩) i k p.1 p.2 hm hik ho (by simp only [hfl,Bool.and_eq_true,Nat.ble_eq,Nat.blt_eq];exact ⟨⟨⟨c1,c2⟩,c3⟩,c4⟩) (Uw (h1 (fun e S' => e = .normal ∧ S' = ⟨Cn e1,H1,n⟩) ⟨rfl,rfl⟩) ?_) (Uw (h2 (fun e S' => e = .normal ∧ S' = ⟨Cn e2,H2,n⟩) ⟨rfl,rfl⟩) ?_) ⟨rfl,rfl⟩) ?_
   ·rintro x ⟨Se,SH,Sn⟩ ⟨env,q1,rfl,q2⟩ hl;cases q2;refine ⟨_,fun t x hx => q1 t x (by rw [Ee];exact j1 t x hx),rfl,.inl ?_⟩;simp only [VN hl]
   ·rintro x ⟨Se,SH,Sn⟩ ⟨env,q1,rfl,q2⟩ hl;cases q2;refine ⟨l',fun t x hx => q1 t x (by rw [Ee];exact j3 t x hx),rfl,.inr ?_⟩;simp only [Xm];rw [j2,← Pp c7 (iI hl ho c1 c2 (Nat.lt_of_lt_of_le c3 (Nat.le_of_eq c5)) (Nat.lt_of_lt_of_le c4 (Nat.le_of_eq c5)))]
   ·rintro x S' ⟨rfl,rfl⟩;refine .inr ⟨_,fun t x hx => ?_,hQ⟩;rw [Ee,Q8] at hx;exact hx
  ·exact SJ hm hik ho h1 h2 h hQ
variable {l : List (Nat × AV)}
theorem eg {c : Code} {H : List A5} {n : Nat} (h : W P ro c ⟨Cn (Vd l),H,n⟩ Q) : W P ro c ⟨l,H,n⟩ Q :=
 fun N G a w r => h N G a w (r.NE fun t x hx => by rw [Ee,Q8] at hx;exact hx)
theorem YN {c : Code} {H K : List A5} {n : Nat} {e : Tm} {x : Exit} (ts : List Nat) (h : ∀ Q : Exit → St → Prop,Q x ⟨Cn e,K,n⟩ → W P ro c ⟨Cn (Vd l),H,n⟩ Q) (hQ : Q x ⟨small e ts,K,n⟩) : W P ro c ⟨l,H,n⟩ Q:=by
 refine eg (MM (Q':=fun y S' => y = x ∧ S' = ⟨Cn e,K,n⟩) (h _ ⟨rfl,rfl⟩) ?_);rintro y S' ⟨rfl,rfl⟩;exact .inr ⟨_,fun t x hx => EU hx,hQ⟩
end
mutual
theorem rdV0 : ∀ {x y : AV},Ch [] x = some y → y = x ∧ x.ok 0 = true
 | .d x,y,h => by simp only [Ch,Option.some.injEq] at h;exact ⟨h.symm,rfl⟩
 | .u,y,h => by simp only [Ch,Option.some.injEq] at h;exact ⟨h.symm,rfl⟩
 | .e0,y,h => by simp only [Ch,Option.some.injEq] at h;exact ⟨h.symm,rfl⟩
 | .dp cs,y,h => by simp only [Ch,Option.some.injEq] at h;exact ⟨h.symm,rfl⟩
 | .ag cs,y,h => by
  simp only [Ch] at h;split at h
  ·rename_i l hl;cases h;obtain ⟨rfl,h2⟩:=PF hl;exact ⟨rfl,h2⟩
  ·cases h
 | .tup cs,y,h => by
  simp only [Ch] at h;split at h
  ·rename_i l hl;cases h;obtain ⟨rfl,h2⟩:=PF hl;exact ⟨rfl,h2⟩
  ·cases h
 | .fn f a b,y,h => by
  simp only [Ch] at h;split at h
  ·rename_i p q hp hq;cases h;obtain ⟨rfl,h2⟩:=PF hp;obtain ⟨rfl,h3⟩:=PF hq;exact ⟨rfl,by simp only [AV.ok,h2,h3];rfl⟩
  ·cases h
 | .sl ..,y,h => by simp [Ch] at h
 | .ptr ..,y,h => by simp [Ch] at h
 | .bs ..,y,h => by simp [Ch] at h
 | .ep ..,y,h => by simp [Ch] at h
 | .yl ..,y,h => by simp [Ch] at h
 | .mp ..,y,h => by simp [Ch] at h
theorem PF : ∀ {xs ys : List AV},EG [] xs = some ys → ys = xs ∧ AV.oks 0 xs = true
 | [],ys,h => by simp only [EG,Option.some.injEq] at h;exact ⟨h.symm,rfl⟩
 | x :: xs,ys,h => by
  simp only [EG] at h;split at h
  ·rename_i y l hy hl;cases h;obtain ⟨rfl,h1⟩:=rdV0 hy;obtain ⟨rfl,h2⟩:=PF hl;exact ⟨rfl,by simp only [AV.oks,h1,h2];rfl⟩
  ·cases h
end
theorem Ao.up {ys : List AV} (h : Ao P f ys [] x K) (hx : EG [] xs = some ys) (H : List A5) : Ao P f xs H (x.ren (rn [] H.length)) (H ++ ES (rn [] H.length) K):=by
 obtain ⟨rfl,h2⟩:=PF hx;have:=Ao.ren (H2:=H) [] h rfl trivial rfl h2;rw [AV.He (k:=0) (fun i hi => absurd hi (Nat.not_lt_zero _)) h2] at this;exact this
theorem Z7 {q : D} : ∀ {x : AV} {v : Value},RV G x v → RV G (lP q x) v:=by
 intro x v h;unfold lP;split
 ·obtain ⟨a,rfl⟩:=h;simp only [RV,RD,TD,T7];exact ⟨a,0,rfl,Nat.le_refl _,.inl rfl⟩
 ·obtain ⟨a,rfl⟩:=h;simp only [RV,RD,TD,kc];exact ⟨a,0,rfl,Nat.le_refl _,.inl rfl⟩
 ·obtain ⟨a,rfl⟩:=h;simp only [RV,RD];exact ⟨a,0,rfl,Nat.le_refl _,.inl trivial⟩
 ·exact h
theorem Z8 {G : Gh} : ∀ {l : List D} {xs : List AV} {vs : List Value},AY G xs vs → AY G (jQ l xs) vs
 | q :: l,x :: r,vs,h => by
  simp only [jQ,AY] at h ⊢;obtain ⟨v,w,h1,h2,h3⟩:=h;exact ⟨v,w,h1,Z7 h2,Z8 h3⟩
 | [],_,_,h => by simpa only [jQ] using h
 | _ :: _,[],_,h => by simpa only [jQ] using h
theorem gT {l : List D} {v : Value} (h : RV G x v) : RV G (e0A l x) v:=by
 unfold e0A;split
 ·simp only [RV] at h ⊢;obtain ⟨vs,h1,h2⟩:=h;exact ⟨vs,h1,Z8 h2⟩
 ·split
  ·exact Z7 h
  ·exact h
theorem MW {l : List D} {G : Gh} {a : Array Value} : ∀ {ps : List (Nat × Operand)} {env : List (Nat × AV)},FF G env a → FF G (Rr l env ps) a
 | [],_,h => h
 | p :: r,env,h => by
  simp only [Rr];split
  ·split
   ·rename_i x hx;refine MW fun u y hy => ?_
    rw [VR] at hy;simp only [get] at hy;split at hy
    ·rename_i hb;cases hy;obtain ⟨v,h1,h2⟩:=h _ x hx;rw [← Nat.eq_of_beq_eq_true hb];exact ⟨v,h1,gT h2⟩
    ·exact h u y hy
   ·exact MW h
  ·exact MW h
theorem Cp.up {o : Oper} {H' : List A5} {n : Nat} (h : Cp P o ⟨small e l,H,n⟩ x H') : Cp P o ⟨Cn e,H,n⟩ x H' :=
 fun ro N G a w r => h ro N G a w (r.NE fun _ _ hx => EU hx)
variable {E : Nat → Option Ad}
theorem VE (hE : BF P E) {o : Oper} {S : St} (h : WX E S.env o.op = some x) (H : List A5) : Cp P o ⟨S.env,H,S.n⟩ x H:=by
 unfold WX at h;split at h
 ·rename_i t len ps hop;split at h
  ·rename_i y hy;split at h
   ·rename_i e he;split at h
    ·rename_i x' hx;cases h;have hx' : HO E (Rr (ZA E 8 e) S.env ps.toList) H o.op = some (true,x):=by rw [hop] at hx ⊢;exact hx
     have:=HP (S:=⟨Rr (ZA E 8 e) S.env ps.toList,H,S.n⟩) hE hx' rfl;intro ro N G a w r;exact this ro N G a w ⟨r.heap,r.rel,r.size,MW r.env,r.marks,r.round⟩
    ·cases h
   ·cases h
  ·cases h
 ·cases h
theorem KM {env : List (Nat × AV)} {op : Op} (h : WX E env op = some x) : ∀ c,op ≠ .defer c:=fun c e => by subst e;cases h
theorem Oo (n0 : Nat) (l : List Nat) : ∀ (K : List A5) (i m : Nat),Au ((Ry n0 l i K).take m) K
 | [],i,m => by simp [Ry,Au]
 | b :: r,i,0 => by simp [Au]
 | b :: r,i,m + 1 => by
  simp only [Ry,List.take_succ_cons,Au];refine ⟨?_,Oo n0 l r (i + 1) m⟩;split
  ·exact .inr rfl
  ·rename_i h;exact .inl ⟨rfl,by cases hb : b.Wo with | false => rfl | true => rw [hb,Bool.or_true] at h;cases h⟩
theorem Ao.gc (h : Ao P f xs H x K) : Ao P f xs H x (lS H.length x K):=by
 simp only [lS];split
 ·rename_i hc;rw [Bool.and_eq_true,Bool.and_eq_true] at hc;exact Ao.drop _ h (Oo _ _ _ _ _) hc.1.2 hc.2 hc.1.1
 ·exact h
end Go.Gar
namespace Go.Gar
def Snd (P : Program) (E : Nat → Option Ad) : Rq → Rz → Prop
 | .c ro c e H n,r => ∀ Q : Exit → St → Prop,Q r.1 ⟨Cn r.2.1,r.2.2,n⟩ → W P ro c ⟨Cn e,H,n⟩ Q
 | .lo ro c e H n,r => r.1 ≠ .normal ∧ ∃ m,∀ Q : Exit → St → Prop,Q r.1 ⟨Cn r.2.1,r.2.2,n⟩ → W P ro c ⟨Cn e,H,n⟩ (jk P ro c Q m)
 | .sc ro c0 c e H n,r => ∃ j,∀ Q : Exit → St → Prop,Q r.1 ⟨Cn r.2.1,r.2.2,n⟩ → W P ro c ⟨Cn e,H,n⟩ (Dp P ro c0 Q j)
 | .l ro ops rest e H n,r => r.1 = .normal ∧ ∀ (i : Nat) (Q : Exit → St → Prop),Q .normal ⟨Cn r.2.1,r.2.2,n⟩ → Wl P ro ops i rest ⟨Cn e,H,n⟩ Q
 | .t ro ops _ e H n,r => r.1 = .normal ∧ ∀ (id : Nat) (Q : Exit → St → Prop),Q .normal ⟨Cn r.2.1,r.2.2,n⟩ → W P ro (.region id ops true) ⟨Cn e,H,n⟩ Q
 | .d ops acc ks rest e H n,r => ks = acc.map Rc.k → r.1 = .normal ∧ ∀ (ro : Option Nat) (S0 : St) (Q : Exit → St → Prop),Q .normal ⟨Cn r.2.1,r.2.2,n⟩ → Wd P ro E ops S0 (HJ P ro ops S0 (Qw Q)) acc rest ⟨Cn e,H,n⟩
 | .f g xs H,r => ∀ x K,K3 (some r) = some (x,K) → Ja P g xs H fun y K' => y = x ∧ K' = K
 | .p g xs _,r => ∀ x K,K3 (some r) = some (x,K) → (K = [] → R0 P g xs x) ∧ (K ≠ [] → Ao P g xs [] x K)
 | .y id xs H,r => (∃ r0,H[id]? = some (.lp r0)) ∧ ∀ x K,K3 (some r) = some (x,K) → YT P id xs H fun y K' => y = x ∧ K' = K
section
variable {P : Program} {ro : Option Nat} {S : St} {Q : Exit → St → Prop} {E : Nat → Option Ad}
variable {x : AV} {H K : List A5}
theorem FN {y : AV} {r : Rz} (h : one x H = some r) (k : K3 (some r) = some (y,K)) : y = x ∧ K = H:=by
 simp only [one,Option.some.injEq] at h;subst h;simp only [K3,Option.some.injEq,Prod.mk.injEq] at k;exact ⟨k.1.symm,k.2.symm⟩
variable {c : Code}
theorem W5 {e : Exit} {S' : St} (he : ∀ l,e ≠ .goto l) (h : Q e S') (j : Nat) : Dp P ro c Q j e S':=by
 rw [FI he];exact h
theorem Wn {op : Op} (h : To op = true) (env : List (Nat × AV)) (H H' : List A5) : HO E env H op = HO E env H' op:=by
 cases op <;> first | rfl | (simp [To] at h)
theorem gV {env : List (Nat × AV)} {op : Op} {r : Bool × AV} (h : lR E env H op = some r) : HO E env H op = some r:=by
 unfold lR at h;split at h
 ·split at h
  ·cases h
  ·exact h
 ·exact h
theorem LP {n : Nat} : ∀ (l : List Nat) (e : Tm) (H : List A5),(Jq l e H).2.length = H.length ∧ ∀ {ops : Array Oper} {i : Nat} {rest : List Oper},Wl P ro ops i rest ⟨Cn (Jq l e H).1,(Jq l e H).2,n⟩ Q → Wl P ro ops i rest ⟨Cn e,H,n⟩ Q
 | [],e,H => ⟨rfl,fun h => h⟩
 | id :: r,e,H => by
  simp only [Jq];split
  ·rename_i x hx;obtain ⟨h2,h3⟩:=LP (n:=n) r (T6 id x e) (D8 id x 0 H);refine ⟨h2.trans Cu,fun h => Gm (A3.freeze (S:=⟨Cn e,H,n⟩) id hx) (by show H.length ≤ (D8 id x 0 H).length;rw [Cu];exact Nat.le_refl _) ?_⟩;exact Gm (S:=⟨IE id x (Cn e),D8 id x 0 H,n⟩) (S':=⟨Cn (T6 id x e),D8 id x 0 H,n⟩) (A3.env (S:=⟨IE id x (Cn e),D8 id x 0 H,n⟩) fun t y hy => by rw [← Zb];exact hy) (Nat.le_refl _) (h3 h)
  ·exact LP r e H
variable {g n : Nat} {fn : Func}
theorem VP (h : dK P g n = some (fn,c)) : P.funcs[g]? = some fn ∧ fn.body = some c ∧ n ≤ fn.ntmps:=by
 unfold dK at h;split at h
 ·rename_i fn' hf;split at h
  ·rename_i c' hb;split at h
   ·rename_i hn;cases h;exact ⟨hf,hb,Nat.le_of_ble_eq_true hn⟩
   ·cases h
  ·cases h
 ·cases h
theorem RO {o : Option Rz} (h : Ob E fn o = some (x,K)) : ∃ y e,o = some (y,e,K) ∧ (y = .ret ∨ y = .normal) ∧ CQ E (small e (resT fn.results.toList)) K fn.results.toList = some (true,x):=by
 unfold Ob at h;split at h
 ·split at h
  ·rename_i x' hx;cases h;exact ⟨_,_,rfl,.inl rfl,hx⟩
  ·cases h
 ·split at h
  ·rename_i x' hx;cases h;exact ⟨_,_,rfl,.inr rfl,hx⟩
  ·cases h
 ·cases h
theorem Un {K : St → Prop} {e : Exit} {S' : St} (he : e = .ret ∨ e = .normal) (h : K S') : Jl K e S':=by
 rcases he with rfl | rfl <;> exact h
variable {H' : List A5}
theorem QR (hE : BF P E) {o : Oper} (h : op1 E S.env S.H o.op = some (x,H')) : Cp P o S x H' ∧ ∀ c,o.op ≠ .defer c:=by
 unfold op1 at h;split at h
 ·rename_i q hq;cases h;split at hq
  ·exact ⟨Pr hE hq rfl,HN hq⟩
  ·cases hq
 ·split at h
  ·rename_i h1;cases h;exact ⟨VE hE h1 _,KM h1⟩
  split at h
  ·rename_i h1;cases h;exact ⟨HP hE h1 rfl,Er h1⟩
  ·split at h
   ·rename_i h1;cases h;exact ⟨NF hE h1 rfl,GM h1⟩
   ·split at h
    ·rename_i h1;cases h;exact ⟨NM hE h1 rfl,GP h1⟩
    ·split at h
     ·rename_i h1;cases h;exact ⟨Oi h1 rfl,IC h1⟩
     ·split at h
      ·rename_i h1;cases h;exact ⟨Px hE h1 rfl,HQ h1⟩
      ·split at h
       ·rename_i h1;cases h;exact ⟨VF hE h1 rfl,KN h1⟩
       ·split at h
        ·rename_i h1;cases h;exact ⟨Rk hE h1,fun c e => by rw [e] at h1;cases h1⟩
        ·split at h
         ·rename_i h1;cases h;exact ⟨VJ hE h1 rfl,KO h1⟩
         ·cases h
theorem aj (hE : BF P E) {o : Oper} (h : jW E S.env S.H o.op = some (x,H')) : Cp P o S x H' ∧ ∀ c,o.op ≠ .defer c:=by
 have key : opA E S.env S.H o.op = some (x,H') ∨ opW E S.env S.H o.op = some (x,H') ∨ opQ E S.env S.H o.op = some (x,H') ∨ op1 E S.env S.H o.op = some (x,H'):=by
  unfold jW at h;split at h <;> first | exact .inl h | exact .inr (.inl h) | exact .inr (.inr (.inl h)) | exact .inr (.inr (.inr h))
 rcases key with h | h | h | h
 ·unfold opA at h;split at h
  ·rename_i h1;cases h;exact ⟨NF hE h1 rfl,GM h1⟩
  ·exact QR hE h
 ·unfold opW at h;split at h
  ·rename_i h1;cases h;exact ⟨NM hE h1 rfl,GP h1⟩
  ·exact QR hE h
 ·unfold opQ at h;split at h
  ·rename_i h1;cases h;rw [gZ] at h1;exact ⟨HP hE h1 rfl,Er h1⟩
  ·exact QR hE h
 ·exact QR hE h
theorem DU {r : Option Rz} (h : K3 r = some (x,K)) : ∃ s,r = some s ∧ K3 (some s) = some (x,K):=by
 cases r with
 | none => simp [K3] at h
 | some s => exact ⟨s,rfl,h⟩
variable {ops : Array Oper} {rest : List Oper} {dst : Option Tmp} {e : Tm}
theorem V0 {i : Nat} (h : Wl P ro ops i rest ⟨Cn (Ii dst x e),H,n⟩ Q) : Wl P ro ops i rest ⟨Ah dst x (Cn e),H,n⟩ Q :=
 Gm (S:=⟨Ah dst x (Cn e),H,n⟩) (S':=⟨Cn (Ii dst x e),H,n⟩) (A3.env (S:=⟨Ah dst x (Cn e),H,n⟩) fun t y hy => by rw [← On];exact hy) (Nat.le_refl _) h
theorem Uy {S0 : St} {A : Prop} {acc : List Rc} (h : Wd P ro E ops S0 A acc rest ⟨Cn (Ii dst x e),H,n⟩) : Wd P ro E ops S0 A acc rest ⟨Ah dst x (Cn e),H,n⟩ :=
 Pa (S:=⟨Ah dst x (Cn e),H,n⟩) (env:=Cn (Ii dst x e)) (fun t y hy => by rw [← On];exact hy) h
theorem T4 (n : Nat) : ∀ (H : List A5),Au (H.take n) H:=by
 intro H;have:=M7 (H.take n) (H.drop n);rwa [List.take_append_drop] at this
theorem dM {xs : List AV} {e' : Tm} (h : gg P E e H g xs = (e',H')) : H'.length = H.length ∧ ∀ {ops : Array Oper} {i : Nat} {rest : List Oper},Wl P ro ops i rest ⟨Cn e',H',n⟩ Q → Wl P ro ops i rest ⟨Cn e,H,n⟩ Q:=by
 unfold gg at h;split at h
 ·cases h;exact ⟨rfl,fun h => h⟩
 ·split at h
  ·split at h
   ·cases h;exact ⟨rfl,fun h => h⟩
   ·obtain ⟨a,b⟩:=LP (P:=P) (ro:=ro) (Q:=Q) (n:=n) (Li xs) e H;rw [h] at a b;exact ⟨a,b⟩
  ·cases h;exact ⟨rfl,fun h => h⟩
theorem Mw {A : Prop} (h : Wd P ro E ops S A [] ops.toList S) : A:=h S .nil rfl rfl (fun _ _ h => h) (fun k => by simp)
theorem ew (hE : BF P E) {xs : List AV} {y : Exit} (hf : P.funcs[g]? = some fn) (hb : fn.body = some c) (hname : (fn.name == "runtime.NumGoroutine") = false) (hn : xs.length ≤ fn.ntmps) (he : ∀ Q : Exit → St → Prop,Q y ⟨Cn e,K,fn.ntmps⟩ → W P none c ⟨Cn (Vd (CP 0 xs)),H,fn.ntmps⟩ Q) (hy : y = .ret ∨ y = .normal) (hr : CQ E (small e (resT fn.results.toList)) K fn.results.toList = some (true,x)) : Ao P g xs H x K :=
 R6 hE hf hb hname hn (YN (resT fn.results.toList) he (Un hy ⟨true,x,hr,rfl,rfl,rfl⟩))
section
variable {O : Nat → List AV → Option AV} {kp : Nat → Bool} {k : Nat}
theorem fA (hE : BF P E) (hm : P.follows .mixedOrders = true) (hname : ∀ (g : Nat) (fn : Func), P.funcs[g]? = some fn → (fn.name == "runtime.NumGoroutine") = false) (hO : ∀ g xs y, O g xs = some y → R0 P g xs y) :
  ∀ (k : Nat) (q : Rq) (r : Rz),ex P E O kp k q = some r → Snd P E q r:=by
 intro k
 induction k with
 | zero => intro q r h;simp [ex] at h
 | succ k ih =>
 intro q r h
 cases q with
 | c ro c e H n =>
  simp only [ex] at h
  cases c with
  | skip => simp only [sC,Option.some.injEq] at h;subst h;exact fun Q hQ => Dr hQ
  | label l => simp only [sC,Option.some.injEq] at h;subst h;exact fun Q hQ => GI hQ
  | exit id => simp only [sC,Option.some.injEq] at h;subst h;exact fun Q hQ => Dq hQ
  | goto l => simp only [sC,Option.some.injEq] at h;subst h;exact fun Q hQ => I7 hQ
  | ret => simp only [sC,Option.some.injEq] at h;subst h;exact fun Q hQ => Fh hQ
  | refuse w => simp [sC] at h
  | seq a b =>
   simp only [sC] at h;generalize hx : ex P E O kp k (.c ro a e H n) = z at h;intro Q hQ;refine Fi ?_;unfold lD at h;split at h
   ·exact ih _ _ hx _ (ih _ _ h _ hQ)
   ·rename_i hne;subst h;refine ih _ _ hx _ ?_;obtain ⟨y,e',H'⟩:=r;cases y <;> first | exact hQ | exact (hne _ _ rfl).elim
  | cond o a b =>
   simp only [sC] at h;generalize hx : X8 e o = z at h;unfold fU at h;split at h
   ·split at h
    ·exact fun Q hQ => C1 (QT hx) (ih _ _ h Q hQ)
    ·exact fun Q hQ => C0 (QT hx) (ih _ _ h Q hQ)
   ·cases h
  | block id b =>
   simp only [sC] at h;generalize hx : ex P E O kp k (.c ro b e H n) = z at h;intro Q hQ;refine Ci ?_;unfold lA at h;split at h
   ·split at h
    ·rename_i hb;cases h;refine ih _ _ hx _ ?_;simp only [I5,hb,if_true];exact hQ
    ·rename_i hb;cases h;refine ih _ _ hx _ ?_;simp only [I5,hb,Bool.false_eq_true,if_false];exact hQ
   ·rename_i hne;subst h;refine ih _ _ hx _ ?_;obtain ⟨y,e',H'⟩:=r;cases y <;> first | exact hQ | exact (hne _ _ _ rfl).elim
  | loop b =>
   simp only [sC] at h;obtain ⟨_,m,h2⟩:=ih _ _ h;exact fun Q hQ => Uv m (h2 Q hQ)
  | scope b =>
   simp only [sC] at h;obtain ⟨j,h1⟩:=ih _ _ h;exact fun Q hQ => PZ j (h1 Q hQ)
  | region id ops dr =>
   simp only [sC] at h;obtain ⟨y,e',H'⟩:=r;split at h
   ·obtain ⟨h1,h2⟩:=ih _ _ h;simp only at h1;subst h1;exact fun Q hQ => Df (h2 0 Q hQ)
   ·unfold fV at h;split at h
    ·split at h
     ·rename_i r' hr';cases h;obtain ⟨h1,h2⟩:=ih _ _ hr' rfl;simp only at h1;subst h1;exact fun Q hQ => YO hm (Mw (h2 ro ⟨Cn e,H,n⟩ Q hQ))
     ·obtain ⟨h1,h2⟩:=ih _ _ h;simp only at h1;subst h1;exact fun Q hQ => h2 id Q hQ
    ·obtain ⟨h1,h2⟩:=ih _ _ h;simp only at h1;subst h1;exact fun Q hQ => h2 id Q hQ
  | rangeFunc g ps asg body =>
   simp only [sC] at h;generalize hg : X8 e g = z at h;unfold lC at h;split at h
   ·split at h
    ·rename_i x0 K hv;unfold lB at h;split at h
     ·rename_i r1 hK;split at h
      ·cases h
      ·rename_i hb;obtain ⟨s,hs,hv'⟩:=DU hv;have hT:=ih _ _ hs _ _ hv';intro Q hQ;refine RE (S:=⟨Cn e,H,n⟩) (QT hg) hT ?_;rintro x H' ⟨rfl,rfl⟩;refine ⟨r1,hK,hb,?_⟩
       cases hp : r1.pending with
       | none =>
        simp only [hp,Option.some.injEq] at h ⊢;subst h;exact hQ
       | some c =>
        simp only [hp] at h ⊢;exact ih _ _ h Q hQ
     ·cases h
    ·cases h
   ·cases h
 | lo ro c e H n =>
  simp only [ex] at h;generalize hx : ex P E O kp k (.c ro c e H n) = z at h;unfold sLo at h;split at h
  ·obtain ⟨g1,m,g2⟩:=ih _ _ h;exact ⟨g1,m + 1,fun Q hQ => ih _ _ hx _ (g2 Q hQ)⟩
  ·rename_i hne;subst h;obtain ⟨y,e',H'⟩:=r;refine ⟨by rintro rfl;exact hne _ _ rfl,0,fun Q hQ => ih _ _ hx _ ?_⟩;cases y <;> first | exact hQ | exact (hne _ _ rfl).elim
 | sc ro c0 c e H n =>
  simp only [ex] at h;generalize hx : ex P E O kp k (.c ro c e H n) = z at h;unfold sSc at h;split at h
  ·split at h
   ·rename_i rest hl;obtain ⟨j,g⟩:=ih _ _ h;exact ⟨j + 1,fun Q hQ => ih _ _ hx _ (by simp only [Dp,hl];exact g Q hQ)⟩
   ·rename_i hl;cases h;exact ⟨0,fun Q hQ => ih _ _ hx _ ⟨hl,hQ⟩⟩
  ·rename_i hne;subst h;obtain ⟨y,e',H'⟩:=r;exact ⟨0,fun Q hQ => ih _ _ hx _ (W5 (fun l e' => by subst e';exact hne _ _ _ rfl) hQ 0)⟩
 | l ro ops rest e H n =>
  simp only [ex] at h
  cases rest with
  | nil => simp only [sL,Option.some.injEq] at h;subst h;exact ⟨rfl,fun i Q hQ => Mx hQ⟩
  | cons o rest =>
   simp only [sL] at h;split at h
   ·cases h
   rename_i hd;generalize hg : AA ops (small e (looks ops o)) o = z at h;unfold sL1 at h;split at h
   ·cases h
   ·obtain ⟨h1,h2⟩:=ih _ _ h;exact ⟨h1,fun i Q hQ => Uz (S:=⟨Cn e,H,n⟩) (IK (fun _ _ hx => EU hx) hg) hd (V0 (h2 _ Q hQ))⟩
   ·have hg':=IK (b:=Cn e) (fun _ _ hx => EU hx) hg;generalize ho : jW E (small e (looks ops o)) H o.op = z at h;unfold sL2 at h;split at h
    ·obtain ⟨h1,h2⟩:=ih _ _ h;obtain ⟨o1,o2⟩:=aj (S:=⟨small e (looks ops o),H,n⟩) hE ho;exact ⟨h1,fun i Q hQ => KC (S:=⟨Cn e,H,n⟩) hg' o1.up o2 hd (V0 (h2 _ Q hQ))⟩
    ·generalize hy : Ed (small e (looks ops o)) o.op = z at h;unfold sL3 at h;split at h
     ·split at h
      ·rename_i x H' hv;obtain ⟨s,hs,hv'⟩:=DU hv;obtain ⟨⟨r0,hlp⟩,hT⟩:=ih _ _ hs;have hT:=hT _ _ hv';obtain ⟨h1,h2⟩:=ih _ _ h;exact ⟨h1,fun i Q hQ => kE (S:=⟨Cn e,H,n⟩) hg' (Q0 (fun _ _ hx => EU hx) hy) hd hlp hT (fun r H' he => by obtain ⟨e1,e2⟩:=he;subst e1;subst e2;exact V0 (h2 _ Q hQ))⟩
      ·cases h
     ·generalize hc : B4 (small e (looks ops o)) o.op = z at h;unfold sL4 at h;split at h
      ·split at h;rename_i e' H' hfz;unfold fS at h;split at h
       ·rename_i g' ys hg2 hc2;split at h
        ·rename_i x H2 hv;obtain ⟨s,hs,hv'⟩:=DU hv;have hT:=ih _ _ hs _ _ hv';obtain ⟨h1,h2⟩:=ih _ _ h;refine ⟨h1,fun i Q hQ => ?_⟩;obtain ⟨z2,z3⟩:=dM (ro:=ro) (Q:=Q) (n:=n) hfz;exact z3 (cY (S:=⟨Cn e',H',n⟩) (IK (fun _ _ hx => EU hx) hg2) (Ri (fun _ _ hx => EU hx) hc2) hd hT (fun r H' he => by obtain ⟨e1,e2⟩:=he;subst e1;subst e2;exact V0 (h2 _ Q hQ)))
        ·cases h
       ·cases h
      ·cases h
 | t ro ops l e H n =>
  simp only [ex] at h
  cases l with
  | nil => simp [sT] at h
  | cons p l =>
   simp only [sT] at h;split at h
   ·cases h
   rename_i hc;rw [Bool.and_eq_true] at hc;generalize h1 : ex P E O kp k (.d (Lk p.1 p.2 ops) [] [] (Lk p.1 p.2 ops).toList e H n) = z1 at h;generalize h2 : ex P E O kp k (.d (Ll p.1 p.2 ops) [] [] (Ll p.1 p.2 ops).toList e H n) = z2 at h;unfold fW at h;split at h
   ·split at h
    ·rename_i hj;cases h;obtain ⟨a1,a2⟩:=ih _ _ h1 rfl;obtain ⟨b1,b2⟩:=ih _ _ h2 rfl;exact ⟨rfl,fun id Q hQ => SJ hm hc.1 hc.2 (fun Q hQ => Mw (a2 ro ⟨Cn e,H,n⟩ Q hQ)) (fun Q hQ => Mw (b2 ro ⟨Cn e,H,n⟩ Q hQ)) hj hQ⟩
    ·exact (ih (.t ro ops l e H n) r h :)
   ·exact (ih (.t ro ops l e H n) r h :)
 | d ops acc ks rest e H n =>
  simp only [ex] at h;intro hks
  cases rest with
  | nil =>
   simp only [sD] at h;split at h
   ·rename_i hb;cases h;rw [Bool.and_eq_true] at hb;have hk : ks.reverse = acc.reverse.map Rc.k:=by rw [hks,List.map_reverse]
    have hb1:=hb.1;unfold dOK at hb1;rw [hk] at hb1;exact ⟨rfl,fun ro S0 Q hQ => fz (S:=⟨Cn e,H,n⟩) hE hb1 (by rw [← hk];exact Oj hb.2) hQ⟩
   ·cases h
  | cons o rest =>
   simp only [sD] at h;have hsm:=Ky (e:=e) (l:=looks ops o);split at h
   ·cases h
   rename_i hd;generalize hg : AA ops (small e (looks ops o)) o = z at h
   have fin : ∀ {x : AV} {kd : Kd} {H' : List A5},Lh (ex P E O kp k) ops acc ks o rest n e H x kd H' = some r → (∀ ro,(⟨DG (looks ops o) (Cn e),H,x,kd⟩ : Rc).ok P ro E ops n o H') →
     r.1 = .normal ∧ ∀ (ro : Option Nat) (S0 : St) (Q : Exit → St → Prop),Q .normal ⟨Cn r.2.1,r.2.2,n⟩ → Wd P ro E ops S0 (HJ P ro ops S0 (Qw Q)) acc (o :: rest) ⟨Cn e,H,n⟩:=by
    intro x kd H' h hok;unfold Lh at h;rw [hsm] at h;obtain ⟨h1,h2⟩:=ih _ _ h (by rw [hks];rfl);exact ⟨h1,fun ro S0 Q hQ => Hp (S:=⟨Cn e,H,n⟩) (x:=x) (k:=kd) (H':=H') (hok ro) (Uy (h2 ro S0 Q hQ))⟩
   unfold sD1 at h;rw [hsm] at hg;split at h
   ·cases h
   ·unfold Lh at h;rw [hsm] at h;obtain ⟨h1,h2⟩:=ih _ _ h (by rw [hks];rfl);exact ⟨h1,fun ro S0 Q hQ => Ux (S:=⟨Cn e,H,n⟩) hg hd (Uy (h2 ro S0 Q hQ))⟩
   ·generalize hx : WX E (small e (looks ops o)) o.op = z at h;unfold sD2 at h;split at h
    ·rw [hsm] at hx;exact fin h fun ro => ⟨hd,hg,fun H => (VE (S:=⟨DG (looks ops o) (Cn e),H,n⟩) hE hx H).step (KM hx),rfl⟩
    ·generalize hx : lR E (small e (looks ops o)) H o.op = z at h;unfold sD3 at h;split at h
     ·have hq:=gV hx;rw [hsm] at hq;split at h
      ·rename_i hf;unfold Lh at h;rw [hsm] at h;obtain ⟨h1,h2⟩:=ih _ _ h (by rw [hks];rfl);exact ⟨h1,fun ro S0 Q hQ => cW (S:=⟨Cn e,H,n⟩) hE hg (fun H' => by rw [Wn hf _ H' H];exact hq) hd rfl (Uy (h2 ro S0 Q hQ))⟩
      ·unfold Lh at h;rw [hsm] at h;obtain ⟨h1,h2⟩:=ih _ _ h (by rw [hks];rfl);exact ⟨h1,fun ro S0 Q hQ => jz (S:=⟨Cn e,H,n⟩) hg hq hd rfl (Uy (h2 ro S0 Q hQ))⟩
     ·generalize ho : jW E (small e (looks ops o)) H o.op = z at h;unfold sD4 at h;split at h
      ·rw [hsm] at ho;obtain ⟨o1,o2⟩:=aj (S:=⟨DG (looks ops o) (Cn e),H,n⟩) hE ho;exact fin h fun ro => ⟨hd,hg,o1.step o2⟩
      ·generalize hc : B4 (small e (looks ops o)) o.op = z at h;unfold sD5 at h;rw [hsm] at hc;split at h
       ·cases h
       ·split at h
        ·rename_i ys hx;split at h
         ·rename_i x hv;obtain ⟨s,hs,hv'⟩:=DU hv;have hP:=(ih _ _ hs _ _ hv').1 rfl;exact fin h fun ro => ⟨hd,hg,fun H => Mv (S:=⟨DG (looks ops o) (Cn e),H,n⟩) hc (R0.jb hP hx H),rfl⟩
         ·rename_i x b K hv;obtain ⟨s,hs,hv'⟩:=DU hv;have hP:=(ih _ _ hs _ _ hv').2 (by simp);exact fin h fun ro => ⟨hd,hg,Mv (S:=⟨DG (looks ops o) (Cn e),H,n⟩) hc (Ao.up hP hx H)⟩
         ·cases h
        ·split at h
         ·rename_i x H' hv;obtain ⟨s,hs,hv'⟩:=DU hv;have hT:=ih _ _ hs _ _ hv';exact fin h fun ro => ⟨hd,hg,Mv (S:=⟨DG (looks ops o) (Cn e),H,n⟩) hc hT⟩
         ·cases h
 | p g xs b0 =>
  simp only [ex] at h;generalize hy : O g xs = z at h;unfold sP at h;split at h
  ·intro x K hv;obtain ⟨rfl,rfl⟩:=FN h hv;exact ⟨fun _ => hO _ _ _ hy,fun k => absurd rfl k⟩
  ·split at h
   ·cases h
   ·rename_i fn c hf;generalize hb : Ob E fn (ex P E O kp k (.c none c (Vd (CP 0 xs)) [] fn.ntmps)) = z at h;unfold sP1 at h;split at h
    ·rename_i x K;obtain ⟨y,e,he,hr,hev⟩:=RO hb;obtain ⟨f1,f2,f3⟩:=VP hf;split at h
     ·rename_i y' hy' _;intro x' K' hv;obtain ⟨rfl,rfl⟩:=FN h hv;exact ⟨fun _ => Y8 hE f1 f2 (hname _ _ f1) f3 (YN (resT fn.results.toList) (ih _ _ he) (Un hr ⟨true,x,hev,rfl,hy'⟩)) (Su hy'),fun k => absurd rfl k⟩
     ·split at h
      ·cases h
      ·rename_i b l hgc;intro x' K' hv;obtain ⟨rfl,rfl⟩:=FN h hv;have hT:=(ew hE f1 f2 (hname _ _ f1) f3 (ih _ _ he) hr hev).gc;rw [show ([] : List A5).length = 0 from rfl,hgc] at hT;exact ⟨(fun k => by cases k),fun _ => hT⟩
    ·cases h
 | f g xs H =>
  simp only [ex,sF] at h;split at h
  ·rename_i ys hx;split at h
   ·rename_i x hv;intro x' K' hv2;obtain ⟨rfl,rfl⟩:=FN h hv2;obtain ⟨s,hs,hv'⟩:=DU hv;exact R0.jb ((ih _ _ hs _ _ hv').1 rfl) hx _
   ·rename_i x b K hv;intro x' K' hv2;obtain ⟨rfl,rfl⟩:=FN h hv2;obtain ⟨s,hs,hv'⟩:=DU hv;exact Ao.up ((ih _ _ hs _ _ hv').2 (by simp)) hx H
   ·cases h
  ·split at h
   ·rename_i ys hx;split at h
    ·rename_i x hv;split at h
     ·rename_i hfl;intro x' K' hv2;obtain ⟨rfl,rfl⟩:=FN h hv2;obtain ⟨s,hs,hv'⟩:=DU hv;exact R0.read ((ih _ _ hs _ _ hv').1 rfl) hfl hx
     ·cases h
    ·cases h
   ·split at h
    ·cases h
    ·rename_i fn c hf;generalize hb : Ob E fn (ex P E O kp k (.c none c (Vd (CP 0 xs)) H fn.ntmps)) = z at h;unfold sF1 at h;split at h
     ·rename_i x K;obtain ⟨y,e,he,hr,hev⟩:=RO hb;obtain ⟨f1,f2,f3⟩:=VP hf;have hT : Ao P g xs H x K:=ew hE f1 f2 (hname _ _ f1) f3 (ih _ _ he) hr hev;split at h
      ·rename_i hb2;intro x' K' hv2;obtain ⟨rfl,rfl⟩:=FN h hv2;rw [Bool.and_eq_true,Bool.and_eq_true] at hb2;have hl:=Nat.le_of_ble_eq_true hb2.1.1;have hlen : (K.take H.length).length = H.length:=by rw [List.length_take];omega
       exact Ao.drop _ hT (T4 _ _) (by rw [hlen];exact hb2.1.2) (by rw [hlen];exact hb2.2) (by rw [hlen];exact Nat.ble_eq_true_of_le (Nat.le_refl _))
      ·intro x' K' hv2;obtain ⟨rfl,rfl⟩:=FN h hv2;exact hT.gc
     ·cases h
 | y id xs H =>
  simp only [ex] at h;generalize hlp : H[id]? = z at h;unfold sY at h;split at h
  ·rename_i r0;split at h
   ·cases h
   rename_i hb;rw [Bool.and_eq_true,Bool.and_eq_true] at hb;generalize h1 : ex P E O kp k (.c (some id) r0.assign (Vd (ON r0.params.toList xs r0.env)) H r0.n) = z at h;unfold sY1 at h;split at h
   ·rename_i e1 H1;split at h
    ·rename_i r1 hr1;split at h
     ·cases h
     rename_i hrdy;generalize h2 : ex P E O kp k (.c (some id) r0.body e1 (H1.set id (.lp (r1.at_ .busy r1.pending))) r0.n) = z at h;unfold sY2 at h;split at h
     ·rename_i x2 e2 H2;split at h
      ·rename_i j r2 hj hr2;split at h
       ·cases h
       rename_i hlen;have hl:=Nat.le_of_ble_eq_true hlen;have hid : id < H.length:=(List.getElem?_eq_some_iff.1 hlp).1;refine ⟨⟨r0,hlp⟩,fun x K hv => ?_⟩
       have key : ∀ S'' : St,A3 ⟨Cn e2,H2,r0.n⟩ S'' → H.length ≤ S''.H.length → S''.H[id]? = some (.lp r2) → one (.d (.b j.isNone)) (S''.H.set id (.lp (r2.at_ (Hi j) j))) = some r → YT P id xs H fun y K' => y = x ∧ K' = K:=by
        intro S'' ht hle hi ho;obtain ⟨rfl,rfl⟩:=FN ho hv;have hs0 : r0.state = .ready:=by have:=hb.1.1;revert this;cases r0.state <;> decide
        have hs1 : r1.state = .ready:=by revert hrdy;cases r1.state <;> decide
        refine V1 hlp hs0 (Nat.eq_of_beq_eq_true hb.1.2) (fun t ht => ?_) (eg (ih _ _ h1 _ ⟨r1,hr1,hs1,?_⟩))
        ·have:=List.all_eq_true.1 hb.2 t ht;simpa using this
        ·exact ih _ _ h2 _ ⟨j,hj,S'',ht,hle,Nat.lt_of_lt_of_le hid hle,r2,hi,rfl,rfl⟩
       have hlen2 : (H2.take H.length).length = H.length:=by rw [List.length_take];omega
       split at h
       ·rename_i hk;exact key ⟨[],H2.take H.length,r0.n⟩ (A3.cut rfl trivial (T4 _ _) (by rw [hlen2];exact hk) rfl) (by show H.length ≤ (H2.take H.length).length;omega) (by show (H2.take H.length)[id]? = _;rw [List.getElem?_take_of_lt hid];exact hr2) h
       ·exact key ⟨Cn e2,H2,r0.n⟩ (A3.refl _) hl hr2 h
      ·cases h
     ·cases h
    ·cases h
   ·cases h
  ·cases h
end
end
end Go.Gar
