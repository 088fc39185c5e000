/- Part 8 of a proof, put together by a program. Conditions: none beyond those that a theorem states. -/
import Derived.Test.YtkljbfejbakooaaGreatDoorB07
set_option linter.unusedSimpArgs false
set_option linter.unusedVariables false
set_option linter.unnecessarySimpa false
set_option maxHeartbeats 40000000
namespace Go.Gar
abbrev Tm:=List (List (Option AV))
def HD : List (Option AV) → Nat → Option AV
 | [],_ => none
 | x :: _,0 => x
 | _ :: r,k + 1 => HD r k
def HE : Tm → Nat → List (Option AV)
 | [],_ => []
 | c :: _,0 => c
 | _ :: r,k + 1 => HE r k
def Gr (e : Tm) (t : Nat) : Option AV:=HD (HE e (t / 8)) (t % 8)
def set1 (x : AV) : Nat → List (Option AV) → List (Option AV)
 | 0,[] => [some x]
 | 0,_ :: r => some x :: r
 | k + 1,[] => none :: set1 x k []
 | k + 1,y :: r => y :: set1 x k r
def Ma (j : Nat) (x : AV) : Nat → Tm → Tm
 | 0,[] => [set1 x j []]
 | 0,c :: r => set1 x j c :: r
 | k + 1,[] => [] :: Ma j x k []
 | k + 1,c :: r => c :: Ma j x k r
def Zm (t : Nat) (x : AV) (e : Tm) : Tm:=Ma (t % 8) x (t / 8) e
def HR (dst : Option Tmp) (x : AV) (e : Tm) : Tm :=
 match dst with
 | some d => Zm d x e
 | none => e
def V7 (e : Tm) : Nat → List (Nat × AV)
 | 0 => []
 | m + 1 => match Gr e m with
  | some x => (m,x) :: V7 e m
  | none => V7 e m
def CM (e : Tm) : List (Nat × AV):=V7 e (8 * e.length)
def TF : List (Nat × AV) → Tm
 | [] => []
 | p :: r => Zm p.1 p.2 (TF r)
def small (e : Tm) : List Nat → List (Nat × AV)
 | [] => []
 | t :: r => match Gr e t with
  | some x => (t,x) :: small e r
  | none => small e r
def UY (e : Tm) : Operand → Option AV
 | .tmp t => Gr e t
 | o => Bh [] o
def resT : List ResultVar → List Nat
 | [] => []
 | .tmp t :: r => t :: resT r
 | .cell a _ :: r => a :: resT r
def upd (t : Nat) (x : AV) : List (Nat × AV) → List (Nat × AV)
 | [] => [(t,x)]
 | p :: r => match Nat.beq p.1 t with
  | true => (t,x) :: r
  | false => p :: upd t x r
mutual
def CH (H : List A2) : AV → Option AV
 | .d x => some (.d x)
 | .u => some .u
 | .e0 => some .e0
 | .dp cs => some (.dp cs)
 | .sl id n _ => match H[id]? with
  | some (.a x) => match Nat.beq n (A9 x) with
   | true => some (.d x)
   | false => none
  | _ => none
 | .ag cs => match De H cs with
  | some l => some (.ag l)
  | none => none
 | .tup cs => match De H cs with
  | some l => some (.tup l)
  | none => none
 | .fn f a b => match De H a,De H b with
  | some p,some q => some (.fn f p q)
  | _,_ => none
 | _ => none
def De (H : List A2) : List AV → Option (List AV)
 | [] => some []
 | x :: r => match CH H x,De H r with
  | some y,some l => some (y :: l)
  | _,_ => none
end
mutual
def ee : AV → List Nat
 | .sl id _ _ => [id]
 | .ag cs | .tup cs => K5 cs
 | .fn _ a b => K5 a ++ K5 b
 | _ => []
def K5 : List AV → List Nat
 | [] => []
 | x :: r => ee x ++ K5 r
end
def Z5 (id : Nat) (x : D) : Option AV → Option AV
 | some y => some (y.Ef id x)
 | none => none
def Qc (id : Nat) (x : D) (e : Tm) : Tm:=e.map fun c => c.map (Z5 id x)
def IM : List Nat → Tm → List A2 → Tm × List A2
 | [],e,H => (e,H)
 | id :: r,e,H => match H[id]? with
  | some (.a x) => IM r (Qc id x e) (Dg id x 0 H)
  | _ => IM r e H
def e9 (E : Nat → Option AT) (e : Nat) : D :=
 match E e with
 | some z => match z.k with
  | .int .u8 => .by []
  | .int .i64 => .is []
  | _ => .sl z.size []
 | none => .np
def W7 (E : Nat → Option AT) : Nat → Nat → List D
 | 0,_ => []
 | k + 1,t => match E t with
  | some y => match y.k with
   | .st fs => fs.flatMap fun f => W7 E k f.2
   | .arr n e => (List.replicate n (W7 E k e)).flatten
   | .sl e => [e9 E e]
   | _ => y.zero.map fun _ => .np
  | none => []
def em : D → AV → AV
 | .by [],.e0 => .d (.by [])
 | .is [],.e0 => .d (.is [])
 | .sl n [],.e0 => .d (.sl n [])
 | _,x => x
def cy : List D → List AV → List AV
 | q :: l,x :: r => em q x :: cy l r
 | _,r => r
def e0A (l : List D) : AV → AV
 | .ag cs => .ag (cy l cs)
 | x => match l with
  | [q] => em q x
  | _ => x
def PY (l : List D) (env : List (Nat × AV)) : List (Nat × Operand) → List (Nat × AV)
 | [] => env
 | p :: r => match p.2 with
  | .tmp t => match get env t with
   | some x => PY l (upd t (e0A l x) env) r
   | none => PY l env r
  | _ => PY l env r
def U7 (E : Nat → Option AT) (env : List (Nat × AV)) (op : Op) : Option AV :=
 match op with
 | .buildSlice t len ps => match E t with
  | some y => match y.k with
   | .sl e => match GG E (PY (W7 E 8 e) env ps.toList) [] op with
    | some (true,x) => some x
    | _ => none
   | _ => none
  | none => none
 | _ => none
def op1 (E : Nat → Option AT) (env : List (Nat × AV)) (H : List A2) (op : Op) : Option (AV × List A2) :=
 match (match op with | .call _ => Jg E env H op | _ => none) with
 | some (true,q) => some (.sl H.length (A9 q) (An q),H ++ [.a q])
 | _ => match U7 E env op with
 | some x => some (x,H)
 | none => match GG E env H op with
  | some (true,x) => some (x,H)
  | _ => match VG E env H op with
   | some (true,f,b) => some (f H.length,H ++ [b])
   | _ => match Y6 E env H op with
    | some (true,x,H') => some (x,H')
    | _ => match Jj env op with
     | some (true,x) => some (x,H)
     | _ => match PU E env H op with
      | some (true,H') => some (.u,H')
      | _ => match U8 E env op with
       | some (true,f,b) => some (f H.length,H ++ [b])
       | _ => match PQ E env op with
        | some r => some (.d (.b r),H)
        | none => match Yv E env H op with
         | some (true,H') => some (.u,H')
         | _ => none
def eo (E : Nat → Option AT) (env : List (Nat × AV)) (H : List A2) (op : Op) : Option (Bool × AV) :=
 match op with
 | .call _ => match Jg E env H op with
  | some _ => none
  | none => GG E env H op
 | _ => GG E env H op
def eE (P : Program) (E : Nat → Option AT) (g : Nat) : Bool :=
 match P.funcs[g]? with
 | some fn => match fn.resultTypes.toList with
  | [t] => match E t with
   | some y => match y.k with
    | .int _ => true
    | _ => match y.zero with
     | [.bool _] => true
     | [.string _] => true
     | _ => false
   | none => false
  | _ => false
 | none => false
def WT : AV → Bool
 | .d x => flat x
 | _ => false
def R8 (op : Op) : Bool :=
 match op with
 | .move _ | .assign _ | .pick _ _ _ | .unOp _ _ _ | .makeFunc _ _ _ | .extract _ _ | .field _ _ _ | .index _ _ _ | .build _ _ | .slice _ _ _ _ _ => true
 | _ => false
def TM (ops : Array Oper) (ks : List Kd) (n : Nat) : List (Nat × Nat) :=
 (List.range n).flatMap fun i => match OF ks[i]? with
  | false => []
  | true => (List.range n).filterMap fun k => match Pn ks[k]? && !((Nat.blt k i && (MQ ops i).testBit k) || (Nat.blt i k && (MQ ops k).testBit i)) with
   | true => some (i,k)
   | false => none
mutual
def D.FH : D → D → Bool
 | .b x,.b y => x == y
 | .i k n,.i k' n' => decide (k = k') && decide (n = n')
 | .s l,.s l' => decide (l = l')
 | .by l,.by l' => decide (l = l')
 | .is l,.is l' => decide (l = l')
 | .agg p,.agg q => D.FZ p q
 | .tup p,.tup q => D.FZ p q
 | .sl n p,.sl m q => Nat.beq n m && D.Mt p q
 | .np,.np => true
 | .nf,.nf => true
 | .ni,.ni => true
 | .nm,.nm => true
 | _,_ => false
def D.FZ : List D → List D → Bool
 | [],[] => true
 | x :: r,y :: l => D.FH x y && D.FZ r l
 | _,_ => false
def D.Mt : List (List D) → List (List D) → Bool
 | [],[] => true
 | x :: r,y :: l => D.FZ x y && D.Mt r l
 | _,_ => false
end
mutual
def AV.FH : AV → AV → Bool
 | .d x,.d y => D.FH x y
 | .u,.u => true
 | .e0,.e0 => true
 | .ptr a b c,.ptr a' b' c' => Nat.beq a a' && Nat.beq b b' && Nat.beq c c'
 | .sl a b c,.sl a' b' c' => Nat.beq a a' && Nat.beq b b' && Nat.beq c c'
 | .bs i j k m n,.bs i' j' k' m' n' => Nat.beq i i' && Nat.beq j j' && Nat.beq k k' && Nat.beq m m' && Nat.beq n n'
 | .ep i j k m n,.ep i' j' k' m' n' => Nat.beq i i' && Nat.beq j j' && Nat.beq k k' && Nat.beq m m' && Nat.beq n n'
 | .ag p,.ag q => AV.FZ p q
 | .tup p,.tup q => AV.FZ p q
 | .fn (.func f) a b,.fn (.func g) p q => Nat.beq f g && AV.FZ a p && AV.FZ b q
 | .yl p,.yl q => Nat.beq p q
 | .mp p,.mp q => Nat.beq p q
 | .dp p,.dp q => D.FZ p q
 | _,_ => false
def AV.FZ : List AV → List AV → Bool
 | [],[] => true
 | x :: r,y :: l => AV.FH x y && AV.FZ r l
 | _,_ => false
end
def cz : List (D × AV) → List (D × AV) → Bool
 | [],[] => true
 | p :: r,q :: l => D.FH p.1 q.1 && AV.FH p.2 q.2 && cz r l
 | _,_ => false
def A2.FH : A2 → A2 → Bool
 | .gone,.gone => true
 | .c p,.c q => AV.FZ p q
 | .a x,.a y => D.FH x y
 | .m p,.m q => cz p q
 | _,_ => false
def O4 : A2 → A2 → A2
 | .lp r0,.lp r => .lp { r0 with state:=r.state,pending:=r.pending }
 | _,b => b
def Iw : List A2 → List A2 → List A2
 | b0 :: r0,b :: r => O4 b0 b :: Iw r0 r
 | _,l => l
def stB : LoopState → LoopState → Bool
 | .ready,.ready | .busy,.busy | .done,.done | .exhausted,.exhausted => true
 | _,_ => false
def bF : A2 → A2 → A2 → Bool
 | .lp _,.lp r,.lp q => stB r.state q.state && r.pending.isNone && q.pending.isNone
 | .lp _,_,_ => false
 | _,x,y => A2.FH x y
def MU : List A2 → List A2 → List A2 → Bool
 | b :: r,x :: l,y :: m => bF b x y && MU r l m
 | [],x :: l,y :: m => A2.FH x y && MU [] l m
 | _,[],[] => true
 | _,_,_ => false
def J6 (a b : Nat) (e1 e2 : Tm) : Nat → List (Nat × AV)
 | 0 => []
 | t + 1 => match Gr e1 t,Gr e2 t with
  | some x,some y => match AV.FH (y.ren (sw a b)) x with
   | true => (t,x) :: J6 a b e1 e2 t
   | false => J6 a b e1 e2 t
  | _,_ => J6 a b e1 e2 t
def Pq (H : List A2) (e1 : Tm) (H1 : List A2) (e2 : Tm) (H2 : List A2) : List (Nat × Nat) → Option (Tm × List A2)
 | [] => none
 | p :: l => match Nat.ble H.length p.1 && Nat.ble H.length p.2 && Nat.blt p.1 H1.length && Nat.blt p.2 H1.length && Nat.beq H1.length H2.length && MU H (V3 p.1 p.2 H2) H1 with
  | true => some (TF (J6 p.1 p.2 e1 e2 (8 * e1.length)),Iw H H1)
  | false => Pq H e1 H1 e2 H2 l
def OK (op : Op) : Bool :=
 match op with
 | .alloc _ | .box _ _ | .makeSlice _ _ _ | .makeMap _ _ | .call _ => true
 | _ => false
def Yr (op : Op) : Bool :=
 match op with
 | .alloc _ | .box _ _ | .makeSlice _ _ _ | .makeMap _ _ => true
 | _ => false
def Zw (OK : Op → Bool) (ops : Array Oper) : List (Nat × Nat) :=
 (List.range ops.toList.length).flatMap fun k => match ops.toList[k]? with
  | some o => match OK o.op with
   | true => (List.range k).filterMap fun i => match ops.toList[i]? with
    | some q => match OK q.op && !(MQ ops k).testBit i with
     | true => some (i,k)
     | false => none
    | none => none
   | false => []
  | none => []
def bm (a b : Nat) : List (Nat × Nat):=(List.range' a (b - a)).flatMap fun j => (List.range' a (j - a)).map fun i => (i,j)
def dOK (ops : Array Oper) (ks : List Kd) : Bool:=FY ops ks.reverse (TM ops ks.reverse ops.toList.length)
def O2 (E : Nat → Option AT) (ops : Array Oper) (rs : List Rc) (Hf : List A2) : List (Nat × Nat) → Bool
 | [] => true
 | p :: l => (match ops.toList[p.1]?,rs[p.1]? with
  | some o,some r => match GG E r.e (hAt rs Hf (if Nat.blt p.2 p.1 then p.2 else p.2 + 1)) o.op with
   | some (true,y) => AV.FH y r.x
   | _ => false
  | _,_ => false) && O2 E ops rs Hf l
def aJ (env : List (Nat × AV)) (c a b : Operand) : Option (Bool × AV) :=
 match Bh env c with
 | some (.d (.b t)) => match t with
  | true => tt (Bh env a)
  | false => tt (Bh env b)
 | _ => none
def q1 (x : Option AV) (f : AV → Option (Bool × AV)) : Option (Bool × AV) :=
 match x with
 | some x => f x
 | none => none
def q2 (x y : Option AV) (f : AV → AV → Option (Bool × AV)) : Option (Bool × AV) :=
 match x,y with
 | some x,some y => f x y
 | _,_ => none
def evq (E : Nat → Option AT) (env : List (Nat × AV)) (H : List A2) (op : Op) : Option (Bool × AV) :=
 match op with
 | .move x | .assign x => tt (Bh env x)
 | .pick c a b => aJ env c a b
 | .load t a => q1 (Bh env a) (La E H t)
 | .nilCheck a => q1 (Bh env a) (Sx H)
 | .fieldAddr s a f => q1 (Bh env a) fun x => FK E H s x f
 | .field t a f => q1 (Bh env a) fun x => Kl E t x f
 | .indexAddr t a i => q2 (Bh env a) (Bh env i) (FL E H t)
 | .index t a i => q2 (Bh env a) (Bh env i) (Km E t)
 | .extract a i => q1 (Bh env a) fun x => Hc x i
 | op => GG E env H op
theorem bK {E : Nat → Option AT} {env : List (Nat × AV)} {H : List A2} {op : Op} : evq E env H op = GG E env H op:=by
 cases op <;> first | rfl | (simp only [evq,GG,aJ,q1,q2])
def opA (E : Nat → Option AT) (env : List (Nat × AV)) (H : List A2) (op : Op) : Option (AV × List A2) :=
 match VG E env H op with
 | some (true,f,b) => some (f H.length,H ++ [b])
 | _ => op1 E env H op
def opW (E : Nat → Option AT) (env : List (Nat × AV)) (H : List A2) (op : Op) : Option (AV × List A2) :=
 match Y6 E env H op with
 | some (true,x,H') => some (x,H')
 | _ => op1 E env H op
def opQ (E : Nat → Option AT) (env : List (Nat × AV)) (H : List A2) (op : Op) : Option (AV × List A2) :=
 match evq E env H op with
 | some (true,x) => some (x,H)
 | _ => op1 E env H op
def dA (E : Nat → Option AT) (env : List (Nat × AV)) (H : List A2) (op : Op) : Option (AV × List A2) :=
 match op with
 | .alloc _ | .box _ _ => opA E env H op
 | .store _ _ _ => opW E env H op
 | .call _ | .buildSlice _ _ _ | .makeSlice _ _ _ | .makeMap _ _ => op1 E env H op
 | _ => opQ E env H op
mutual
def AV.ids : AV → List Nat
 | .ptr id _ _ | .sl id _ _ | .bs id _ _ _ _ | .ep id _ _ _ _ | .yl id | .mp id => [id]
 | .ag cs | .tup cs => AV.Wg cs
 | .fn _ a b => AV.Wg a ++ AV.Wg b
 | _ => []
def AV.Wg : List AV → List Nat
 | [] => []
 | x :: r => x.ids ++ AV.Wg r
end
def A2.ids : A2 → List Nat
 | .c cs => AV.Wg cs
 | .m es => es.flatMap fun p => p.2.ids
 | .lp r => r.env.flatMap fun p => p.2.ids
 | _ => []
def bg (n : Nat) : List Nat → Bool
 | [] => false
 | m :: r => match Nat.beq n m with
  | true => true
  | false => bg n r
def reach (n0 : Nat) (K : List A2) : Nat → List Nat → List Nat → List Nat
 | 0,_,seen => seen
 | _,[],seen => seen
 | k + 1,id :: l,seen => match Nat.blt id n0 || bg id seen with
  | true => reach n0 K k l seen
  | false => match K[id]? with
   | some b => reach n0 K k (b.ids ++ l) (id :: seen)
   | none => reach n0 K k l seen
def Ph (n0 : Nat) (l : List Nat) : Nat → List A2 → List A2
 | _,[] => []
 | i,b :: r => (match Nat.blt i n0 || bg i l || b.UI with
  | true => b
  | false => .gone) :: Ph n0 l (i + 1) r
def be (m : Nat) : List Nat → Nat
 | [] => m
 | a :: r => match Nat.ble m a with
  | true => be (a + 1) r
  | false => be m r
def er (n0 : Nat) (x : AV) (K : List A2) : List A2 :=
 let l:=reach n0 K 4096 x.ids [];let K':=(Ph n0 l 0 K).take (be n0 l)
 match Nat.ble n0 K'.length && AY K'.length K' && x.ok K'.length with
 | true => K'
 | false => K
inductive Rq
 | c (ro : Option Nat) (c : Code) (e : Tm) (H : List A2) (n : Nat)
 | lo (ro : Option Nat) (c : Code) (e : Tm) (H : List A2) (n : Nat)
 | sc (ro : Option Nat) (c0 c : Code) (e : Tm) (H : List A2) (n : Nat)
 | l (ro : Option Nat) (ops : Array Oper) (rest : List Oper) (e : Tm) (H : List A2) (n : Nat)
 | t (ro : Option Nat) (ops : Array Oper) (l : List (Nat × Nat)) (e : Tm) (H : List A2) (n : Nat)
 | d (ops : Array Oper) (acc : List Rc) (ks : List Kd) (rest : List Oper) (e : Tm) (H : List A2) (n : Nat)
 | f (g : Nat) (xs : List AV) (H : List A2)
 | p (g : Nat) (xs : List AV) (b : Bool)
 | y (id : Nat) (xs : List AV) (H : List A2)
abbrev Rz:=Exit × Tm × List A2
def one (x : AV) (H : List A2) : Option Rz:=some (.normal,[[some x]],H)
def Mp (E : Nat → Option AT) (fn : Func) : Option Rz → Option (AV × List A2)
 | some (.ret,e,H) | some (.normal,e,H) => match CZ E (small e (resT fn.results.toList)) H fn.results.toList with
  | some (true,x) => some (x,H)
  | _ => none
 | _ => none
def IY : Option Rz → Option (AV × List A2)
 | some (_,[[some x]],H) => some (x,H)
 | _ => none
def Z1 (P : Program) (g n : Nat) : Option (Func × Code) :=
 match P.funcs[g]? with
 | some fn => match fn.body with
  | some c => match Nat.ble n fn.ntmps with
   | true => some (fn,c)
   | false => none
  | none => none
 | none => none
def bM (P : Program) (E : Nat → Option AT) (e : Tm) (H : List A2) (g : Nat) (xs : List AV) : Tm × List A2 :=
 match eE P E g with
 | true => (e,H)
 | false => match De H xs with
  | some _ => match K5 xs with
   | [] => (e,H)
   | l => IM l e H
  | none => (e,H)
section
variable (P : Program) (E : Nat → Option AT) (O : Nat → List AV → Option AV) (kp : Nat → Bool) (go : Rq → Option Rz)
def eZ (ro : Option Nat) (b : Code) (n : Nat) : Option Rz → Option Rz
 | some (.normal,e,H) => go (.c ro b e H n)
 | r => r
def aM (ro : Option Nat) (a b : Code) (e : Tm) (H : List A2) (n : Nat) : Option AV → Option Rz
 | some (.d (.b t)) => match t with
  | true => go (.c ro a e H n)
  | false => go (.c ro b e H n)
 | _ => none
def eW (id : Nat) : Option Rz → Option Rz
 | some (.exit i,e,H) => match Nat.beq i id with
  | true => some (.normal,e,H)
  | false => some (.exit i,e,H)
 | r => r
def aN (ro : Option Nat) (ops : Array Oper) (e : Tm) (H : List A2) (n : Nat) : List (Nat × Nat) → Option Rz
 | [] => match go (.d ops [] [] ops.toList e H n) with
  | some r => some r
  | none => go (.t ro ops (Zw OK ops) e H n)
 | l => go (.t ro ops l e H n)
def eX (ro : Option Nat) (e : Tm) (id n : Nat) (K : List A2) : Option A2 → Option Rz
 | some (.lp r) => match r.state == .busy with
  | true => none
  | false => match r.pending with
   | none => some (.normal,e,K.set id (.lp (r.at_ .exhausted r.pending)))
   | some c => go (.c ro c e (K.set id (.lp (r.at_ .exhausted r.pending))) n)
 | _ => none
def eY (ro : Option Nat) (ps : Array Tmp) (asg body : Code) (e : Tm) (H : List A2) (n : Nat) : Option AV → Option Rz
 | some (.fn (.func f) first cap) => match IY (go (.f f (first ++ [.yl H.length] ++ cap) (H ++ [.lp ⟨.ready,none,0,n,CM e,ps,asg,body⟩]))) with
  | some (_,K) => eX go ro e H.length n K K[H.length]?
  | none => none
 | _ => none
def sC (ro : Option Nat) (c : Code) (e : Tm) (H : List A2) (n : Nat) : Option Rz :=
 match c with
 | .skip | .label _ => some (.normal,e,H)
 | .exit id => some (.exit id,e,H)
 | .goto l => some (.goto l,e,H)
 | .ret => some (.ret,e,H)
 | .seq a b => eZ go ro b n (go (.c ro a e H n))
 | .cond o a b => aM go ro a b e H n (UY e o)
 | .block id b => eW id (go (.c ro b e H n))
 | .loop b => go (.lo ro b e H n)
 | .scope b => go (.sc ro b b e H n)
 | .region _ ops dr => match dr with
  | false => go (.l ro ops ops.toList e H n)
  | true => aN go ro ops e H n (Zw Yr ops)
 | .rangeFunc g ps asg body => eY go ro ps asg body e H n (UY e g)
 | .refuse _ => none
def sLo (ro : Option Nat) (c : Code) (n : Nat) : Option Rz → Option Rz
 | some (.normal,e,H) => go (.lo ro c e H n)
 | r => r
def sSc (ro : Option Nat) (c0 : Code) (n : Nat) : Option Rz → Option Rz
 | some (.goto l,e,H) => match findLabel c0 l with
  | some rest => go (.sc ro c0 rest e H n)
  | none => some (.goto l,e,H)
 | r => r
def aL (ro : Option Nat) (ops : Array Oper) (o : Oper) (rest : List Oper) (n : Nat) (e : Tm) (H : List A2) : Option Rz :=
 match A7 ops (small e (looks ops o)) o,Am (small e (looks ops o)) o.op with
 | some true,some (g,ys) => match IY (go (.f g ys H)) with
  | some (x,H2) => go (.l ro ops rest (HR o.dst x e) H2 n)
  | none => none
 | _,_ => none
def sL4 (ro : Option Nat) (ops : Array Oper) (o : Oper) (rest : List Oper) (n : Nat) (e : Tm) (H : List A2) : Option (Nat × List AV) → Option Rz
 | some (g,xs) => match bM P E e H g xs with
  | (e',H') => aL go ro ops o rest n e' H'
 | none => none
def sL3 (ro : Option Nat) (ops : Array Oper) (o : Oper) (rest : List Oper) (n : Nat) (e : Tm) (H : List A2) : Option (Nat × List AV) → Option Rz
 | some (id,xs) => match IY (go (.y id xs H)) with
  | some (x,H') => go (.l ro ops rest (HR o.dst x e) H' n)
  | none => none
 | none => sL4 P E go ro ops o rest n e H (Am (small e (looks ops o)) o.op)
def sL2 (ro : Option Nat) (ops : Array Oper) (o : Oper) (rest : List Oper) (n : Nat) (e : Tm) (H : List A2) : Option (AV × List A2) → Option Rz
 | some (x,H') => go (.l ro ops rest (HR o.dst x e) H' n)
 | none => sL3 P E go ro ops o rest n e H (E3 (small e (looks ops o)) o.op)
def sL1 (ro : Option Nat) (ops : Array Oper) (o : Oper) (rest : List Oper) (n : Nat) (e : Tm) (H : List A2) : Option Bool → Option Rz
 | none => none
 | some false => go (.l ro ops rest (HR o.dst (.d (.tup [])) e) H n)
 | some true => sL2 P E go ro ops o rest n e H (dA E (small e (looks ops o)) H o.op)
def sL (ro : Option Nat) (ops : Array Oper) (e : Tm) (H : List A2) (n : Nat) : List Oper → Option Rz
 | [] => some (.normal,e,H)
 | o :: rest => match AD o.dst n with
  | false => none
  | true => sL1 P E go ro ops o rest n e H (A7 ops (small e (looks ops o)) o)
def aO (ro : Option Nat) (ops : Array Oper) (l : List (Nat × Nat)) (e : Tm) (H : List A2) (n : Nat) : Option Rz → Option Rz → Option Rz
 | some (_,e1,H1),some (_,e2,H2) => match Pq H e1 H1 e2 H2 (bm H.length H1.length) with
  | some (e',H') => some (.normal,e',H')
  | none => go (.t ro ops l e H n)
 | _,_ => go (.t ro ops l e H n)
def sT (ro : Option Nat) (ops : Array Oper) (e : Tm) (H : List A2) (n : Nat) : List (Nat × Nat) → Option Rz
 | [] => none
 | p :: l => match Nat.blt p.1 p.2 && Nat.blt p.2 ops.toList.length && Ir ops && AY H.length H with
  | false => none
  | true => aO go ro ops l e H n (go (.d (Md p.1 p.2 ops) [] [] (Md p.1 p.2 ops).toList e H n)) (go (.d (Me p.1 p.2 ops) [] [] (Me p.1 p.2 ops).toList e H n))
def K4 (ops : Array Oper) (acc : List Rc) (ks : List Kd) (o : Oper) (rest : List Oper) (n : Nat) (e : Tm) (H : List A2) (x : AV) (k : Kd) (H' : List A2) : Option Rz :=
 go (.d ops (⟨small e (looks ops o),H,x,k⟩ :: acc) (k :: ks) rest (HR o.dst x e) H' n)
def sD5 (ops : Array Oper) (acc : List Rc) (ks : List Kd) (o : Oper) (rest : List Oper) (n : Nat) (e : Tm) (H : List A2) : Option (Nat × List AV) → Option Rz
 | none => none
 | some (g,xs) => match De [] xs with
  | some ys => match IY (go (.p g ys false)) with
   | some (x,[]) => K4 go ops acc ks o rest n e H x .any H
   | some (x,b :: K) => K4 go ops acc ks o rest n e H (x.ren (rn [] H.length)) .eff (H ++ Dp (rn [] H.length) (b :: K))
   | none => none
  | none => match IY (go (.f g xs H)) with
   | some (x,H') => K4 go ops acc ks o rest n e H x .eff H'
   | none => none
def sD4 (ops : Array Oper) (acc : List Rc) (ks : List Kd) (o : Oper) (rest : List Oper) (n : Nat) (e : Tm) (H : List A2) : Option (AV × List A2) → Option Rz
 | some (x,H') => K4 go ops acc ks o rest n e H x .eff H'
 | none => sD5 go ops acc ks o rest n e H (Am (small e (looks ops o)) o.op)
def sD3 (ops : Array Oper) (acc : List Rc) (ks : List Kd) (o : Oper) (rest : List Oper) (n : Nat) (e : Tm) (H : List A2) : Option (Bool × AV) → Option Rz
 | some (true,x) => match R8 o.op with
  | true => K4 go ops acc ks o rest n e H x .any H
  | false => K4 go ops acc ks o rest n e H x .quiet H
 | _ => sD4 go ops acc ks o rest n e H (dA E (small e (looks ops o)) H o.op)
def sD2 (ops : Array Oper) (acc : List Rc) (ks : List Kd) (o : Oper) (rest : List Oper) (n : Nat) (e : Tm) (H : List A2) : Option AV → Option Rz
 | some x => K4 go ops acc ks o rest n e H x .any H
 | none => sD3 E go ops acc ks o rest n e H (eo E (small e (looks ops o)) H o.op)
def sD1 (ops : Array Oper) (acc : List Rc) (ks : List Kd) (o : Oper) (rest : List Oper) (n : Nat) (e : Tm) (H : List A2) : Option Bool → Option Rz
 | none => none
 | some false => K4 go ops acc ks o rest n e H (.d (.tup [])) .skip H
 | some true => sD2 E go ops acc ks o rest n e H (U7 E (small e (looks ops o)) o.op)
def sD (ops : Array Oper) (acc : List Rc) (ks : List Kd) (e : Tm) (H : List A2) (n : Nat) : List Oper → Option Rz
 | [] => match dOK ops ks && O2 E ops acc.reverse H (TM ops ks.reverse ops.toList.length) with
  | true => some (.normal,e,H)
  | false => none
 | o :: rest => match AD o.dst n with
  | false => none
  | true => sD1 E go ops acc ks o rest n e H (A7 ops (small e (looks ops o)) o)
def sP1 (b : Bool) : Option (AV × List A2) → Option Rz
 | some (x,K) => match CH K x,b && !x.ok 0 with
  | some y,false => one y []
  | _,_ => match er 0 x K with
   | [] => none
   | b :: l => one x (b :: l)
 | none => none
def sP (g : Nat) (xs : List AV) (b : Bool) : Option AV → Option Rz
 | some y => one y []
 | none => match Z1 P g xs.length with
  | none => none
  | some (fn,c) => sP1 b (Mp E fn (go (.c none c (TF (Bz 0 xs)) [] fn.ntmps)))
def sF1 (H : List A2) : Option (AV × List A2) → Option Rz
 | some (x,K) => match Nat.ble H.length K.length && AY H.length (K.take H.length) && x.ok H.length with
  | true => one x (K.take H.length)
  | false => one x (er H.length x K)
 | none => none
def sF (g : Nat) (xs : List AV) (H : List A2) : Option Rz :=
 match De [] xs with
 | some ys => match IY (go (.p g ys (kp g))) with
  | some (x,[]) => one x H
  | some (x,b :: K) => one (x.ren (rn [] H.length)) (H ++ Dp (rn [] H.length) (b :: K))
  | none => none
 | none => match De H xs with
  | some ys => match IY (go (.p g ys false)) with
   | some (x,[]) => match WT x with
    | true => one x H
    | false => none
   | _ => none
  | none => match Z1 P g xs.length with
   | none => none
   | some (fn,c) => sF1 H (Mp E fn (go (.c none c (TF (Bz 0 xs)) H fn.ntmps)))
def sY2 (id : Nat) (H : List A2) : Option Rz → Option Rz
 | some (x,_,H2) => match RE x,H2[id]? with
  | some j,some (.lp r2) => match Nat.ble H.length H2.length with
   | false => none
   | true => match AY H.length (H2.take H.length) with
    | true => one (.d (.b j.isNone)) ((H2.take H.length).set id (.lp (r2.at_ (GY j) j)))
    | false => one (.d (.b j.isNone)) (H2.set id (.lp (r2.at_ (GY j) j)))
  | _,_ => none
 | none => none
def sY1 (id : Nat) (H : List A2) (body : Code) (n : Nat) : Option Rz → Option Rz
 | some (.normal,e1,H1) => match H1[id]? with
  | some (.lp r1) => match r1.state == .ready with
   | false => none
   | true => sY2 id H (go (.c (some id) body e1 (H1.set id (.lp (r1.at_ .busy r1.pending))) n))
  | _ => none
 | _ => none
def sY (id : Nat) (xs : List AV) (H : List A2) : Option A2 → Option Rz
 | some (.lp r) => match r.state == .ready && Nat.beq xs.length r.params.size && r.params.toList.all (fun t => Nat.blt t r.n) with
  | false => none
  | true => sY1 go id H r.body r.n (go (.c (some id) r.assign (TF (MY r.params.toList xs r.env)) H r.n))
 | _ => none
end
def ex (P : Program) (E : Nat → Option AT) (O : Nat → List AV → Option AV) (kp : Nat → Bool) : Nat → Rq → Option Rz
 | 0,_ => none
 | k + 1,q => match q with
  | .c ro c e H n => sC (ex P E O kp k) ro c e H n
  | .lo ro c e H n => sLo (ex P E O kp k) ro c n (ex P E O kp k (.c ro c e H n))
  | .sc ro c0 c e H n => sSc (ex P E O kp k) ro c0 n (ex P E O kp k (.c ro c e H n))
  | .l ro ops rest e H n => sL P E (ex P E O kp k) ro ops e H n rest
  | .t ro ops l e H n => sT (ex P E O kp k) ro ops e H n l
  | .d ops acc ks rest e H n => sD E (ex P E O kp k) ops acc ks e H n rest
  | .p g xs b => sP P E (ex P E O kp k) g xs b (O g xs)
  | .f g xs H => sF P E kp (ex P E O kp k) g xs H
  | .y id xs H => sY (ex P E O kp k) id xs H H[id]?
end Go.Gar
namespace Go.Gar
theorem T4 {t : Nat} {x : AV} : ∀ {e : List (Nat × AV)} {u : Nat},get (upd t x e) u = get ((t,x) :: e) u
 | [],u => rfl
 | (k,v) :: r,u => by
  simp only [upd,get]
  cases h : Nat.beq k t with
  | true =>
   have e:=Nat.eq_of_beq_eq_true h;subst e;simp only [get];split <;> simp_all
  | false =>
   simp only [get];have hk : k ≠ t:=fun e => by rw [e,Nat.beq_refl] at h;cases h
   split
   ·rename_i h1;have e1:=Nat.eq_of_beq_eq_true h1;subst e1
    have h2 : Nat.beq t k = false:=by
     cases h3 : Nat.beq t k with
     | false => rfl
     | true => exact absurd (Nat.eq_of_beq_eq_true h3).symm hk
    rw [h2];rfl
   ·rw [T4 (e:=r),get]
theorem Hh {x : AV} : ∀ {j i : Nat} {c : List (Option AV)},HD (set1 x j c) i = if i = j then some x else HD c i
 | 0,i,[] => by cases i <;> simp [set1,HD]
 | 0,i,y :: r => by cases i <;> simp [set1,HD]
 | j + 1,i,[] => by
  cases i with
  | zero => simp [set1,HD]
  | succ i => simp only [set1,HD];rw [Hh];simp [HD]
 | j + 1,i,y :: r => by
  cases i with
  | zero => simp [set1,HD]
  | succ i => simp only [set1,HD];rw [Hh];simp
theorem JA (i : Nat) : HE [] i = []:=by cases i <;> rfl
theorem Js {x : AV} {j : Nat} : ∀ {k i : Nat} {e : Tm},HE (Ma j x k e) i = if i = k then set1 x j (HE e i) else HE e i
 | 0,i,[] => by cases i <;> simp [Ma,HE]
 | 0,i,y :: r => by cases i <;> simp [Ma,HE]
 | k + 1,i,[] => by
  cases i with
  | zero => simp [Ma,HE]
  | succ i => simp only [Ma,HE];rw [Js];simp [JA]
 | k + 1,i,y :: r => by
  cases i with
  | zero => simp [Ma,HE]
  | succ i => simp only [Ma,HE];rw [Js];simp
variable {t : Nat} {x : AV} {e : Tm}
theorem NV {u : Nat} : Gr (Zm t x e) u = if u = t then some x else Gr e u:=by
 simp only [Gr,Zm,Js]
 by_cases h : u = t
 ·subst h;simp [Hh]
 ·by_cases h1 : u / 8 = t / 8
  ·rw [if_pos h1,Hh,if_neg (by omega),if_neg h]
  ·rw [if_neg h1,if_neg h]
theorem Xx : ∀ {e : Tm} {t : Nat},8 * e.length ≤ t → Gr e t = none:=by
 have h : ∀ {e : Tm} {k : Nat},e.length ≤ k → HE e k = []:=by
  intro e
  induction e with
  | nil => intro k _;exact JA k
  | cons c r ih =>
   intro k hk
   cases k with
   | zero => simp at hk
   | succ k => exact ih (by simpa using hk)
 intro e t ht;simp only [Gr];rw [h (by omega)];rfl
theorem Pf {e : Tm} : ∀ {m t : Nat},get (V7 e m) t = if t < m then Gr e t else none
 | 0,t => by simp [V7,get]
 | m + 1,t => by
  have ih:=Pf (e:=e) (m:=m) (t:=t);simp only [V7];split
  ·rename_i x hx;simp only [get];split
   ·rename_i hb;have:=Nat.eq_of_beq_eq_true hb;subst this;rw [if_pos (by omega),hx]
   ·rename_i hb;have hne : m ≠ t:=fun e => hb (by rw [e,Nat.beq_refl])
    rw [ih]
    by_cases h : t < m
    ·rw [if_pos h,if_pos (by omega)]
    ·rw [if_neg h,if_neg (by omega)]
  ·rename_i hx;rw [ih]
   by_cases h : t < m
   ·rw [if_pos h,if_pos (by omega)]
   ·by_cases h2 : t = m
    ·subst h2;rw [if_neg h,if_pos (by omega),hx]
    ·rw [if_neg h,if_neg (by omega)]
theorem E4 : get (CM e) t = Gr e t:=by
 unfold CM;rw [Pf];split
 ·rfl
 ·rw [Xx (by omega)]
theorem O9 : ∀ {l : List (Nat × AV)} {t : Nat},Gr (TF l) t = get l t
 | [],t => by simp [TF,Gr,JA,HD,get]
 | p :: r,t => by
  simp only [TF,get];rw [NV,O9 (l:=r)];split
  ·rename_i h;subst h;rw [if_pos (Nat.beq_refl _)]
  ·rename_i h;rw [if_neg (fun e => h (Nat.eq_of_beq_eq_true e).symm)]
theorem N1 {dst : Option Tmp} {u : Nat} : get (CM (HR dst x e)) u = get (AU dst x (CM e)) u:=by
 cases dst with
 | none => rfl
 | some d =>
  simp only [HR,AU,get];rw [E4,NV,E4];split
  ·rename_i h;subst h;rw [if_pos (Nat.beq_refl _)]
  ·rename_i h;rw [if_neg (fun e => h (Nat.eq_of_beq_eq_true e).symm)]
theorem JN {e : Tm} : ∀ {l : List Nat},small e l = Cm l (CM e)
 | [] => rfl
 | t :: r => by
  simp only [small,Cm];rw [E4]
  cases Gr e t with
  | none => exact JN
  | some x => simp only [JN (l:=r)]
variable {l : List Nat}
theorem Dt (h : get (small e l) t = some x) : get (CM e) t = some x:=by
 rw [JN] at h;exact (GW h).2
theorem WY {id : Nat} {x : D} : get (CM (Qc id x e)) t = get (MW id x (CM e)) t:=by
 have h1 : ∀ {c : List (Option AV)} {k : Nat},HD (c.map (Z5 id x)) k = (HD c k).map (AV.Ef id x):=by
  intro c
  induction c with
  | nil => intro k;simp [HD]
  | cons y r ih =>
   intro k
   cases k with
   | zero => cases y <;> simp [HD,Z5]
   | succ k => simpa [HD] using ih
 have h2 : ∀ {e : Tm} {k : Nat},HE (Qc id x e) k = (HE e k).map (Z5 id x):=by
  intro e
  induction e with
  | nil => intro k;simp [Qc,JA]
  | cons y r ih =>
   intro k
   cases k with
   | zero => simp [Qc,HE]
   | succ k => simpa [Qc,HE] using ih
 have h3 : ∀ {l : List (Nat × AV)},get (MW id x l) t = (get l t).map (AV.Ef id x):=by
  intro l
  induction l with
  | nil => rfl
  | cons p r ih =>
   simp only [MW,List.map_cons,get] at ih ⊢;split
   ·rfl
   ·exact ih
 rw [E4,h3,E4];simp only [Gr];rw [h2,h1]
theorem OR {o : Operand} (h : UY e o = some x) : Bh (CM e) o = some x:=by
 cases o <;> first | exact h | (simp only [UY] at h;simp only [Bh];rw [E4];exact h)
section
variable {a b : List (Nat × AV)} (hs : ∀ t x,get a t = some x → get b t = some x)
include hs
theorem M0 {o : Operand} {x : AV} (h : Bh a o = some x) : Bh b o = some x:=by
 cases o <;> first | exact h | exact hs _ _ h
theorem Jt : ∀ {l : List Operand} {xs : List AV},Fa a l = some xs → Fa b l = some xs
 | [],xs,h => h
 | o :: r,xs,h => by
  simp only [Fa] at h ⊢;split at h
  ·rename_i x l h1 h2;rw [M0 hs h1,Jt h2];exact h
  ·cases h
theorem HA {ops : Array Oper} {o : Oper} {r : Bool} (h : A7 ops a o = some r) : A7 ops b o = some r:=by
 unfold A7 at h ⊢;split at h
 ·exact h
 ·split at h
  ·split at h
   ·split at h
    ·rename_i hx;simp only [*,hs _ _ hx]
    ·rename_i hx;simp only [*,hs _ _ hx]
    ·cases h
   ·cases h
  ·cases h
variable {r : Nat × List AV}
theorem O1 {op : Op} (h : E3 a op = some r) : E3 b op = some r:=by
 unfold E3 at h ⊢;split at h
 ·split at h
  ·rename_i h1 h2;simp only [M0 hs h1,Jt hs h2];exact h
  ·cases h
 ·cases h
theorem PP {op : Op} (h : Am a op = some r) : Am b op = some r:=by
 unfold Am at h ⊢;split at h
 ·split at h
  ·rename_i h1 h2;simp only [M0 hs h1,Jt hs h2];exact h
  ·cases h
 ·cases h
end
theorem A1.env {S : St} {env : List (Nat × AV)} (h : ∀ t x,get env t = some x → get S.env t = some x) : A1 S ⟨env,S.H,S.n⟩ :=
 fun _ _ G _ _ r _ => ⟨G,⟨r.heap,r.rel,r.size,fun t x hx => r.env t x (h t x hx),r.marks,r.round⟩,⟨fun id b b' hb hb' => by rw [hb] at hb';cases hb';exact AC.refl _ _ _,Mem.le_refl _,fun _ h => h,fun _ _ _ h => .inl h⟩⟩
mutual
theorem D.ER : ∀ {x y : D},D.FH x y = true → x = y
 | .b _,y,h => by cases y <;> simp_all [D.FH]
 | .i _ _,y,h => by cases y <;> simp_all [D.FH]
 | .s _,y,h => by cases y <;> simp_all [D.FH]
 | .by _,y,h => by cases y <;> simp_all [D.FH]
 | .is _,y,h => by cases y <;> simp_all [D.FH]
 | .agg a,y,h => by cases y <;> simp only [D.FH,reduceCtorEq] at h;rw [D.CY h]
 | .tup a,y,h => by cases y <;> simp only [D.FH,reduceCtorEq] at h;rw [D.CY h]
 | .sl n a,y,h => by
  cases y <;> simp only [D.FH,reduceCtorEq,Bool.and_eq_true] at h;rw [D.PM h.2,Nat.eq_of_beq_eq_true h.1]
 | .np,y,h => by cases y <;> simp_all [D.FH]
 | .nf,y,h => by cases y <;> simp_all [D.FH]
 | .ni,y,h => by cases y <;> simp_all [D.FH]
 | .nm,y,h => by cases y <;> simp_all [D.FH]
 | .f _ _,y,h => by cases y <;> simp [D.FH] at h
 | .ifc _ _,y,h => by cases y <;> simp [D.FH] at h
theorem D.CY : ∀ {x y : List D},D.FZ x y = true → x = y
 | [],[],_ => rfl
 | [],_ :: _,h => by simp [D.FZ] at h
 | _ :: _,[],h => by simp [D.FZ] at h
 | x :: r,y :: l,h => by
  simp only [D.FZ,Bool.and_eq_true] at h;rw [D.ER h.1,D.CY h.2]
theorem D.PM : ∀ {x y : List (List D)},D.Mt x y = true → x = y
 | [],[],_ => rfl
 | [],_ :: _,h => by simp [D.Mt] at h
 | _ :: _,[],h => by simp [D.Mt] at h
 | x :: r,y :: l,h => by
  simp only [D.Mt,Bool.and_eq_true] at h;rw [D.CY h.1,D.PM h.2]
end
mutual
theorem AV.ER : ∀ {x y : AV},AV.FH x y = true → x = y
 | .d _,y,h => by cases y <;> simp only [AV.FH,reduceCtorEq] at h;rw [D.ER h]
 | .u,y,h => by cases y <;> simp_all [AV.FH]
 | .e0,y,h => by cases y <;> simp_all [AV.FH]
 | .ptr _ _ _,y,h => by cases y <;> simp only [AV.FH,reduceCtorEq,Bool.and_eq_true] at h;rw [Nat.eq_of_beq_eq_true h.1.1,Nat.eq_of_beq_eq_true h.1.2,Nat.eq_of_beq_eq_true h.2]
 | .sl _ _ _,y,h => by cases y <;> simp only [AV.FH,reduceCtorEq,Bool.and_eq_true] at h;rw [Nat.eq_of_beq_eq_true h.1.1,Nat.eq_of_beq_eq_true h.1.2,Nat.eq_of_beq_eq_true h.2]
 | .ag _,y,h => by cases y <;> simp only [AV.FH,reduceCtorEq] at h;rw [AV.CY h]
 | .yl _,y,h => by cases y <;> simp only [AV.FH,reduceCtorEq] at h;rw [Nat.eq_of_beq_eq_true h]
 | .mp _,y,h => by cases y <;> simp only [AV.FH,reduceCtorEq] at h;rw [Nat.eq_of_beq_eq_true h]
 | .dp _,y,h => by cases y <;> simp only [AV.FH,reduceCtorEq] at h;rw [D.CY h]
 | .bs ..,y,h => by
  cases y <;> simp only [AV.FH,reduceCtorEq,Bool.and_eq_true,Lr,decide_eq_true_eq] at h;obtain ⟨⟨⟨⟨rfl,rfl⟩,rfl⟩,rfl⟩,rfl⟩:=h;rfl
 | .ep ..,y,h => by
  cases y <;> simp only [AV.FH,reduceCtorEq,Bool.and_eq_true,Lr,decide_eq_true_eq] at h;obtain ⟨⟨⟨⟨rfl,rfl⟩,rfl⟩,rfl⟩,rfl⟩:=h;rfl
 | .tup _,y,h => by cases y <;> simp only [AV.FH,reduceCtorEq] at h;rw [AV.CY h]
 | .fn f a b,y,h => by
  cases y <;> cases f <;> (try rename_i g p q _;cases g) <;> (try rename_i g p q;cases g) <;> simp only [AV.FH,reduceCtorEq,Bool.and_eq_true,Lr,decide_eq_true_eq] at h;rw [h.1.1,AV.CY h.1.2,AV.CY h.2]
theorem AV.CY : ∀ {x y : List AV},AV.FZ x y = true → x = y
 | [],[],_ => rfl
 | [],_ :: _,h => by simp [AV.FZ] at h
 | _ :: _,[],h => by simp [AV.FZ] at h
 | x :: r,y :: l,h => by
  simp only [AV.FZ,Bool.and_eq_true] at h;rw [AV.ER h.1,AV.CY h.2]
end
theorem Mx {E : Nat → Option AT} {ops : Array Oper} {rs : List Rc} {Hf : List A2} : ∀ {l : List (Nat × Nat)},O2 E ops rs Hf l = true → Ba E ops rs Hf l
 | [],_ => trivial
 | p :: l,h => by
  simp only [O2,Bool.and_eq_true] at h;refine ⟨?_,Mx h.2⟩;have h1:=h.1;split at h1
  ·rename_i o r ho hr;rw [ho,hr];split at h1
   ·rename_i y hy;exact ⟨true,by rw [← AV.ER h1];exact hy,rfl⟩
   ·cases h1
  ·cases h1
def G0 (m : Mem) : Gh:=⟨fun _ => none,[],m⟩
mutual
theorem XW {G : Gh} {w : World} (hr : AN G w) {m : Mem} (hm : G.m.le m) (hown : ∀ b k v,Own G b → w.cell? ⟨b,k,none⟩ = some v → m b k = some v) : ∀ {x y : AV} {v : Value},CH G.H x = some y → RV G x v → RV (G0 m) y v
 | .d x,y,v,h,r => by
  simp only [CH,Option.some.injEq] at h;subst h;simp only [RV] at r ⊢;exact r.mono hm
 | .u,y,v,h,r => by simp only [CH,Option.some.injEq] at h;subst h;trivial
 | .e0,y,v,h,r => by simp only [CH,Option.some.injEq] at h;subst h;simpa only [RV] using r
 | .dp cs,y,v,h,r => by
  simp only [CH,Option.some.injEq] at h;subst h;simp only [RV] at r ⊢;obtain ⟨b,off,h1,h2⟩:=r;exact ⟨b,off,h1,IH.mono hm h2⟩
 | .sl id n sz,y,v,h,r => by
  simp only [CH] at h;split at h
  ·rename_i x hx;split at h
   ·rename_i hn;cases h;have hf : B9 G.H (.sl id n sz) x:=by simp only [B9];exact ⟨hx,Nat.eq_of_beq_eq_true hn⟩
    have:=O7 hr hm hown hf r;simpa only [RV,G0] using this
   ·cases h
  ·cases h
 | .ag cs,y,v,h,r => by
  simp only [CH] at h;split at h
  ·rename_i l hl;cases h;simp only [RV] at r ⊢;obtain ⟨vs,h1,h2⟩:=r;exact ⟨vs,h1,Hp hr hm hown hl h2⟩
  ·cases h
 | .tup cs,y,v,h,r => by
  simp only [CH] at h;split at h
  ·rename_i l hl;cases h;simp only [RV] at r ⊢;obtain ⟨vs,h1,h2⟩:=r;exact ⟨vs,h1,Hp hr hm hown hl h2⟩
  ·cases h
 | .fn f a b,y,v,h,r => by
  simp only [CH] at h;split at h
  ·rename_i p q hp hq;cases h;simp only [RV] at r ⊢;obtain ⟨p',q',h1,h2,h3⟩:=r;exact ⟨p',q',h1,Hp hr hm hown hp h2,Hp hr hm hown hq h3⟩
  ·cases h
 | .ptr ..,y,v,h,r => by simp [CH] at h
 | .bs ..,y,v,h,r => by simp [CH] at h
 | .ep ..,y,v,h,r => by simp [CH] at h
 | .yl ..,y,v,h,r => by simp [CH] at h
 | .mp ..,y,v,h,r => by simp [CH] at h
theorem Hp {G : Gh} {w : World} (hr : AN G w) {m : Mem} (hm : G.m.le m) (hown : ∀ b k v,Own G b → w.cell? ⟨b,k,none⟩ = some v → m b k = some v) : ∀ {xs ys : List AV} {vs : List Value},De G.H xs = some ys → AS G xs vs → AS (G0 m) ys vs
 | [],ys,vs,h,r => by simp only [De,Option.some.injEq] at h;subst h;simpa only [AS] using r
 | x :: xs,ys,vs,h,r => by
  simp only [De] at h;split at h
  ·rename_i y l hy hl;cases h;simp only [AS] at r ⊢;obtain ⟨v,r',h1,h2,h3⟩:=r;exact ⟨v,r',h1,XW hr hm hown hy h2,Hp hr hm hown hl h3⟩
  ·cases h
end
mutual
theorem TU {H : List A2} : ∀ {x y : AV},CH H x = some y → ∀ {m : Mem} {G : Gh} {v : Value},m.le G.m → RV (G0 m) y v → RV G y v
 | .d x,y,h => by
  intro hm r;simp only [CH,Option.some.injEq] at h;subst h;simp only [RV] at r ⊢;exact r.mono hm
 | .u,y,h => by intro hm r;simp only [CH,Option.some.injEq] at h;subst h;trivial
 | .e0,y,h => by intro hm r;simp only [CH,Option.some.injEq] at h;subst h;simpa only [RV] using r
 | .dp cs,y,h => by
  intro hm r;simp only [CH,Option.some.injEq] at h;subst h;simp only [RV] at r ⊢;obtain ⟨b,off,h1,h2⟩:=r;exact ⟨b,off,h1,IH.mono hm h2⟩
 | .sl id n sz,y,h => by
  intro hm r;simp only [CH] at h;split at h
  ·split at h
   ·cases h;simp only [RV] at r ⊢;exact r.mono hm
   ·cases h
  ·cases h
 | .ag cs,y,h => by
  intro hm r;simp only [CH] at h;split at h
  ·rename_i l hl;cases h;simp only [RV] at r ⊢;obtain ⟨vs,h1,h2⟩:=r;exact ⟨vs,h1,HM hl hm h2⟩
  ·cases h
 | .tup cs,y,h => by
  intro hm r;simp only [CH] at h;split at h
  ·rename_i l hl;cases h;simp only [RV] at r ⊢;obtain ⟨vs,h1,h2⟩:=r;exact ⟨vs,h1,HM hl hm h2⟩
  ·cases h
 | .fn f a b,y,h => by
  intro hm r;simp only [CH] at h;split at h
  ·rename_i p q hp hq;cases h;simp only [RV] at r ⊢;obtain ⟨p',q',h1,h2,h3⟩:=r;exact ⟨p',q',h1,HM hp hm h2,HM hq hm h3⟩
  ·cases h
 | .ptr ..,y,h => by simp [CH] at h
 | .bs ..,y,h => by simp [CH] at h
 | .ep ..,y,h => by simp [CH] at h
 | .yl ..,y,h => by simp [CH] at h
 | .mp ..,y,h => by simp [CH] at h
theorem HM {H : List A2} : ∀ {xs ys : List AV},De H xs = some ys → ∀ {m : Mem} {G : Gh} {vs : List Value},m.le G.m → AS (G0 m) ys vs → AS G ys vs
 | [],ys,h => by intro hm r;simp only [De,Option.some.injEq] at h;subst h;simpa only [AS] using r
 | x :: xs,ys,h => by
  intro hm r;simp only [De] at h;split at h
  ·rename_i y l hy hl;cases h;simp only [AS] at r ⊢;obtain ⟨v,r',h1,h2,h3⟩:=r;exact ⟨v,r',h1,TU hy hm h2,HM hl hm h3⟩
  ·cases h
end
mutual
theorem cM {G : Gh} : ∀ {x y : AV} {v : Value},CH [] x = some y → RV G x v → RV (G0 G.m) y v
 | .d x,y,v,h,r => by simp only [CH,Option.some.injEq] at h;subst h;simpa only [RV,G0] using r
 | .u,y,v,h,r => by simp only [CH,Option.some.injEq] at h;subst h;trivial
 | .e0,y,v,h,r => by simp only [CH,Option.some.injEq] at h;subst h;simpa only [RV] using r
 | .dp cs,y,v,h,r => by simp only [CH,Option.some.injEq] at h;subst h;simpa only [RV,G0] using r
 | .sl id n sz,y,v,h,r => by simp [CH] at h
 | .ag cs,y,v,h,r => by
  simp only [CH] at h;split at h
  ·rename_i l hl;cases h;simp only [RV] at r ⊢;obtain ⟨vs,h1,h2⟩:=r;exact ⟨vs,h1,Ho hl h2⟩
  ·cases h
 | .tup cs,y,v,h,r => by
  simp only [CH] at h;split at h
  ·rename_i l hl;cases h;simp only [RV] at r ⊢;obtain ⟨vs,h1,h2⟩:=r;exact ⟨vs,h1,Ho hl h2⟩
  ·cases h
 | .fn f a b,y,v,h,r => by
  simp only [CH] at h;split at h
  ·rename_i p q hp hq;cases h;simp only [RV] at r ⊢;obtain ⟨p',q',h1,h2,h3⟩:=r;exact ⟨p',q',h1,Ho hp h2,Ho hq h3⟩
  ·cases h
 | .ptr ..,y,v,h,r => by simp [CH] at h
 | .bs ..,y,v,h,r => by simp [CH] at h
 | .ep ..,y,v,h,r => by simp [CH] at h
 | .yl ..,y,v,h,r => by simp [CH] at h
 | .mp ..,y,v,h,r => by simp [CH] at h
theorem Ho {G : Gh} : ∀ {xs ys : List AV} {vs : List Value},De [] xs = some ys → AS G xs vs → AS (G0 G.m) ys vs
 | [],ys,vs,h,r => by simp only [De,Option.some.injEq] at h;subst h;simpa only [AS] using r
 | x :: xs,ys,vs,h,r => by
  simp only [De] at h;split at h
  ·rename_i y l hy hl;cases h;simp only [AS] at r ⊢;obtain ⟨v,r',h1,h2,h3⟩:=r;exact ⟨v,r',h1,cM hy h2,Ho hl h3⟩
  ·cases h
end
def Ou (P : Program) (f : FuncId) (xs : List AV) (y : AV) : Prop :=
 CH [] y = some y ∧ Ew P f ∧ ∀ (m : Mem) (w : World) (vs : Array Value),Ic m w → YL m → AS (G0 m) xs vs.toList →
  CallsIn Fence.wide 0 P f vs w fun e w' => ∃ v m',e = .returned v ∧ RV (G0 m') y v ∧ m.le m' ∧ Ic m' w' ∧ (∀ b k v,m' b k = some v → m b k = some v ∨ w.heap.size ≤ b) ∧
   w'.os = w.os ∧ w'.tape = w.tape ∧ w'.output = w.output ∧ w.heap.size ≤ w'.heap.size ∧ ∀ b,b < w.heap.size → w'.heap[b]? = w.heap[b]?
variable {P : Program} {f : FuncId}
theorem Ou.toFn {ds : List D} {r : D} (h : Ou P f (ds.map .d) (.d r)) : Fn P f ds r:=by
 refine ⟨h.2.1,fun m w vs hm hst hargs => (h.2.2 m w vs hm hst (KA.2 hargs)).mono ?_⟩;rintro e w' ⟨v,m',rfl,h1,rest⟩;exact ⟨v,m',rfl,by simpa only [RV,G0] using h1,rest⟩
variable {xs : List AV}
theorem Fn.toP {ds : List D} {r : D} (h : Fn P f ds r) (hx : I7 xs ds) : Ou P f xs (.d r):=by
 refine ⟨rfl,h.1,fun m w vs hm hst hargs => (h.2 m w vs hm hst (Vp (G:=G0 m) hx hargs)).mono ?_⟩;rintro e w' ⟨v,m',rfl,h1,rest⟩;exact ⟨v,m',rfl,by simpa only [RV,G0] using h1,rest⟩
mutual
theorem QN {H : List A2} : ∀ {x y : AV},CH H x = some y → CH [] y = some y
 | .d x,y,h => by simp only [CH,Option.some.injEq] at h;subst h;rfl
 | .u,y,h => by simp only [CH,Option.some.injEq] at h;subst h;rfl
 | .e0,y,h => by simp only [CH,Option.some.injEq] at h;subst h;rfl
 | .dp cs,y,h => by simp only [CH,Option.some.injEq] at h;subst h;rfl
 | .sl id n sz,y,h => by
  simp only [CH] at h;split at h
  ·split at h
   ·cases h;rfl
   ·cases h
  ·cases h
 | .ag cs,y,h => by
  simp only [CH] at h;split at h
  ·rename_i l hl;cases h;simp only [CH,Fw hl]
  ·cases h
 | .tup cs,y,h => by
  simp only [CH] at h;split at h
  ·rename_i l hl;cases h;simp only [CH,Fw hl]
  ·cases h
 | .fn f a b,y,h => by
  simp only [CH] at h;split at h
  ·rename_i p q hp hq;cases h;simp only [CH,Fw hp,Fw hq]
  ·cases h
 | .ptr ..,y,h => by simp [CH] at h
 | .bs ..,y,h => by simp [CH] at h
 | .ep ..,y,h => by simp [CH] at h
 | .yl ..,y,h => by simp [CH] at h
 | .mp ..,y,h => by simp [CH] at h
theorem Fw {H : List A2} : ∀ {xs ys : List AV},De H xs = some ys → De [] ys = some ys
 | [],ys,h => by simp only [De,Option.some.injEq] at h;subst h;rfl
 | x :: xs,ys,h => by
  simp only [De] at h;split at h
  ·rename_i y l hy hl;cases h;simp only [De,QN hy,Fw hl]
  ·cases h
end
section
variable {P : Program} {ro : Option Nat} {S : St} {Q : Exit → St → Prop} {E : Nat → Option AT}
variable {f : FuncId} {xs : List AV} {y : AV}
theorem VM {fn : Func} {c : Code} (hE : Ay P E) (hf : P.funcs[f]? = some fn) (hb : fn.body = some c) (hname : (fn.name == "runtime.NumGoroutine") = false) (hn : xs.length ≤ fn.ntmps) (h : W P none c ⟨Bz 0 xs,[],fn.ntmps⟩ (IG fun S' => ∃ cc x,CZ E S'.env S'.H fn.results.toList = some (cc,x) ∧ cc = true ∧ CH S'.H x = some y)) (hy : CH [] y = some y) : Ou P f xs y:=by
 refine ⟨hy,⟨fn,hf,hname,by rw [hb];rfl⟩,fun m w vs hm hst hargs => ?_⟩;have hr : AN (G0 m) w:=⟨fun id b hb => by simp [G0] at hb,fun id id' p q b N N' hp => by simp [G0] at hp,hm,fun b ho => by obtain ⟨id,N,q,hq,_⟩:=ho;simp [G0] at hq,hst⟩;have hno : ∀ b,¬ Own (G0 m) b:=fun b ho => by obtain ⟨id,N,q,hq,_⟩:=ho;simp [G0] at hq
 refine LN (G:=G0 m) (K:=fun x H => CH H x = some y) hE hf hb hn h rfl hr hargs ?_;intro x v G' w1 w' ms hK hv h1 h2 hfr ht hms
 let m' : Mem:=fun b k => match G'.m b k with
  | some v => some v
  | none => if w.heap.size ≤ b then w'.cell? ⟨b,k,none⟩ else none
 have hle : G'.m.le m':=fun b k v hv => by simp only [m',hv]
 have hmem : Ic m' w':=by
  intro b k v hv;simp only [m'] at hv;split at hv
  ·rename_i u hu;cases hv;exact h2.mem b k _ hu
  ·split at hv
   ·exact hv
   ·cases hv
 refine ⟨v,m',rfl,XW h2 hle ?_ hK hv,Mem.le_trans hfr.gle.mem hle,hmem,?_,ht.os.trans hfr.os,ht.tape.trans hfr.tape,ht.output.trans hfr.output,by rw [ht.size];exact hfr.size,fun b hb => ?_⟩
 ·intro b k v ho hc
  have hge : w.heap.size ≤ b:=by
   rcases Nat.lt_or_ge b w.heap.size with hlt | hge
   ·exact absurd ho (hfr.keep b hlt (hno b)).2
   ·exact hge
  simp only [m',h2.sep b ho k,if_pos hge,hc]
 ·intro b k v hv;simp only [m'] at hv;split at hv
  ·rename_i u hu;cases hv;rcases hfr.memNew b k _ hu with h3 | h3 | h3
   ·exact .inl h3
   ·exact absurd h3 (hno b)
   ·exact .inr h3
  ·split at hv
   ·rename_i hge;exact .inr hge
   ·cases hv
 ·exact (ht.other b fun hm => by have:=hms b hm;omega).trans (hfr.keep b hb (hno b)).1
theorem Ou.dF {ys : List AV} (h : Ou P f ys y) (hx : De [] xs = some ys) (H : List A2) : I5 P f xs H fun x H' => x = y ∧ H' = H:=by
 refine ⟨h.2.1,fun G w vs hG hr hargs => (h.2.2 G.m w vs hr.mem hr.st (Ho hx hargs)).mono ?_⟩;rintro e w' ⟨v,m',rfl,h1,h2,h3,h4,h5,h6,h7,h8,h9⟩;obtain ⟨k1,k2⟩:=GL hr h5 h6 h7 h8 h9 m' h2 h4 h3;exact ⟨v,y,{ G with m:=m' },rfl,⟨rfl,hG⟩,TU h.1 (Mem.le_refl _) h1,k1,k2⟩
open Classical in
theorem Ou.read {ys : List AV} (h : Ou P f ys y) (hr : WT y = true) {H : List A2} (hx : De H xs = some ys) : I5 P f xs H fun x H' => x = y ∧ H' = H:=by
 refine ⟨h.2.1,fun G w vs hG hrel hargs => ?_⟩;let m : Mem:=fun b k => if Own G b then w.cell? ⟨b,k,none⟩ else G.m b k
 have hle : G.m.le m:=fun b k v hv => by
  by_cases ho : Own G b
  ·rw [hrel.sep b ho k] at hv;cases hv
  ·simp only [m,if_neg ho,hv]
 have hmem : Ic m w:=fun b k v hv => by
  simp only [m] at hv;split at hv
  ·exact hv
  ·exact hrel.mem b k v hv
 have hds : AS (G0 m) ys vs.toList:=Hp hrel hle (fun b k v ho hc => by simp only [m,if_pos ho,hc]) (by rw [hG];exact hx) hargs;refine (h.2.2 m w vs hmem (Mem.le_trans hrel.st hle) hds).mono ?_;rintro e w' ⟨v,m',rfl,h1,h2,h3,h4,h5,h6,h7,h8,h9⟩
 obtain ⟨k1,k2⟩:=GL hrel h5 h6 h7 h8 h9 G.m (Mem.le_refl _) (fun _ _ _ h => .inl h) (fun b k u hu => by
  rw [World.cell?_of_block (w:=w) (h9 b (F3 hrel hu))]
  exact hrel.mem b k u hu)
 refine ⟨v,y,G,rfl,⟨rfl,hG⟩,?_,k1,k2⟩;cases y <;> simp only [WT,Bool.false_eq_true] at hr;simp only [RV] at h1 ⊢;exact T1 hr h1
end
theorem Qr : ∀ {x y : List (D × AV)},cz x y = true → x = y
 | [],[],_ => rfl
 | [],_ :: _,h => by simp [cz] at h
 | _ :: _,[],h => by simp [cz] at h
 | (a,b) :: r,(c,d) :: l,h => by
  simp only [cz,Bool.and_eq_true] at h;rw [show a = c from D.ER h.1.1,show b = d from AV.ER h.1.2,Qr h.2]
theorem A2.ER {x y : A2} (h : A2.FH x y = true) : x = y:=by
 cases x <;> cases y <;> simp only [A2.FH,reduceCtorEq] at h
 ·rfl
 ·rw [AV.CY h]
 ·rw [D.ER h]
 ·rw [Qr h]
theorem cP {x y : LoopState} (h : stB x y = true) : x = y:=by cases x <;> cases y <;> first | rfl | cases h
theorem Yo {b x y : A2} (h : bF b x y = true) (hx : O4 b x = x) : x = O4 b y:=by
 cases b <;> cases x <;> cases y <;> simp only [bF,A2.FH,reduceCtorEq,Bool.and_eq_true] at h <;> simp only [O4] at hx ⊢
 case lp.lp.lp r0 r q =>
  obtain ⟨⟨h1,h2⟩,h3⟩:=h;rw [← hx,cP h1,Option.isNone_iff_eq_none.1 h2,Option.isNone_iff_eq_none.1 h3]
 all_goals first | rfl | rw [AV.CY h] | rw [D.ER h] | rw [Qr h]
theorem Np : ∀ {H A B : List A2},MU H A B = true → (∀ (j : Nat) (b x : A2),H[j]? = some b → A[j]? = some x → O4 b x = x) → A = Iw H B
 | b :: r,x :: l,y :: m,h,hf => by
  simp only [MU,Bool.and_eq_true] at h;rw [Iw,Yo h.1 (hf 0 b x rfl rfl),Np h.2 fun j c z hc hz => hf (j + 1) c z (by simpa using hc) (by simpa using hz)]
 | [],x :: l,y :: m,h,_ => by
  simp only [MU,Bool.and_eq_true] at h;have:=Np h.2 fun j c z hc _ => by simp at hc
  rw [A2.ER h.1,this];simp [Iw]
 | [],[],[],_,_ => rfl
 | _ :: _,[],[],_,_ => rfl
 | [],[],_ :: _,h,_ => by simp [MU] at h
 | _ :: _,[],_ :: _,h,_ => by simp [MU] at h
 | [],_ :: _,[],h,_ => by simp [MU] at h
 | _ :: _,_ :: _,[],h,_ => by simp [MU] at h
theorem T0 : ∀ {H K : List A2},(∀ (j : Nat) (b x : A2),H[j]? = some b → K[j]? = some x → O4 b x = x) → Iw H K = K
 | b :: r,x :: l,h => by rw [Iw,h 0 b x rfl rfl,T0 fun j c z hc hz => h (j + 1) c z (by simpa using hc) (by simpa using hz)]
 | [],_,_ => by simp [Iw]
 | _ :: _,[],_ => by simp [Iw]
def ew (H K : List A2) : Prop:=∀ (j : Nat) (b x : A2),H[j]? = some b → K[j]? = some x → O4 b x = x
variable {G : Gh}
theorem bZ {G' : Gh} (h : Gs G G') : ew G.H G'.H:=by
 intro j b x hb hx;obtain ⟨x',hx',hs⟩:=h.blk j b hb;rw [hx] at hx';cases hx';cases b <;> cases x <;> simp only [O4];rename_i r r';simp only [AC] at hs;obtain ⟨_,h1,h2,h3,h4,h5,h6⟩:=hs;cases r;cases r';simp_all
variable {H K : List A2}
theorem ba {a b : Nat} (h : ew H K) (ho : AY H.length H = true) (ha : H.length ≤ a) (hb : H.length ≤ b) (ha' : a < K.length) (hb' : b < K.length) : ew H (V3 a b K):=by
 intro j c x hc hx;have hj : j < H.length:=(List.getElem?_eq_some_iff.1 hc).1;rw [L0 ha' hb',S9 ha hb hj,Option.map_eq_some_iff] at hx;obtain ⟨z,hz,rfl⟩:=hx;have hf:=h j c z hc hz;cases c <;> cases z <;> simp only [O4,A2.ren] at hf ⊢;rename_i r q;have ho:=GM ho hc;have he : JH (sw a b) r.env = r.env:=Ob (fun i hi => S9 ha hb hi) ho;have hf:=A2.lp.inj hf;rw [← hf];simp [he]
theorem Pp {a b : Nat} {e1 e2 : Tm} : ∀ {m : Nat},(∀ t x,get (J6 a b e1 e2 m) t = some x → Gr e1 t = some x) ∧ ∃ l',JH (sw a b) l' = J6 a b e1 e2 m ∧ ∀ t y,get l' t = some y → Gr e2 t = some y
 | 0 => ⟨(fun _ _ h => by cases h),[],rfl,(fun _ _ h => by cases h)⟩
 | m + 1 => by
  obtain ⟨h1,l',h2,h3⟩:=Pp (a:=a) (b:=b) (e1:=e1) (e2:=e2) (m:=m);simp only [J6];split
  ·rename_i x y hx hy;split
   ·rename_i he;refine ⟨fun t z hz => ?_,(m,y) :: l',by simp only [JH];rw [h2,AV.ER he],fun t z hz => ?_⟩
    ·simp only [get] at hz;split at hz
     ·rename_i hb;cases hz;rw [← Nat.eq_of_beq_eq_true hb];exact hx
     ·exact h1 _ _ hz
    ·simp only [get] at hz;split at hz
     ·rename_i hb;cases hz;rw [← Nat.eq_of_beq_eq_true hb];exact hy
     ·exact h3 _ _ hz
   ·exact ⟨h1,l',h2,h3⟩
  ·exact ⟨h1,l',h2,h3⟩
section
variable {F : Fence} {n : Nat} {P : Program} {ops : Array Oper} {ro : Option Nat} {E : Nat → Option AT} {S S0 : St} {acc : List Rc} {rest : List Oper}
theorem SI {o : Oper} {a : Act} {w : World} {K K' : Act → World → Prop} {Q Q' : Exit → Act → World → Prop} (h : ∀ a w,K a w → K' a w) (hq : ∀ e a w,Q e a w → Q' e a w)
  (hh : o.wpIn F n P a w K Q) : o.wpIn F n P a w K' Q':=by
 unfold Oper.wpIn at *;refine ⟨hh.1,?_⟩;have hh:=hh.2;generalize (o.semAt F.round a.eval).run P w = r at *
 cases r with
 | ok x w' =>
  cases x <;> simp only [Oper.uponIn] at hh ⊢ <;>
   first
    | exact h _ _ hh
    | exact ⟨hh.1,CallsIn.mono hh.2 (fun e w'' he => by cases e <;> first | exact h _ _ he | exact hq _ _ _ he | (obtain ⟨a0,w0,h0⟩:=he;exact ⟨a0,w0,hq _ _ _ h0⟩))⟩
    | exact ⟨hh.1,RowsIn.mono hh.2 (fun _ _ he => h _ _ he)⟩
    | exact ⟨hh.1,RoundIn.mono hh.2 (fun e w'' he => by cases e <;> first | exact h _ _ he | exact hq _ _ _ he | (obtain ⟨a0,w0,h0⟩:=he;exact ⟨a0,w0,hq _ _ _ h0⟩))⟩
 | halt x w' => cases x <;> simp only [Oper.uponIn] at hh ⊢ <;> first | exact hq _ _ _ hh | exact hh
theorem EA {md : Region.Mode} {Q Q' : Exit → Act → World → Prop} (hq : ∀ e a w,Q e a w → Q' e a w) : ∀ (fuel : Nat) (listed : Array Bool) (a : Act) (w : World),wpAnyIn F n P md ops Q fuel listed a w → wpAnyIn F n P md ops Q' fuel listed a w
 | 0,listed,a,w,h => ⟨h.1,hq _ _ _ h.2⟩
 | fuel + 1,listed,a,w,h => by
  refine ⟨fun e => hq _ _ _ (h.1 e),fun i hi => ?_⟩;have h2:=h.2 i hi;unfold wpOpIn at h2 ⊢;split
  ·rename_i ho;simp only [ho] at h2;exact EA hq _ _ _ _ h2
  ·rename_i o ho;simp only [ho] at h2;split
   ·rename_i hw;simp only [hw,if_true] at h2;exact SI (fun _ _ k => EA hq _ _ _ _ k) hq h2
   ·rename_i hw;simp only [hw] at h2;exact ⟨h2.1,EA hq _ _ _ _ h2.2⟩
variable {Q : Exit → St → Prop}
theorem SV {Q' : Exit → St → Prop} (h : Gw P ro ops S Q) (hq : ∀ e S',Q e S' → ew S.H S'.H → Q' e S') : Gw P ro ops S Q':=by
 intro N G a w r;refine EA ?_ _ _ _ _ (h N G a w r);rintro e a' w' ⟨S',G',q,r',k⟩;exact ⟨S',G',hq e S' q (by rw [← r.heap,← r'.heap];exact bZ k.gle),r',k⟩
theorem VV {id : Nat} (hm : P.follows .mixedOrders = true) (h : Gw P ro ops S (Qw Q)) : W P ro (.region id ops true) S Q:=by
 refine Kf (Q':=Qw Q) (fun N G a w r => wpIn_region_any hm (h N G a w r)) ?_;rintro e S' ⟨env,h1,h2⟩;exact .inr ⟨env,h1,h2⟩
theorem ai {l : List (Nat × Nat)} (hE : Ay P E) (hd : FY ops (acc.reverse.map Rc.k) l = true) (hx : Ba E ops acc.reverse S.H l) (hQ : Q .normal S) : Wd P ro E ops S0 (Gw P ro ops S0 (Qw Q)) acc [] S:=by
 intro Sr ht hH hn he hr;refine II hE ht hd (by rw [hH];exact hx) ⟨S.env,he,?_⟩;rw [hH,hn];exact hQ
theorem Pr {id i k n : Nat} {e e1 e2 e' : Tm} {H H1 H2 H' : List A2} {Q : Exit → St → Prop} (hm : P.follows .mixedOrders = true) (hik : (Nat.blt i k && Nat.blt k ops.toList.length && Ir ops) = true) (ho : AY H.length H = true)
  (h1 : ∀ Q : Exit → St → Prop,Q .normal ⟨CM e1,H1,n⟩ → Gw P ro (Md i k ops) ⟨CM e,H,n⟩ (Qw Q)) (h2 : ∀ Q : Exit → St → Prop,Q .normal ⟨CM e2,H2,n⟩ → Gw P ro (Me i k ops) ⟨CM e,H,n⟩ (Qw Q)) :
  ∀ {l : List (Nat × Nat)},Pq H e1 H1 e2 H2 l = some (e',H') → Q .normal ⟨CM e',H',n⟩ → W P ro (.region id ops true) ⟨CM e,H,n⟩ Q
 | [],h,_ => by simp [Pq] at h
 | p :: l,h,hQ => by
  simp only [Pq] at h;split at h
  ·rename_i hc;cases h;simp only [Bool.and_eq_true] at hc;obtain ⟨⟨⟨⟨⟨c1,c2⟩,c3⟩,c4⟩,c5⟩,c7⟩:=hc;simp only [Nat.ble_eq,Nat.blt_eq,Lr,decide_eq_true_eq] at c1 c2 c3 c4 c5;obtain ⟨j1,l',j2,j3⟩:=Pp (a:=p.1) (b:=p.2) (e1:=e1) (e2:=e2) (m:=8 * e1.length)
   have hfl : ∀ {H K : List A2},(Iw H K).length = K.length:=by
    intro H
    induction H with
    | nil => intro K;simp [Iw]
    | cons b r ih => intro K;cases K <;> simp [Iw,ih]
   refine Kf (Q':=fun x S' => x = .normal ∧ S' = ⟨J6 p.1 p.2 e1 e2 (8 * e1.length),Iw H H1,n⟩) (Zs (S1:=⟨J6 p.1 p.2 e1 e2 (8 * e1.length),Iw H H1,n⟩) i k p.1 p.2 hm hik ho (by simp only [hfl,Bool.and_eq_true,Nat.ble_eq,Nat.blt_eq];exact ⟨⟨⟨c1,c2⟩,c3⟩,c4⟩) (SV (h1 (fun e S' => e = .normal ∧ S' = ⟨CM e1,H1,n⟩) ⟨rfl,rfl⟩) ?_) (SV (h2 (fun e S' => e = .normal ∧ S' = ⟨CM e2,H2,n⟩) ⟨rfl,rfl⟩) ?_) ⟨rfl,rfl⟩) ?_
   ·rintro x ⟨Se,SH,Sn⟩ ⟨env,q1,rfl,q2⟩ hl;cases q2;refine ⟨_,fun t x hx => q1 t x (by rw [E4];exact j1 t x hx),rfl,.inl ?_⟩;simp only [T0 hl]
   ·rintro x ⟨Se,SH,Sn⟩ ⟨env,q1,rfl,q2⟩ hl;cases q2;refine ⟨l',fun t x hx => q1 t x (by rw [E4];exact j3 t x hx),rfl,.inr ?_⟩;simp only [V4];rw [j2,← Np c7 (ba hl ho c1 c2 (Nat.lt_of_lt_of_le c3 (Nat.le_of_eq c5)) (Nat.lt_of_lt_of_le c4 (Nat.le_of_eq c5)))]
   ·rintro x S' ⟨rfl,rfl⟩;refine .inr ⟨_,fun t x hx => ?_,hQ⟩;rw [E4,O9] at hx;exact hx
  ·exact Pr hm hik ho h1 h2 h hQ
variable {l : List (Nat × AV)}
theorem Zr {c : Code} {H : List A2} {n : Nat} (h : W P ro c ⟨CM (TF l),H,n⟩ Q) : W P ro c ⟨l,H,n⟩ Q :=
 fun N G a w r => h N G a w (r.LU fun t x hx => by rw [E4,O9] at hx;exact hx)
theorem VU {c : Code} {H K : List A2} {n : Nat} {e : Tm} {x : Exit} (ts : List Nat) (h : ∀ Q : Exit → St → Prop,Q x ⟨CM e,K,n⟩ → W P ro c ⟨CM (TF l),H,n⟩ Q) (hQ : Q x ⟨small e ts,K,n⟩) : W P ro c ⟨l,H,n⟩ Q:=by
 refine Zr (Kf (Q':=fun y S' => y = x ∧ S' = ⟨CM e,K,n⟩) (h _ ⟨rfl,rfl⟩) ?_);rintro y S' ⟨rfl,rfl⟩;exact .inr ⟨_,fun t x hx => Dt hx,hQ⟩
end
mutual
theorem rdV0 : ∀ {x y : AV},CH [] x = some y → y = x ∧ x.ok 0 = true
 | .d x,y,h => by simp only [CH,Option.some.injEq] at h;exact ⟨h.symm,rfl⟩
 | .u,y,h => by simp only [CH,Option.some.injEq] at h;exact ⟨h.symm,rfl⟩
 | .e0,y,h => by simp only [CH,Option.some.injEq] at h;exact ⟨h.symm,rfl⟩
 | .dp cs,y,h => by simp only [CH,Option.some.injEq] at h;exact ⟨h.symm,rfl⟩
 | .ag cs,y,h => by
  simp only [CH] at h;split at h
  ·rename_i l hl;cases h;obtain ⟨rfl,h2⟩:=NM hl;exact ⟨rfl,h2⟩
  ·cases h
 | .tup cs,y,h => by
  simp only [CH] at h;split at h
  ·rename_i l hl;cases h;obtain ⟨rfl,h2⟩:=NM hl;exact ⟨rfl,h2⟩
  ·cases h
 | .fn f a b,y,h => by
  simp only [CH] at h;split at h
  ·rename_i p q hp hq;cases h;obtain ⟨rfl,h2⟩:=NM hp;obtain ⟨rfl,h3⟩:=NM hq;exact ⟨rfl,by simp only [AV.ok,h2,h3];rfl⟩
  ·cases h
 | .sl ..,y,h => by simp [CH] at h
 | .ptr ..,y,h => by simp [CH] at h
 | .bs ..,y,h => by simp [CH] at h
 | .ep ..,y,h => by simp [CH] at h
 | .yl ..,y,h => by simp [CH] at h
 | .mp ..,y,h => by simp [CH] at h
theorem NM : ∀ {xs ys : List AV},De [] xs = some ys → ys = xs ∧ AV.oks 0 xs = true
 | [],ys,h => by simp only [De,Option.some.injEq] at h;exact ⟨h.symm,rfl⟩
 | x :: xs,ys,h => by
  simp only [De] at h;split at h
  ·rename_i y l hy hl;cases h;obtain ⟨rfl,h1⟩:=rdV0 hy;obtain ⟨rfl,h2⟩:=NM hl;exact ⟨rfl,by simp only [AV.oks,h1,h2];rfl⟩
  ·cases h
end
theorem B4.up {ys : List AV} (h : B4 P f ys [] x K) (hx : De [] xs = some ys) (H : List A2) : B4 P f xs H (x.ren (rn [] H.length)) (H ++ Dp (rn [] H.length) K):=by
 obtain ⟨rfl,h2⟩:=NM hx;have:=B4.ren (H2:=H) [] h rfl trivial rfl h2;rw [AV.GV (k:=0) (fun i hi => absurd hi (Nat.not_lt_zero _)) h2] at this;exact this
theorem W4 {q : D} : ∀ {x : AV} {v : Value},RV G x v → RV G (em q x) v:=by
 intro x v h;unfold em;split
 ·obtain ⟨a,rfl⟩:=h;simp only [RV,RD,Qi,Qd];exact ⟨a,0,rfl,Nat.le_refl _,.inl rfl⟩
 ·obtain ⟨a,rfl⟩:=h;simp only [RV,RD,Qi,eJ];exact ⟨a,0,rfl,Nat.le_refl _,.inl rfl⟩
 ·obtain ⟨a,rfl⟩:=h;simp only [RV,RD];exact ⟨a,0,rfl,Nat.le_refl _,.inl trivial⟩
 ·exact h
theorem W5 {G : Gh} : ∀ {l : List D} {xs : List AV} {vs : List Value},AS G xs vs → AS G (cy l xs) vs
 | q :: l,x :: r,vs,h => by
  simp only [cy,AS] at h ⊢;obtain ⟨v,w,h1,h2,h3⟩:=h;exact ⟨v,w,h1,W4 h2,W5 h3⟩
 | [],_,_,h => by simpa only [cy] using h
 | _ :: _,[],_,h => by simpa only [cy] using h
theorem bG {l : List D} {v : Value} (h : RV G x v) : RV G (e0A l x) v:=by
 unfold e0A;split
 ·simp only [RV] at h ⊢;obtain ⟨vs,h1,h2⟩:=h;exact ⟨vs,h1,W5 h2⟩
 ·split
  ·exact W4 h
  ·exact h
theorem Kp {l : List D} {G : Gh} {a : Array Value} : ∀ {ps : List (Nat × Operand)} {env : List (Nat × AV)},Ea G env a → Ea G (PY l env ps) a
 | [],_,h => h
 | p :: r,env,h => by
  simp only [PY];split
  ·split
   ·rename_i x hx;refine Kp fun u y hy => ?_
    rw [T4] at hy;simp only [get] at hy;split at hy
    ·rename_i hb;cases hy;obtain ⟨v,h1,h2⟩:=h _ x hx;rw [← Nat.eq_of_beq_eq_true hb];exact ⟨v,h1,bG h2⟩
    ·exact h u y hy
   ·exact Kp h
  ·exact Kp h
theorem CN.up {o : Oper} {H' : List A2} {n : Nat} (h : CN P o ⟨small e l,H,n⟩ x H') : CN P o ⟨CM e,H,n⟩ x H' :=
 fun ro N G a w r => h ro N G a w (r.LU fun _ _ hx => Dt hx)
variable {E : Nat → Option AT}
theorem Ss (hE : Ay P E) {o : Oper} {S : St} (h : U7 E S.env o.op = some x) (H : List A2) : CN P o ⟨S.env,H,S.n⟩ x H:=by
 unfold U7 at h;split at h
 ·rename_i t len ps hop;split at h
  ·rename_i y hy;split at h
   ·rename_i e he;split at h
    ·rename_i x' hx;cases h;have hx' : GG E (PY (W7 E 8 e) S.env ps.toList) H o.op = some (true,x):=by rw [hop] at hx ⊢;exact hx
     have:=GH (S:=⟨PY (W7 E 8 e) S.env ps.toList,H,S.n⟩) hE hx' rfl;intro ro N G a w r;exact this ro N G a w ⟨r.heap,r.rel,r.size,Kp r.env,r.marks,r.round⟩
    ·cases h
   ·cases h
  ·cases h
 ·cases h
theorem Is {env : List (Nat × AV)} {op : Op} (h : U7 E env op = some x) : ∀ c,op ≠ .defer c:=fun c e => by subst e;cases h
theorem N2 (n0 : Nat) (l : List Nat) : ∀ (K : List A2) (i m : Nat),Ak ((Ph n0 l i K).take m) K
 | [],i,m => by simp [Ph,Ak]
 | b :: r,i,0 => by simp [Ak]
 | b :: r,i,m + 1 => by
  simp only [Ph,List.take_succ_cons,Ak];refine ⟨?_,N2 n0 l r (i + 1) m⟩;split
  ·exact .inr rfl
  ·rename_i h;exact .inl ⟨rfl,by cases hb : b.UI with | false => rfl | true => rw [hb,Bool.or_true] at h;cases h⟩
theorem B4.gc (h : B4 P f xs H x K) : B4 P f xs H x (er H.length x K):=by
 simp only [er];split
 ·rename_i hc;rw [Bool.and_eq_true,Bool.and_eq_true] at hc;exact B4.drop _ h (N2 _ _ _ _ _) hc.1.2 hc.2 hc.1.1
 ·exact h
end Go.Gar
namespace Go.Gar
def Snd (P : Program) (E : Nat → Option AT) : Rq → Rz → Prop
 | .c ro c e H n,r => ∀ Q : Exit → St → Prop,Q r.1 ⟨CM r.2.1,r.2.2,n⟩ → W P ro c ⟨CM e,H,n⟩ Q
 | .lo ro c e H n,r => r.1 ≠ .normal ∧ ∃ m,∀ Q : Exit → St → Prop,Q r.1 ⟨CM r.2.1,r.2.2,n⟩ → W P ro c ⟨CM e,H,n⟩ (dL P ro c Q m)
 | .sc ro c0 c e H n,r => ∃ j,∀ Q : Exit → St → Prop,Q r.1 ⟨CM r.2.1,r.2.2,n⟩ → W P ro c ⟨CM e,H,n⟩ (D6 P ro c0 Q j)
 | .l ro ops rest e H n,r => r.1 = .normal ∧ ∀ (i : Nat) (Q : Exit → St → Prop),Q .normal ⟨CM r.2.1,r.2.2,n⟩ → Wl P ro ops i rest ⟨CM e,H,n⟩ Q
 | .t ro ops _ e H n,r => r.1 = .normal ∧ ∀ (id : Nat) (Q : Exit → St → Prop),Q .normal ⟨CM r.2.1,r.2.2,n⟩ → W P ro (.region id ops true) ⟨CM e,H,n⟩ Q
 | .d ops acc ks rest e H n,r => ks = acc.map Rc.k → r.1 = .normal ∧ ∀ (ro : Option Nat) (S0 : St) (Q : Exit → St → Prop),Q .normal ⟨CM r.2.1,r.2.2,n⟩ → Wd P ro E ops S0 (Gw P ro ops S0 (Qw Q)) acc rest ⟨CM e,H,n⟩
 | .f g xs H,r => ∀ x K,IY (some r) = some (x,K) → I5 P g xs H fun y K' => y = x ∧ K' = K
 | .p g xs _,r => ∀ x K,IY (some r) = some (x,K) → (K = [] → Ou P g xs x) ∧ (K ≠ [] → B4 P g xs [] x K)
 | .y id xs H,r => (∃ r0,H[id]? = some (.lp r0)) ∧ ∀ x K,IY (some r) = some (x,K) → YT P id xs H fun y K' => y = x ∧ K' = K
section
variable {P : Program} {ro : Option Nat} {S : St} {Q : Exit → St → Prop} {E : Nat → Option AT}
variable {x : AV} {H K : List A2}
theorem Ei {y : AV} {r : Rz} (h : one x H = some r) (k : IY (some r) = some (y,K)) : y = x ∧ K = H:=by
 simp only [one,Option.some.injEq] at h;subst h;simp only [IY,Option.some.injEq,Prod.mk.injEq] at k;exact ⟨k.1.symm,k.2.symm⟩
variable {c : Code}
theorem Ti {e : Exit} {S' : St} (he : ∀ l,e ≠ .goto l) (h : Q e S') (j : Nat) : D6 P ro c Q j e S':=by
 rw [Ed he];exact h
theorem UH {op : Op} (h : R8 op = true) (env : List (Nat × AV)) (H H' : List A2) : GG E env H op = GG E env H' op:=by
 cases op <;> first | rfl | (simp [R8] at h)
theorem bI {env : List (Nat × AV)} {op : Op} {r : Bool × AV} (h : eo E env H op = some r) : GG E env H op = some r:=by
 unfold eo at h;split at h
 ·split at h
  ·cases h
  ·exact h
 ·exact h
theorem Jl {n : Nat} : ∀ (l : List Nat) (e : Tm) (H : List A2),(IM l e H).2.length = H.length ∧ ∀ {ops : Array Oper} {i : Nat} {rest : List Oper},Wl P ro ops i rest ⟨CM (IM l e H).1,(IM l e H).2,n⟩ Q → Wl P ro ops i rest ⟨CM e,H,n⟩ Q
 | [],e,H => ⟨rfl,fun h => h⟩
 | id :: r,e,H => by
  simp only [IM];split
  ·rename_i x hx;obtain ⟨h2,h3⟩:=Jl (n:=n) r (Qc id x e) (Dg id x 0 H);refine ⟨h2.trans H6,fun h => Gx (A1.freeze (S:=⟨CM e,H,n⟩) id hx) (by show H.length ≤ (Dg id x 0 H).length;rw [H6];exact Nat.le_refl _) ?_⟩;exact Gx (S:=⟨MW id x (CM e),Dg id x 0 H,n⟩) (S':=⟨CM (Qc id x e),Dg id x 0 H,n⟩) (A1.env (S:=⟨MW id x (CM e),Dg id x 0 H,n⟩) fun t y hy => by rw [← WY];exact hy) (Nat.le_refl _) (h3 h)
  ·exact Jl r e H
variable {g n : Nat} {fn : Func}
theorem T2 (h : Z1 P g n = some (fn,c)) : P.funcs[g]? = some fn ∧ fn.body = some c ∧ n ≤ fn.ntmps:=by
 unfold Z1 at h;split at h
 ·rename_i fn' hf;split at h
  ·rename_i c' hb;split at h
   ·rename_i hn;cases h;exact ⟨hf,hb,Nat.le_of_ble_eq_true hn⟩
   ·cases h
  ·cases h
 ·cases h
theorem P8 {o : Option Rz} (h : Mp E fn o = some (x,K)) : ∃ y e,o = some (y,e,K) ∧ (y = .ret ∨ y = .normal) ∧ CZ E (small e (resT fn.results.toList)) K fn.results.toList = some (true,x):=by
 unfold Mp at h;split at h
 ·split at h
  ·rename_i x' hx;cases h;exact ⟨_,_,rfl,.inl rfl,hx⟩
  ·cases h
 ·split at h
  ·rename_i x' hx;cases h;exact ⟨_,_,rfl,.inr rfl,hx⟩
  ·cases h
 ·cases h
theorem SL {K : St → Prop} {e : Exit} {S' : St} (he : e = .ret ∨ e = .normal) (h : K S') : IG K e S':=by
 rcases he with rfl | rfl <;> exact h
variable {H' : List A2}
theorem OP (hE : Ay P E) {o : Oper} (h : op1 E S.env S.H o.op = some (x,H')) : CN P o S x H' ∧ ∀ c,o.op ≠ .defer c:=by
 unfold op1 at h;split at h
 ·rename_i q hq;cases h;split at hq
  ·exact ⟨Nr hE hq rfl,GF hq⟩
  ·cases hq
 ·split at h
  ·rename_i h1;cases h;exact ⟨Ss hE h1 _,Is h1⟩
  split at h
  ·rename_i h1;cases h;exact ⟨GH hE h1 rfl,EF h1⟩
  ·split at h
   ·rename_i h1;cases h;exact ⟨LV hE h1 rfl,FJ h1⟩
   ·split at h
    ·rename_i h1;cases h;exact ⟨Lb hE h1 rfl,FM h1⟩
    ·split at h
     ·rename_i h1;cases h;exact ⟨Mw h1 rfl,H0 h1⟩
     ·split at h
      ·rename_i h1;cases h;exact ⟨Nx hE h1 rfl,GI h1⟩
      ·split at h
       ·rename_i h1;cases h;exact ⟨Su hE h1 rfl,It h1⟩
       ·split at h
        ·rename_i h1;cases h;exact ⟨PR hE h1,fun c e => by rw [e] at h1;cases h1⟩
        ·split at h
         ·rename_i h1;cases h;exact ⟨Yx hE h1 rfl,Ny h1⟩
         ·cases h
theorem XE (hE : Ay P E) {o : Oper} (h : dA E S.env S.H o.op = some (x,H')) : CN P o S x H' ∧ ∀ c,o.op ≠ .defer c:=by
 have key : opA E S.env S.H o.op = some (x,H') ∨ opW E S.env S.H o.op = some (x,H') ∨ opQ E S.env S.H o.op = some (x,H') ∨ op1 E S.env S.H o.op = some (x,H'):=by
  unfold dA at h;split at h <;> first | exact .inl h | exact .inr (.inl h) | exact .inr (.inr (.inl h)) | exact .inr (.inr (.inr h))
 rcases key with h | h | h | h
 ·unfold opA at h;split at h
  ·rename_i h1;cases h;exact ⟨LV hE h1 rfl,FJ h1⟩
  ·exact OP hE h
 ·unfold opW at h;split at h
  ·rename_i h1;cases h;exact ⟨Lb hE h1 rfl,FM h1⟩
  ·exact OP hE h
 ·unfold opQ at h;split at h
  ·rename_i h1;cases h;rw [bK] at h1;exact ⟨GH hE h1 rfl,EF h1⟩
  ·exact OP hE h
 ·exact OP hE h
theorem Cu {r : Option Rz} (h : IY r = some (x,K)) : ∃ s,r = some s ∧ IY (some s) = some (x,K):=by
 cases r with
 | none => simp [IY] at h
 | some s => exact ⟨s,rfl,h⟩
variable {ops : Array Oper} {rest : List Oper} {dst : Option Tmp} {e : Tm}
theorem Sa {i : Nat} (h : Wl P ro ops i rest ⟨CM (HR dst x e),H,n⟩ Q) : Wl P ro ops i rest ⟨AU dst x (CM e),H,n⟩ Q :=
 Gx (S:=⟨AU dst x (CM e),H,n⟩) (S':=⟨CM (HR dst x e),H,n⟩) (A1.env (S:=⟨AU dst x (CM e),H,n⟩) fun t y hy => by rw [← N1];exact hy) (Nat.le_refl _) h
theorem SY {S0 : St} {A : Prop} {acc : List Rc} (h : Wd P ro E ops S0 A acc rest ⟨CM (HR dst x e),H,n⟩) : Wd P ro E ops S0 A acc rest ⟨AU dst x (CM e),H,n⟩ :=
 Nh (S:=⟨AU dst x (CM e),H,n⟩) (env:=CM (HR dst x e)) (fun t y hy => by rw [← N1];exact hy) h
theorem QZ (n : Nat) : ∀ (H : List A2),Ak (H.take n) H:=by
 intro H;have:=KT (H.take n) (H.drop n);rwa [List.take_append_drop] at this
theorem Z3 {xs : List AV} {e' : Tm} (h : bM P E e H g xs = (e',H')) : H'.length = H.length ∧ ∀ {ops : Array Oper} {i : Nat} {rest : List Oper},Wl P ro ops i rest ⟨CM e',H',n⟩ Q → Wl P ro ops i rest ⟨CM e,H,n⟩ Q:=by
 unfold bM at h;split at h
 ·cases h;exact ⟨rfl,fun h => h⟩
 ·split at h
  ·split at h
   ·cases h;exact ⟨rfl,fun h => h⟩
   ·obtain ⟨a,b⟩:=Jl (P:=P) (ro:=ro) (Q:=Q) (n:=n) (K5 xs) e H;rw [h] at a b;exact ⟨a,b⟩
  ·cases h;exact ⟨rfl,fun h => h⟩
theorem LD {A : Prop} (h : Wd P ro E ops S A [] ops.toList S) : A:=h S .nil rfl rfl (fun _ _ h => h) (fun k => by simp)
theorem Zv (hE : Ay P E) {xs : List AV} {y : Exit} (hf : P.funcs[g]? = some fn) (hb : fn.body = some c) (hname : (fn.name == "runtime.NumGoroutine") = false) (hn : xs.length ≤ fn.ntmps) (he : ∀ Q : Exit → St → Prop,Q y ⟨CM e,K,fn.ntmps⟩ → W P none c ⟨CM (TF (Bz 0 xs)),H,fn.ntmps⟩ Q) (hy : y = .ret ∨ y = .normal) (hr : CZ E (small e (resT fn.results.toList)) K fn.results.toList = some (true,x)) : B4 P g xs H x K :=
 Ow hE hf hb hname hn (VU (resT fn.results.toList) he (SL hy ⟨true,x,hr,rfl,rfl,rfl⟩))
section
variable {O : Nat → List AV → Option AV} {kp : Nat → Bool} {k : Nat}
theorem Zz (hE : Ay P E) (hm : P.follows .mixedOrders = true) (hname : ∀ (g : Nat) (fn : Func), P.funcs[g]? = some fn → (fn.name == "runtime.NumGoroutine") = false) (hO : ∀ g xs y, O g xs = some y → Ou P g xs y) :
  ∀ (k : Nat) (q : Rq) (r : Rz),ex P E O kp k q = some r → Snd P E q r:=by
 intro k
 induction k with
 | zero => intro q r h;simp [ex] at h
 | succ k ih =>
 intro q r h
 cases q with
 | c ro c e H n =>
  simp only [ex] at h
  cases c with
  | skip => simp only [sC,Option.some.injEq] at h;subst h;exact fun Q hQ => DT hQ
  | label l => simp only [sC,Option.some.injEq] at h;subst h;exact fun Q hQ => FD hQ
  | exit id => simp only [sC,Option.some.injEq] at h;subst h;exact fun Q hQ => DR hQ
  | goto l => simp only [sC,Option.some.injEq] at h;subst h;exact fun Q hQ => Gv hQ
  | ret => simp only [sC,Option.some.injEq] at h;subst h;exact fun Q hQ => FE hQ
  | refuse w => simp [sC] at h
  | seq a b =>
   simp only [sC] at h;generalize hx : ex P E O kp k (.c ro a e H n) = z at h;intro Q hQ;refine FF ?_;unfold eZ at h;split at h
   ·exact ih _ _ hx _ (ih _ _ h _ hQ)
   ·rename_i hne;subst h;refine ih _ _ hx _ ?_;obtain ⟨y,e',H'⟩:=r;cases y <;> first | exact hQ | exact (hne _ _ rfl).elim
  | cond o a b =>
   simp only [sC] at h;generalize hx : UY e o = z at h;unfold aM at h;split at h
   ·split at h
    ·exact fun Q hQ => Bo (OR hx) (ih _ _ h Q hQ)
    ·exact fun Q hQ => Bn (OR hx) (ih _ _ h Q hQ)
   ·cases h
  | block id b =>
   simp only [sC] at h;generalize hx : ex P E O kp k (.c ro b e H n) = z at h;intro Q hQ;refine CW ?_;unfold eW at h;split at h
   ·split at h
    ·rename_i hb;cases h;refine ih _ _ hx _ ?_;simp only [Gt,hb,if_true];exact hQ
    ·rename_i hb;cases h;refine ih _ _ hx _ ?_;simp only [Gt,hb,Bool.false_eq_true,if_false];exact hQ
   ·rename_i hne;subst h;refine ih _ _ hx _ ?_;obtain ⟨y,e',H'⟩:=r;cases y <;> first | exact hQ | exact (hne _ _ _ rfl).elim
  | loop b =>
   simp only [sC] at h;obtain ⟨_,m,h2⟩:=ih _ _ h;exact fun Q hQ => SU m (h2 Q hQ)
  | scope b =>
   simp only [sC] at h;obtain ⟨j,h1⟩:=ih _ _ h;exact fun Q hQ => Ng j (h1 Q hQ)
  | region id ops dr =>
   simp only [sC] at h;obtain ⟨y,e',H'⟩:=r;split at h
   ·obtain ⟨h1,h2⟩:=ih _ _ h;simp only at h1;subst h1;exact fun Q hQ => EB (h2 0 Q hQ)
   ·unfold aN at h;split at h
    ·split at h
     ·rename_i r' hr';cases h;obtain ⟨h1,h2⟩:=ih _ _ hr' rfl;simp only at h1;subst h1;exact fun Q hQ => VV hm (LD (h2 ro ⟨CM e,H,n⟩ Q hQ))
     ·obtain ⟨h1,h2⟩:=ih _ _ h;simp only at h1;subst h1;exact fun Q hQ => h2 id Q hQ
    ·obtain ⟨h1,h2⟩:=ih _ _ h;simp only at h1;subst h1;exact fun Q hQ => h2 id Q hQ
  | rangeFunc g ps asg body =>
   simp only [sC] at h;generalize hg : UY e g = z at h;unfold eY at h;split at h
   ·split at h
    ·rename_i x0 K hv;unfold eX at h;split at h
     ·rename_i r1 hK;split at h
      ·cases h
      ·rename_i hb;obtain ⟨s,hs,hv'⟩:=Cu hv;have hT:=ih _ _ hs _ _ hv';intro Q hQ;refine P1 (S:=⟨CM e,H,n⟩) (OR hg) hT ?_;rintro x H' ⟨rfl,rfl⟩;refine ⟨r1,hK,hb,?_⟩
       cases hp : r1.pending with
       | none =>
        simp only [hp,Option.some.injEq] at h ⊢;subst h;exact hQ
       | some c =>
        simp only [hp] at h ⊢;exact ih _ _ h Q hQ
     ·cases h
    ·cases h
   ·cases h
 | lo ro c e H n =>
  simp only [ex] at h;generalize hx : ex P E O kp k (.c ro c e H n) = z at h;unfold sLo at h;split at h
  ·obtain ⟨g1,m,g2⟩:=ih _ _ h;exact ⟨g1,m + 1,fun Q hQ => ih _ _ hx _ (g2 Q hQ)⟩
  ·rename_i hne;subst h;obtain ⟨y,e',H'⟩:=r;refine ⟨by rintro rfl;exact hne _ _ rfl,0,fun Q hQ => ih _ _ hx _ ?_⟩;cases y <;> first | exact hQ | exact (hne _ _ rfl).elim
 | sc ro c0 c e H n =>
  simp only [ex] at h;generalize hx : ex P E O kp k (.c ro c e H n) = z at h;unfold sSc at h;split at h
  ·split at h
   ·rename_i rest hl;obtain ⟨j,g⟩:=ih _ _ h;exact ⟨j + 1,fun Q hQ => ih _ _ hx _ (by simp only [D6,hl];exact g Q hQ)⟩
   ·rename_i hl;cases h;exact ⟨0,fun Q hQ => ih _ _ hx _ ⟨hl,hQ⟩⟩
  ·rename_i hne;subst h;obtain ⟨y,e',H'⟩:=r;exact ⟨0,fun Q hQ => ih _ _ hx _ (Ti (fun l e' => by subst e';exact hne _ _ _ rfl) hQ 0)⟩
 | l ro ops rest e H n =>
  simp only [ex] at h
  cases rest with
  | nil => simp only [sL,Option.some.injEq] at h;subst h;exact ⟨rfl,fun i Q hQ => LF hQ⟩
  | cons o rest =>
   simp only [sL] at h;split at h
   ·cases h
   rename_i hd;generalize hg : A7 ops (small e (looks ops o)) o = z at h;unfold sL1 at h;split at h
   ·cases h
   ·obtain ⟨h1,h2⟩:=ih _ _ h;exact ⟨h1,fun i Q hQ => SZ (S:=⟨CM e,H,n⟩) (HA (fun _ _ hx => Dt hx) hg) hd (Sa (h2 _ Q hQ))⟩
   ·have hg':=HA (b:=CM e) (fun _ _ hx => Dt hx) hg;generalize ho : dA E (small e (looks ops o)) H o.op = z at h;unfold sL2 at h;split at h
    ·obtain ⟨h1,h2⟩:=ih _ _ h;obtain ⟨o1,o2⟩:=XE (S:=⟨small e (looks ops o),H,n⟩) hE ho;exact ⟨h1,fun i Q hQ => KD (S:=⟨CM e,H,n⟩) hg' o1.up o2 hd (Sa (h2 _ Q hQ))⟩
    ·generalize hy : E3 (small e (looks ops o)) o.op = z at h;unfold sL3 at h;split at h
     ·split at h
      ·rename_i x H' hv;obtain ⟨s,hs,hv'⟩:=Cu hv;obtain ⟨⟨r0,hlp⟩,hT⟩:=ih _ _ hs;have hT:=hT _ _ hv';obtain ⟨h1,h2⟩:=ih _ _ h;exact ⟨h1,fun i Q hQ => dj (S:=⟨CM e,H,n⟩) hg' (O1 (fun _ _ hx => Dt hx) hy) hd hlp hT (fun r H' he => by obtain ⟨e1,e2⟩:=he;subst e1;subst e2;exact Sa (h2 _ Q hQ))⟩
      ·cases h
     ·generalize hc : Am (small e (looks ops o)) o.op = z at h;unfold sL4 at h;split at h
      ·split at h;rename_i e' H' hfz;unfold aL at h;split at h
       ·rename_i g' ys hg2 hc2;split at h
        ·rename_i x H2 hv;obtain ⟨s,hs,hv'⟩:=Cu hv;have hT:=ih _ _ hs _ _ hv';obtain ⟨h1,h2⟩:=ih _ _ h;refine ⟨h1,fun i Q hQ => ?_⟩;obtain ⟨z2,z3⟩:=Z3 (ro:=ro) (Q:=Q) (n:=n) hfz;exact z3 (YW (S:=⟨CM e',H',n⟩) (HA (fun _ _ hx => Dt hx) hg2) (PP (fun _ _ hx => Dt hx) hc2) hd hT (fun r H' he => by obtain ⟨e1,e2⟩:=he;subst e1;subst e2;exact Sa (h2 _ Q hQ)))
        ·cases h
       ·cases h
      ·cases h
 | t ro ops l e H n =>
  simp only [ex] at h
  cases l with
  | nil => simp [sT] at h
  | cons p l =>
   simp only [sT] at h;split at h
   ·cases h
   rename_i hc;rw [Bool.and_eq_true] at hc;generalize h1 : ex P E O kp k (.d (Md p.1 p.2 ops) [] [] (Md p.1 p.2 ops).toList e H n) = z1 at h;generalize h2 : ex P E O kp k (.d (Me p.1 p.2 ops) [] [] (Me p.1 p.2 ops).toList e H n) = z2 at h;unfold aO at h;split at h
   ·split at h
    ·rename_i hj;cases h;obtain ⟨a1,a2⟩:=ih _ _ h1 rfl;obtain ⟨b1,b2⟩:=ih _ _ h2 rfl;exact ⟨rfl,fun id Q hQ => Pr hm hc.1 hc.2 (fun Q hQ => LD (a2 ro ⟨CM e,H,n⟩ Q hQ)) (fun Q hQ => LD (b2 ro ⟨CM e,H,n⟩ Q hQ)) hj hQ⟩
    ·exact (ih (.t ro ops l e H n) r h :)
   ·exact (ih (.t ro ops l e H n) r h :)
 | d ops acc ks rest e H n =>
  simp only [ex] at h;intro hks
  cases rest with
  | nil =>
   simp only [sD] at h;split at h
   ·rename_i hb;cases h;rw [Bool.and_eq_true] at hb;have hk : ks.reverse = acc.reverse.map Rc.k:=by rw [hks,List.map_reverse]
    have hb1:=hb.1;unfold dOK at hb1;rw [hk] at hb1;exact ⟨rfl,fun ro S0 Q hQ => ai (S:=⟨CM e,H,n⟩) hE hb1 (by rw [← hk];exact Mx hb.2) hQ⟩
   ·cases h
  | cons o rest =>
   simp only [sD] at h;have hsm:=JN (e:=e) (l:=looks ops o);split at h
   ·cases h
   rename_i hd;generalize hg : A7 ops (small e (looks ops o)) o = z at h
   have fin : ∀ {x : AV} {kd : Kd} {H' : List A2},K4 (ex P E O kp k) ops acc ks o rest n e H x kd H' = some r → (∀ ro,(⟨Cm (looks ops o) (CM e),H,x,kd⟩ : Rc).ok P ro E ops n o H') →
     r.1 = .normal ∧ ∀ (ro : Option Nat) (S0 : St) (Q : Exit → St → Prop),Q .normal ⟨CM r.2.1,r.2.2,n⟩ → Wd P ro E ops S0 (Gw P ro ops S0 (Qw Q)) acc (o :: rest) ⟨CM e,H,n⟩:=by
    intro x kd H' h hok;unfold K4 at h;rw [hsm] at h;obtain ⟨h1,h2⟩:=ih _ _ h (by rw [hks];rfl);exact ⟨h1,fun ro S0 Q hQ => Ge (S:=⟨CM e,H,n⟩) (x:=x) (k:=kd) (H':=H') (hok ro) (SY (h2 ro S0 Q hQ))⟩
   unfold sD1 at h;rw [hsm] at hg;split at h
   ·cases h
   ·unfold K4 at h;rw [hsm] at h;obtain ⟨h1,h2⟩:=ih _ _ h (by rw [hks];rfl);exact ⟨h1,fun ro S0 Q hQ => SX (S:=⟨CM e,H,n⟩) hg hd (SY (h2 ro S0 Q hQ))⟩
   ·generalize hx : U7 E (small e (looks ops o)) o.op = z at h;unfold sD2 at h;split at h
    ·rw [hsm] at hx;exact fin h fun ro => ⟨hd,hg,fun H => (Ss (S:=⟨Cm (looks ops o) (CM e),H,n⟩) hE hx H).step (Is hx),rfl⟩
    ·generalize hx : eo E (small e (looks ops o)) H o.op = z at h;unfold sD3 at h;split at h
     ·have hq:=bI hx;rw [hsm] at hq;split at h
      ·rename_i hf;unfold K4 at h;rw [hsm] at h;obtain ⟨h1,h2⟩:=ih _ _ h (by rw [hks];rfl);exact ⟨h1,fun ro S0 Q hQ => YU (S:=⟨CM e,H,n⟩) hE hg (fun H' => by rw [UH hf _ H' H];exact hq) hd rfl (SY (h2 ro S0 Q hQ))⟩
      ·unfold K4 at h;rw [hsm] at h;obtain ⟨h1,h2⟩:=ih _ _ h (by rw [hks];rfl);exact ⟨h1,fun ro S0 Q hQ => da (S:=⟨CM e,H,n⟩) hg hq hd rfl (SY (h2 ro S0 Q hQ))⟩
     ·generalize ho : dA E (small e (looks ops o)) H o.op = z at h;unfold sD4 at h;split at h
      ·rw [hsm] at ho;obtain ⟨o1,o2⟩:=XE (S:=⟨Cm (looks ops o) (CM e),H,n⟩) hE ho;exact fin h fun ro => ⟨hd,hg,o1.step o2⟩
      ·generalize hc : Am (small e (looks ops o)) o.op = z at h;unfold sD5 at h;rw [hsm] at hc;split at h
       ·cases h
       ·split at h
        ·rename_i ys hx;split at h
         ·rename_i x hv;obtain ⟨s,hs,hv'⟩:=Cu hv;have hP:=(ih _ _ hs _ _ hv').1 rfl;exact fin h fun ro => ⟨hd,hg,fun H => LC (S:=⟨Cm (looks ops o) (CM e),H,n⟩) hc (Ou.dF hP hx H),rfl⟩
         ·rename_i x b K hv;obtain ⟨s,hs,hv'⟩:=Cu hv;have hP:=(ih _ _ hs _ _ hv').2 (by simp);exact fin h fun ro => ⟨hd,hg,LC (S:=⟨Cm (looks ops o) (CM e),H,n⟩) hc (B4.up hP hx H)⟩
         ·cases h
        ·split at h
         ·rename_i x H' hv;obtain ⟨s,hs,hv'⟩:=Cu hv;have hT:=ih _ _ hs _ _ hv';exact fin h fun ro => ⟨hd,hg,LC (S:=⟨Cm (looks ops o) (CM e),H,n⟩) hc hT⟩
         ·cases h
 | p g xs b0 =>
  simp only [ex] at h;generalize hy : O g xs = z at h;unfold sP at h;split at h
  ·intro x K hv;obtain ⟨rfl,rfl⟩:=Ei h hv;exact ⟨fun _ => hO _ _ _ hy,fun k => absurd rfl k⟩
  ·split at h
   ·cases h
   ·rename_i fn c hf;generalize hb : Mp E fn (ex P E O kp k (.c none c (TF (Bz 0 xs)) [] fn.ntmps)) = z at h;unfold sP1 at h;split at h
    ·rename_i x K;obtain ⟨y,e,he,hr,hev⟩:=P8 hb;obtain ⟨f1,f2,f3⟩:=T2 hf;split at h
     ·rename_i y' hy' _;intro x' K' hv;obtain ⟨rfl,rfl⟩:=Ei h hv;exact ⟨fun _ => VM hE f1 f2 (hname _ _ f1) f3 (VU (resT fn.results.toList) (ih _ _ he) (SL hr ⟨true,x,hev,rfl,hy'⟩)) (QN hy'),fun k => absurd rfl k⟩
     ·split at h
      ·cases h
      ·rename_i b l hgc;intro x' K' hv;obtain ⟨rfl,rfl⟩:=Ei h hv;have hT:=(Zv hE f1 f2 (hname _ _ f1) f3 (ih _ _ he) hr hev).gc;rw [show ([] : List A2).length = 0 from rfl,hgc] at hT;exact ⟨(fun k => by cases k),fun _ => hT⟩
    ·cases h
 | f g xs H =>
  simp only [ex,sF] at h;split at h
  ·rename_i ys hx;split at h
   ·rename_i x hv;intro x' K' hv2;obtain ⟨rfl,rfl⟩:=Ei h hv2;obtain ⟨s,hs,hv'⟩:=Cu hv;exact Ou.dF ((ih _ _ hs _ _ hv').1 rfl) hx _
   ·rename_i x b K hv;intro x' K' hv2;obtain ⟨rfl,rfl⟩:=Ei h hv2;obtain ⟨s,hs,hv'⟩:=Cu hv;exact B4.up ((ih _ _ hs _ _ hv').2 (by simp)) hx H
   ·cases h
  ·split at h
   ·rename_i ys hx;split at h
    ·rename_i x hv;split at h
     ·rename_i hfl;intro x' K' hv2;obtain ⟨rfl,rfl⟩:=Ei h hv2;obtain ⟨s,hs,hv'⟩:=Cu hv;exact Ou.read ((ih _ _ hs _ _ hv').1 rfl) hfl hx
     ·cases h
    ·cases h
   ·split at h
    ·cases h
    ·rename_i fn c hf;generalize hb : Mp E fn (ex P E O kp k (.c none c (TF (Bz 0 xs)) H fn.ntmps)) = z at h;unfold sF1 at h;split at h
     ·rename_i x K;obtain ⟨y,e,he,hr,hev⟩:=P8 hb;obtain ⟨f1,f2,f3⟩:=T2 hf;have hT : B4 P g xs H x K:=Zv hE f1 f2 (hname _ _ f1) f3 (ih _ _ he) hr hev;split at h
      ·rename_i hb2;intro x' K' hv2;obtain ⟨rfl,rfl⟩:=Ei h hv2;rw [Bool.and_eq_true,Bool.and_eq_true] at hb2;have hl:=Nat.le_of_ble_eq_true hb2.1.1;have hlen : (K.take H.length).length = H.length:=by rw [List.length_take];omega
       exact B4.drop _ hT (QZ _ _) (by rw [hlen];exact hb2.1.2) (by rw [hlen];exact hb2.2) (by rw [hlen];exact Nat.ble_eq_true_of_le (Nat.le_refl _))
      ·intro x' K' hv2;obtain ⟨rfl,rfl⟩:=Ei h hv2;exact hT.gc
     ·cases h
 | y id xs H =>
  simp only [ex] at h;generalize hlp : H[id]? = z at h;unfold sY at h;split at h
  ·rename_i r0;split at h
   ·cases h
   rename_i hb;rw [Bool.and_eq_true,Bool.and_eq_true] at hb;generalize h1 : ex P E O kp k (.c (some id) r0.assign (TF (MY r0.params.toList xs r0.env)) H r0.n) = z at h;unfold sY1 at h;split at h
   ·rename_i e1 H1;split at h
    ·rename_i r1 hr1;split at h
     ·cases h
     rename_i hrdy;generalize h2 : ex P E O kp k (.c (some id) r0.body e1 (H1.set id (.lp (r1.at_ .busy r1.pending))) r0.n) = z at h;unfold sY2 at h;split at h
     ·rename_i x2 e2 H2;split at h
      ·rename_i j r2 hj hr2;split at h
       ·cases h
       rename_i hlen;have hl:=Nat.le_of_ble_eq_true hlen;have hid : id < H.length:=(List.getElem?_eq_some_iff.1 hlp).1;refine ⟨⟨r0,hlp⟩,fun x K hv => ?_⟩
       have key : ∀ S'' : St,A1 ⟨CM e2,H2,r0.n⟩ S'' → H.length ≤ S''.H.length → S''.H[id]? = some (.lp r2) → one (.d (.b j.isNone)) (S''.H.set id (.lp (r2.at_ (GY j) j))) = some r → YT P id xs H fun y K' => y = x ∧ K' = K:=by
        intro S'' ht hle hi ho;obtain ⟨rfl,rfl⟩:=Ei ho hv;have hs0 : r0.state = .ready:=by have:=hb.1.1;revert this;cases r0.state <;> decide
        have hs1 : r1.state = .ready:=by revert hrdy;cases r1.state <;> decide
        refine Sb hlp hs0 (Nat.eq_of_beq_eq_true hb.1.2) (fun t ht => ?_) (Zr (ih _ _ h1 _ ⟨r1,hr1,hs1,?_⟩))
        ·have:=List.all_eq_true.1 hb.2 t ht;simpa using this
        ·exact ih _ _ h2 _ ⟨j,hj,S'',ht,hle,Nat.lt_of_lt_of_le hid hle,r2,hi,rfl,rfl⟩
       have hlen2 : (H2.take H.length).length = H.length:=by rw [List.length_take];omega
       split at h
       ·rename_i hk;exact key ⟨[],H2.take H.length,r0.n⟩ (A1.cut rfl trivial (QZ _ _) (by rw [hlen2];exact hk) rfl) (by show H.length ≤ (H2.take H.length).length;omega) (by show (H2.take H.length)[id]? = _;rw [List.getElem?_take_of_lt hid];exact hr2) h
       ·exact key ⟨CM e2,H2,r0.n⟩ (A1.refl _) hl hr2 h
      ·cases h
     ·cases h
    ·cases h
   ·cases h
  ·cases h
end
end
end Go.Gar
