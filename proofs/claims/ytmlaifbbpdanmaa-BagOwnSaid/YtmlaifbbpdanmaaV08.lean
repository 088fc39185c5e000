/- Part 8 of a proof. Conditions: those that its theorems state. -/
import Derived.Test.YtmlaifbbpdanmaaV07
set_option linter.unusedSimpArgs false
set_option linter.unusedVariables false
set_option linter.unnecessarySimpa false
set_option maxHeartbeats 40000000
set_option maxRecDepth 4000
namespace Go.Gar
abbrev Tm:=List (List (RA))
def Pw:List (RA)->Nat->RA
 |[],_=>none
 |x::_,0=>x
 |_::r,k+1=>Pw r k
def O9:Tm->Nat->List (RA)
 |[],_=>[]
 |c::_,0=>c
 |_::r,k+1=>O9 r k
def K3(e:Tm)(t:Nat):RA:=Pw (O9 e (t/8)) (t%8)
def Li(e:Tm):Nat->R9
 |0=>[]
 |m+1=>match K3 e m with
  |some x=>(m,x)::Li e m
  |none=>Li e m
def Q7(e:Tm):R9:=Li e (8*e.length)
def small(e:Tm):QQ->R9
 |[]=>[]
 |t::r=>match K3 e t with
  |some x=>(t,x)::small e r
  |none=>small e r
def upd(t:Nat)(x:AV):R9->R9
 |[]=>[(t,x)]
 |p::r=>match Nat.beq p.1 t with
  |true=>(t,x)::r
  |false=>p::upd t x r
mutual
def NC(H:RE):AV->RA
 | .d x=>some (.d x)
 | .u=>some .u
 | .e0=>some .e0
 | .dp cs=>some (.dp cs)
 | .sl id n _=>match H[id]? with
  |some (.a x)=>match Nat.beq n (AI x)with
   |true=>some (.d x)
   |false=>none
  |_=>none
 | .ag cs=>match IB H cs with
  |some l=>some (.ag l)
  |none=>none
 | .tup cs=>match IB H cs with
  |some l=>some (.tup l)
  |none=>none
 | .fn f a b=>match IB H a,IB H b with
  |some p,some q=>some (.fn f p q)
  |_,_=>none
 |_=>none
def IB(H:RE):R8->Option (R8)
 |[]=>some []
 |x::r=>match NC H x,IB H r with
  |some y,some l=>some (y::l)
  |_,_=>none
end
def q1(x:RA)(f:AV->RB):RB:=
 match x with
 |some x=>f x
 |none=>none
def q2(x y:RA)(f:AV->AV->RB):RB:=
 match x,y with
 |some x,some y=>f x y
 |_,_=>none
mutual
def AV.ids:AV->QQ
 | .ptr id _ _| .sl id _ _| .bs id _ _ _ _| .ep id _ _ _ _| .yl id| .mp id=>[id]
 | .ag cs| .tup cs=>AV.Mn cs
 | .fn _ a b=>AV.Mn a++AV.Mn b
 |_=>[]
def AV.Mn:R8->QQ
 |[]=>[]
 |x::r=>x.ids++AV.Mn r
end
def A2.ids:A2->QQ
 | .c cs=>AV.Mn cs
 | .m es=>es.flatMap fun p=>p.2.ids
 | .lp r=>r.env.flatMap fun p=>p.2.ids
 |_=>[]
inductive Rq
 |c (ro:Qt) (c:Code) (e:Tm) (H:RE) (n:Nat)
 |lo (ro:Qt) (c:Code) (e:Tm) (H:RE) (n:Nat)
 |sc (ro:Qt) (c0 c:Code) (e:Tm) (H:RE) (n:Nat)
 |l (ro:Qt) (ops:R0) (rest:R1) (e:Tm) (H:RE) (n:Nat)
 |t (ro:Qt) (ops:R0) (l:QR) (e:Tm) (H:RE) (n:Nat)
 |d (ops:R0) (acc:List Rc) (ks:List Kd) (rest:R1) (e:Tm) (H:RE) (n:Nat)
 |f (g:Nat) (xs:R8) (H:RE)
 |p (g:Nat) (xs:R8) (b:Bool)
 |y (id:Nat) (xs:R8) (H:RE)
abbrev Rz:=Exit×Tm×RE
def one(x:AV)(H:RE):Option Rz:=some (.normal,[[some x]],H)
end Go.Gar
namespace Go.Gar
theorem N3(i:Nat):O9 [] i=[]:=by cases i<;>rfl
theorem NK:∀{e:Tm}{t:Nat},8*e.length<=t->K3 e t=none:=by
 have h:∀{e:Tm}{k:Nat},e.length<=k->O9 e k=[]:=by
  intro e
  induction e with
  |nil=>intro k _;exact N3 k
  |cons c r ih=>
   intro k hk
   cases k with
   |zero=>simp at hk
   |succ k=>exact ih (by simpa using hk)
 intro e t ht;simp only[K3];rw[h om];rfl
theorem Ie{e:Tm}:∀{m t:Nat},get (Li e m) t=if t<m then K3 e t else none
 |0,t=>by simp[Li,get]
 |m+1,t=>by
  have ih:=Ie (e:=e) (m:=m) (t:=t);simp only[Li];split
  .rename_i x hx;simp only[get];split
   .rename_i hb;have:=Qi hb;subst this;rw[Rf om,hx]
   .rename_i hb;have hne:m≠t:=fun e=>hb (by rw[e,Ri])
    rw[ih]
    by_cases h:t<m
    .rw[Rf h,Rf om]
    .rw[Rw h,Rw om]
  .rename_i hx;rw[ih]
   by_cases h:t<m
   .rw[Rf h,Rf om]
   .by_cases h2:t=m
    .subst h2;rw[Rw h,Rf om,hx]
    .rw[Rw h,Rw om]
variable {e:Tm}
theorem O3{t:Nat}:get (Q7 e) t=K3 e t:=by
 unfold Q7;rw[Ie];split
 .rfl
 .rw[NK om]
theorem Gr{e:Tm}:∀{l:QQ},small e l=B7 l (Q7 e)
 |[]=>rfl
 |t::r=>by
  simp only[small,B7];rw[O3]
  cases K3 e t with
  |none=>exact Gr
  |some x=>simp only[Gr (l:=r)]
variable {l:QQ}{x:AV}
theorem Lh{t:Nat}(h:get (small e l) t=some x):get (Q7 e) t=some x:=by
 rw[Gr]at h;exact(Cg h).2
section
variable {a b:R9}(hs:∀t x,get a t=some x->get b t=some x)
include hs
end
theorem A3.env{S:St}{env:R9}(h:∀t x,get env t=some x->get S.env t=some x):A3 S ⟨env,S.H,S.n⟩:=
 fun _ _ G _ _ r _=>⟨G,⟨r.heap,r.rel,r.size,fun t x hx=>r.env t x (h t x hx),r.marks,r.round⟩,⟨fun id b b' hb hb'=>by rw[hb]at hb';cases hb';exact A6.refl _ _ _,Mem.le_refl _,fun _ h=>h,fun _ _ _ h=> .inl h⟩⟩
mutual
theorem rdV0:∀{x y:AV},NC [] x=some y->y=x/\x.ok 0=true
 | .d _,_,h| .u,_,h| .e0,_,h| .dp _,_,h=>by simp only[NC,Qj]at h;exact⟨h.symm,rfl⟩
 | .ag _,_,h| .tup _,_,h=>by
  simp only[NC]at h;split at h
  .rename_i l hl;cases h;obtain⟨rfl,h2⟩:=Ix hl;exact⟨rfl,h2⟩
  .cases h
 | .fn f a b,y,h=>by
  simp only[NC]at h;split at h
  .rename_i p q hp hq;cases h;obtain⟨rfl,h2⟩:=Ix hp;obtain⟨rfl,h3⟩:=Ix hq;exact⟨rfl,by simp only[AV.ok,h2,h3];rfl⟩
  .cases h
 | .sl ..,y,h=>by simp[NC]at h
 | .ptr ..,y,h=>by simp[NC]at h
 | .bs ..,y,h=>by simp[NC]at h
 | .ep ..,y,h=>by simp[NC]at h
 | .yl ..,y,h=>by simp[NC]at h
 | .mp ..,y,h=>by simp[NC]at h
theorem Ix:∀{xs ys:R8},IB [] xs=some ys->ys=xs/\AV.oks 0 xs=true
 |[],ys,h=>by simp only[IB,Qj]at h;exact⟨h.symm,rfl⟩
 |x::xs,ys,h=>by
  simp only[IB]at h;split at h
  .rename_i y l hy hl;cases h;obtain⟨rfl,h1⟩:=rdV0 hy;obtain⟨rfl,h2⟩:=Ix hl;exact⟨rfl,by simp only[AV.oks,h1,h2];rfl⟩
  .cases h
end
theorem Df.up{P:Program}{f:FuncId}{xs ys:R8}{K:RE}(h:Df P f ys [] x K)(hx:IB [] xs=some ys)(H:RE):Df P f xs H (x.ren (rn [] H.length)) (H++CG (rn [] H.length) K):=by
 obtain⟨rfl,h2⟩:=Ix hx;have:=Df.ren (H2:=H) [] h rfl trivial rfl h2;rw[AV.E6 (k:=0) (fun i hi=>absurd hi (Nat.not_lt_zero _)) h2]at this;exact this
theorem Bi.up{P:Program}{o:Oper}{H H':RE}{n:Nat}(h:Bi P o ⟨small e l,H,n⟩ x H'):Bi P o ⟨Q7 e,H,n⟩ x H':=
 fun ro N G a w r=>h ro N G a w (r.Hh fun _ _ hx=>Lh hx)
end Go.Gar
namespace Go.Gar
section
variable {P:Program}{ro:Qt}{S:St}{Q:Exit->St->Prop}{E:Nat->Option AK}
end
end Go.Gar
