/- Part 43 of a proof. Conditions: those that its theorems state. -/
import Derived.Test.YtkljbfejbakooaaGreatDoorT42
set_option linter.unusedSimpArgs false
set_option linter.unusedVariables false
set_option linter.unnecessarySimpa false
set_option maxHeartbeats 40000000
set_option maxRecDepth 4000
namespace Go.Proofs.YtkljbfejbakooaaGreatDoor
namespace Nd
open Go.Gar
open Wi (AC C6 BP)
set_option maxRecDepth 100000
theorem Fn.e0{P:Program}{f:FuncId}{r:D}(h:Go.Gar.Fn P f [.is []] r):W6 P f [.e0] (.d r):=h.toP (by simp[MO,EE,Cq,Bd,BK,B0])
def cD:AV->Option D
 | .d x=>some x
 | .e0=>some (.is [])
 |_=>none
def vR:xD->Option (ww)
 |[]=>some []
 |x::r=>match cD x,vR r with
  |some y,some l=>some (y::l)
  |_,_=>none
def aD:AV->Option D
 | .d x=>some x
 | .ag l=>match vR l with
  |some q=>some (.agg q)
  |none=>none
 |_=>none
theorem vP{x:AV}{y:D}(h:cD x=some y):Cq [] x y:=by
 unfold cD at h;split at h
 .cases h;simp[Cq]
 .cases h;simp[Cq,Bd,BK,B0]
 .cases h
theorem jU:∀{l:xD}{q:ww},vR l=some q->EE [] l q
 |[],q,h=>by simp only[vR,xJ]at h;simp[EE,h.symm]
 |x::r,q,h=>by
  simp only[vR]at h;split at h
  .rename_i y l hy hl;cases h;simp only[EE];exact⟨_,_,rfl,vP hy,jU hl⟩
  .cases h
theorem WN{x:AV}{y:D}(h:aD x=some y):MO [x] [y]:=by
 have:Cq [] x y:=by
  unfold aD at h;split at h
  .cases h;simp[Cq]
  .split at h
   .rename_i q hq;cases h;simp only[Cq];exact⟨_,rfl,jU hq⟩
   .cases h
  .cases h
 simp only[MO,EE];exact⟨_,_,rfl,this,rfl⟩
def lW:D->Option AC
 | .agg [.i .u8 AR,.i .i64 Aa,.i .i64 As,.i .i64 dst,.i .i64 AH,.b B4,.b done,.i .i64 AT,.i .i64 AG,.is A8,.s ik,.i .i64 iv,.i .i64 ir,.b ig,.i .i64 AQ]=>some ⟨AR,Aa,As,dst,AH,B4,done,AT,AG,A8,⟨ik,iv,ir,ig⟩,AQ⟩
 |_=>none
theorem lX{x:D}{m:AC}(h:lW x=some m):x=m.d:=by
 unfold lW at h;split at h
 .cases h;rfl
 .cases h
def oTk(g:Nat)(l:AJ):xL:=
 match(Nat.beq g 43||Nat.beq g 17)&&Nat.blt l.length 1000 with
 |true=>some (.d (.tup [(BP l).1.d,.i .i64 (BP l).2]))
 |false=>none
def oPt(g:Nat)(m:AC):xL:=
 match(Nat.beq g 123||Nat.beq g 68)&&Nat.blt m.A8.length 1000 with
 |true=>some (.d (.tup [.by (C6 m).1,.i .i64 (C6 m).2]))
 |false=>none
def tR(g:Nat)(xs:xD):xL:=
 match xs with
 |[.e0]=>match Nat.beq g 151 with
  |true=>some (.d (.is []))
  |false=>none
 |[x]=>match aD x with
  |some (.by l)=>oTk g l
  |some (.is l)=>match Nat.beq g 151&&Nat.blt l.length 1000 with
   |true=>some (.d (.is l))
   |false=>none
  |some d=>match lW d with
   |some m=>oPt g m
   |none=>none
  |none=>none
 |_=>none
theorem cb:∀g xs y,tR g xs=some y->W6 Tryz.prog g xs y:=by
 intro g xs y h;unfold tR at h;split at h
 .split at h
  .rename_i hg;cases h;rw[xR hg];exact Fn.e0 (LS [] (by decide))
  .cases h
 .rename_i x _;split at h
  .rename_i l hl;unfold oTk at h;split at h
   .rename_i hg;cases h;rw[xI,yL]at hg;have h2:l.length<1000:=by simpa using hg.2
    rcases hg.1 with e|e<;>rw[xR e]
    .exact(Wi.N9 l om).toP (WN hl)
    .exact(Wi.U9 l om).toP (WN hl)
   .cases h
  .rename_i l hl;split at h
   .rename_i hg;cases h;rw[xI]at hg;have h2:l.length<1000:=by simpa using hg.2
    rw[xR hg.1];exact(LS l om).toP (WN hl)
   .cases h
  .rename_i d _ _ hd;split at h
   .rename_i m hm;unfold oPt at h;split at h
    .rename_i hg;cases h;rw[xI,yL]at hg;have h2:m.A8.length<1000:=by simpa using hg.2
     have h3:=lX hm;subst h3;rcases hg.1 with e|e<;>rw[xR e]
     .exact(Wi.iK m om).toP (WN hd)
     .exact(Wi.Xz m om).toP (WN hd)
    .cases h
   .cases h
  .cases h
 .cases h
def keeps(g:Nat):Bool:=Nat.beq g 84||Nat.beq g 125
theorem qm:∀(g:Nat)(fn:Func), Tryz.prog.funcs[g]? =some fn->(fn.name== "runtime.NumGoroutine")=false:=by
 have h:(Tryz.prog.funcs.toList.all fun f=> !(f.name== "runtime.NumGoroutine"))=true:=by kernel_rfl
 intro g fn hf;have:=yc.1 h fn (by rw[Array.mem_toList_iff];exact Array.mem_of_getElem? hf);simpa using this
def J(l:Ad):xD:=l.map fun n=> .wo n
def x0:AV:=.ag (J [5]++[.xG ([1,9]),.e0]++J [-1,-1,-1,-1,-1,-1,-1,-1,-1,-1,-1,-1,-1,-1,-1,-1,-1,0,5,0]++[.e0,.e0,.wz 0]++J [0]++[.wz 0,.wz 0]++J [0,0,0]++[.wu false,.wu false]++J [0]++[.xE ([])]++J [0,0]++[.wu false]++J [0]++[.e0]++J [0]++[.wz 0,.wz 0]++J [0,0,0]++[.wu false,.wu false]++J [0]++[.xE ([])]++J [0,0]++[.wu false]++J [0]++[.e0]++J [0]++[.wz 0,.wz 0]++J [0,0,0]++[.wu false,.wu false]++J [0]++[.xE ([])]++J [0,0]++[.wu false]++J [0]++[.e0]++J [0,0]++[.xE ([]),.e0]++J [0])
def x1:AV:=.tup [.ag (J [5]++[.xG ([1,9]),.xG ([])]++J [-1,9,9,9,-1,-1,-1,-1,-1,-1,-1,-1,-1,-1,-1,-1,-1,1,5,2]++[.d (.sl 20 [[.i .i64 5242881,.i .u8 1,.i .i64 5242881,.i .i64 5,.i .i64 9,.i .i64 0,.b false,.b false,.i .i64 0,.i .i64 0,.is [],.s [],.i .i64 0,.i .i64 0,.b false,.i .i64 0,.i .u8 1,.i .i64 0,.i .i64 1,.i .i64 1],[.i .i64 5242882,.i .u8 4,.i .i64 5242882,.i .i64 5,.i .i64 9,.i .i64 13,.b false,.b false,.i .i64 0,.i .i64 0,.is [],.s [],.i .i64 0,.i .i64 0,.b false,.i .i64 0,.i .u8 5,.i .i64 0,.i .i64 1,.i .i64 1]]),.e0,.wz 1]++J [9]++[.wz 1,.wz 1]++J [13,9,0]++[.wu false,.wu false]++J [0]++[.xE ([])]++J [0,0]++[.wu false]++J [0]++[.e0]++J [0]++[.wz 0,.wz 0]++J [0,0,0]++[.wu false,.wu false]++J [0]++[.xE ([])]++J [0,0]++[.wu false]++J [0]++[.e0]++J [0]++[.wz 0,.wz 0]++J [0,0,0]++[.wu false,.wu false]++J [0]++[.xE ([])]++J [0,0]++[.wu false]++J [0]++[.e0]++J [0,3]++[.xE ([]),.e0]++J [0]),.d (.sl 3 [[.i .i64 9,.by [71,1,0,10,1,1,3,80,0,1,1,5,1,9,243,140,185,12],.b false],[.i .i64 9,.by [71,1,0,13,1,4,3,80,0,2,1,5,1,9,1,13,0,24,246,175,2],.b false]])]
theorem wT:W6 Tryz.prog 11 [x0] x1:=(qf (kp:=keeps) AF mixed qm cb 1000 (.p 11 [x0] false) (.normal,[[some x1]],[]) (by kernel_rfl) _ _ rfl).1 rfl
end Nd
end Go.Proofs.YtkljbfejbakooaaGreatDoor
