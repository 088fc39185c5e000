/- Part 29 of a proof. Conditions: those that its theorems state. -/
import Derived.Test.YtkljbfejbakooaaGreatDoorS28
set_option linter.unusedSimpArgs false
set_option linter.unusedVariables false
set_option linter.unnecessarySimpa false
set_option maxHeartbeats 40000000
set_option maxRecDepth 4000
namespace Go.Proofs.YtkljbfejbakooaaGreatDoor
namespace Nd
open Go.Gar
open Wi (A2 B7 Ad)
set_option maxRecDepth 100000
theorem Fn.e0{P:Program}{f:FuncId}{r:D}(h:Go.Gar.Fn P f [.is []] r):Si P f [.e0] (.d r):=h.toP (by simp[Ig,CN,Bb,Aj,AP,AF])
def cD:AV->Option D
 | .d x=>some x
 | .e0=>some (.is [])
 |_=>none
def oY:List AV->Option (List D)
 |[]=>some []
 |x::r=>match cD x,oY r with
  |some y,some l=>some (y::l)
  |_,_=>none
def aD:AV->Option D
 | .d x=>some x
 | .ag l=>match oY l with
  |some q=>some (.agg q)
  |none=>none
 |_=>none
theorem oW{x:AV}{y:D}(h:cD x=some y):Bb [] x y:=by
 unfold cD at h;split at h
 .cases h;simp[Bb]
 .cases h;simp[Bb,Aj,AP,AF]
 .cases h
theorem bZ:∀{l:List AV}{q:List D},oY l=some q->CN [] l q
 |[],q,h=>by simp only[oY,qI]at h;simp[CN,h.symm]
 |x::r,q,h=>by
  simp only[oY]at h;split at h
  .rename_i y l hy hl;cases h;simp only[CN];exact⟨_,_,rfl,oW hy,bZ hl⟩
  .cases h
theorem T4{x:AV}{y:D}(h:aD x=some y):Ig [x] [y]:=by
 have:Bb [] x y:=by
  unfold aD at h;split at h
  .cases h;simp[Bb]
  .split at h
   .rename_i q hq;cases h;simp only[Bb];exact⟨_,rfl,bZ hq⟩
   .cases h
  .cases h
 simp only[Ig,CN];exact⟨_,_,rfl,this,rfl⟩
def dh:D->Option A2
 | .agg [.i .u8 kind,.i .i64 call,.i .i64 src,.i .i64 dst,.i .i64 key,.b slow,.b done,.i .i64 place,.i .i64 pred,.is list,.s ik,.i .i64 iv,.i .i64 ir,.b ig,.i .i64 code]=>some ⟨kind,call,src,dst,key,slow,done,place,pred,list,⟨ik,iv,ir,ig⟩,code⟩
 |_=>none
theorem di{x:D}{m:A2}(h:dh x=some m):x=m.d:=by
 unfold dh at h;split at h
 .cases h;rfl
 .cases h
def oTk(g:Nat)(l:List UInt8):Option AV:=
 match(Nat.beq g 43||Nat.beq g 17)&&Nat.blt l.length 1000 with
 |true=>some (.d (.tup [(Ad l).1.d,.i .i64 (Ad l).2]))
 |false=>none
def oPt(g:Nat)(m:A2):Option AV:=
 match(Nat.beq g 123||Nat.beq g 68)&&Nat.blt m.list.length 1000 with
 |true=>some (.d (.tup [.by (B7 m).1,.i .i64 (B7 m).2]))
 |false=>none
def mN(g:Nat)(xs:List AV):Option AV:=
 match xs with
 |[.e0]=>match Nat.beq g 151 with
  |true=>some (.d (.is []))
  |false=>none
 |[x]=>match aD x with
  |some (.by l)=>oTk g l
  |some (.is l)=>match Nat.beq g 151&&Nat.blt l.length 1000 with
   |true=>some (.d (.is l))
   |false=>none
  |some d=>match dh d with
   |some m=>oPt g m
   |none=>none
  |none=>none
 |_=>none
theorem XZ:∀g xs y,mN g xs=some y->Si Tryz.prog g xs y:=by
 intro g xs y h;unfold mN at h;split at h
 .split at h
  .rename_i hg;cases h;rw[qL hg];exact Fn.e0 (JR [] (by decide))
  .cases h
 .rename_i x _;split at h
  .rename_i l hl;unfold oTk at h;split at h
   .rename_i hg;cases h;rw[qH,rO]at hg;have h2:l.length<1000:=by simpa using hg.2
    rcases hg.1 with e|e<;>rw[qL e]
    .exact(Wi.Kv l om).toP (T4 hl)
    .exact(Wi.Zh l om).toP (T4 hl)
   .cases h
  .rename_i l hl;split at h
   .rename_i hg;cases h;rw[qH]at hg;have h2:l.length<1000:=by simpa using hg.2
    rw[qL hg.1];exact(JR l om).toP (T4 hl)
   .cases h
  .rename_i d _ _ hd;split at h
   .rename_i m hm;unfold oPt at h;split at h
    .rename_i hg;cases h;rw[qH,rO]at hg;have h2:m.list.length<1000:=by simpa using hg.2
     have h3:=di hm;subst h3;rcases hg.1 with e|e<;>rw[qL e]
     .exact(Wi.an m om).toP (T4 hd)
     .exact(Wi.UQ m om).toP (T4 hd)
    .cases h
   .cases h
  .cases h
 .cases h
def keeps(g:Nat):Bool:=Nat.beq g 84||Nat.beq g 125
theorem jw:∀(g:Nat)(fn:Func), Tryz.prog.funcs[g]? =some fn->(fn.name== "runtime.NumGoroutine")=false:=by
 have h:(Tryz.prog.funcs.toList.all fun f=> !(f.name== "runtime.NumGoroutine"))=true:=by kernel_rfl
 intro g fn hf;have:=sK.1 h fn (by rw[Array.mem_toList_iff];exact Array.mem_of_getElem? hf);simpa using this
def J(l:List Int):List AV:=l.map fun n=> .pY n
def x0:AV:=.ag (J [5]++[.qF ([1,9]),.e0]++J [-1,-1,-1,-1,-1,-1,-1,-1,-1,-1,-1,-1,-1,-1,-1,-1,-1,0,5,0]++[.e0,.e0,.pz 0]++J [0]++[.pz 0,.pz 0]++J [0,0,0]++[.pq false,.pq false]++J [0]++[.qE ([])]++J [0,0]++[.pq false]++J [0]++[.e0]++J [0]++[.pz 0,.pz 0]++J [0,0,0]++[.pq false,.pq false]++J [0]++[.qE ([])]++J [0,0]++[.pq false]++J [0]++[.e0]++J [0]++[.pz 0,.pz 0]++J [0,0,0]++[.pq false,.pq false]++J [0]++[.qE ([])]++J [0,0]++[.pq false]++J [0]++[.e0]++J [0,0]++[.qE ([]),.e0]++J [0])
def x1:AV:=.tup [.ag (J [5]++[.qF ([1,9]),.qF ([])]++J [-1,9,9,9,-1,-1,-1,-1,-1,-1,-1,-1,-1,-1,-1,-1,-1,1,5,2]++[.d (.sl 20 [[.i .i64 5242881,.i .u8 1,.i .i64 5242881,.i .i64 5,.i .i64 9,.i .i64 0,.b false,.b false,.i .i64 0,.i .i64 0,.is [],.s [],.i .i64 0,.i .i64 0,.b false,.i .i64 0,.i .u8 1,.i .i64 0,.i .i64 1,.i .i64 1],[.i .i64 5242882,.i .u8 4,.i .i64 5242882,.i .i64 5,.i .i64 9,.i .i64 13,.b false,.b false,.i .i64 0,.i .i64 0,.is [],.s [],.i .i64 0,.i .i64 0,.b false,.i .i64 0,.i .u8 5,.i .i64 0,.i .i64 1,.i .i64 1]]),.e0,.pz 1]++J [9]++[.pz 1,.pz 1]++J [13,9,0]++[.pq false,.pq false]++J [0]++[.qE ([])]++J [0,0]++[.pq false]++J [0]++[.e0]++J [0]++[.pz 0,.pz 0]++J [0,0,0]++[.pq false,.pq false]++J [0]++[.qE ([])]++J [0,0]++[.pq false]++J [0]++[.e0]++J [0]++[.pz 0,.pz 0]++J [0,0,0]++[.pq false,.pq false]++J [0]++[.qE ([])]++J [0,0]++[.pq false]++J [0]++[.e0]++J [0,3]++[.qE ([]),.e0]++J [0]),.d (.sl 3 [[.i .i64 9,.by [71,1,0,10,1,1,3,80,0,1,1,5,1,9,243,140,185,12],.b false],[.i .i64 9,.by [71,1,0,13,1,4,3,80,0,2,1,5,1,9,1,13,0,24,246,175,2],.b false]])]
theorem pO:Si Tryz.prog 11 [x0] x1:=(jp (kp:=keeps) A4 mixed jw XZ 1000 (.p 11 [x0] false) (.normal,[[some x1]],[]) (by kernel_rfl) _ _ rfl).1 rfl
end Nd
end Go.Proofs.YtkljbfejbakooaaGreatDoor
