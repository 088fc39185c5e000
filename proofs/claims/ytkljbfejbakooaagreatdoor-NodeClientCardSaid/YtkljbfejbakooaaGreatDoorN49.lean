/- Part 49 of a proof, put together by a program. Conditions: none beyond those that a theorem states. -/
import Derived.Test.YtkljbfejbakooaaGreatDoorN48
set_option linter.unusedSimpArgs false
set_option linter.unusedVariables false
set_option linter.unnecessarySimpa false
set_option maxHeartbeats 40000000
namespace Go.Proofs.YtkljbfejbakooaaGreatDoor
namespace Nd
open Go.Gar
open Wi (A8 Bn Bl)
set_option maxRecDepth 100000
theorem Fn.e0 {P : Program} {f : FuncId} {r : D} (h : Go.Gar.Fn P f [.is []] r) : R0 P f [.e0] (.d r):=h.toP (by simp [Ho,Bt,BN,A7,AB,A4])
def cD : AV → Option D
 | .d x => some x
 | .e0 => some (.is [])
 | _ => none
def kP : List AV → Option (List D)
 | [] => some []
 | x :: r => match cD x,kP r with
  | some y,some l => some (y :: l)
  | _,_ => none
def aD : AV → Option D
 | .d x => some x
 | .ag l => match kP l with
  | some q => some (.agg q)
  | none => none
 | _ => none
theorem kN {x : AV} {y : D} (h : cD x = some y) : BN [] x y:=by
 unfold cD at h;split at h
 ·cases h;simp [BN]
 ·cases h;simp [BN,A7,AB,A4]
 ·cases h
theorem Z3 : ∀ {l : List AV} {q : List D},kP l = some q → Bt [] l q
 | [],q,h => by simp only [kP,Option.some.injEq] at h;simp [Bt,h.symm]
 | x :: r,q,h => by
  simp only [kP] at h;split at h
  ·rename_i y l hy hl;cases h;simp only [Bt];exact ⟨_,_,rfl,kN hy,Z3 hl⟩
  ·cases h
theorem RI {x : AV} {y : D} (h : aD x = some y) : Ho [x] [y]:=by
 have : BN [] x y:=by
  unfold aD at h;split at h
  ·cases h;simp [BN]
  ·split at h
   ·rename_i q hq;cases h;simp only [BN];exact ⟨_,rfl,Z3 hq⟩
   ·cases h
  ·cases h
 simp only [Ho,Bt];exact ⟨_,_,rfl,this,rfl⟩
def aT : D → Option A8
 | .agg [.i .u8 kind,.i .i64 call,.i .i64 src,.i .i64 dst,.i .i64 key,.b slow,.b done,.i .i64 place,.i .i64 pred,.is list,.s ik,.i .i64 iv,.i .i64 ir,.b ig,.i .i64 code] => some ⟨kind,call,src,dst,key,slow,done,place,pred,list,⟨ik,iv,ir,ig⟩,code⟩
 | _ => none
theorem aU {x : D} {m : A8} (h : aT x = some m) : x = m.d:=by
 unfold aT at h;split at h
 ·cases h;rfl
 ·cases h
def oTk (g : Nat) (l : List UInt8) : Option AV :=
 match (Nat.beq g 43 || Nat.beq g 17) && Nat.blt l.length 1000 with
 | true => some (.d (.tup [(Bl l).1.d,.i .i64 (Bl l).2]))
 | false => none
def oPt (g : Nat) (m : A8) : Option AV :=
 match (Nat.beq g 123 || Nat.beq g 68) && Nat.blt m.list.length 1000 with
 | true => some (.d (.tup [.by (Bn m).1,.i .i64 (Bn m).2]))
 | false => none
def iQ (g : Nat) (xs : List AV) : Option AV :=
 match xs with
 | [.e0] => match Nat.beq g 151 with
  | true => some (.d (.is []))
  | false => none
 | [x] => match aD x with
  | some (.by l) => oTk g l
  | some (.is l) => match Nat.beq g 151 && Nat.blt l.length 1000 with
   | true => some (.d (.is l))
   | false => none
  | some d => match aT d with
   | some m => oPt g m
   | none => none
  | none => none
 | _ => none
theorem Vh : ∀ g xs y,iQ g xs = some y → R0 Tryz.prog g xs y:=by
 intro g xs y h;unfold iQ at h;split at h
 ·split at h
  ·rename_i hg;cases h;rw [Nat.eq_of_beq_eq_true hg];exact Fn.e0 (LH [] (by decide))
  ·cases h
 ·rename_i x _;split at h
  ·rename_i l hl;unfold oTk at h;split at h
   ·rename_i hg;cases h;rw [Bool.and_eq_true,Bool.or_eq_true] at hg;have h2 : l.length < 1000:=by simpa using hg.2
    rcases hg.1 with e | e <;> rw [Nat.eq_of_beq_eq_true e]
    ·exact (Wi.MK l (by omega)).toP (RI hl)
    ·exact (Wi.PE l (by omega)).toP (RI hl)
   ·cases h
  ·rename_i l hl;split at h
   ·rename_i hg;cases h;rw [Bool.and_eq_true] at hg;have h2 : l.length < 1000:=by simpa using hg.2
    rw [Nat.eq_of_beq_eq_true hg.1];exact (LH l (by omega)).toP (RI hl)
   ·cases h
  ·rename_i d _ _ hd;split at h
   ·rename_i m hm;unfold oPt at h;split at h
    ·rename_i hg;cases h;rw [Bool.and_eq_true,Bool.or_eq_true] at hg;have h2 : m.list.length < 1000:=by simpa using hg.2
     have h3:=aU hm;subst h3;rcases hg.1 with e | e <;> rw [Nat.eq_of_beq_eq_true e]
     ·exact (Wi.YI m (by omega)).toP (RI hd)
     ·exact (Wi.bC m (by omega)).toP (RI hd)
    ·cases h
   ·cases h
  ·cases h
 ·cases h
def keeps (g : Nat) : Bool:=Nat.beq g 84 || Nat.beq g 125
theorem fG : ∀ (g : Nat) (fn : Func), Tryz.prog.funcs[g]? = some fn → (fn.name == "runtime.NumGoroutine") = false := by
 have h : (Tryz.prog.funcs.toList.all fun f => !(f.name == "runtime.NumGoroutine")) = true := by kernel_rfl
 intro g fn hf;have:=List.all_eq_true.1 h fn (by rw [Array.mem_toList_iff];exact Array.mem_of_getElem? hf);simpa using this
def J (l : List Int) : List AV:=l.map fun n => .d (.i .i64 n)
def x0 : AV:=.ag (J [5] ++ [.d (.is [1,9]),.e0] ++ J [-1,-1,-1,-1,-1,-1,-1,-1,-1,-1,-1,-1,-1,-1,-1,-1,-1,0,5,0] ++ [.e0,.e0,.d (.i .u8 0)] ++ J [0] ++ [.d (.i .u8 0),.d (.i .u8 0)] ++ J [0,0,0] ++ [.d (.b false),.d (.b false)] ++ J [0] ++ [.d (.s [])] ++ J [0,0] ++ [.d (.b false)] ++ J [0] ++ [.e0] ++ J [0] ++ [.d (.i .u8 0),.d (.i .u8 0)] ++ J [0,0,0] ++ [.d (.b false),.d (.b false)] ++ J [0] ++ [.d (.s [])] ++ J [0,0] ++ [.d (.b false)] ++ J [0] ++ [.e0] ++ J [0] ++ [.d (.i .u8 0),.d (.i .u8 0)] ++ J [0,0,0] ++ [.d (.b false),.d (.b false)] ++ J [0] ++ [.d (.s [])] ++ J [0,0] ++ [.d (.b false)] ++ J [0] ++ [.e0] ++ J [0,0] ++ [.d (.s []),.e0] ++ J [0])
def x1 : AV:=.tup [.ag (J [5] ++ [.d (.is [1,9]),.d (.is [])] ++ J [-1,9,9,9,-1,-1,-1,-1,-1,-1,-1,-1,-1,-1,-1,-1,-1,1,5,2] ++ [.d (.sl 20 [[.i .i64 5242881,.i .u8 1,.i .i64 5242881,.i .i64 5,.i .i64 9,.i .i64 0,.b false,.b false,.i .i64 0,.i .i64 0,.is [],.s [],.i .i64 0,.i .i64 0,.b false,.i .i64 0,.i .u8 1,.i .i64 0,.i .i64 1,.i .i64 1],[.i .i64 5242882,.i .u8 4,.i .i64 5242882,.i .i64 5,.i .i64 9,.i .i64 13,.b false,.b false,.i .i64 0,.i .i64 0,.is [],.s [],.i .i64 0,.i .i64 0,.b false,.i .i64 0,.i .u8 5,.i .i64 0,.i .i64 1,.i .i64 1]]),.e0,.d (.i .u8 1)] ++ J [9] ++ [.d (.i .u8 1),.d (.i .u8 1)] ++ J [13,9,0] ++ [.d (.b false),.d (.b false)] ++ J [0] ++ [.d (.s [])] ++ J [0,0] ++ [.d (.b false)] ++ J [0] ++ [.e0] ++ J [0] ++ [.d (.i .u8 0),.d (.i .u8 0)] ++ J [0,0,0] ++ [.d (.b false),.d (.b false)] ++ J [0] ++ [.d (.s [])] ++ J [0,0] ++ [.d (.b false)] ++ J [0] ++ [.e0] ++ J [0] ++ [.d (.i .u8 0),.d (.i .u8 0)] ++ J [0,0,0] ++ [.d (.b false),.d (.b false)] ++ J [0] ++ [.d (.s [])] ++ J [0,0] ++ [.d (.b false)] ++ J [0] ++ [.e0] ++ J [0,3] ++ [.d (.s []),.e0] ++ J [0]),.d (.sl 3 [[.i .i64 9,.by [71,1,0,10,1,1,3,80,0,1,1,5,1,9,243,140,185,12],.b false],[.i .i64 9,.by [71,1,0,13,1,4,3,80,0,2,1,5,1,9,1,13,0,24,246,175,2],.b false]])]
theorem lL : R0 Tryz.prog 11 [x0] x1:=(fA (kp:=keeps) A6 mixed fG Vh 1000 (.p 11 [x0] false) (.normal,[[some x1]],[]) (by kernel_rfl) _ _ rfl).1 rfl
end Nd
end Go.Proofs.YtkljbfejbakooaaGreatDoor
