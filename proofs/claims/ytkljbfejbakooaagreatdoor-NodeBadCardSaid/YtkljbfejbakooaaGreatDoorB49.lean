/- Part 49 of a proof, put together by a program. Conditions: none beyond those that a theorem states. -/
import Derived.Test.YtkljbfejbakooaaGreatDoorB48
set_option linter.unusedSimpArgs false
set_option linter.unusedVariables false
set_option linter.unnecessarySimpa false
set_option maxHeartbeats 40000000
namespace Go.Proofs.YtkljbfejbakooaaGreatDoor
namespace Nd
open Go.Gar
open Wi (A8 Bs Ar)
set_option maxRecDepth 100000
theorem Fn.e0 {P : Program} {f : FuncId} {r : D} (h : Go.Gar.Fn P f [.is []] r) : Ou P f [.e0] (.d r):=h.toP (by simp [I7,BX,B9,A4,A9,A3])
def cD : AV → Option D
 | .d x => some x
 | .e0 => some (.is [])
 | _ => none
def e8 : List AV → Option (List D)
 | [] => some []
 | x :: r => match cD x,e8 r with
  | some y,some l => some (y :: l)
  | _,_ => none
def aD : AV → Option D
 | .d x => some x
 | .ag l => match e8 l with
  | some q => some (.agg q)
  | none => none
 | _ => none
theorem dx {x : AV} {y : D} (h : cD x = some y) : B9 [] x y:=by
 unfold cD at h;split at h
 ·cases h;simp [B9]
 ·cases h;simp [B9,A4,A9,A3]
 ·cases h
theorem W0 : ∀ {l : List AV} {q : List D},e8 l = some q → BX [] l q
 | [],q,h => by simp only [e8,Option.some.injEq] at h;simp [BX,h.symm]
 | x :: r,q,h => by
  simp only [e8] at h;split at h
  ·rename_i y l hy hl;cases h;simp only [BX];exact ⟨_,_,rfl,dx hy,W0 hl⟩
  ·cases h
theorem P4 {x : AV} {y : D} (h : aD x = some y) : I7 [x] [y]:=by
 have : B9 [] x y:=by
  unfold aD at h;split at h
  ·cases h;simp [B9]
  ·split at h
   ·rename_i q hq;cases h;simp only [B9];exact ⟨_,rfl,W0 hq⟩
   ·cases h
  ·cases h
 simp only [I7,BX];exact ⟨_,_,rfl,this,rfl⟩
def X3 : D → Option A8
 | .agg [.i .u8 kind,.i .i64 call,.i .i64 src,.i .i64 dst,.i .i64 key,.b slow,.b done,.i .i64 place,.i .i64 pred,.is list,.s ik,.i .i64 iv,.i .i64 ir,.b ig,.i .i64 code] => some ⟨kind,call,src,dst,key,slow,done,place,pred,list,⟨ik,iv,ir,ig⟩,code⟩
 | _ => none
theorem X4 {x : D} {m : A8} (h : X3 x = some m) : x = m.d:=by
 unfold X3 at h;split at h
 ·cases h;rfl
 ·cases h
def oTk (g : Nat) (l : List UInt8) : Option AV :=
 match (Nat.beq g 43 || Nat.beq g 17) && Nat.blt l.length 1000 with
 | true => some (.d (.tup [(Ar l).1.d,.i .i64 (Ar l).2]))
 | false => none
def oPt (g : Nat) (m : A8) : Option AV :=
 match (Nat.beq g 123 || Nat.beq g 68) && Nat.blt m.list.length 1000 with
 | true => some (.d (.tup [.by (Bs m).1,.i .i64 (Bs m).2]))
 | false => none
def bk (g : Nat) (xs : List AV) : Option AV :=
 match xs with
 | [.e0] => match Nat.beq g 151 with
  | true => some (.d (.is []))
  | false => none
 | [x] => match aD x with
  | some (.by l) => oTk g l
  | some (.is l) => match Nat.beq g 151 && Nat.blt l.length 1000 with
   | true => some (.d (.is l))
   | false => none
  | some d => match X3 d with
   | some m => oPt g m
   | none => none
  | none => none
 | _ => none
theorem TI : ∀ g xs y,bk g xs = some y → Ou Tryz.prog g xs y:=by
 intro g xs y h;unfold bk at h;split at h
 ·split at h
  ·rename_i hg;cases h;rw [Nat.eq_of_beq_eq_true hg];exact Fn.e0 (Je [] (by decide))
  ·cases h
 ·rename_i x _;split at h
  ·rename_i l hl;unfold oTk at h;split at h
   ·rename_i hg;cases h;rw [Bool.and_eq_true,Bool.or_eq_true] at hg;have h2 : l.length < 1000:=by simpa using hg.2
    rcases hg.1 with e | e <;> rw [Nat.eq_of_beq_eq_true e]
    ·exact (Wi.HY l (by omega)).toP (P4 hl)
    ·exact (Wi.NJ l (by omega)).toP (P4 hl)
   ·cases h
  ·rename_i l hl;split at h
   ·rename_i hg;cases h;rw [Bool.and_eq_true] at hg;have h2 : l.length < 1000:=by simpa using hg.2
    rw [Nat.eq_of_beq_eq_true hg.1];exact (Je l (by omega)).toP (P4 hl)
   ·cases h
  ·rename_i d _ _ hd;split at h
   ·rename_i m hm;unfold oPt at h;split at h
    ·rename_i hg;cases h;rw [Bool.and_eq_true,Bool.or_eq_true] at hg;have h2 : m.list.length < 1000:=by simpa using hg.2
     have h3:=X4 hm;subst h3;rcases hg.1 with e | e <;> rw [Nat.eq_of_beq_eq_true e]
     ·exact (Wi.aU m (by omega)).toP (P4 hd)
     ·exact (Wi.QI m (by omega)).toP (P4 hd)
    ·cases h
   ·cases h
  ·cases h
 ·cases h
def keeps (g : Nat) : Bool:=Nat.beq g 84 || Nat.beq g 125
theorem aF : ∀ (g : Nat) (fn : Func), Tryz.prog.funcs[g]? = some fn → (fn.name == "runtime.NumGoroutine") = false := by
 have h : (Tryz.prog.funcs.toList.all fun f => !(f.name == "runtime.NumGoroutine")) = true := by kernel_rfl
 intro g fn hf;have:=List.all_eq_true.1 h fn (by rw [Array.mem_toList_iff];exact Array.mem_of_getElem? hf);simpa using this
def J (l : List Int) : List AV:=l.map fun n => .d (.i .i64 n)
def x0 : AV:=.ag (J [5] ++ [.d (.is [1,9]),.e0] ++ J [-1,-1,-1,-1,-1,-1,-1,-1,-1,-1,-1,-1,-1,-1,-1,-1,-1,0,5,0] ++ [.e0,.e0,.d (.i .u8 0)] ++ J [0] ++ [.d (.i .u8 0),.d (.i .u8 0)] ++ J [0,0,0] ++ [.d (.b false),.d (.b false)] ++ J [0] ++ [.d (.s [])] ++ J [0,0] ++ [.d (.b false)] ++ J [0] ++ [.e0] ++ J [0] ++ [.d (.i .u8 0),.d (.i .u8 0)] ++ J [0,0,0] ++ [.d (.b false),.d (.b false)] ++ J [0] ++ [.d (.s [])] ++ J [0,0] ++ [.d (.b false)] ++ J [0] ++ [.e0] ++ J [0] ++ [.d (.i .u8 0),.d (.i .u8 0)] ++ J [0,0,0] ++ [.d (.b false),.d (.b false)] ++ J [0] ++ [.d (.s [])] ++ J [0,0] ++ [.d (.b false)] ++ J [0] ++ [.e0] ++ J [0,0] ++ [.d (.s []),.e0] ++ J [0])
def x1 : AV:=.tup [.ag (J [5] ++ [.d (.is [1,9]),.d (.is [])] ++ J [-1,9,9,9,-1,-1,-1,-1,-1,-1,-1,-1,-1,-1,-1,-1,-1,1,5,2] ++ [.d (.sl 20 [[.i .i64 5242881,.i .u8 1,.i .i64 5242881,.i .i64 5,.i .i64 9,.i .i64 0,.b false,.b false,.i .i64 0,.i .i64 0,.is [],.s [],.i .i64 0,.i .i64 0,.b false,.i .i64 0,.i .u8 1,.i .i64 0,.i .i64 1,.i .i64 1],[.i .i64 5242882,.i .u8 4,.i .i64 5242882,.i .i64 5,.i .i64 9,.i .i64 13,.b false,.b false,.i .i64 0,.i .i64 0,.is [],.s [],.i .i64 0,.i .i64 0,.b false,.i .i64 0,.i .u8 5,.i .i64 0,.i .i64 1,.i .i64 1]]),.e0,.d (.i .u8 1)] ++ J [9] ++ [.d (.i .u8 1),.d (.i .u8 1)] ++ J [13,9,0] ++ [.d (.b false),.d (.b false)] ++ J [0] ++ [.d (.s [])] ++ J [0,0] ++ [.d (.b false)] ++ J [0] ++ [.e0] ++ J [0] ++ [.d (.i .u8 0),.d (.i .u8 0)] ++ J [0,0,0] ++ [.d (.b false),.d (.b false)] ++ J [0] ++ [.d (.s [])] ++ J [0,0] ++ [.d (.b false)] ++ J [0] ++ [.e0] ++ J [0] ++ [.d (.i .u8 0),.d (.i .u8 0)] ++ J [0,0,0] ++ [.d (.b false),.d (.b false)] ++ J [0] ++ [.d (.s [])] ++ J [0,0] ++ [.d (.b false)] ++ J [0] ++ [.e0] ++ J [0,3] ++ [.d (.s []),.e0] ++ J [0]),.d (.sl 3 [[.i .i64 9,.by [71,1,0,10,1,1,3,80,0,1,1,5,1,9,243,140,185,12],.b false],[.i .i64 9,.by [71,1,0,13,1,4,3,80,0,2,1,5,1,9,1,13,0,24,246,175,2],.b false]])]
theorem eg : Ou Tryz.prog 11 [x0] x1:=(Zz (kp:=keeps) A6 mixed aF TI 1000 (.p 11 [x0] false) (.normal,[[some x1]],[]) (by kernel_rfl) _ _ rfl).1 rfl
end Nd
end Go.Proofs.YtkljbfejbakooaaGreatDoor
