/- Part 9 of a proof. Conditions: those that its theorems state. -/
import Derived.Test.YtkljbfejbakooaaGreatDoorS05
import Derived.Test.YtkljbfejbakooaaGreatDoorS07
set_option linter.unusedSimpArgs false
set_option linter.unusedVariables false
set_option maxHeartbeats 40000000
set_option maxRecDepth 4000
namespace Go.Proofs.YtkljbfejbakooaaGreatDoor
namespace Wi
open Go.Gar
abbrev K3:List Nat:=[0,1,4,5,10,14]
abbrev K4:List Nat:=[0,1,4,5,11,14]
def u32(s:BitVec 32):D:=.i .u32 (s.toNat:Int)
theorem wrap_u32(n:Nat):IntKind.wrap .u32 (n:Int)=((BitVec.ofNat 32 n).toNat:Int):=by
 simp[IntKind.wrap,IntKind.bits,IntKind.signed]
theorem pJ(s:BitVec 32):IntKind.wrap .u32 ((s.toNat:Int)*2^min 1 IntKind.u32.bits)=((s<<<1).toNat:Int):=by
 have:(s.toNat:Int)*2^min 1 IntKind.u32.bits=((s.toNat*2:Nat):Int):=by simp[IntKind.bits]
 rw[this,wrap_u32];simp[BitVec.toNat_shiftLeft,Nat.shiftLeft_eq]
theorem ofInt32(s:BitVec 32):BitVec.ofInt 32 (s.toNat:Int)=s:=by
 apply BitVec.eq_of_toNat_eq;simp
theorem or1(s:BitVec 32):C9 .or .u32 ((s<<<1).toNat:Int) 1=((s<<<1^^^1#32).toNat:Int):=by
 have h:(s<<<1)|||1#32=s<<<1^^^1#32:=by
  apply BitVec.eq_of_getLsbD_eq;intro i hi;simp only[BitVec.getLsbD_or,BitVec.getLsbD_xor,BitVec.getLsbD_shiftLeft,BitVec.getLsbD_one]
  by_cases e:i=0<;>simp[e]
 unfold C9;show IntKind.wrap .u32 ((BitVec.ofInt 32 _|||BitVec.ofInt 32 1).toNat:Int)=_;rw[ofInt32,show BitVec.ofInt 32 1=1#32 from by decide,h,wrap_u32];simp
theorem jW(s:BitVec 32):C9 .xor .u32 (s.toNat:Int) 1947962583=((s^^^pat).toNat:Int):=by
 unfold C9;show IntKind.wrap .u32 ((BitVec.ofInt 32 _^^^BitVec.ofInt 32 1947962583).toNat:Int)=_;rw[ofInt32,show BitVec.ofInt 32 1947962583=pat from by decide,wrap_u32];simp
theorem XG(s:BitVec 32)(h:s.getLsbD 31=true):(s.toNat:Int).fdiv (2^min 31 IntKind.u32.bits)=1:=by
 have:=BitVec.msb_eq_decide s;rw[BitVec.msb_eq_getLsbD_last,h]at this;have hlt:=s.isLt;simp at this;rw[uO _ (by decide)];simp[IntKind.bits];omega
theorem XE(s:BitVec 32)(h:s.getLsbD 31=false):(s.toNat:Int).fdiv (2^min 31 IntKind.u32.bits)=0:=by
 have:=BitVec.msb_eq_decide s;rw[BitVec.msb_eq_getLsbD_last,h]at this;simp at this;rw[uO _ (by decide)];simp[IntKind.bits];omega
theorem TL(s:BitVec 32)(h:s.getLsbD 31=true):FE s true=(s<<<1^^^1#32)^^^pat:=by unfold FE;rw[h];simp[bS]
theorem TK(s:BitVec 32)(h:s.getLsbD 31=true):FE s false=(s<<<1)^^^pat:=by unfold FE;rw[h];simp[bS]
theorem TJ(s:BitVec 32)(h:s.getLsbD 31=false):FE s true=s<<<1^^^1#32:=by unfold FE;rw[h];simp[bS]
theorem TI(s:BitVec 32)(h:s.getLsbD 31=false):FE s false=s<<<1:=by unfold FE;rw[h];simp[bS]
theorem g0(s:BitVec 32)(b:Bool):qB 259 [u32 s,.b b] (u32 (FE s b)):=by
 have h1:=pJ s;have h2:=or1 s;have h3:=jW (s<<<1);have h4:=jW (s<<<1^^^1#32);refine zF A4 Tryz.func259 ?_;cases hs:s.getLsbD 31<;>cases b
 .have h5:=XE s hs;have e:=TI s hs;refine wd K3 [] (NU h1 h2 h3 h4 h5) A0 ?_;exact Ag (qQ @u32.eq_1 e)
 .have h5:=XE s hs;have e:=TJ s hs;refine wd K3 [] (NU h1 h2 h3 h4 h5) A0 ?_;exact Ag (qQ @u32.eq_1 e)
 .have h5:=XG s hs;have e:=TK s hs;refine wd K3 [] (NU h1 h2 h3 h4 h5) A0 ?_;exact Ag (qQ @u32.eq_1 e)
 .have h5:=XG s hs;have e:=TL s hs;refine wd K3 [] (NU h1 h2 h3 h4 h5) A0 ?_;exact Ag (qQ @u32.eq_1 e)
theorem UT(s:BitVec 32)(b:Bool):qB 297 [u32 s,.b b] (u32 (FE s b)):=by
 have h1:=pJ s;have h2:=or1 s;have h3:=jW (s<<<1);have h4:=jW (s<<<1^^^1#32);refine zF A4 Tryz.func297 ?_;cases hs:s.getLsbD 31<;>cases b
 .have h5:=XE s hs;have e:=TI s hs;refine wd K4 [] (NU h1 h2 h3 h4 h5) A0 ?_;exact Ag (qQ @u32.eq_1 e)
 .have h5:=XE s hs;have e:=TJ s hs;refine wd K4 [] (NU h1 h2 h3 h4 h5) A0 ?_;exact Ag (qQ @u32.eq_1 e)
 .have h5:=XG s hs;have e:=TK s hs;refine wd K4 [] (NU h1 h2 h3 h4 h5) A0 ?_;exact Ag (qQ @u32.eq_1 e)
 .have h5:=XG s hs;have e:=TL s hs;refine wd K4 [] (NU h1 h2 h3 h4 h5) A0 ?_;exact Ag (qQ @u32.eq_1 e)
theorem WW(n:Int):qB 177 [.i .i64 n] (.i .i64 (if n<0\/n>112 then 0 else n+8)):=by
 refine zF A4 Tryz.func177 ?_
 by_cases h:n<0\/n>112
 .rw[if_pos h];refine wd [0,2,8] [] A0 A0 ?_;with_reducible repeat' first|constructor|intro hc;try simp only[AB]at hc
  all_goals first|(exfalso;omega)|(refine⟨_,_,rfl,rfl,?_⟩;simp[Bb])
 .rw[if_neg h];refine wd [0,2,8] [] A0 A0 ?_;with_reducible repeat' first|constructor|intro hc;try simp only[AB]at hc
  all_goals first|(exfalso;omega)|(refine⟨_,_,rfl,rfl,?_⟩;simp[Bb]<;>omega)
theorem eM(n:Int):qB 219 [.i .i64 n] (.i .i64 (if n<0\/n>112 then 0 else n+8)):=by
 refine zF A4 Tryz.func219 ?_
 by_cases h:n<0\/n>112
 .rw[if_pos h];refine wd [0,2,8] [] A0 A0 ?_;with_reducible repeat' first|constructor|intro hc;try simp only[AB]at hc
  all_goals first|(exfalso;omega)|(refine⟨_,_,rfl,rfl,?_⟩;simp[Bb])
 .rw[if_neg h];refine wd [0,2,8] [] A0 A0 ?_;with_reducible repeat' first|constructor|intro hc;try simp only[AB]at hc
  all_goals first|(exfalso;omega)|(refine⟨_,_,rfl,rfl,?_⟩;simp[Bb]<;>omega)
end Wi
end Go.Proofs.YtkljbfejbakooaaGreatDoor
