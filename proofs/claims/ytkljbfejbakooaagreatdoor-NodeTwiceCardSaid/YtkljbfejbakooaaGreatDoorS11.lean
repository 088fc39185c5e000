/- Part 11 of a proof. Conditions: those that its theorems state. -/
import Derived.Test.YtkljbfejbakooaaGreatDoorS05
import Derived.Test.YtkljbfejbakooaaGreatDoorS07
set_option linter.unusedSimpArgs false
set_option linter.unusedVariables false
set_option linter.unnecessarySimpa false
set_option maxHeartbeats 40000000
set_option maxRecDepth 4000
namespace Go.Proofs.YtkljbfejbakooaaGreatDoor
open Go.Gar
def fits(n:Int):Bool:=decide (n>=0)&&decide (n<=1099511627776)
theorem Nj(n:Int):qB 366 [.i .i64 n] (.b (fits n)):=by
 refine zF A4 Tryz.func366 ?_;refine wd [0,2] [] A0 A0 ?_;repeat'(first|with_reducible constructor|(with_reducible intro hc;try simp only[AB]at hc)|with_reducible refine Ip ?_ ?_|(with_reducible refine qM ?_;first|rfl|omega)|decide)
 all_goals(refine⟨_,_,rfl,rfl,?_⟩;simp_all[Bb,fits]<;>omega)
def Cg(n:Nat):Nat:=if n=0 then 0 else n.log2+1
theorem HZ{n k:Nat}:Cg n=k↔n<2^k/\(k=0\/2^(k-1)<=n):=by
 unfold Cg;split
 .rename_i h;subst h;constructor
  .intro h;subst h;simp
  .rintro⟨h1,h2|h2⟩
   .exact h2.symm
   .have:0<2^(k-1):=Nat.two_pow_pos _;omega
 .rename_i h;constructor
  .intro hk;subst hk;exact⟨Nat.lt_log2_self,.inr (by simpa using Nat.log2_self_le h)⟩
  .rintro⟨h1,h2⟩;have h2':k≠0:=fun e=>by subst e;simp at h1;omega
   have h2:2^(k-1)<=n:=by rcases h2 with h2|h2;exact absurd h2 h2';exact h2
   have:=(Nat.log2_eq_iff h).2 ⟨h2,by rwa [show k-1+1=k by omega]⟩;omega
theorem Ty{n k:Nat}(h:2^k<=n):Cg n=Cg (n/2^k)+k:=by
 rw[HZ];have hp:0<2^k:=Nat.two_pow_pos k;obtain⟨h1,h2⟩:=(HZ (n:=n/2^k)).1 rfl;have hne:0<n/2^k:=Nat.div_pos h hp;have hk:Cg (n/2^k)≠0:=fun e=>by rw[e]at h1;simp at h1;omega
 have h2:2^(Cg (n/2^k)-1)<=n/2^k:=by rcases h2 with h2|h2;exact absurd h2 hk;exact h2
 refine⟨?_,.inr ?_⟩
 .rw[Nat.pow_add];exact(Nat.div_lt_iff_lt_mul hp).1 h1
 .rw[show Cg (n/2^k)+k-1=(Cg (n/2^k)-1)+k by omega,Nat.pow_add];exact(Nat.le_div_iff_mul_le hp).1 h2
def aI:List UInt8:=[0,1,2,2,3,3,3,3,4,4,4,4,4,4,4,4,5,5,5,5,5,5,5,5,5,5,5,5,5,5,5,5,6,6,6,6,6,6,6,6,6,6,6,6,6,6,6,6,6,6,6,6,6,6,6,6,6,6,6,6,6,6,6,6,7,7,7,7,7,7,7,7,7,7,7,7,7,7,7,7,7,7,7,7,7,7,7,7,7,7,7,7,7,7,7,7,7,7,7,7,7,7,7,7,7,7,7,7,7,7,7,7,7,7,7,7,7,7,7,7,7,7,7,7,7,7,7,7,8,8,8,8,8,8,8,8,8,8,8,8,8,8,8,8,8,8,8,8,8,8,8,8,8,8,8,8,8,8,8,8,8,8,8,8,8,8,8,8,8,8,8,8,8,8,8,8,8,8,8,8,8,8,8,8,8,8,8,8,8,8,8,8,8,8,8,8,8,8,8,8,8,8,8,8,8,8,8,8,8,8,8,8,8,8,8,8,8,8,8,8,8,8,8,8,8,8,8,8,8,8,8,8,8,8,8,8,8,8,8,8,8,8,8,8,8,8,8,8,8,8,8,8,8,8,8,8]
theorem jM:∀n:Fin 256,(aI.getD n.1 0).toNat=Cg n.1:=by decide +kernel
theorem RL(a:Int)(h:(decide (0<=a)&&decide (a<=4611686018427387904))=true)(u:UInt8):Ef .i64 (a+(u.toNat:Int))=true:=by
 have:=u.toNat_lt;simp[Ef]at h|-;omega
theorem iI(y:Int):Rb (y%256) aI.length=true:=by
 have:aI.length=256:=by decide +kernel
 rw[this,Dh];omega
theorem Y3(y:Int)(h:0<=y)(h':y<256):((aI.getD (y%256).toNat 0).toNat:Int)=(Cg y.toNat:Int):=by
 have:=jM ⟨y.toNat,om⟩;simp only at this;rw[<-this];congr 4;omega
theorem I5(x k:Nat)(h:2^k<=x)(h':x/2^k<256)(y:Int)(hy:y=((x/2^k:Nat):Int)):(Cg x:Int)=(k:Int)+((aI.getD (y%256).toNat 0).toNat:Int):=by
 subst hy;have:=Ty h;rw[Y3 _ (sJ _) (Int.ofNat_lt.2 h'),Int.toNat_natCast];omega
theorem Tz(x:Nat)(h':x<256):(Cg x:Int)=((aI.getD ((x:Int)%256).toNat 0).toNat:Int):=by
 rw[Y3 x om om,Int.toNat_natCast]
theorem dQ(x:Nat)(hx:x<18446744073709551616):qB 371 [.i .u64 x] (.i .i64 (Cg x)):=by
 refine zF A4 Tryz.func371 ?_;refine wd [0,2,4,8,14] [] A0 A0 ?_;repeat'(first|with_reducible constructor|(with_reducible intro hc;try simp only[AB]at hc)|with_reducible refine Ip ?_ ?_|(with_reducible refine qM ?_;first|rfl|omega)|decide)
 all_goals first
  |exact Cd _
  |exact RL _ rfl _
  |exact iI _
  |(refine⟨_,_,rfl,rfl,?_⟩;simp only[Bb];refine congrArg (D.i .i64) ?_
    first
     |exact I5 x 56 om om _ om
     |exact I5 x 48 om om _ om
     |exact I5 x 40 om om _ om
     |exact I5 x 32 om om _ om
     |exact I5 x 24 om om _ om
     |exact I5 x 16 om om _ om
     |exact I5 x 8 om om _ om
     |exact(Tz x om).trans (Int.zero_add _).symm
     |exact Tz x om)
end Go.Proofs.YtkljbfejbakooaaGreatDoor
