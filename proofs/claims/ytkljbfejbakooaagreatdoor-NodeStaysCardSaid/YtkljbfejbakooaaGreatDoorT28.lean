/- Part 28 of a proof. Conditions: those that its theorems state. -/
import Derived.Test.YtkljbfejbakooaaGreatDoorT23
import Derived.Test.YtkljbfejbakooaaGreatDoorT27
set_option linter.unusedSimpArgs false
set_option linter.unusedVariables false
set_option maxHeartbeats 40000000
set_option maxRecDepth 4000
namespace Go.Proofs.YtkljbfejbakooaaGreatDoor
namespace Nd
open Go.Gar
open Wi (AC Bp BE AN Bc mC)
theorem pf:∀l:Ad,(KI l).length<=3
 |[]=>by simp[KI]
 |[a]=>by simp[KI]
 |[a,b]=>by simp only[KI];split<;>simp
 |a::b::c::_=>by simp only[KI,xw,y9];split<;>split<;>simp
theorem VB(id:Int)(j:An)(AO:Int)(l:Ad):(JM id j AO l).BN.length<=3/\(JM id j AO l).job.A9=j.A9/\(JM id j AO l).job.left.length<=3:=by
 unfold JM;dsimp only;have h:=pf (AO::l);have h2:=yu (fun p=>p !=id) (KI (AO::l));rw[yS];exact⟨om,rfl,om⟩
theorem V9(v:AD)(j:An):(EH v j).BN.length<=3/\(EH v j).job.A9=j.A9/\(EH v j).job.left.length<=j.left.length+3:=by
 unfold EH;split
 .exact⟨xQ _,rfl,xQ _⟩
 split
 .refine⟨?_,rfl,by dsimp only;omega⟩;dsimp only;split<;>simp
 split
 .exact⟨xQ _,rfl,xQ _⟩
 split
 .have:=VB v.id ⟨j.AL,j.A5,j.Ak,j.A9,j.Ak.Cj,j.left,j.AQ⟩ j.Ak.Cj v.A8;exact⟨this.1,this.2.1,om⟩
 split
 .exact⟨sm,rfl,by dsimp only;omega⟩
 split
 .exact⟨xQ _,rfl,xQ _⟩
 .exact⟨sm,rfl,by dsimp only;omega⟩
theorem QP(j:An)(p e:Int):(Dm j p e).A9=j.A9/\(Dm j p e).left.length<=j.left.length:=by
 unfold Dm;split
 .refine⟨rfl,?_⟩;dsimp only;unfold C1;exact yu _ _
 .exact⟨rfl,xH _⟩
theorem oN(AL AT:Int)(x:AK):(Pw AL AT x).2.1.AH.length<=x.AH.length:=by
 unfold Pw;split
 .exact xQ _
 split
 .exact xH _
 split
 .exact xH _
 .exact xQ _
theorem ZV(v:AD)(AL AT:Int)(x:AK):(Ep v AL AT x).BN.length<=3/\(Ep v AL AT x).job.A9.AH.length<=x.AH.length/\(Ep v AL AT x).job.left.length<=3:=by
 unfold Ep;split
 .have:=V9 v ⟨AL,0,vn v (Pw AL AT x).1,(Pw AL AT x).2.1,0,[],0⟩;exact⟨this.1,by rw[this.2.1];exact oN AL AT x,this.2.2⟩
 .exact⟨xQ _,xQ _,xQ _⟩
theorem Nf(v:AD)(j:An)(m:AC)(K:Nat)(hj:j.A9.AH.length<=K)(hm:m.A9.AH.length<=K):(C5 v j m).BN.length<=3/\(C5 v j m).job.A9.AH.length<=K/\(C5 v j m).job.left.length<=j.left.length+3:=by
 have h0:(JC.mk j [] false).BN.length<=3/\(JC.mk j [] false).job.A9.AH.length<=K/\(JC.mk j [] false).job.left.length<=j.left.length+3:=⟨xQ _,hj,by dsimp only;omega⟩;unfold C5;split
 .split
  .split
   .have:=V9 v ⟨j.AL,j.A5,Ph v j.Ak m,j.A9,j.AO,j.left,j.AQ⟩;exact⟨this.1,by rw[this.2.1];exact hj,this.2.2⟩
   .exact h0
  split
  .split
   .have:=VB v.id j j.AO m.A8;exact⟨this.1,by rw[this.2.1];exact hj,om⟩
   .exact h0
  split
  .split
   .have:=QP j m.As m.AQ;exact⟨xQ _,by dsimp only;rw[this.1];exact hj,by dsimp only;omega⟩
   .exact h0
  split
  .split
   .refine⟨xQ _,?_,xQ _⟩;dsimp only;split
    .exact hm
    .exact hj
   .exact h0
  .exact h0
 .exact h0
theorem Na(v:AD)(j:An)(d:Int):(C3 v j d).BN.length<=3/\(C3 v j d).job.A9=j.A9/\(C3 v j d).job.left.length<=j.left.length+3:=by
 have h0:(JC.mk j [] false).BN.length<=3/\(JC.mk j [] false).job.A9=j.A9/\(JC.mk j [] false).job.left.length<=j.left.length+3:=⟨xQ _,rfl,by dsimp only;omega⟩;unfold C3;split
 .split
  .split
   .exact V9 v ⟨j.AL,j.A5,gz v j.Ak,j.A9,j.AO,j.left,j.AQ⟩
   .exact h0
  split
  .split
   .exact⟨xQ _,rfl,xQ _⟩
   .exact h0
  split
  .have:=QP j d 210;exact⟨xQ _,this.1,by dsimp only;omega⟩
  .exact h0
 .exact h0
structure ui (n:AA):Prop where
 ok:Fe n
 h0:0<=n.A5
 l5:n.AP.left.length<=1000
 l6:n.Ai.left.length<=1000
 l7:n.Ah.left.length<=1000
 k5:0<=n.AP.A9.AH.length
 k6:0<=n.Ai.A9.AH.length
 k7:0<=n.Ah.A9.AH.length
theorem eE(v:AD)(d:Int):(BU v d).A8.length<=v.A8.length:=by
 unfold BU;split
 .dsimp only;unfold C1;exact yu _ _
 .exact xH _
theorem Re(n:AA)(h:ui n)(w AL AT:Int)(x:AK)(hx:x.AH.length<=9223372036854775807):xB 52 [n.d,.i .u8 w,.i .u8 AL,.i .i64 AT,x.d] (.tup [(Bh n w AL AT x).1.d,Ab (Bh n w AL AT x).2]):=by
 have:=ZV n.A7 AL AT x;exact eY n h.ok w AL AT x hx om om
theorem PV{w:Int}(h1:¬(1<=w/\w<=3))(h2:¬(5<=w/\w<=7)):MM w [1,2,3,5,6,7]=true:=by
 simp only[MM];simp;omega
theorem kM(n:AA)(h:ui n)(c:AW)(m:AC)(hm:Am m)(hk:0<=m.A9.AH.length):xB 49 [n.d,c.d,m.d] (.tup [(Cd n c m).1.d,Ab (Cd n c m).2]):=by
 unfold Cd
 cases hr:Av n with
 |false=>
  rw[if_neg (by decide)]
  by_cases a1:1<=c.BQ/\c.BQ<=3
  .have:c.BQ=1\/c.BQ=2\/c.BQ=3:=om
   rcases this with e|e|e
   .exact hno1 n c m h.ok e hr
   .exact hno2 n c m h.ok e hr
   .exact hno3 n c m h.ok e hr
  by_cases a2:5<=c.BQ/\c.BQ<=7
  .have:c.BQ=5\/c.BQ=6\/c.BQ=7:=om
   rcases this with e|e|e
   .exact hno5 n c m h.ok e hr
   .exact hno6 n c m h.ok e hr
   .exact hno7 n c m h.ok e hr
  exact hx n c m h.ok (PV a1 a2)
 |true=>
  obtain⟨x0,x1⟩:=VP hr;rw[if_pos rfl]
  by_cases a1:1<=c.BQ/\c.BQ<=3
  .rw[if_pos a1];have:c.BQ=1\/c.BQ=2\/c.BQ=3:=om
   rcases this with e|e|e
   .exact hok1 n c m h.ok e hr hm h.h0
   .exact hok2 n c m h.ok e hr hm h.h0
   .exact hok3 n c m h.ok e hr hm h.h0
  rw[if_neg a1]
  by_cases a2:5<=c.BQ/\c.BQ<=7
  .rw[if_pos a2];have:c.BQ=5\/c.BQ=6\/c.BQ=7:=om
   rcases this with e|e|e
   .have hn:=Nf n.A7 n.AP m (n.AP.A9.AH.length+m.A9.AH.length) (Nat.le_add_right ..) (Nat.le_add_left ..);have:=hok5 n c m h.ok e hr x0 x1 hm (by have:=h.l5;omega) om om;rw[e];exact this
   .have hn:=Nf n.A7 n.Ai m (n.Ai.A9.AH.length+m.A9.AH.length) (Nat.le_add_right ..) (Nat.le_add_left ..);have:=hok6 n c m h.ok e hr x0 x1 hm (by have:=h.l6;omega) om om;rw[e];exact this
   .have hn:=Nf n.A7 n.Ah m (n.Ah.A9.AH.length+m.A9.AH.length) (Nat.le_add_right ..) (Nat.le_add_left ..);have:=hok7 n c m h.ok e hr x0 x1 hm (by have:=h.l7;omega) om om;rw[e];exact this
  rw[if_neg a2];exact hx n c m h.ok (PV a1 a2)
theorem ox(n:AA)(h:ui n)(c:AW):xB 168 [n.d,c.d] (.tup [(Cv n c).1.d,Ab (Cv n c).2]):=by
 unfold Cv
 cases hr:Av n with
 |false=>
  rw[if_neg (by decide)]
  by_cases a1:1<=c.BQ/\c.BQ<=3
  .have:c.BQ=1\/c.BQ=2\/c.BQ=3:=om
   rcases this with e|e|e
   .exact lno1 n c h.ok e hr
   .exact lno2 n c h.ok e hr
   .exact lno3 n c h.ok e hr
  by_cases a2:5<=c.BQ/\c.BQ<=7
  .have:c.BQ=5\/c.BQ=6\/c.BQ=7:=om
   rcases this with e|e|e
   .exact lno5 n c h.ok e hr
   .exact lno6 n c h.ok e hr
   .exact lno7 n c h.ok e hr
  exact lxno n c h.ok (PV a1 a2) hr
 |true=>
  obtain⟨x0,x1⟩:=VP hr;rw[if_pos rfl];have v1:(BU n.A7 c.Ao.dst).AB.length<=1000:=by rw[(LU n.A7 c.Ao.dst).AB];exact h.ok.vb
  have v2:(BU n.A7 c.Ao.dst).A8.length<=1000:=zB (eE ..) h.ok.vl;dsimp only
  by_cases a1:1<=c.BQ/\c.BQ<=3
  .rw[if_pos a1];have:c.BQ=1\/c.BQ=2\/c.BQ=3:=om
   rcases this with e|e|e
   .exact lok1 n c h.ok e hr v1 v2
   .exact lok2 n c h.ok e hr v1 v2
   .exact lok3 n c h.ok e hr v1 v2
  rw[if_neg a1]
  by_cases a2:5<=c.BQ/\c.BQ<=7
  .rw[if_pos a2];have:c.BQ=5\/c.BQ=6\/c.BQ=7:=om
   rcases this with e|e|e
   .have hn:=Na (BU n.A7 c.Ao.dst) n.AP c.Ao.dst;have:=lok5 n c h.ok e hr x0 x1 v1 v2 (by have:=h.l5;omega) om (by rw[hn.2.1];have:=h.k5;omega);rw[e];exact this
   .have hn:=Na (BU n.A7 c.Ao.dst) n.Ai c.Ao.dst;have:=lok6 n c h.ok e hr x0 x1 v1 v2 (by have:=h.l6;omega) om (by rw[hn.2.1];have:=h.k6;omega);rw[e];exact this
   .have hn:=Na (BU n.A7 c.Ao.dst) n.Ah c.Ao.dst;have:=lok7 n c h.ok e hr x0 x1 v1 v2 (by have:=h.l7;omega) om (by rw[hn.2.1];have:=h.k7;omega);rw[e];exact this
  rw[if_neg a2];exact lx n c h.ok (PV a1 a2) hr
theorem R8(n:AA)(w:Int)(j:An)(hj:H6 n w=j):(if(5<=w/\w<=7)/\(H6 n w).A5≠5 then(B6 n w false ⟨CU (CS (H6 n w) 100),[],false⟩).1 else n)=if(5<=w/\w<=7)then(if j.A5=5 then n else(B6 n w false ⟨CU (CS j 100),[],false⟩).1)else n:=by
 rw[hj]
 by_cases a:5<=w/\w<=7
 .rw[if_pos a]
  by_cases b:j.A5=5
  .rw[if_pos b,if_neg (fun h=>h.2 b)]
  .rw[if_neg b,if_pos ⟨a,b⟩]
 .rw[if_neg a,if_neg (fun h=>a h.1)]
theorem ou(n:AA)(h:ui n)(w:Int):xB 154 [n.d,.i .u8 w] (GL n w).d:=by
 unfold GL
 cases hr:Av n with
 |false=>
  rw[if_neg (by decide)]
  by_cases a1:1<=w/\w<=3
  .have:w=1\/w=2\/w=3:=om
   rcases this with e|e|e
   .subst e;exact bno1 n h.ok hr
   .subst e;exact bno2 n h.ok hr
   .subst e;exact bno3 n h.ok hr
  by_cases a2:5<=w/\w<=7
  .have:w=5\/w=6\/w=7:=om
   rcases this with e|e|e
   .subst e;exact bno5 n h.ok hr
   .subst e;exact bno6 n h.ok hr
   .subst e;exact bno7 n h.ok hr
  exact bx n w h.ok (PV a1 a2)
 |true=>
  obtain⟨x0,x1⟩:=VP hr;rw[if_pos rfl]
  by_cases a1:1<=w/\w<=3
  .rw[if_pos a1];have:w=1\/w=2\/w=3:=om
   rcases this with e|e|e
   .subst e;exact bok1 n h.ok hr
   .subst e;exact bok2 n h.ok hr
   .subst e;exact bok3 n h.ok hr
  rw[if_neg a1]
  by_cases a2:5<=w/\w<=7
  .have:w=5\/w=6\/w=7:=om
   rcases this with e|e|e
   .subst e;rw[R8 n 5 n.AP rfl,if_pos a2];exact bok5 n h.ok hr x0 x1 (by have:=h.k5;omega)
   .subst e;rw[R8 n 6 n.Ai rfl,if_pos a2];exact bok6 n h.ok hr x0 x1 (by have:=h.k6;omega)
   .subst e;rw[R8 n 7 n.Ah rfl,if_pos a2];exact bok7 n h.ok hr x0 x1 (by have:=h.k7;omega)
  rw[if_neg (fun h=>a2 h.1)];exact bx n w h.ok (PV a1 a2)
structure iG (L K:Nat) (j:An):Prop where
 l:j.left.length<=L
 k:j.A9.AH.length<=K
structure JB (L K:Nat) (n:AA):Prop where
 f:iG L K n.AP
 m:iG L K n.Ai
 c:iG L K n.Ah
variable {L K:Nat}
theorem iG.mono{M:Nat}{j:An}(h:iG L K j)(hm:L<=M):iG M K j:=⟨zB h.l hm,h.k⟩
theorem JB.mono{M:Nat}{n:AA}(h:JB L K n)(hm:L<=M):JB M K n:=⟨h.f.mono hm,h.m.mono hm,h.c.mono hm⟩
theorem pz(k:List AK)(j:An)(h:iG L K j):iG L K (EK k j).2:=by
 unfold EK;split
 .dsimp only;split
  .exact⟨h.l,h.k⟩
  .exact h
 split
 .dsimp only;split
  .rename_i hg;refine⟨h.l,?_⟩;dsimp only
   have hk:(E6 k j.A9.AH).1.AH=j.A9.AH:=by
    unfold E6 at hg|-;split
    .rename_i hc;rw[xI]at hc;obtain⟨x,-,hx,hg2⟩:=Jq hc.2;dsimp only;rw[hg2,hx]
    .rename_i hc;rw[if_neg hc]at hg;cases hg
   rw[hk];exact h.k
  .exact⟨h.l,h.k⟩
 .exact h
theorem V0(n:AA)(w:Int)(e:Bool)(c:JC)(h:JB L K n)(hc:iG L K c.job):JB L K (B6 n w e c).1:=by
 unfold B6
 have hs:iG L K (if c.own then EK n.keep c.job else(n.keep,c.job)).2:=by
  split
  .exact pz _ _ hc
  .exact hc
 generalize(if c.own then EK n.keep c.job else(n.keep,c.job))=s at *;dsimp only
 have h1:JB L K (Q3 {n with keep:=s.1} w s.2):=by
  unfold Q3;split
  .exact⟨hs,h.m,h.c⟩
  split
  .exact⟨h.f,hs,h.c⟩
  .exact⟨h.f,h.m,hs⟩
 split
 .exact⟨h1.f,h1.m,h1.c⟩
 .exact h1
theorem qE(n:AA)(w AL AT:Int)(x:AK)(h:JB L K n)(hL:3<=L)(hx:x.AH.length<=K):JB L K (Bh n w AL AT x).1:=by
 have:=ZV n.A7 AL AT x;unfold Bh;split
 .exact V0 _ _ _ _ h ⟨om,om⟩
 .exact h
theorem VA{n:AA}(w:Int)(h:JB L K n):iG L K (H6 n w):=by
 unfold H6 rA;split
 .exact h.f
 split
 .exact h.m
 split
 .exact h.c
 .exact⟨xQ _,xQ _⟩
theorem sB(n:AA)(w:Int)(h:JB L K n):JB L K (GL n w):=by
 have hj:=VA w h;unfold GL;split
 .split
  .exact⟨h.f,h.m,h.c⟩
  split
  .exact V0 _ _ _ _ h ⟨xQ _,hj.k⟩
  .exact h
 .exact h
theorem mO(x:Int):∀(l:Ad)(f:Int),rT x f l=true->∀y∈l,BW y=true
 |[],_,_,y,hy=>by cases hy
 |p::r,f,h,y,hy=>by
  unfold rT at h;simp only[xI]at h;rcases yP.1 hy with rfl|hy
  .exact h.1.1
  .exact mO x r _ h.2 y hy
theorem Ri{y:Int}(h:BW y=true):i64 y:=by have:=FG h;unfold i64;omega
structure TG (n:AA):Prop where
 id:i64 n.A7.id
 li:∀y∈n.A7.A8,i64 y
 ph:0<=n.A5
end Nd
end Go.Proofs.YtkljbfejbakooaaGreatDoor
