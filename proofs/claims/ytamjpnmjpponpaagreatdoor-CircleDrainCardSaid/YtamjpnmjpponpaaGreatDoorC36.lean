/- Part 36 of a proof. Conditions: those that its theorems state. -/
import Derived.Test.YtamjpnmjpponpaaGreatDoorC27
import Derived.Test.YtamjpnmjpponpaaGreatDoorC33
import Derived.Test.YtamjpnmjpponpaaGreatDoorC34
import Derived.Test.YtamjpnmjpponpaaGreatDoorC35
set_option linter.unusedSimpArgs false
set_option linter.unusedVariables false
set_option maxHeartbeats 40000000
set_option maxRecDepth 4000
namespace Go.Proofs.YtamjpnmjpponpaaGreatDoor
namespace Nd
open Go.Gar
open Wi (AF BV B7 AU Bp mC)
theorem rq:∀l:Ai,(KT l).length<=3
 |[]=>by simp[KT]
 |[a]=>by simp[KT]
 |[a,b]=>by simp only[KT];split<;>simp
 |a::b::c::_=>by simp only[KT,q02,q04];split<;>split<;>simp
theorem VS(id:Int)(j:B9)(Ao:Int)(l:Ai):(MJ id j Ao l).BY.length<=3/\(MJ id j Ao l).job.AC=j.AC/\(MJ id j Ao l).job.left.length<=3:=by
 unfold MJ;dsimp only;have h:=rq (Ao::l);have h2:=q0b (fun p=>p !=id) (KT (Ao::l));rw[q08];exact⟨om,rfl,om⟩
theorem VQ(v:AG)(j:B9):(GB v j).BY.length<=3/\(GB v j).job.AC=j.AC/\(GB v j).job.left.length<=j.left.length+3:=by
 unfold GB;split
 .exact⟨zi _,rfl,zi _⟩
 split
 .refine⟨?_,rfl,by dsimp only;omega⟩;dsimp only;split<;>simp
 split
 .exact⟨zi _,rfl,zi _⟩
 split
 .have:=VS v.id ⟨j.AR,j.A5,j.Ap,j.AC,j.Ap.CF,j.left,j.Aa⟩ j.Ap.CF v.AB;exact⟨this.1,this.2.1,om⟩
 split
 .exact⟨sm,rfl,by dsimp only;omega⟩
 split
 .exact⟨zi _,rfl,zi _⟩
 .exact⟨sm,rfl,by dsimp only;omega⟩
theorem Qg(j:B9)(p e:Int):(F9 j p e).AC=j.AC/\(F9 j p e).left.length<=j.left.length:=by
 unfold F9;split
 .refine⟨rfl,?_⟩;dsimp only;unfold CO;exact q0b _ _
 .exact⟨rfl,zN _⟩
theorem qK(AR AP:Int)(x:AS):(QB AR AP x).2.1.AI.length<=x.AI.length:=by
 unfold QB;split
 .exact zi _
 split
 .exact zN _
 split
 .exact zN _
 .exact zi _
theorem aF(v:AG)(AR AP:Int)(x:AS):(Ei v AR AP x).BY.length<=3/\(Ei v AR AP x).job.AC.AI.length<=x.AI.length/\(Ei v AR AP x).job.left.length<=3:=by
 unfold Ei;split
 .have:=VQ v ⟨AR,0,xj v (QB AR AP x).1,(QB AR AP x).2.1,0,[],0⟩;exact⟨this.1,by rw[this.2.1];exact qK AR AP x,this.2.2⟩
 .exact⟨zi _,zi _,zi _⟩
theorem Nr(v:AG)(j:B9)(m:AF)(K:Nat)(hj:j.AC.AI.length<=K)(hm:m.AC.AI.length<=K):(CH v j m).BY.length<=3/\(CH v j m).job.AC.AI.length<=K/\(CH v j m).job.left.length<=j.left.length+3:=by
 have h0:(JC.mk j [] false).BY.length<=3/\(JC.mk j [] false).job.AC.AI.length<=K/\(JC.mk j [] false).job.left.length<=j.left.length+3:=⟨zi _,hj,by dsimp only;omega⟩;unfold CH;split
 .split
  .split
   .have:=VQ v ⟨j.AR,j.A5,TU v j.Ap m,j.AC,j.Ao,j.left,j.Aa⟩;exact⟨this.1,by rw[this.2.1];exact hj,this.2.2⟩
   .exact h0
  split
  .split
   .have:=VS v.id j j.Ao m.AB;exact⟨this.1,by rw[this.2.1];exact hj,om⟩
   .exact h0
  split
  .split
   .have:=Qg j m.B8 m.Aa;exact⟨zi _,by dsimp only;rw[this.1];exact hj,by dsimp only;omega⟩
   .exact h0
  split
  .split
   .refine⟨zi _,?_,zi _⟩;dsimp only;split
    .exact hm
    .exact hj
   .exact h0
  .exact h0
 .exact h0
theorem Nq(v:AG)(j:B9)(d:Int):(CE v j d).BY.length<=3/\(CE v j d).job.AC=j.AC/\(CE v j d).job.left.length<=j.left.length+3:=by
 have h0:(JC.mk j [] false).BY.length<=3/\(JC.mk j [] false).job.AC=j.AC/\(JC.mk j [] false).job.left.length<=j.left.length+3:=⟨zi _,rfl,by dsimp only;omega⟩;unfold CE;split
 .split
  .split
   .exact VQ v ⟨j.AR,j.A5,tE v j.Ap,j.AC,j.Ao,j.left,j.Aa⟩
   .exact h0
  split
  .split
   .exact⟨zi _,rfl,zi _⟩
   .exact h0
  split
  .have:=Qg j d 210;exact⟨zi _,this.1,by dsimp only;omega⟩
  .exact h0
 .exact h0
structure wd (n:AA):Prop where
 ok:Hm n
 h0:0<=n.A5
 l5:n.AQ.left.length<=1000
 l6:n.AX.left.length<=1000
 l7:n.AW.left.length<=1000
 k5:0<=n.AQ.AC.AI.length
 k6:0<=n.AX.AC.AI.length
 k7:0<=n.AW.AC.AI.length
theorem fb(v:AG)(d:Int):(Bu v d).AB.length<=v.AB.length:=by
 unfold Bu;split
 .dsimp only;unfold CO;exact q0b _ _
 .exact zN _
theorem SG(n:AA)(h:wd n)(w AR AP:Int)(x:AS)(hx:x.AI.length<=9223372036854775807):yS 165 [n.d,.i .u8 w,.i .u8 AR,.yX AP,x.d] (.tup [(Bq n w AR AP x).1.d,BS (Bq n w AR AP x).2]):=by
 have:=aF n.A7 AR AP x;exact g9 n h.ok w AR AP x hx om om
theorem Pg{w:Int}(h1:¬(1<=w/\w<=3))(h2:¬(5<=w/\w<=7)):Ke w [1,2,3,5,6,7]=true:=by
 simp only[Ke];simp;omega
theorem mN(n:AA)(h:wd n)(c:Al)(m:AF)(hm:Ay m)(hk:0<=m.AC.AI.length):yS 174 [n.d,c.d,m.d] (.tup [(D4 n c m).1.d,BS (D4 n c m).2]):=by
 unfold D4
 cases hr:BL n with
 |false=>
  rw[zx (by decide)]
  by_cases a1:1<=c.Bd/\c.Bd<=3
  .exact hno n c m h.ok om hr
  by_cases a2:5<=c.Bd/\c.Bd<=7
  .exact hno n c m h.ok om hr
  exact hx n c m h.ok (Pg a1 a2)
 |true=>
  obtain⟨x0,x1⟩:=Ve hr;rw[zn rfl]
  by_cases a1:1<=c.Bd/\c.Bd<=3
  .rw[zn a1];exact hokA n c m h.ok om hr hm h.h0
  rw[zx a1]
  by_cases a2:5<=c.Bd/\c.Bd<=7
  .rw[zn a2];have:c.Bd=5\/c.Bd=6\/c.Bd=7:=om
   rcases this with e|e|e
   .have hn:=Nr n.A7 n.AQ m (n.AQ.AC.AI.length+m.AC.AI.length) (Nat.le_add_right ..) (Nat.le_add_left ..);have:=hok5 n c m h.ok e hr x0 x1 hm (by have:=h.l5;omega) om om;rw[e];exact this
   .have hn:=Nr n.A7 n.AX m (n.AX.AC.AI.length+m.AC.AI.length) (Nat.le_add_right ..) (Nat.le_add_left ..);have:=hok6 n c m h.ok e hr x0 x1 hm (by have:=h.l6;omega) om om;rw[e];exact this
   .have hn:=Nr n.A7 n.AW m (n.AW.AC.AI.length+m.AC.AI.length) (Nat.le_add_right ..) (Nat.le_add_left ..);have:=hok7 n c m h.ok e hr x0 x1 hm (by have:=h.l7;omega) om om;rw[e];exact this
  rw[zx a2];exact hx n c m h.ok (Pg a1 a2)
theorem qz(n:AA)(h:wd n)(c:Al):yS 279 [n.d,c.d] (.tup [(Dz n c).1.d,BS (Dz n c).2]):=by
 unfold Dz
 cases hr:BL n with
 |false=>
  rw[zx (by decide)]
  by_cases a1:1<=c.Bd/\c.Bd<=3
  .exact lno n c h.ok om hr
  by_cases a2:5<=c.Bd/\c.Bd<=7
  .exact lno n c h.ok om hr
  exact lxno n c h.ok (Pg a1 a2) hr
 |true=>
  obtain⟨x0,x1⟩:=Ve hr;rw[zn rfl];have v1:(Bu n.A7 c.BD.dst).A6.length<=1000:=by rw[(QY n.A7 c.BD.dst).A6];exact h.ok.vb
  have v2:(Bu n.A7 c.BD.dst).AB.length<=1000:=q0L (fb ..) h.ok.vl;dsimp only
  by_cases a1:1<=c.Bd/\c.Bd<=3
  .rw[zn a1];exact lokA n c h.ok om hr v1 v2
  rw[zx a1]
  by_cases a2:5<=c.Bd/\c.Bd<=7
  .rw[zn a2];have:c.Bd=5\/c.Bd=6\/c.Bd=7:=om
   rcases this with e|e|e
   .have hn:=Nq (Bu n.A7 c.BD.dst) n.AQ c.BD.dst;have:=lok5 n c h.ok e hr x0 x1 v1 v2 (by have:=h.l5;omega) om (by rw[hn.2.1];have:=h.k5;omega);rw[e];exact this
   .have hn:=Nq (Bu n.A7 c.BD.dst) n.AX c.BD.dst;have:=lok6 n c h.ok e hr x0 x1 v1 v2 (by have:=h.l6;omega) om (by rw[hn.2.1];have:=h.k6;omega);rw[e];exact this
   .have hn:=Nq (Bu n.A7 c.BD.dst) n.AW c.BD.dst;have:=lok7 n c h.ok e hr x0 x1 v1 v2 (by have:=h.l7;omega) om (by rw[hn.2.1];have:=h.k7;omega);rw[e];exact this
  rw[zx a2];exact lx n c h.ok (Pg a1 a2) hr
theorem RX(n:AA)(w:Int)(j:B9)(hj:Gr n w=j):(if(5<=w/\w<=7)/\(Gr n w).A5≠5 then(B5 n w false ⟨Dg (DW (Gr n w) 100),[],false⟩).1 else n)=if(5<=w/\w<=7)then(if j.A5=5 then n else(B5 n w false ⟨Dg (DW j 100),[],false⟩).1)else n:=by
 rw[hj]
 by_cases a:5<=w/\w<=7
 .rw[zn a]
  by_cases b:j.A5=5
  .rw[zn b,zx (fun h=>h.2 b)]
  .rw[zx b,zn ⟨a,b⟩]
 .rw[zx a,zx (fun h=>a h.1)]
theorem qy(n:AA)(h:wd n)(w:Int):yS 271 [n.d,.i .u8 w] (GA n w).d:=by
 unfold GA
 cases hr:BL n with
 |false=>
  rw[zx (by decide)]
  by_cases a1:1<=w/\w<=3
  .have:w=1\/w=2\/w=3:=om
   rcases this with e|e|e
   .subst e;exact bno1 n h.ok hr
   .subst e;exact bno2 n h.ok hr
   .subst e;exact bno3 n h.ok hr
  by_cases a2:5<=w/\w<=7
  .have:w=5\/w=6\/w=7:=om
   rcases this with e|e|e
   .subst e;exact bno5 n h.ok hr
   .subst e;exact bno6 n h.ok hr
   .subst e;exact bno7 n h.ok hr
  exact bx n w h.ok (Pg a1 a2)
 |true=>
  obtain⟨x0,x1⟩:=Ve hr;rw[zn rfl]
  by_cases a1:1<=w/\w<=3
  .rw[zn a1];have:w=1\/w=2\/w=3:=om
   rcases this with e|e|e
   .subst e;exact bok1 n h.ok hr
   .subst e;exact bok2 n h.ok hr
   .subst e;exact bok3 n h.ok hr
  rw[zx a1]
  by_cases a2:5<=w/\w<=7
  .have:w=5\/w=6\/w=7:=om
   rcases this with e|e|e
   .subst e;rw[RX n 5 n.AQ rfl,zn a2];exact bok5 n h.ok hr x0 x1 (by have:=h.k5;omega)
   .subst e;rw[RX n 6 n.AX rfl,zn a2];exact bok6 n h.ok hr x0 x1 (by have:=h.k6;omega)
   .subst e;rw[RX n 7 n.AW rfl,zn a2];exact bok7 n h.ok hr x0 x1 (by have:=h.k7;omega)
  rw[zx (fun h=>a2 h.1)];exact bx n w h.ok (Pg a1 a2)
structure jP (L K:Nat) (j:B9):Prop where
 l:j.left.length<=L
 k:j.AC.AI.length<=K
structure JB (L K:Nat) (n:AA):Prop where
 f:jP L K n.AQ
 m:jP L K n.AX
 c:jP L K n.AW
variable {L K:Nat}
theorem jP.mono{M:Nat}{j:B9}(h:jP L K j)(hm:L<=M):jP M K j:=⟨q0L h.l hm,h.k⟩
theorem JB.mono{M:Nat}{n:AA}(h:JB L K n)(hm:L<=M):JB M K n:=⟨h.f.mono hm,h.m.mono hm,h.c.mono hm⟩
theorem sD(k:List AS)(j:B9)(h:jP L K j):jP L K (EK k j).2:=by
 unfold EK;split
 .dsimp only;split
  .exact⟨h.l,h.k⟩
  .exact h
 split
 .dsimp only;split
  .rename_i hg;refine⟨h.l,?_⟩;dsimp only
   have hk:(Dx k j.AC.AI).1.AI=j.AC.AI:=by
    unfold Dx at hg|-;split
    .rename_i hc;rw[zO]at hc;obtain⟨x,-,hx,hg2⟩:=Jw hc.2;dsimp only;rw[hg2,hx]
    .rename_i hc;rw[zx hc]at hg;cases hg
   rw[hk];exact h.k
  .exact⟨h.l,h.k⟩
 .exact h
theorem VH(n:AA)(w:Int)(e:Bool)(c:JC)(h:JB L K n)(hc:jP L K c.job):JB L K (B5 n w e c).1:=by
 unfold B5
 have hs:jP L K (if c.own then EK n.keep c.job else(n.keep,c.job)).2:=by
  split
  .exact sD _ _ hc
  .exact hc
 generalize(if c.own then EK n.keep c.job else(n.keep,c.job))=s at *;dsimp only
 have h1:JB L K (QL {n with keep:=s.1} w s.2):=by
  unfold QL;split
  .exact⟨hs,h.m,h.c⟩
  split
  .exact⟨h.f,hs,h.c⟩
  .exact⟨h.f,h.m,hs⟩
 split
 .exact⟨h1.f,h1.m,h1.c⟩
 .exact h1
theorem sM(n:AA)(w AR AP:Int)(x:AS)(h:JB L K n)(hL:3<=L)(hx:x.AI.length<=K):JB L K (Bq n w AR AP x).1:=by
 have:=aF n.A7 AR AP x;unfold Bq;split
 .exact VH _ _ _ _ h ⟨om,om⟩
 .exact h
theorem VR{n:AA}(w:Int)(h:JB L K n):jP L K (Gr n w):=by
 unfold Gr tQ;split
 .exact h.f
 split
 .exact h.m
 split
 .exact h.c
 .exact⟨zi _,zi _⟩
theorem uX(n:AA)(w:Int)(h:JB L K n):JB L K (GA n w):=by
 have hj:=VR w h;unfold GA;split
 .split
  .exact⟨h.f,h.m,h.c⟩
  split
  .exact VH _ _ _ _ h ⟨zi _,hj.k⟩
  .exact h
 .exact h
theorem nz(x:Int):∀(l:Ai)(f:Int),rT x f l=true->∀y∈l,Bb y=true
 |[],_,_,y,hy=>by cases hy
 |p::r,f,h,y,hy=>by
  unfold rT at h;simp only[zO]at h;rcases q0O.1 hy with rfl|hy
  .exact h.1.1
  .exact nz x r _ h.2 y hy
theorem Xb{y:Int}(h:Bb y=true):i64 y:=by have:=Iz h;unfold i64;omega
end Nd
end Go.Proofs.YtamjpnmjpponpaaGreatDoor
