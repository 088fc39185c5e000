/- Part 24 of a proof. Conditions: those that its theorems state. -/
import Derived.Test.YthlmmkmeoblbhaaGreatQ19
import Derived.Test.YthlmmkmeoblbhaaGreatQ20
set_option linter.unusedSimpArgs false
set_option linter.unusedVariables false
set_option linter.unnecessarySimpa false
set_option maxHeartbeats 40000000
set_option maxRecDepth 4000
namespace Go.Proofs.YthlmmkmeoblbhaaGreat
namespace Nd
open Go.Gar
open Wi (AE BE Ay AU C2 CG Ac)
def JR(j:B5):Prop:=j.A3=1->Ec j.Am=true
variable {l:CM}
theorem Gn:Ec l=true↔BG l.AH=true/\BG l.Ck=true/\0<=l.Cs/\l.Cs<=41/\(if l.Cs>40 then l.Ab=211/\l.Dz=false else l.Ab=0):=by
 unfold Ec;simp only[yU,yc];constructor
 .rintro⟨⟨⟨⟨a,b⟩,c⟩,d⟩,e⟩;refine⟨a,b,c,d,?_⟩;split at e
  .rename_i h;rw[zN h];simpa using e
  .rename_i h;rw[zO h];simpa using e
 .rintro⟨a,b,c,d,e⟩;refine⟨⟨⟨⟨a,b⟩,c⟩,d⟩,?_⟩;split
  .rename_i h;rw[zN h]at e;simpa using e
  .rename_i h;rw[zO h]at e;simpa using e
theorem uq(n:Int):BG (C9 n)=true:=by
 have:=Gr n;simpa[BG]using this
variable {v:AB}
theorem Ut(hv:AZ v=true)(k:Int):Ec (ZY v k)=true:=by
 have e:ZY v k=⟨C9 k,(F4 v (C9 k) false).1,0,false,(F4 v (C9 k) false).2,0⟩:=by unfold ZY;rw[zN hv]
 rw[e];exact Gn.2 ⟨uq k,WK hv,q0l 0,(by decide:(0:Int)<=41),rfl⟩
theorem Sm(h:Ec l=true)(ho:lookO l=false)(h4:l.Cs+1>40):Ec (PU l)=true:=by
 obtain⟨a,b,c,d,e⟩:=Gn.1 h;unfold lookO at ho;rw[q14]at ho;have hc:l.Ab=0:=by simpa using ho.2
 have h40:¬l.Cs>40:=fun hh=>by rw[zN hh]at e;omega
 have e2:PU l=⟨l.AH,l.Ck,l.Cs+1,l.BX,l.Dz,211⟩:=by unfold PU;rw[zN h4]
 rw[e2];refine Gn.2 ⟨a,b,by dsimp only;omega,by dsimp only;omega,?_⟩;dsimp only;rw[zN h4];exact⟨rfl,ho.1⟩
theorem Uy(ho:lookO l=false):l.Ab=0:=by
 unfold lookO at ho;rw[q14]at ho;simpa using ho.2
theorem Uw(hv:AZ v=true)(h:Ec l=true)(m:AE):Ec (P4 v l m)=true:=by
 unfold P4;split
 .rename_i hc;simp only[yU,q0H]at hc;obtain⟨_,h1,h2⟩:=hc;obtain⟨a,b,c,d,e⟩:=Gn.1 h;split
  .rename_i ht;split
   .rename_i h4;exact Sm h h2 h4
   .rename_i h4;unfold Tz at ht;simp only[yU,yc]at ht;obtain⟨t1,t2,t3,t4⟩:=ht
    have hp:BG (pJ v l m).1=true:=by
     unfold pJ;split
     .exact WK hv
     .have hh:=Pq t4;unfold AE.has at hh;simp only[t1,show ¬((10:Int)=4)by decide,show ¬((10:Int)=5)by decide,show ¬((10:Int)=6)by decide,show ¬((10:Int)=7)by decide,zo,zx]at hh;rw[CU];exact hh
    refine Gn.2 ⟨a,hp,by dsimp only;omega,by dsimp only;omega,?_⟩;dsimp only;rw[zO h4];exact Uy h2
  .exact h
 .exact h
theorem Uu(hv:AZ v=true)(h:Ec l=true):Ec (ZZ v l)=true:=by
 unfold ZZ;split
 .rename_i hc;simp only[yU,q0H]at hc;obtain⟨_,h1,h2⟩:=hc;obtain⟨a,b,c,d,e⟩:=Gn.1 h;split
  .rename_i h4;exact Sm h h2 h4
  .rename_i h4;refine Gn.2 ⟨a,WK hv,by dsimp only;omega,by dsimp only;omega,?_⟩;dsimp only;rw[zO h4];exact Uy h2
 .exact h
variable {j:B5}
theorem HQ(h:j.A3≠1):JR j:=fun e=>absurd e h
theorem dk(id:Int)(j:B5)(o:Int)(l:Ao):JR (Ky id j o l).job:=by
 refine HQ ?_;unfold Ky;dsimp only;split<;>decide
theorem Sn(v:AB)(h:Ec j.Am=true):JR (ER v j).job:=by
 unfold ER;split
 .exact HQ sm
 split
 .exact fun _=>h
 split
 .exact HQ sm
 split
 .exact dk _ _ _ _
 split
 .exact HQ sm
 split
 .exact HQ sm
 .exact HQ sm
theorem qq(v:AB)(AR AY:Int)(x:AL):JR (JL v AR AY x).job:=by
 unfold JL;split
 .rename_i h;rw[yU]at h;exact Sn v (Ut h.2 _)
 .exact HQ sm
theorem YG(h:JR j)(p e:Int):JR (Hp j p e):=by
 unfold Hp;split
 .intro hp;dsimp only at hp|-;split at hp
  .exact absurd hp (by decide)
  .exact h hp
 .exact h
theorem mG(h:JR j)(m:AE):JR (FV v j m).job:=by
 unfold FV;split
 .rename_i hc;rw[yU]at hc;split
  .rename_i h1;split
   .exact Sn v (Uw hc.1 (h h1) m)
   .exact h
  split
  .split
   .exact dk _ _ _ _
   .exact h
  split
  .split
   .exact YG h _ _
   .exact h
  split
  .split
   .exact HQ sm
   .exact h
  .exact h
 .exact h
theorem mD(h:JR j)(d:Int):JR (FT v j d).job:=by
 unfold FT;split
 .rename_i hc;split
  .rename_i h1;split
   .exact Sn v (Uu hc (h h1))
   .exact h
  split
  .split
   .exact HQ sm
   .exact h
  split
  .exact YG h _ _
  .exact h
 .exact h
structure NJ (n:A6):Prop where
 f:JR n.Ag
 m:JR n.Ak
 c:JR n.Aj
variable {n:A6}
theorem NJ.of(h:NJ n)(w:Int):JR (Bj n w):=by
 unfold Bj VW;split
 .exact h.f
 split
 .exact h.m
 split
 .exact h.c
 .exact HQ sm
theorem sM(k:List AL)(h:JR j):JR (Df k j).2:=by
 unfold Df;split
 .dsimp only;split
  .exact h
  .exact h
 split
 .dsimp only;split
  .exact h
  .exact h
 .exact h
theorem Qq(h:NJ n)(w:Int)(e:Bool){c:JC}(hc:JR c.job):NJ (Cv n w e c).1:=by
 have hs:JR (if c.own then Df n.keep c.job else(n.keep,c.job)).2:=by
  split
  .exact sM _ hc
  .exact hc
 unfold Cv;dsimp only;generalize(if c.own then Df n.keep c.job else(n.keep,c.job))=s at*
 have hp:NJ (FL {n with keep:=s.1} w s.2):=by
  unfold FL;split
  .exact⟨hs,h.m,h.c⟩
  split
  .exact⟨h.f,hs,h.c⟩
  .exact⟨h.f,h.m,hs⟩
 split
 .exact⟨hp.f,hp.m,hp.c⟩
 .exact hp
theorem Tw(h:NJ n)(w AR AY:Int)(x:AL):NJ (CL n w AR AY x).1:=by
 unfold CL;split
 .exact Qq h _ _ (qq _ _ _ _)
 .exact h
theorem lX(h:NJ n)(c:B4)(m:AE):NJ (CQ n c m).1:=by
 unfold CQ;split
 .split
  .exact⟨h.f,h.m,h.c⟩
  split
  .exact Qq h _ _ (mG (h.of _) m)
  .exact h
 .exact h
theorem rD(h:NJ n)(c:B4):NJ (Bu n c).1:=by
 unfold Bu;split
 .dsimp only;split
  .exact⟨h.f,h.m,h.c⟩
  split
  .exact Qq (n:={n with A4:=Ca n.A4 c.Cl.dst}) ⟨h.f,h.m,h.c⟩ _ _ (mD (h.of _) _)
  .exact⟨h.f,h.m,h.c⟩
 .exact h
theorem qE(h:NJ n)(w:Int):NJ (ED n w):=by
 unfold ED;split
 .split
  .exact⟨h.f,h.m,h.c⟩
  split
  .exact Qq h _ _ (HQ sm)
  .exact h
 .exact h
variable {s:NS}
theorem mu(h:NJ s.1)(a:AE×Int):NJ (Gq s a).1:=by
 unfold Gq;split
 .exact⟨h.f,h.m,h.c⟩
 .exact qE h _
theorem J2:∀(l:List (AE×Int)){s:NS},NJ s.1->NJ (Cb s l).1
 |[],_,h=>h
 |a::r,_,h=>J2 r (mu h a)
theorem Sz:∀(l:List B4){s:NS},NJ s.1->NJ (l.foldl (fun s x=>EU s.2 (Bu s.1 x)) s).1
 |[],_,h=>h
 |x::r,s,h=>Sz r (J2 _ (s:=((Bu s.1 x).1,s.2)) (rD h x))
theorem r8(h:NJ s.1):NJ (FW s).1:=Sz _ (s:=({s.1 with AI:=(C6 s.1.AI s.1.AJ).1},_)) ⟨h.f,h.m,h.c⟩
theorem oQ(h:NJ s.1):NJ (DF s).1:=J2 _ (s:=({s.1 with A3:=(CX s.1.A4 s.1.A3 s.1.BN).1.1,BN:=(CX s.1.A4 s.1.A3 s.1.BN).1.2},s.2)) ⟨h.f,h.m,h.c⟩
theorem re(h:NJ s.1):NJ (Ep s).1:=by
 unfold Ep;split
 .exact J2 _ h
 .exact h
theorem fq(h:NJ s.1):NJ (C5 s).1:=by
 unfold C5;split
 .dsimp only;split
  .exact J2 _ (s:=(_,s.2)) (Tw (n:={s.1 with A4:=(walkT s.1.A4 s.1.next).1,next:=(walkT s.1.A4 s.1.next).2.1}) ⟨h.f,h.m,h.c⟩ ..)
  .exact⟨h.f,h.m,h.c⟩
 .exact h
theorem gL(h:NJ s.1):NJ (Cr s).1:=by
 unfold Cr;split
 .exact J2 _ (s:=(_,s.2)) (Tw (n:={s.1 with last:=(HT s.1.keep s.1.last).1.AH}) ⟨h.f,h.m,h.c⟩ ..)
 .exact h
theorem sf(h:NJ n):NJ (EW n).1:=by
 unfold EW;split
 .exact h
 .exact gL (fq (re (oQ (r8 (s:=({n with AJ:=n.AJ+1},[])) ⟨h.f,h.m,h.c⟩))))
theorem od(h:NJ n)(m:AE):NJ (Bv n m).1:=by
 have ha:NJ (BC n m).1:=by
  unfold BC;dsimp only
  repeat' split
  all_goals exact⟨h.f,h.m,h.c⟩
 unfold Bv;split
 .split
  .exact h
  .exact⟨ha.f,ha.m,ha.c⟩
 .exact h
theorem sZ(h:NJ n)(b:AT):NJ (ET n b).1:=by
 unfold ET;split
 .split
  .exact⟨h.f,h.m,h.c⟩
  split
  .exact od h _
  split
  .exact J2 _ (s:=(_,[])) (lX (n:={n with AI:=(Bi n.AI (Ac b).1).1}) ⟨h.f,h.m,h.c⟩ _ _)
  .exact h
 .exact h
theorem uG(h:NJ n)(AR:Int)(x:AL):NJ (Gg n AR x).1.1:=by
 unfold Gg;split
 .split
  .exact J2 _ (s:=(_,[])) (Tw h ..)
  .exact h
 .exact h
end Nd
end Go.Proofs.YthlmmkmeoblbhaaGreat
