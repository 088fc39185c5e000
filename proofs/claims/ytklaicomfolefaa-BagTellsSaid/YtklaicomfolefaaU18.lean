/- Part 18 of a proof. Conditions: those that its theorems state. -/
import Derived.Test.YtklaicomfolefaaU16
import Derived.Test.YtklaicomfolefaaU17
set_option linter.unusedSimpArgs false
set_option linter.unusedVariables false
set_option linter.unnecessarySimpa false
set_option maxHeartbeats 40000000
set_option maxRecDepth 4000
namespace Go.Proofs.Ytklaicomfolefaa
open Go.Gar
def nil0:AQ:=⟨[],0⟩
def gA:A5:=⟨3,[1,2],false⟩
def gB:A5:=⟨4,[],false⟩
def gC:A5:=⟨3,List.replicate 121 0,false⟩
def CG:AQ:=⟨[gA,gB],1⟩
def LL:AQ:=⟨[gA,gB,gA],1⟩
def gH:A5:=⟨3,[1,10],true⟩
def Dq:AQ:=⟨[gA,gB,gH],1⟩
theorem NK{l:List A5}(h:(l.all fun g=>decide (g.by_.length<=100000))=true):small l:=fun g hg=>by
 rw[Qh]at h;simpa using h g hg
theorem w1:Ov 10 [.agg [.sl 3 [],.i .i64 0],.i .i64 0] (.tup [nil0.d,BN.d,.b false]):=by
 have h:=HY nil0 0 (by decide) (NK rfl);have e:takeB nil0 0=(nil0,BN,false):=by decide
 rw[e]at h;exact h
theorem w2:Ov 13 [.agg [.sl 3 [],.i .i64 0],A0 [gA,gB,gC]] CG.d:=by
 have h:=HU nil0 [gA,gB,gC] (by decide) (NK rfl) (by decide) (NK (by decide));have e:BL nil0 [gA,gB,gC]=CG:=by decide
 rw[e]at h;exact h
theorem w3:Ov 18 [CG.d,.i .i64 0] (.tup [LL.d,.i .i64 0]):=by
 have h:=IP CG 0 (by decide) (NK rfl);have e:CC CG 0=(LL,0):=by decide
 rw[e]at h;exact h
theorem w4:Ov 20 [LL.d,.i .i64 2,.i .i64 1,.i .u8 8] (.tup [Dq.d,.i .i64 0]):=by
 have h:=HC LL 2 1 8 (by decide) (NK rfl);have e:Cv LL 2 1 8=(Dq,0):=by decide
 rw[e]at h;exact h
theorem w5:Ov 20 [Dq.d,.i .i64 2,.i .i64 0,.i .u8 8] (.tup [Dq.d,.i .i64 2]):=by
 have h:=HC Dq 2 0 8 (by decide) (NK rfl);have e:Cv Dq 2 0 8=(Dq,2):=by decide
 rw[e]at h;exact h
theorem w6:Ov 10 [Dq.d,.i .i64 2] (.tup [CG.d,gH.d,.b true]):=by
 have h:=HY Dq 2 (by decide) (NK rfl);have e:takeB Dq 2=(CG,gH,true):=by decide
 rw[e]at h;exact h
theorem w7:Ov 16 [CG.d,.i .i64 1] (.tup [AQ.d ⟨[gA],2⟩,.i .i64 0]):=by
 have h:=Jd CG 1 (by decide) (NK rfl);have e:DK CG 1=(⟨[gA],2⟩,0):=by decide
 rw[e]at h;exact h
theorem w8:Ov 22 [Dq.d,.i .i64 3] (.is [0,2]):=Lh Dq 3 (by decide)
theorem w9:Ov 12 [CG.d,CG.d] (.b true):=Fv CG CG (by decide)
theorem w10:Ov 24 [CG.d,CG.d] (.b true):=HT CG CG (by decide)
theorem w11:Ov 24 [CG.d,Dq.d] (.b false):=HT CG Dq (by decide)
theorem Cy:Ov 9 [] (.b true):=by
 refine zF AM Try.func9 ?_;have nS:=QN
 repeat'(first|((with_reducible refine sg ?_);first|with_reducible rfl|((with_reducible refine Ix ?_);first|kernel_rfl|rfl|(simp[C3,DY,nS];done))|with_reducible refine Ie ?_ ?_|with_reducible exact Nat.beq_refl _|with_reducible exact Bv _|((with_reducible refine Pq ?_);first|omega|(simp only[GD,nS];omega))|decide|(simp[GD,slc,BH,D.one,Bs,AV.one,nS];done)|(simp[GD,nS];omega))|((with_reducible refine O2 ?_);first|refine Xfu 27 rfl rfl rfl (by first|rfl|simp[AD]) ?_|refine Xfd 26 (.agg [.i .i64 4,.by [],.b false]) rfl rfl (by first|(simp[Gj,B4,B3,AO,AD,AI];done)|(repeat'(first|rfl|trivial|refine⟨rfl,rfl,by simp[AI]⟩|refine⟨_,_,rfl,?_,?_⟩|refine⟨_,rfl,?_⟩))) rfl ?_|(refine D5 rfl ?_;refine Nz AM rfl rfl rfl rfl ?_)|refine Xq AM rfl rfl rfl rfl ?_ ?_|refine Xn [0,3,4,5,6,7,8,10,11,12,13,14,15,16,73] rfl ?_|refine XF (w3) rfl rfl rfl rfl ?_|refine XF (w4) rfl rfl rfl rfl ?_|refine XF (w5) rfl rfl rfl rfl ?_|refine XF (w6) rfl rfl rfl rfl ?_|refine XF (w7) rfl rfl rfl rfl ?_|refine XF (w8) rfl rfl rfl rfl ?_|refine XF (w9) rfl rfl rfl rfl ?_|refine XF (w10) rfl rfl rfl rfl ?_|refine XF (w11) rfl rfl rfl rfl ?_|refine OL (w1) rfl rfl rfl rfl (by first|(simp[Gj,B4,B3,AO,AD,AI];done)|(repeat'(first|rfl|trivial|refine⟨rfl,rfl,by simp[AI]⟩|refine⟨_,_,rfl,?_,?_⟩|refine⟨_,rfl,?_⟩))) ?_|refine OL (w2) rfl rfl rfl rfl (by first|(simp[Gj,B4,B3,AO,AD,AI];done)|(repeat'(first|rfl|trivial|refine⟨rfl,rfl,by simp[AI]⟩|refine⟨_,_,rfl,?_,?_⟩|refine⟨_,rfl,?_⟩))) ?_|refine Xa AM rfl rfl rfl rfl rfl ?_ ?_|refine Xw AM rfl rfl rfl rfl ?_ ?_|refine Xs rfl rfl rfl ?_|(refine FH rfl rfl (fun hc=> ?_) (fun hc=> ?_)<;>(fail_if_success (with_reducible first|exact tF hc|exact fT hc))<;>(try simp only[GC]at hc)<;>(try(exfalso;omega))))|refine FD ?_|refine Cl ?_|refine DW ?_|refine FC ?_|refine CS ?_|refine DU ?_|refine Bq rfl ?_|refine Bp rfl ?_|(refine Ck rfl (fun hc=> ?_) (fun hc=> ?_)<;>(try simp only[GC]at hc)<;>(try(exfalso;omega))))
 exact zE
end Go.Proofs.Ytklaicomfolefaa
