/- Part 37 of a proof, put together by a program. Conditions: none beyond those that a theorem states. -/
import Derived.Test.YtkljbfejbakooaaGreatDoorB20
import Derived.Test.YtkljbfejbakooaaGreatDoorB36
set_option linter.unusedSimpArgs false
set_option linter.unusedVariables false
set_option linter.unnecessarySimpa false
set_option maxHeartbeats 40000000
namespace Go.Proofs.YtkljbfejbakooaaGreatDoor
namespace Nd
open Go.Gar
open Wi (A8 B2 Ai AA BN mC)
set_option maxRecDepth 4000
theorem Fn.own {P : Program} {f : FuncId} {x a : D} {sz : Nat} {t : Bool} (h : Go.Gar.Fn P f [x,a] (.b t)) : B4 P f [.sl 0 (A9 x) sz,.d a] [.a x] (.d (.b t)) [.a x]:=by
 refine ⟨h.1,fun G w vs hG hR hv => ?_⟩;have hid : G.H[0]? = some (.a x):=by rw [hG];rfl
 have hF:=(IL hR hid).1;have hv2:=AS.Ef hR hid hv;have e1 : AV.Jm 0 x [.sl 0 (A9 x) sz,.d a] = [x,a].map .d:=by simp [AV.Jm,AV.Ef]
 rw [e1] at hv2;refine (h.2 _ w vs hF.mem hF.st (KA.1 hv2)).mono ?_;rintro e w' ⟨v,m',rfl,hr,hle,hok,hnew,ho,ht,hou,hs,hk⟩;have hlow : ∀ b,b < w.heap.size → w'.heap[b]? = w.heap[b]?:=hk
 have hH : AN G w':=by
  refine ⟨fun id q hq => (hR.blk id q hq).Mz (Gs.refl G) (fun b N hl hρ => hlow b (Dc hR ⟨id,N,q,hq,hl,hρ⟩)) rfl,hR.inj,fun b k v hv => ?_,hR.sep,hR.st⟩;have hc:=hR.mem b k v hv
  have hb : b < w.heap.size:=by
   unfold World.cell? at hc;rcases Nat.lt_or_ge b w.heap.size with hlt | hge
   ·exact hlt
   ·simp [Array.getElem?_eq_none hge] at hc
  rw [World.cell?_of_block (w:=w) (hlow b hb)];exact hc
 exact ⟨_,.d (.b t),G,rfl,⟨rfl,hG⟩,by simp only [RD] at hr;subst hr;simp only [RV,RD],hH,⟨ho,ht,hou,hs,fun b hb ho => ⟨hk b hb,ho⟩,fun _ _ _ hv => .inl hv,Gs.refl G⟩⟩
end Nd
end Go.Proofs.YtkljbfejbakooaaGreatDoor
