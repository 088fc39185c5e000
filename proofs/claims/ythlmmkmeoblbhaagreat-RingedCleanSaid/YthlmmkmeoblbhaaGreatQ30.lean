/- Part 30 of a proof. Conditions: those that its theorems state. -/
import Derived.Test.YthlmmkmeoblbhaaGreatQ29
import Derived.Test.YthlmmkmeoblbhaaGreatRows
set_option linter.unusedSimpArgs false
set_option linter.unusedVariables false
set_option maxHeartbeats 40000000
set_option maxRecDepth 4000
namespace Go.Proofs.YthlmmkmeoblbhaaGreat
open Go.Gar
set_option maxRecDepth 8000
theorem own:ownKnob Tryz.prog.godebug=none:=by kernel_rfl
theorem laidOut:laidOutB Tryz.prog=true:=by kernel_rfl
theorem wf_i64{n:Int}(h:(Lit.int .i64 n).wf=true):i64 n:=by
 simp[Lit.wf,IntKind.min,IntKind.max,IntKind.signed,IntKind.bits]at h;unfold i64;omega
theorem uB{a b:Bool}(h:a=true)(k:b=true):(a&&b)=true:=by rw[h,k];rfl
theorem dr{X:Type}(f:X->yo):∀{es:List (yo)},(∀e∈es,∃x,e=f x)->∃l:List X,es=l.map f
 |[],_=>⟨[],rfl⟩
 |e::r,h=>by
  obtain⟨x,rfl⟩:=h e (q02 ..);obtain⟨l,rfl⟩:=dr f (fun e he=>h e (q05 _ he));exact⟨x::l,rfl⟩
theorem jH{e:yo}(h:Ew [.int .u8,.int .i64,.int .i64,.int .i64,.by,.str,.int .i64,.int .i64,.bool] e):∃x:Nd.Step,e=x.A1:=by
 obtain⟨_,_,rfl,⟨x0,rfl,w0⟩,h⟩:=h;obtain⟨_,_,rfl,⟨x1,rfl,w1⟩,h⟩:=h;obtain⟨_,_,rfl,⟨x2,rfl,w2⟩,h⟩:=h;obtain⟨_,_,rfl,⟨x3,rfl,w3⟩,h⟩:=h;obtain⟨_,_,rfl,⟨x4,rfl,w4⟩,h⟩:=h;obtain⟨_,_,rfl,⟨x5,rfl,w5⟩,h⟩:=h;obtain⟨_,_,rfl,⟨x6,rfl,w6⟩,h⟩:=h;obtain⟨_,_,rfl,⟨x7,rfl,w7⟩,h⟩:=h;obtain⟨_,_,rfl,⟨x8,rfl⟩,h⟩:=h;cases h;exact⟨⟨x0,x1,x2,x3,x4,⟨x5,x6,x7,x8⟩⟩,rfl⟩
theorem xM{d:D}(h:Ye T.get 22 d):∃l,d= .is l/\(∀y∈l,i64 y)/\l.length<=9223372036854775807:=by
 obtain⟨s,hs,h⟩:=h;cases hs;obtain⟨l,rfl,w,v⟩:=h;exact⟨l,rfl,fun y hy=>wf_i64 (v y hy),w⟩
theorem nG{d:D}(h:Ye T.get 23 d):∃l,d=Nd.stepsD l/\l.length<=9223372036854775807:=by
 obtain⟨s,hs,h⟩:=h;cases hs;obtain⟨es,rfl,w,v⟩:=h;obtain⟨l,rfl⟩:=dr Nd.Step.A1 (fun e he=>jH (v e he));exact⟨l,rfl,by rw[zY]at w;exact w⟩
set_option maxRecDepth 100000 in
theorem NY(os:Os)(started:os.Started)(H:Type)(enc:TypeId×Value->H):
  ReturnsInHanded {} Tryz.checked os 3 .any (Rows.ringedCleanSpec.pre6 enc Tryz.prog Tryz.f3 Rows.ringedCleanRow.domain false) (Rows.ringedCleanSpec.post enc Tryz.prog Tryz.f3 false true false false):=by
 refine returnsInHanded_of_change (C:=Tryz.checked) own started (by kernel_rfl) Tryz.func3
  (ChangeSpec.witness6 (enc:=enc) (C:=Tryz.checked) false ⟨#[],#[.slice none 0 0,.slice none 0 0],[]⟩ 8 (by kernel_rfl) (by kernel_rfl) (by kernel_rfl) (by kernel_rfl)) ?_
 intro W A2 args ds gs before hval hW _ _;refine gE (P:=Tryz.prog) (tb:=4) AK laidOut (by kernel_rfl) (by kernel_rfl) (by kernel_rfl) Tryz.underlying4 rfl ?_ ?_ hval hW
 .intro H ds h
  match ds,h with
  |[d0,d1],_=>rfl
 .intro xs h;obtain⟨x0,r,rfl,h0,h⟩:=h;obtain⟨x1,r,rfl,h1,h⟩:=h;cases h;obtain⟨n0,rfl,k0,w0⟩:=xM h0;obtain⟨n1,rfl,k1⟩:=nG h1;exact Nd.Tg n0 n1 k0 w0 k1
set_option maxRecDepth 100000 in
theorem NX:joinedFacts Tryz.pinned.checked.prog 3 Tryz.f3 Rows.ringedCleanSpec Rows.ringedCleanRow=true:=by
 unfold joinedFacts
 repeat'(with_reducible refine uB ?_ ?_)
 all_goals(as_aux_lemma=>kernel_rfl)
theorem ringedClean_holds:Rows.RingedCleanSaid:=
 OpenClaim.holds_of_wide 3 Tryz.f3 rfl rfl rfl rfl rfl rfl rfl ⟨rfl,rfl,rfl,rfl,rfl⟩ rfl rfl rfl rfl rfl (by kernel_rfl) Tryz.func3 NX
  (q1H (by kernel_rfl)) (by unfold Func.isWrapper;first|(rw[zN (by decide +kernel)];kernel_rfl)|(rw[zO (by decide +kernel)];exact⟨rfl,rfl⟩))
  (fun os started H enc _=>NY os started H enc)
end Go.Proofs.YthlmmkmeoblbhaaGreat
