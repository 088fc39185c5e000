/- Part 20 of a proof. Conditions: those that its theorems state. -/
import Derived.Test.YtmlaifbbpdanmaaV19
import Derived.Test.YtmlaifbbpdanmaaRows
set_option linter.unusedSimpArgs false
set_option linter.unusedVariables false
set_option maxHeartbeats 40000000
set_option maxRecDepth 4000
namespace Go.Proofs.Ytmlaifbbpdanmaa
open Go.Gar
variable {d:D}
theorem Pz(h:HQ T.get 3 d):∃n,d= .QO n/\(Lit.int .i64 n).wf=true:=by
 obtain⟨s,hs,h⟩:=h;cases hs;exact h
theorem own:ownKnob Try.prog.godebug=none:=by kernel_rfl
theorem laidOut:laidOutB Try.prog=true:=by kernel_rfl
theorem My{α:Type}{f:α->R6}{es:List (R6)}(h:∀e∈es,∃a,e=f a):∃l:List α,es=l.map f:=by
 induction es with
 |nil=>exact⟨[],rfl⟩
 |cons e r ih=>
  obtain⟨a,rfl⟩:=h e sm;obtain⟨l,rfl⟩:=ih fun x hx=>h x (by simp[hx])
  exact⟨a::l,rfl⟩
theorem HL{e:R6}(h:BP [.int .i64,.by,.bool] e):∃g:AF,e=g.C1:=by
 obtain⟨_,_,rfl,⟨n,rfl,_⟩,h⟩:=h;obtain⟨_,_,rfl,⟨y,rfl,_⟩,h⟩:=h;obtain⟨_,_,rfl,⟨b,rfl⟩,h⟩:=h;cases h;exact⟨⟨n,y,b⟩,rfl⟩
theorem Je(h:K9 (.sl [.int .i64,.by,.bool]) d):∃l:List AF,d=A1 l:=by
 obtain⟨es,rfl,_,h⟩:=h;obtain⟨l,rfl⟩:=My (f:=AF.C1) fun e he=>HL (h e he)
 exact⟨l,rfl⟩
theorem Py(h:HQ T.get 27 d):∃g:AF,d=g.d:=by
 obtain⟨l,rfl,h⟩:=h;obtain⟨g,rfl⟩:=HL h;exact⟨g,rfl⟩
theorem Px(h:HQ T.get 24 d):∃b:Av,d=b.d:=by
 obtain⟨l,rfl,h⟩:=h;obtain⟨_,_,rfl,h1,h⟩:=h;obtain⟨_,_,rfl,⟨n,rfl,_⟩,h⟩:=h;cases h;obtain⟨l,rfl⟩:=Je h1;exact⟨⟨l,n⟩,rfl⟩
set_option maxRecDepth 100000 in
theorem Gy(os:Os)(started:os.Started)(H:Type)(enc:TypeId×Value->H):
  ReturnsInHanded {} Try.checked os 3 .any (Rows.bagOwnSpec.pre6 enc Try.prog Try.f3 Rows.bagOwnRow.domain false) (Rows.bagOwnSpec.post enc Try.prog Try.f3 false true false false):=by
 refine returnsInHanded_of_change (C:=Try.checked) own started (by kernel_rfl) Try.func3
  (ChangeSpec.witness6 (enc:=enc) (C:=Try.checked) false ⟨#[],#[.agg #[.slice none 0 0,.int .i64 0],.agg #[.int .i64 0,.slice none 0 0,.bool false],.int .i64 0,.int .i64 0],[]⟩ 8 (by kernel_rfl) (by kernel_rfl) (by kernel_rfl) (by kernel_rfl)) ?_
 intro W base args ds gs before hval hW _ _;refine LU (P:=Try.prog) (tb:=4) A7 laidOut (by kernel_rfl) (by kernel_rfl) (by kernel_rfl) Try.underlying4 rfl ?_ ?_ hval hW
 .intro H ds h
  match ds,h with
  |[d0,d1,d2,d3],_=>rfl
 .intro xs h;obtain⟨x0,r,rfl,h0,h⟩:=h;obtain⟨x1,r,rfl,h1,h⟩:=h;obtain⟨x2,r,rfl,h2,h⟩:=h;obtain⟨x3,r,rfl,h3,h⟩:=h;cases h;obtain⟨n0,rfl⟩:=Px h0;obtain⟨n1,rfl⟩:=Py h1;obtain⟨n2,rfl,_⟩:=Pz h2;obtain⟨n3,rfl,_⟩:=Pz h3;exact L9 n0 n1 n2 n3
theorem bagOwn_holds:Rows.BagOwnSaid:=
 OpenClaim.holds_of_wide 3 Try.f3 rfl rfl rfl rfl rfl rfl rfl ⟨rfl,rfl,rfl,rfl,rfl⟩ rfl rfl rfl rfl rfl (by kernel_rfl) Try.func3 (by kernel_rfl)
  (of_decide_eq_true (by kernel_rfl)) (by unfold Func.isWrapper;first|(rw[Rf (by decide +kernel)];kernel_rfl)|(rw[Rw (by decide +kernel)];exact⟨rfl,rfl⟩))
  (fun os started H enc _=>Gy os started H enc)
end Go.Proofs.Ytmlaifbbpdanmaa
