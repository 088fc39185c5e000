/- Part 24 of a proof. Conditions: those that its theorems state. -/
import Derived.Test.YtklaicomfolefaaU23
import Derived.Test.YtklaicomfolefaaRows
set_option linter.unusedSimpArgs false
set_option linter.unusedVariables false
set_option maxHeartbeats 40000000
set_option maxRecDepth 4000
namespace Go.Proofs.Ytklaicomfolefaa
open Go.Gar
variable {d:D}
theorem Np(h:Fj T.get 3 d):∃n,d= .i .i64 n/\(Lit.int .i64 n).wf=true:=by
 obtain⟨s,hs,h⟩:=h;cases hs;exact h
theorem own:ownKnob Try.prog.godebug=none:=by kernel_rfl
theorem laidOut:laidOutB Try.prog=true:=by kernel_rfl
theorem Lu{α:Type}{f:α->PQ}{es:List (PQ)}(h:∀e∈es,∃a,e=f a):∃l:List α,es=l.map f:=by
 induction es with
 |nil=>exact⟨[],rfl⟩
 |cons e r ih=>
  obtain⟨a,rfl⟩:=h e sm;obtain⟨l,rfl⟩:=ih fun x hx=>h x (by simp[hx])
  exact⟨a::l,rfl⟩
theorem KU{e:PQ}(h:Au [.int .i64,.by,.bool] e):∃g:A5,e=g.AX:=by
 obtain⟨_,_,rfl,⟨n,rfl,_⟩,h⟩:=h;obtain⟨_,_,rfl,⟨y,rfl,_⟩,h⟩:=h;obtain⟨_,_,rfl,⟨b,rfl⟩,h⟩:=h;cases h;exact⟨⟨n,y,b⟩,rfl⟩
theorem Fe(h:JP (.sl [.int .i64,.by,.bool]) d):∃l:List A5,d=A0 l:=by
 obtain⟨es,rfl,_,h⟩:=h;obtain⟨l,rfl⟩:=Lu (f:=A5.AX) fun e he=>KU (h e he)
 exact⟨l,rfl⟩
theorem OY(h:Fj T.get 22 d):∃l:List A5,d=A0 l:=by
 obtain⟨s,hs,h⟩:=h;cases hs;exact Fe h
theorem NI(h:Fj T.get 24 d):∃b:AQ,d=b.d:=by
 obtain⟨l,rfl,h⟩:=h;obtain⟨_,_,rfl,h1,h⟩:=h;obtain⟨_,_,rfl,⟨n,rfl,_⟩,h⟩:=h;cases h;obtain⟨l,rfl⟩:=Fe h1;exact⟨⟨l,n⟩,rfl⟩
theorem par5(h:Fj T.get 5 d):∃n,d= .i .u8 n/\(Lit.int .u8 n).wf=true:=by
 obtain⟨s,hs,h⟩:=h;cases hs;exact h
set_option maxRecDepth 100000 in
theorem Em(os:Os)(started:os.Started)(H:Type)(enc:TypeId×Value->H):
  ReturnsInHanded {} Try.checked os 3 .any (Rows.bagTellsSpec.pre6 enc Try.prog Try.f3 Rows.bagTellsRow.domain false) (Rows.bagTellsSpec.post enc Try.prog Try.f3 false true false false):=by
 refine returnsInHanded_of_change (C:=Try.checked) own started (by kernel_rfl) Try.func3
  (ChangeSpec.witness6 (enc:=enc) (C:=Try.checked) false ⟨#[],#[.agg #[.slice none 0 0,.int .i64 0],.agg #[.slice none 0 0,.int .i64 0],.slice none 0 0,.int .i64 0,.int .i64 0,.int .u8 0,.int .i64 0],[]⟩ 8 (by kernel_rfl) (by kernel_rfl) (by kernel_rfl) (by kernel_rfl)) ?_
 intro W base args ds gs before hval hW _ _;refine KY (P:=Try.prog) (tb:=4) AM laidOut (by kernel_rfl) (by kernel_rfl) (by kernel_rfl) Try.underlying4 rfl ?_ ?_ hval hW
 .intro H ds h
  match ds,h with
  |[d0,d1,d2,d3,d4,d5,d6],_=>rfl
 .intro xs h;obtain⟨x0,r,rfl,h0,h⟩:=h;obtain⟨x1,r,rfl,h1,h⟩:=h;obtain⟨x2,r,rfl,h2,h⟩:=h;obtain⟨x3,r,rfl,h3,h⟩:=h;obtain⟨x4,r,rfl,h4,h⟩:=h;obtain⟨x5,r,rfl,h5,h⟩:=h;obtain⟨x6,r,rfl,h6,h⟩:=h;cases h;obtain⟨n0,rfl⟩:=NI h0;obtain⟨n1,rfl⟩:=NI h1;obtain⟨n2,rfl⟩:=OY h2;obtain⟨n3,rfl,_⟩:=Np h3;obtain⟨n4,rfl,_⟩:=Np h4;obtain⟨n5,rfl,_⟩:=par5 h5;obtain⟨n6,rfl,_⟩:=Np h6;exact Hl n0 n1 n2 n3 n4 n5 n6
theorem bagTells_holds:Rows.BagTellsSaid:=
 OpenClaim.holds_of_wide 3 Try.f3 rfl rfl rfl rfl rfl rfl rfl ⟨rfl,rfl,rfl,rfl,rfl⟩ rfl rfl rfl rfl rfl (by kernel_rfl) Try.func3 (by kernel_rfl)
  (of_decide_eq_true (by kernel_rfl)) (by unfold Func.isWrapper;first|(rw[if_pos (by decide +kernel)];kernel_rfl)|(rw[if_neg (by decide +kernel)];exact⟨rfl,rfl⟩))
  (fun os started H enc _=>Em os started H enc)
end Go.Proofs.Ytklaicomfolefaa
