/- Part 22 of a proof. Conditions: those that its theorems state. -/
import Derived.Test.YtklaicomfolefaaU20
import Derived.Test.YtklaicomfolefaaU21
set_option linter.unusedSimpArgs false
set_option linter.unusedVariables false
set_option linter.unnecessarySimpa false
set_option maxHeartbeats 40000000
set_option maxRecDepth 4000
namespace Go.Proofs.Ytklaicomfolefaa
open Go.Gar
abbrev C2:P0:=[0,1,2,3,4,8,9,47]
theorem M8{l:List A5}{a:Nat}{x:A5}(hx:l[a]? =some x)(b N:Nat):(Ax l a x b N l.length)[a]? =some (Fw x b N):=by
 unfold Ax;have ha:a<l.length:=(P6.1 hx).1;rw[Pz,PU (by simpa using ha)]
theorem flat_get{es:List (PQ)}{sz:Nat}(ho:∀e∈es,e.length=sz):∀{a:Nat}{e:PQ}{k:Nat}{d:D},es[a]? =some e->e[k]? =some d->es.flatten[a*sz+k]? =some d:=by
 induction es with
 |nil=>intro a e k d h _;simp at h
 |cons c r ih=>
  intro a e k d h hk;have hc:=ho c sm;have hkl:k<e.length:=(P6.1 hk).1
  cases a with
  |zero=>
   simp at h;subst h;rw[QG,Nat.zero_mul,Pn,PK hkl];exact hk
  |succ a=>
   have h:r[a]? =some e:=by simpa using h
   rw[QG,PS (by rw[hc,Q8];omega),hc];have:(a+1)*sz+k-sz=a*sz+k:=by rw[Q8];omega
   rw[this];exact ih (fun x hx=>ho x (by simp[hx])) h hk
theorem Fx(l:List A5)(a:Nat)(x:A5)(b N k:Nat):∀e∈Ax l a x b N k,e.length=3:=by
 intro e he;rcases List.mem_or_eq_of_mem_set he with h|rfl
 .obtain⟨g,_,rfl⟩:=List.mem_map.1 h;rfl
 .rfl
theorem M6(l:List A5)(n:Int)(hl:l.length<=1000)(hs:small l)(a:Nat)(x:A5)(hx:l[a]? =some x)(i:Nat)(hi:i<x.by_.length)(m:Int)(hh:x.harmed=false)(hm:(m==0)=false):
  Ov 21 [AQ.d ⟨l,n⟩,.i .i64 a,.i .i64 i,.i .u8 m] (.tup [AQ.d ⟨l.set a (Ar x i m),n⟩,.i .i64 0]):=by
 have ha:a<l.length:=(P6.1 hx).1;have hxb:=Ab hs hx;refine Gl (x:=.tup [.ag [.sl 4 l.length 3,.Oo n],.Oo 0]) (H:=[.gone,.c [.sl 4 l.length 3,.Oo n],.gone,.gone,.a (A0 (l.set a (Ar x i m)))]) ?_ ?_
 .refine zD AM Try.func21 ?_;have nS:=QN
  repeat'(first|((with_reducible refine sg ?_);first|with_reducible rfl|((with_reducible refine Ix ?_);first|kernel_rfl|rfl|(simp[C3,DY,nS];done))|with_reducible refine Ie ?_ ?_|with_reducible exact Nat.beq_refl _|with_reducible exact Bv _|((with_reducible refine Pq ?_);first|omega|(simp only[GD,nS];omega))|decide|(simp[GD,slc,BH,D.one,Bs,AV.one,nS];done)|(simp[GD,nS];omega))|((with_reducible refine O2 ?_);first|(refine D5 rfl ?_;refine Nz AM rfl rfl rfl rfl ?_)|refine Xq AM rfl rfl rfl rfl ?_ ?_|refine Xn [0,1,2,3,4,8,9,47] rfl ?_|refine Xa AM rfl rfl rfl rfl rfl ?_ ?_|refine Xw AM rfl rfl rfl rfl ?_ ?_|refine Xs rfl rfl rfl ?_|(refine FH rfl rfl (fun hc=> ?_) (fun hc=> ?_)<;>(fail_if_success (with_reducible first|exact tF hc|exact fT hc))<;>(try simp only[GC]at hc)<;>(try(exfalso;omega))))|((with_reducible refine Oh ?_);first|(refine Es rfl ?_;refine Og AM rfl rfl (fun _=>rfl) rfl rfl ?_)|refine Yp AM rfl rfl (fun _=>rfl) rfl rfl ?_ ?_|refine Yq rfl rfl rfl rfl rfl ?_ ?_|refine Ys rfl rfl rfl rfl ?_|refine Ya AM rfl rfl rfl rfl rfl rfl ?_ ?_|refine Yw AM rfl rfl rfl rfl rfl ?_ ?_|refine Yn [0,1,2,3,4,8,9,47] [] mixed AM (by kernel_rfl) QN rfl ?_|(refine Gs rfl rfl (fun hc=> ?_) (fun hc=> ?_)<;>(fail_if_success (with_reducible first|exact tF hc|exact fT hc))<;>(try simp only[GC]at hc)<;>(try(exfalso;omega))))|refine FD ?_|refine GL [2] rfl ?_|refine L2 [2] T.get rfl ?_|(refine OH (fun _ _=> .ag [.sl 4 l.length 3,.Oo n]) (fun b N=>[.c [.d (A0 l),.Oo n],.c [.e0,.Oo 0],.gone,.c [.sl 4 (Ax l a x b N l.length).length 3,.Oo n],.a (.sl 3 (Ax l a x b N l.length)),.gone,.gone,.gone,.Bb b N x.by_]) (N8 l n hl hs a x hx om) rfl rfl rfl (fun _ _=>rfl) (fun _ _=>rfl) (fun _ _=>rfl) (fun b N hbN=> ?_))|refine DW ?_|refine FC ?_|refine CS ?_|refine DU ?_|refine Bq rfl ?_|refine Bp rfl ?_|(refine Ck rfl (fun hc=> ?_) (fun hc=> ?_)<;>(try simp only[GC]at hc)<;>(try(exfalso;omega))))
  have hr1:(Ax l a x b N l.length).length=l.length:=by rw[EA,Pz]
  have hg:=M8 hx b N;have hf:=@flat_get _ _ (Fx l a x b N l.length) a
  have f1:(slc (.sl 3 (Ax l a x b N l.length))).getD (a*3+1) .np= .raw (.slice (some ⟨b,0,none⟩) x.by_.length N):=by
   have:=hf (k:=1) hg rfl;rw[PW];show(List.flatten _)[_]?.getD _=_;rw[this];rfl
  have f2:(slc (.sl 3 (Ax l a x b N l.length))).getD (a*3+2) .np= .b false:=by
   have:=hf (k:=2) hg rfl;rw[PW];show(List.flatten _)[_]?.getD _=_;rw[this,hh];rfl
  have f3:(Ax l a x b N l.length).getD a []=Fw x b N:=by rw[PW,hg];rfl
  generalize hrr:Ax l a x b N l.length=r at *;have e0:((a:Int)).toNat=a:=Int.toNat_natCast a;have e0':((i:Int)).toNat=i:=Int.toNat_natCast i;have g0:decide ((a:Int)<0)=false:=Pv om;have g1:decide ((a:Int)>=(l.length:Int))=false:=Pv om;have i0:decide ((i:Int)<0)=false:=Pv om;have i1:decide ((i:Int)>=(x.by_.length:Int))=false:=Pv om;refine wd C2 [] (Oc e0 e0' hr1 f1 f2 g0 g1 i0 i1 hm) AA ?_;with_reducible repeat' first|constructor|intro hc
  .have hy:Cd x.by_ i m=x.by_.set i (UInt8.ofNat (BM .xor .u8 ((x.by_.getD i 0).toNat:Int) m).toNat):=rfl;rw[Nat.mul_one i,<-hy,f3];have hyl:=GX x.by_ i m;have hT:=Fx l a x b N l.length;rw[hrr]at hT;have ha':a<r.length:=om
   have hq:(r.set a ((Fw x b N).set 2 (.b true)))[a]? =some [.i .i64 x.to,.raw (.slice (some ⟨b,0,none⟩) x.by_.length N),.b true]:=by rw[PU ha'];rfl
   have hQ:∀e∈r.set a ((Fw x b N).set 2 (.b true)),e.length=3:=by
    intro e he;rcases List.mem_or_eq_of_mem_set he with h|rfl
    .exact hT e h
    .rfl
   have hE:(l.set a (Ar x i m)).map A5.AX=(r.set a ((Fw x b N).set 2 (.b true))).set a (((r.set a ((Fw x b N).set 2 (.b true))).getD a []).set 1 (.by (Cd x.by_ i m))):=by
    have e1:(r.set a ((Fw x b N).set 2 (.b true))).getD a []=[.i .i64 x.to,.raw (.slice (some ⟨b,0,none⟩) x.by_.length N),.b true]:=by rw[PW,hq];rfl
    rw[e1,List.set_set,<-hrr];unfold Ax;rw[Pz,List.set_set,List.map_set];rfl
   generalize hG:r.set a ((Fw x b N).set 2 (.b true))=G at *;have hp:=flat_get hQ (k:=1) hq rfl;rw[<-hyl]at hp;have hGl:a<G.length:=by rw[<-hG,List.length_set];exact ha'
   have hfs:=Cs (.by (Cd x.by_ i m)) (show 1<3 by decide) hQ hGl;rw[<-hE]at hfs
   have hz:∀e∈(l.set a (Ar x i m)).map A5.AX,e.length=3:=by
    intro e he;obtain⟨g,_,rfl⟩:=List.mem_map.1 he;rfl
   have hn:((l.set a (Ar x i m)).map A5.AX).length=G.length:=by rw[Po,List.length_set,<-hG,List.length_set];omega
   refine⟨_,(A6.Ni 8 4 (a*3+1) (b:=b) (N:=N) (l:=Cd x.by_ i m) (sz:=3) (es:=G) (es':=(l.set a (Ar x i m)).map A5.AX) rfl rfl hp hfs hn hz).trans (fun _=>trivial) (A6.cut (S':=⟨[(8,.ptr 1 0 2),(9,.Oo 0)],[.gone,.c [.sl 4 l.length 3,.Oo n],.gone,.gone,.a (A0 (l.set a (Ar x i m)))],_⟩) rfl ⟨rfl,rfl,trivial⟩ ?_ rfl rfl) ?_,Q7 _,_,_,rfl,rfl,rfl,rfl⟩
   .exact⟨.inl ⟨rfl,rfl⟩,.inr rfl,.inl ⟨rfl,rfl⟩,.inl ⟨rfl,rfl⟩,.inr rfl,trivial⟩
   .exact Ou
  .have h1:=K6 (x.by_.getD i 0) m;unfold Kt at h1;simp only[Nat.mul_one,Nat.beq_refl,Pq hi,Pq h1.1,Pq h1.2,Bool.and_self,Bool.true_and,Bool.and_true]
   try rfl
 .simp[Gk,AD,AO,AI,AQ.d]
theorem M7(b:AQ)(AU i m:Int)(hb:b.grams.length<=1000)(hbs:small b.grams):Ov 21 [b.d,.i .i64 AU,.i .i64 i,.i .u8 m] (.tup [(Cv b AU i m).1.d,.i .i64 (Cv b AU i m).2]):=by
 have hO:=HQ b hb hbs;obtain⟨gs,n⟩:=b;replace hb:gs.length<=1000:=hb;replace hbs:small gs:=hbs;unfold Cv
 cases h:AQ.Cg ⟨gs,n⟩ AU with
 |true=>
  obtain⟨a,rfl,ha⟩:=By h;replace ha:a<gs.length:=ha;obtain⟨x,hx⟩:=Ac ha;have hg:gs.getD a BN=x:=by rw[PW,hx];rfl
  simp only[Int.toNat_natCast,hg,Bool.true_and];have g0:decide ((a:Int)<0)=false:=Pv om;have g1:decide ((a:Int)>=(gs.length:Int))=false:=Pv om
  cases hk:Db x i m with
  |true=>
   simp only[Db,P8,PO,Bool.not_eq_true']at hk;obtain⟨⟨⟨h1,h2⟩,h3⟩,h4⟩:=hk;obtain⟨i',rfl⟩:∃k:Nat,i=k:=⟨i.toNat,om⟩;exact M6 gs n hb hbs a x hx i' om m h3 h4
  |false=>
   simp only[Db,Bool.and_eq_false_iff,decide_eq_false_iff_not,Bool.not_eq_false']at hk;refine zF AM Try.func21 ?_;obtain⟨xt,xb,xh⟩:=x
   have hk':i<0\/(xb.length:Int)<=i\/xh=true\/(m==0)=true:=by
    rcases hk with((hk|hk)|hk)|hk
    .exact .inl om
    .exact .inr (.inl (by replace hk:¬i<(xb.length:Int):=hk;omega))
    .exact .inr (.inr (.inl hk))
    .exact .inr (.inr (.inr hk))
   cases xh with
   |true=>
    have ix1:=hx;refine wd C2 [] (Ha g0 g1) (BC @hO) ?_;clear ix1;with_reducible repeat' first|constructor|intro hc
    all_goals first
     |(exfalso;omega)
     |(refine⟨_,_,rfl,rfl,?_⟩;simp[Gk,AD,AO,AI,AQ.d,A0];done)
   |false=>
    cases e4:m==0 with
    |true=>
     have ix1:=hx;refine wd C2 [] (Om g0 g1 e4) (BC @hO) ?_;clear ix1;with_reducible repeat' first|constructor|intro hc
     all_goals first
      |(exfalso;omega)
      |(refine⟨_,_,rfl,rfl,?_⟩;simp[Gk,AD,AO,AI,AQ.d,A0];done)
    |false=>
     have hk2:i<0\/(xb.length:Int)<=i:=by
      rcases hk' with h|h|h|h
      .exact .inl h
      .exact .inr h
      .cases h
      .rw[e4]at h;cases h
     rcases hk2 with hk2|hk2
     .have i0:decide (i<0)=true:=Pq hk2;have ix1:=hx;refine wd C2 [] (zq4 g0 g1 e4 i0) (BC @hO) ?_;clear ix1;with_reducible repeat' first|constructor|intro hc
      all_goals first
       |(exfalso;omega)
       |(refine⟨_,_,rfl,rfl,?_⟩;simp[Gk,AD,AO,AI,AQ.d,A0];done)
     .have i0:decide (i<0)=false:=Pv om;have i1:decide (i>=(xb.length:Int))=true:=Pq om;have ix1:=hx;refine wd C2 [] (zq5 g0 g1 e4 i0 i1) (BC @hO) ?_;clear ix1;with_reducible repeat' first|constructor|intro hc
      all_goals first
       |(exfalso;omega)
       |(refine⟨_,_,rfl,rfl,?_⟩;simp[Gk,AD,AO,AI,AQ.d,A0];done)
 |false=>
  have hx:=De h;refine zF AM Try.func21 ?_;simp only[Bool.false_and,Py,QK];rcases hx with hx|hx
  .have g0:decide (AU<0)=true:=Pq hx;refine wd C2 [] (BC g0) (BC @hO) ?_;with_reducible repeat' first|constructor|intro hc
   all_goals first
    |(exfalso;omega)
    |(refine⟨_,_,rfl,rfl,?_⟩;simp[Gk,AD,AO,AI,AQ.d,A0];done)
  .have g0:decide (AU<0)=false:=Pv om;have g1:decide (AU>=(gs.length:Int))=true:=Pq om;refine wd C2 [] (Ha g0 g1) (BC @hO) ?_;with_reducible repeat' first|constructor|intro hc
   all_goals first
    |(exfalso;omega)
    |(refine⟨_,_,rfl,rfl,?_⟩;simp[Gk,AD,AO,AI,AQ.d,A0];done)
end Go.Proofs.Ytklaicomfolefaa
