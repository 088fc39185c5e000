/- Part 18 of a proof. Conditions: those that its theorems state. -/
import Derived.Test.YtmlaifbbpdanmaaV12
import Derived.Test.YtmlaifbbpdanmaaV14
set_option linter.unusedSimpArgs false
set_option linter.unusedVariables false
set_option linter.unnecessarySimpa false
set_option maxHeartbeats 40000000
set_option maxRecDepth 4000
namespace Go.Proofs.Ytmlaifbbpdanmaa
open Go.Gar
section
variable {P:Program}{ro:Qt}{ops:R0}{S0 S S':St}{Q:Exit->St->Prop}{E:Nat->Option AK}{s s':Nat->St}{r r':Nat->Rc}
variable {N:NB}{p:Nat}{listed:R5}{G:Gh}{a:Act}{w:World}
theorem Q4(st:B5 ro ops S0 s r N listed p G a w)(pl:Plan P ro E ops S0 S s r)(pl':Plan P ro E ops S0 S' s' r'){c:Nat}(hc:c<ops.size)(hr:∀j,j<c->r' j=r j)(hh:(r' c).h=(r c).h)(hk:(r c).k.El=true)
  (hunl:listed[c]?≠some true) (hdesc:∀j,c<j->j<ops.size->(F6 ops j).testBit c=true\/((r j).k= .any/\(r' j).k= .any/\(r' j).x=(r j).x)):B5 ro ops S0 s' r' N listed p G a w:=by
 have low:∀j,listed[j]? =some true->j<c\/((r j).k= .any/\(r' j).k= .any/\(r' j).x=(r j).x):=by
  intro j hl;have hj:j<ops.size:=by rw[<-st.size];exact(Qp.1 hl).1
  rcases Nat.lt_trichotomy j c with h|h|h
  .exact .inl h
  .subst h;exact absurd hl hunl
  .rcases hdesc j h hj with hd|hd
   .exact absurd (st.up pl (o:=ops[j]) (by simp[hj]) (st.closed j _ (by simp[hj]) hl) hd) hunl
   .exact .inr hd
 have hpc:p<=c:=by
  rcases RJ c p with h|h
  .exact absurd ((st.eff c hc hk).2 h) hunl
  .exact h
 have hH:(s' p).H=(s p).H:=by
  rw[<-pl'.h p om,<-pl.h p om];rcases Nat.eq_or_lt_of_le hpc with h|h
  .rw[h,hh]
  .rw[hr p h]
 refine⟨st.size,st.closed,st.le,fun k hk1 hk2=> ?_,fun k ch hkc hl=> ?_,?_,fun j o t ho hd hl=> ?_,st.env0⟩
 .rcases RJ k c with h|h
  .exact st.eff k hk1 (by rw[<-hr k h];exact hk2)
  .constructor
   .intro hl;rcases low k hl with h'|⟨_,h',_⟩
    .omega
    .rw[h']at hk2;cases hk2
   .intro h2;omega
 .rcases low k hl with h'|⟨_,h',_⟩
  .exact st.nopan k ch (by rw[<-hr k h'];exact hkc) hl
  .rw[h']at hkc;cases hkc
 .rw[hH];exact st.rel
 .rcases low j hl with h'|⟨_,_,h'⟩
  .rw[hr j h'];exact st.env1 j o t ho hd hl
  .rw[h'];exact st.env1 j o t ho hd hl
variable {Z:Type}{C:Z->Prop}{A:Z->AV}{B:Z->RE}{e0:R9}
theorem Q8{H0:RE}{c:Nat}{oc:Oper}{r0:Nat->Rc}{x0:Nat->AV}(hE:Ai P E)(hoc:ops[c]? =some oc)(fam:∀z,C z->∃S s r,Plan P ro E ops S0 S s r/\Q .normal S/\(∀i ch,(r i).k≠ .pan ch)/\(∀i h,(r i).k= .ext h->i=c)/\r c=⟨e0,H0,A z,.ext (B z)⟩/\(s (c+1)).H=B z/\(∀j,j<c->r j=r0 j)/\∀j,c<j->j<ops.size->(F6 ops j).testBit c=true\/((r j).k= .any/\(r j).x=x0 j))(hne:∃z,C z)(hg:A4 ops e0 oc=some true)(step:∀N G a w (K:Act->World->Prop)(R':Exit->Act->World->Prop),Rel ro N ⟨e0,H0,S0.n⟩ G a w->(∀z v w' G',C z->G'.H=B z->RV G' (A z) v->AD G' w'->BE G w G' w'->K (a.put oc.dst v) w')->oc.wpIn (FE (rl G ro)) 0 P a w K R'):GC P ro ops S0 Q:=by
 intro N G a w hr;obtain⟨z0,hz0⟩:=hne;obtain⟨S,s,r,pl,q,np,ux,rc,sc,rj,fj⟩:=fam z0 hz0;obtain⟨h1,h2⟩:=B5.init pl hr;have hrl:∀{G':Gh}{w':World}{H:RE}{a':Act},Rel ro N ⟨[],H,S0.n⟩ G' a' w'->BE G w G' w'->rl G' ro=rl G ro:=fun h hf=>CH hr h hf
 have hcs:c<ops.size:=(Qp.1 hoc).1;refine B5.run pl hE (fun _=>q) (fun i ch _ h=>absurd h (np i ch)) hrl (X:=fun _=>False) ?_ _ _ 0 G a _ (fun _ h=>h.elim) (by simp[List.countP_replicate]) h1 h2;intro fuel listed p G1 a1 w1 i hx hc _ st hf hi hk;obtain rfl:=ux i hx hk;obtain⟨hun,o,ho,hall⟩:=(Ah st.size).1 hi;rw[hoc]at ho;cases ho;have hun':listed[i]?≠some true:=by rw[hun];simp
 have hil:i<listed.size:=by rw[st.size];exact hcs
 have hkE:(r i).k.El=true:=by rw[hk];rfl
 have hlook:=st.look pl hoc hun' hall;have hH:(s p).H=H0:=by rw[(st.Jf pl hoc hun' hall).1 hkE,<-pl.h i hcs,rc]
 have hrel:Rel ro N ⟨e0,H0,S0.n⟩ G1 a1 w1:=by
  have:Rel ro N ⟨(r i).e,(s p).H,S0.n⟩ G1 a1 w1:=⟨st.rel.heap,st.rel.rel,st.rel.size,hlook,st.rel.marks,st.rel.round⟩;rw[hH,rc]at this;exact this
 have hF:rl G1 ro=rl G ro:=hrl st.rel hf;unfold wpOpIn;simp only[hoc];have hw:=Ax (S:=⟨e0,H0,S0.n⟩) hrel.env hg;rw[Rf hw,<-hF];refine step N G1 a1 w1 _ _ hrel fun z v w' G' hz hB hv hr' hfr=> ?_
 obtain⟨S2,s2,r2,pl2,q2,np2,ux2,rc2,sc2,rj2,fj2⟩:=fam z hz
 have st2:=Q4 st pl pl2 hcs (fun j hj=>by rw[rj2 j hj,rj j hj]) (by rw[rc2,rc]) hkE hun' (fun j h1 h2=>by
  rcases fj j h1 h2 with h|⟨h3,h4⟩
  .exact .inl h
  .rcases fj2 j h1 h2 with h|⟨h5,h6⟩
   .exact .inl h
   .exact .inr ⟨h3,h5,by rw[h6,h4]⟩)
 rw[hF];have nx:=st2.next pl2 hoc hun hall (np2 i) (p':=i+1) ⟨hcs,fun _=>rfl,fun h=>absurd (by rw[rc2];rfl) h⟩ (v:=v) (G':=G') (w':=w') (by rw[rc2];exact hv) (by rw[sc2];exact hB) hr' hfr;refine B5.run pl2 hE (fun _=>q2) (fun i ch _ h=>absurd h (np2 i ch)) hrl (X:=fun j=>j=i) ?_ fuel _ (i+1) G' _ w' (fun j hj=>by subst hj;exact(Bf hil).2 (.inl rfl)) (count_set hun hc) nx (hf.trans hfr);intro _ listed' _ _ _ _ j hx' _ hX st' _ hj hkj;obtain rfl:=ux2 j hx' hkj;have h3:=((Ah st'.size).1 hj).1;rw[hX j rfl]at h3;cases h3
def Jc(ops:R0)(ks:List Kd)(l:QR)(c:Nat)(fr:R9):Bool:=
 Bt ops ks l&&(Fb ks.length fun j=>match ks[j]? with
  |some (.pan _)|some .dead=>false
  |some (.ext _)=>Nat.beq j c
  |_=>true)&&Fb ops.toList.length fun j=> !Nat.blt c j||(F6 ops j).testBit c||fr.any fun q=>Nat.beq q.1 j
def KV(rs:List Rc):R9->Prop
 |[]=>True
 |q::l=>(∃r,rs[q.1]? =some r/\r.k= .any/\r.x=q.2)/\KV rs l
theorem HK{rs:List Rc}{j:Nat}:∀{fr:R9},KV rs fr->fr.any (fun q=>Nat.beq q.1 j)=true->∃r,rs[j]? =some r/\r.k= .any/\r.x=((fr.find? fun q=>Nat.beq q.1 j).map Prod.snd).getD .u
 |[],_,h=>by simp at h
 |q::l,hx,h=>by
  by_cases hb:Nat.beq q.1 j=true
  .obtain⟨r,h1,h2,h3⟩:=hx.1;refine⟨r,by rw[<-Qi hb];exact h1,h2,?_⟩;rw[List.find?_cons_of_pos (by exact hb)];exact h3
  .obtain⟨r,h1,h2,h3⟩:=HK hx.2 (by simpa[hb]using h);refine⟨r,h1,h2,?_⟩;rw[List.find?_cons_of_neg (by exact hb)];exact h3
def Lq(P:Program)(ro:Qt)(E:Nat->Option AK)(ops:R0)(S0:St)(Q:Exit->St->Prop)(z:Rc)(acc1:List Rc)(fr:R9):Prop:=
 ∃acc S l,Run P ro E ops S0 (acc++z::acc1) S/\Jc ops ((acc++z::acc1).reverse.map Rc.k) l acc1.length fr=true/\KV (acc++z::acc1).reverse fr/\Au E ops (acc++z::acc1).reverse S.H l/\Q .normal S
variable {fr:R9}
theorem Mf{H0 H1:RE}{x:AV}{acc1:List Rc}(h:Lq P ro E ops S0 Q ⟨e0,H0,x,.ext H1⟩ acc1 fr):∃S s r,Plan P ro E ops S0 S s r/\Q .normal S/\(∀i ch,(r i).k≠ .pan ch)/\(∀i h,(r i).k= .ext h->i=acc1.length)/\
  r acc1.length=⟨e0,H0,x,.ext H1⟩/\(s (acc1.length+1)).H=H1/\(∀j,j<acc1.length->r j=(acc1.reverse[j]?).getD ⟨[],[],.u,.skip⟩)/\∀j,acc1.length<j->j<ops.size->(F6 ops j).testBit acc1.length=true\/((r j).k= .any/\(r j).x=((fr.find? fun q=>Nat.beq q.1 j).map Prod.snd).getD .u):=by
 obtain⟨acc,S,l,ht,hd,hfr,hx,hq⟩:=h;simp only[Jc,Qk]at hd;obtain⟨⟨hd1,hd2⟩,hd3⟩:=hd;obtain⟨s,_,pl⟩:=ht.plan hd1 hx;have hd2:=BL hd2;have hd3:=BL hd3
 have hlen:(acc++(⟨e0,H0,x,.ext H1⟩:Rc)::acc1).length=ops.size:=by
  have h1:=hd1;simp only[Bt,Qk]at h1;have:=Qi h1.1;simp at this;simp;omega
 have hcl:acc1.length<ops.size:=by simp at hlen;omega
 have hrc:((acc++(⟨e0,H0,x,.ext H1⟩:Rc)::acc1).reverse[acc1.length]?).getD ⟨[],[],.u,.skip⟩=⟨e0,H0,x,.ext H1⟩:=by
  rw[List.reverse_append,List.reverse_cons,Rl,Qx sm];simp
 have kd:∀i,i<ops.size->((acc++(⟨e0,H0,x,.ext H1⟩:Rc)::acc1).reverse.map Rc.k)[i]? =some (((acc++(⟨e0,H0,x,.ext H1⟩:Rc)::acc1).reverse[i]?).getD ⟨[],[],.u,.skip⟩).k:=by
  intro i hi;have hil:i<(acc++(⟨e0,H0,x,.ext H1⟩:Rc)::acc1).reverse.length:=by rw[SV,hlen];exact hi
  rw[RX,Qm hil];rfl
 have out:∀i,¬i<ops.size->(((acc++(⟨e0,H0,x,.ext H1⟩:Rc)::acc1).reverse[i]?).getD ⟨[],[],.u,.skip⟩).k= .skip:=by
  intro i hi;rw[Rn (by rw[SV,hlen];omega)];rfl
 refine⟨S,s,_,pl,hq,fun i ch hk=> ?_,fun i h hk=> ?_,hrc,?_,fun j hj=> ?_,fun j h1 h2=> ?_⟩
 .by_cases hi:i<ops.size
  .have:=hd2 i (by simp only[Rh,SV];rw[hlen];exact hi);rw[kd i hi,hk]at this;cases this
  .rw[out i hi]at hk;cases hk
 .by_cases hi:i<ops.size
  .have:=hd2 i (by simp only[Rh,SV];rw[hlen];exact hi);rw[kd i hi,hk]at this;exact Qi this
  .rw[out i hi]at hk;cases hk
 .have:=(pl.ok acc1.length ops[acc1.length] (by simp[hcl])).2;rw[hrc]at this;exact this.2
 .rw[List.reverse_append,List.reverse_cons,Rl,Qq (by simpa using hj)]
 .have:=hd3 j (by simpa using h2);have hb:Nat.blt acc1.length j=true:=by rw[S9];exact h1
  rw[hb]at this;simp only[Bool.not_true,Bool.false_or,Bool.or_eq_true]at this;rcases this with h|h
  .exact .inl h
  .obtain⟨r,k1,k2,k3⟩:=HK hfr h;refine .inr ?_;show(((acc++(⟨e0,H0,x,.ext H1⟩:Rc)::acc1).reverse[j]?).getD ⟨[],[],.u,.skip⟩).k= .any/\(((acc++(⟨e0,H0,x,.ext H1⟩:Rc)::acc1).reverse[j]?).getD ⟨[],[],.u,.skip⟩).x=_;rw[k1];exact⟨k2,k3⟩
variable {acc:List Rc}{rest:R1}{o:Oper}{en:R9}{hp:RE}{nt:Nat}{A0:Prop}
theorem PH{id:Nat}(fr:R9){g:Nat}{xs:R8}(hE:Ai P E)(hm:P.follows .mixedOrders=true)(hg:A4 ops (B7 (looks ops o) S.env) o=some true)(h:Ab (B7 (looks ops o) S.env) o.op=some (g,xs))(hd:AA o.dst S.n=true)(hT:Bv P g xs S.H fun y H=>∃z,C z/\y=A z/\H=B z)(hne:∃z,C z)(hk:∀z,C z->Wd P ro E ops S0 (Lq P ro E ops S0 (Qw Q) ⟨B7 (looks ops o) S.env,S.H,A z,.ext (B z)⟩ acc fr) (⟨B7 (looks ops o) S.env,S.H,A z,.ext (B z)⟩::acc) rest ⟨AW o.dst (A z) S.env,B z,S.n⟩):
  Wd P ro E ops S0 (W P ro (.region id ops true) S0 Q) acc (o::rest) S:=by
 intro Sr ht hH hn he hr;have ho:ops[acc.length]? =some o:=by have:=hr 0;simpa using this.symm
 have fam:∀z,C z->Lq P ro E ops S0 (Qw Q) ⟨B7 (looks ops o) S.env,S.H,A z,.ext (B z)⟩ acc fr:=fun z hz=>Ck (x:=A z) (k:=.ext (B z)) (H':=B z) ⟨hd,hg,rfl⟩ (hk z hz) Sr ht hH hn he hr
 have hSn:S.n=S0.n:=by
  obtain⟨z,hz⟩:=hne;obtain⟨s,h0,h1,h2⟩:=ht.trace
  cases hl:acc.length with
  |zero=>rw[hl]at h1;rw[<-hn,<-h1,h0]
  |succ k=>
   obtain⟨_,_,_,_,_,_,_,_,h3,_⟩:=h2 k om;rw[<-hn,<-h1,hl,h3]
 refine Hc (Q':=Qw Q) (fun N G a w hrel=>wpIn_region_any hm (Q8 (x0:=fun j=>((fr.find? fun q=>Nat.beq q.1 j).map Prod.snd).getD .u) (C:=C) (A:=A) (B:=B) (e0:=B7 (looks ops o) S.env) (H0:=S.H) (c:=acc.length) (r0:=fun j=>(acc.reverse[j]?).getD ⟨[],[],.u,.skip⟩) hE ho (fun z hz=>Mf (fam z hz)) hne hg ?_ N G a w hrel)) (fun e S' ⟨env,hs,q⟩=> .inr ⟨env,hs,q⟩)
 .intro N G a w K R' hrel hK;refine KC (S:=⟨B7 (looks ops o) S.env,S.H,S0.n⟩) h hT N G a w K R' hrel fun y v w' G' ⟨z,hz,e1,e2⟩ hv hr' hfr=> ?_
  subst e1;exact hK z v w' G' hz e2 hv hr' hfr
theorem YEF{id:Nat}(fr:R9){A':Z->AV}{B':Z->RE}{e:Z->R9}{g:Nat}{args:R8}{H:RE}(ids:QQ)(hT:Bv P g args H fun y K=>∃z,C z/\y=A z/\K=B z)(hne:∃z,C z)(hE:Ai P E)(hmx:P.follows .mixedOrders=true)(hl:BK (looks ops o) en=some e0)(hg:A4 ops e0 o=some true)(h:Ab e0 o.op=some (g,AV.B4 (rn ids hp.length) args))(hd:AA o.dst nt=true)(hm:Az (rn ids hp.length) hp ids H)(hn:nodupB ids=true)(ho:AM H.length H=true)(ha:AV.oks H.length args=true)(hA:∀z,(A z).ren (rn ids hp.length)=A' z)(hB:∀z,F7 ids hp (CG (rn ids hp.length) (B z))=B' z)(he:∀z,AL o.dst (A' z) en=some (e z))(hk:∀z,C z->Wd P ro E ops S0 (Lq P ro E ops S0 (Qw Q) ⟨e0,hp,A' z,.ext (B' z)⟩ acc fr) (⟨e0,hp,A' z,.ext (B' z)⟩::acc) rest ⟨e z,B' z,nt⟩):
  Wd P ro E ops S0 (W P ro (.region id ops true) S0 Q) acc (o::rest) ⟨en,hp,nt⟩:=by
 have:=Aa hl;subst this;refine PH fr (S:=⟨en,hp,nt⟩) (C:=C) (A:=A') (B:=B') hE hmx hg h hd ((Bv.ren ids hT (Bz hn) hm ho ha).mono fun y K ⟨y',H',⟨z,hz,e1,e2⟩,e3,e4⟩=>⟨z,hz,by rw[e3,e1,hA z],by rw[e4,e2,hB z]⟩) hne fun z hz=> ?_
 show Wd P ro E ops S0 _ _ rest ⟨AW o.dst (A' z) en,B' z,nt⟩;rw[<-AE (he z)];exact hk z hz
theorem YnEF{z:Rc}{acc1:List Rc}(acc2:List Rc)(hacc:acc=acc2++z::acc1)(live:QQ){e:R9}(l:QR)(hd:Jc ops (acc.reverse.map Rc.k) l acc1.length fr=true)(hf:KV acc.reverse fr)(hx:Au E ops acc.reverse hp l)(he:BK live en=some e)(hQ:Q .normal ⟨e,hp,nt⟩):
  Wd P ro E ops S0 (Lq P ro E ops S0 (Qw Q) z acc1 fr) acc [] ⟨en,hp,nt⟩:=by
 have:=Aa he;subst this;intro Sr ht hH hn he' hr;subst hacc;refine⟨acc2,Sr,l,ht,hd,hf,by rw[hH];exact hx,B7 live en,fun t x hx=>he' t x (Cg hx).2,?_⟩;rw[hH,hn];exact hQ
end
end Go.Proofs.Ytmlaifbbpdanmaa
