/- Part 17 of a proof. Conditions: those that its theorems state. -/
import Derived.Test.YtkljbfejbakooaaGreatDoorS16
set_option linter.unusedSimpArgs false
set_option linter.unusedVariables false
set_option maxHeartbeats 40000000
set_option maxRecDepth 4000
namespace Go.Proofs.YtkljbfejbakooaaGreatDoor
namespace Wi
open Go.Gar
theorem Dj:∀(l:List Int)(r:List UInt8),l.all fits=true->BC l.length (A7 l++r)=some (l,r)
 |[],r,_=>rfl
 |n::l,r,h=>by
  simp only[sH,qH]at h;have e:A7 (n::l)++r=A7 [n]++(A7 l++r):=by simp[A7]
  rw[qY,BC,e,Ci h.1];simp only;rw[Dj l r h.2];simp only[(B0 h.1).1]
theorem OF(g:Bool):(CP g==1)=g:=by cases g<;>rfl
theorem N8(x:Item)(hk:x.key.length<=255)(hv:fits x.value=true)(hn:fits x.version=true):Dk (BM x)=(x,true):=by
 obtain⟨k,v,n,g⟩:=x
 have ht:AO (BM ⟨k,v,n,g⟩)=(k,A7 [v,n,CP g],0):=by
  rw[show BM ⟨k,v,n,g⟩=UInt8.ofNat k.length::k++A7 [v,n,CP g]by simp[P5,BZ,A7]];exact Mo k _ hk
 have hp:BC 3 (A7 [v,n,CP g])=some ([v,n,CP g],[]):=by
  have:=Dj [v,n,CP g] [] (by simp only[sH,tY,hv,hn,D5,uN]);rw[rJ]at this;exact this
 unfold Dk;rw[ht];simp only[hp,qw,OF]
theorem ZJ(m:A2)(h:m.right=true):BB m.empty (BI m)=(m,true):=by
 obtain⟨_,_,_,_,hb,hh⟩:=Fy h;clear h;obtain⟨k,c,s,d,ky,sl,dn,pl,pr,l,⟨ik,iv,ir,ig⟩,co⟩:=m;unfold BB BI;simp only[A2.empty]at hb|-;unfold A2.bare A2.has at *;simp only at hb hh
 by_cases h4:k=4
 .subst h4;simp only[qw,A2.mk.injEq,AA,Item.mk.injEq]at hb hh|-
  have hp:BC 2 (A7 [ky,CP sl])=some ([ky,CP sl],[]):=by
   have:=Dj [ky,CP sl] [] (by simp only[sH,tY,BO hh,D5,uN]);rw[rJ]at this;exact this
  simp only[Co,qw,hp,uf,List.getD_cons_succ,OF]
  simp_all
 by_cases h5:k=5
 .subst h5;simp only[Int.reduceEq,ql,qw,A2.mk.injEq,AA,Item.mk.injEq]at hb hh|-;obtain⟨a1,a2,a3⟩:=FZ hh;simp only[Co,Int.reduceEq,ql,BC,N8 _ a1 a2 a3]
  simp_all
 by_cases h6:k=6
 .subst h6;simp only[Int.reduceEq,ql,qw,A2.mk.injEq,AA,Item.mk.injEq,qH,qJ]at hb hh|-;obtain⟨a1,a2,a3⟩:=FZ hh.1
  have ht:AO (BZ ik)=(ik,[],0):=by
   have:=Mo ik [] a1;rw[rJ]at this;exact this
  simp only[Co,Int.reduceEq,ql,BC,ht]
  simp_all
 by_cases h7:k=7
 .subst h7;simp only[Int.reduceEq,ql,qw,A2.mk.injEq,AA,Item.mk.injEq,qH,rO,qJ]at hb hh|-;obtain⟨b1,b2⟩:=J6 hh.2
  have hf:fits (pr+1)=true:=by
   rcases hh.1 with h|h
   .subst h;rfl
   .exact CX (by have:=E3 h;omega)
  have hp:BC 1 (A7 [pr+1]++UInt8.ofNat l.length::A7 l)=some ([pr+1],UInt8.ofNat l.length::A7 l):=Dj [pr+1] _ (by simp only[sH,tY,hf,uN])
  have ht:Af (UInt8.ofNat l.length::A7 l)=(l,[],0):=by
   have:=QF l [] om b2;rw[rJ]at this;exact this
  have e1:pr+1-1=pr:=om
  simp only[Co,Int.reduceEq,ql,qw,hp,ht,uf,e1]
  simp_all
 by_cases h10:k=10
 .subst h10;simp only[Int.reduceEq,ql,qw,A2.mk.injEq,AA,Item.mk.injEq]at hb hh|-
  have hp:BC 2 (A7 [pl,CP dn])=some ([pl,CP dn],[]):=by
   have:=Dj [pl,CP dn] [] (by simp only[sH,tY,BO hh,D5,uN]);rw[rJ]at this;exact this
  simp only[Co,Int.reduceEq,ql,qw,hp,uf,List.getD_cons_succ,OF]
  simp_all
 by_cases h11:k=11
 .subst h11;simp only[Int.reduceEq,ql,qw,A2.mk.injEq,AA,Item.mk.injEq,rO,qJ]at hb hh|-;have hf:fits co=true:=by rcases hh with h|h<;>rw[h]<;>rfl
  have hp:BC 1 (A7 [co])=some ([co],[]):=by
   have:=Dj [co] [] (by simp only[sH,tY,hf,uN]);rw[rJ]at this;exact this
  simp only[Co,Int.reduceEq,ql,qw,hp,uf]
  simp_all
 by_cases h12:k=12
 .subst h12;simp only[Int.reduceEq,ql,qw,A2.mk.injEq,AA,Item.mk.injEq,rO,qH,qJ]at hb hh|-;rcases hh with⟨h0,h1⟩|⟨h0,h1⟩
  .subst h0;obtain⟨a1,a2,a3⟩:=FZ h1;have hp:BC 1 (A7 [0]++BM ⟨ik,iv,ir,ig⟩)=some ([0],BM ⟨ik,iv,ir,ig⟩):=Dj [0] _ rfl;simp only[Co,Int.reduceEq,ql,qw,hp,uf,N8 _ a1 a2 a3]
   simp_all
  .subst h0;have hp:BC 1 (A7 [201])=some ([201],[]):=Dj [201] [] rfl;simp only[Co,Int.reduceEq,ql,qw,hp,uf,rJ]
   simp_all
 simp only[h4,h5,h6,h7,h10,h11,h12,ql,A2.mk.injEq,Co,BC]at hb|-
 simp_all
theorem Oq(m:A2)(b:List UInt8)(h:m.list.length<=255):(BB m b).1.list.length<=255:=by
 unfold BB;split
 .exact h
 .repeat' split
  all_goals first|exact h|exact Pj _
def FQ(b:List UInt8):A2×Int:=match BC 4 b with
 |some ([k,c,s,d],r)=>if k>=13 then(A5,12)else
  if(BB ⟨k,c,s,d,0,false,false,0,0,[],AA,0⟩ r).2=true/\(BB ⟨k,c,s,d,0,false,false,0,0,[],AA,0⟩ r).1.right=true/\B4 (BB ⟨k,c,s,d,0,false,false,0,0,[],AA,0⟩ r).1=b
  then((BB ⟨k,c,s,d,0,false,false,0,0,[],AA,0⟩ r).1,0)else(A5,12)
 |_=>(A5,12)
theorem UW(b:List UInt8):(∃m,FQ b=(m,0)/\m.right=true/\B4 m=b)\/FQ b=(A5,12):=by
 unfold FQ;split
 .split
  .exact .inr rfl
  .split
   .rename_i h;exact .inl ⟨_,rfl,h.2.1,h.2.2⟩
   .exact .inr rfl
 .exact .inr rfl
theorem Zj{m:A2}(h:m.right=true):FQ (B4 m)=(m,0):=by
 obtain⟨⟨k1,k2⟩,⟨p1,p2⟩,_,⟨c1,c2⟩,hb,hh⟩:=Fy h;have ha:=L3 h;have fk:fits m.kind=true:=CX om;have fc:fits m.call=true:=CX om;have hp:BC 4 (B4 m)=some ([m.kind,m.call,m.src,m.dst],BI m):=Dj [m.kind,m.call,m.src,m.dst] (BI m) (by simp only[sH,tY,fk,fc,BO p1,BO p2,uN]);have hm:=ZJ m h;unfold A2.empty at hm;unfold FQ;rw[hp];simp only[hm];rw[if_neg om,if_pos (qQ trivial (qQ h trivial))]
theorem UX(b:List UInt8):FQ b=DY b:=by
 rcases UW b with⟨m,h1,h2,h3⟩|h1
 .rw[h1,<-h3,UY h2]
 .obtain⟨m,e,h⟩:∃m e,DY b=(m,e):=⟨_,_,rfl⟩;rcases eS h with⟨h2,h3,h4⟩|⟨h2,h3⟩
  .have:=Zj h3;rw[h4,h1]at this;simp at this
  .rw[h1,h,h2,h3]
def P0(b:List UInt8):List UInt8×Int:=if b.length<8 then([],11)else
 if(Bi ((b.take (b.length-4)).drop 4)).2=0/\(Bi ((b.take (b.length-4)).drop 4)).1=b then((b.take (b.length-4)).drop 4,0)else([],12)
theorem Yh{p:List UInt8}(h:(Bi p).2=0):p.length<=112:=by
 unfold Bi at h;split at h
 .simp at h
 .omega
theorem dy(b:List UInt8):P0 b=B1 b:=by
 obtain⟨p,e,h⟩:∃p e,B1 b=(p,e):=⟨_,_,rfl⟩;unfold P0;rcases UF h with⟨h1,h2,h3⟩|⟨h1,h2,h3⟩|⟨h1,h2,h3⟩
 .subst h1;have hb:=h3;rw[GA h2]at hb;simp only at hb;have hl:b.length=p.length+8:=by rw[<-hb];simp[Gu,R1];omega
  have e:(b.take (b.length-4)).drop 4=p:=by
   rw[hl,<-hb,qm,show p.length+8-4=(hdr p.length).length+p.length by rw[Gu];omega,List.take_append,List.drop_append];simp[Gu]
  rw[if_neg om,e,if_pos ⟨by rw[GA h2],h3⟩,h]
 .rw[if_pos h2,h,h1,h3]
 .rw[if_neg om,if_neg,h,h1,h3];rintro⟨a,c⟩;have:=P1 (Yh a);rw[c,h,h1]at this;simp at this
end Wi
end Go.Proofs.YtkljbfejbakooaaGreatDoor
