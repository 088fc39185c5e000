/- Part 16 of a proof. Conditions: those that its theorems state. -/
import Derived.Test.YtkljbfejbakooaaGreatDoorS10
import Derived.Test.YtkljbfejbakooaaGreatDoorS15
set_option linter.unusedSimpArgs false
set_option linter.unusedVariables false
set_option linter.unnecessarySimpa false
set_option maxHeartbeats 40000000
set_option maxRecDepth 4000
namespace Go.Proofs.YtkljbfejbakooaaGreatDoor
namespace Wi
open Go.Gar
abbrev F1:List Nat:=[0,2,3,4,5,6,9,24,39,45,46,61]
def IP(b:List UInt8):Nat:=(b.getD 2 0).toNat*256+(b.getD 3 0).toNat
def B1(b:List UInt8):List UInt8×Int:=
 if b.length<8 then([],11)else
 if 120<b.length\/¬((b.getD 0 0).toNat:Int)=71\/¬((b.getD 1 0).toNat:Int)=1\/¬b.length=IP b+8 then([],12)else
 if(List.range 4).all (fun i=>b.getD (4+IP b+i) 0==(be4 (Ic (b.take (4+IP b)))).getD i 0)then((b.drop 4).take (IP b),0)else([],12)
theorem mM:∀(d e:Fin 256),C9 .or .i64 (IntKind.wrap .i64 ((d.1:Int)*2^min 8 64)) e.1=(d.1*256+e.1:Nat):=by decide +kernel
theorem lG(s:BitVec 32)(k:Nat)(hk:k<4):(s.toNat:Int).fdiv (2^min (24-8*(k:Int)).toNat IntKind.u32.bits)%256=(((be4 s).getD k 0).toNat:Int):=by
 have hs:=s.isLt
 have key:∀n:Nat,((UInt8.ofNat ((n:Int)%256).toNat).toNat:Int)=n%256:=fun n=>by
  simp[uT];omega
 have e:k=0\/k=1\/k=2\/k=3:=om
 rw[uO _ (by exact Int.le_of_lt (Int.pow_pos (by decide)))];rcases e with rfl|rfl|rfl|rfl
 .have:=key (s.toNat/16777216);simp[be4,IntKind.bits]at this|-;omega
 .have:=key (s.toNat/65536);simp[be4,IntKind.bits]at this|-;omega
 .have:=key (s.toNat/256);simp[be4,IntKind.bits]at this|-;omega
 .have:=key (s.toNat);simp[be4,IntKind.bits]at this|-;omega
theorem fj(b:List UInt8)(hb:b.length<70368744177664):qB 116 [.by b] (.tup [.by (B1 b).1,.i .i64 (B1 b).2]):=by
 refine zF A4 Tryz.func116 ?_;have hor:C9 .or .i64 (IntKind.wrap .i64 (((b.getD 2 0).toNat:Int)*2^min 8 64)) ((b.getD 3 0).toNat:Int)=(IP b:Nat):=mM ⟨(b.getD 2 0).toNat,(b.getD 2 0).toNat_lt⟩ ⟨(b.getD 3 0).toNat,(b.getD 3 0).toNat_lt⟩;have hz:=WW (IP b:Int)
 by_cases h8:b.length<8
 .have e:B1 b=([],11):=if_pos h8;refine wd F1 [] A0 A0 ?_ [] true;with_reducible repeat' first|constructor|intro hc;try simp only[AB]at hc
  exact Ag e
 by_cases h:120<b.length\/¬((b.getD 0 0).toNat:Int)=71\/¬((b.getD 1 0).toNat:Int)=1\/¬b.length=IP b+8
 .have e:B1 b=([],12):=by
   unfold B1;rw[if_neg h8,if_pos h]
  by_cases hq:IP b<=112
  .rw[if_neg om]at hz;refine wd F1 [] (A6 hor) (A6 @hz) ?_ [] true;with_reducible repeat' first|constructor|intro hc;try simp only[AB]at hc
   all_goals try(exfalso;omega)
   all_goals(exact Ag e )
  .rw[if_pos om]at hz;refine wd F1 [] (A6 hor) (A6 @hz) ?_ [] true;with_reducible repeat' first|constructor|intro hc;try simp only[AB]at hc
   all_goals try(exfalso;omega)
   all_goals(exact Ag e )
 have hn:b.length=IP b+8:=om
 have h0:((b.getD 0 0).toNat:Int)=71:=om
 have h1:((b.getD 1 0).toNat:Int)=1:=om
 have hl:b.length<=120:=om
 rw[if_neg om]at hz;have htk:(b.take (4+IP b)).length=4+IP b:=by rw[rM];omega
 have hs:=au (b.take (4+IP b)) om;have e1:((4:Int)+(IP b:Int)).toNat=4+IP b:=om
 refine wd F1 [] (AX hor e1) (AX @hz @hs) ?_ [] true;with_reducible repeat' first|constructor|intro hc;try simp only[AB]at hc
 unfold u32;refine An (fun k=>k<=4/\∀i,i<k->b.getD (4+IP b+i) 0=(be4 (Ic (b.take (4+IP b)))).getD i 0) (fun k:Nat=>⟨[(0,.d (.by b)),(4,.pY (IP b)),(5,.d (u32 (Ic (b.take (4+IP b))))),(45,.pY k)],[],68⟩) (fun k=>4-k) 0 ⟨qP _,fun i hi=>om⟩ ?_ (qG _) ?_
 .unfold u32;exact A1.ck rfl
 rintro k ⟨hk,hall⟩;unfold u32
 by_cases hk4:k<4
 .have e2:((4:Int)+(IP b:Int)+(k:Int)).toNat=4+IP b+k:=om
  have e3:=lG (Ic (b.take (4+IP b))) k hk4
  by_cases hm:b.getD (4+IP b+k) 0=(be4 (Ic (b.take (4+IP b)))).getD k 0
  .have e4:(((b.getD (4+IP b+k) 0).toNat:Int)!=(((be4 (Ic (b.take (4+IP b)))).getD k 0).toNat:Int))=false:=by rw[hm];simp
   refine wd F1 [] (C3 e2 e3 e4) A0 ?_ [] true;with_reducible repeat' first|constructor|intro hc;try simp only[AB]at hc
   refine⟨k+1,⟨hk4,fun i hi=> ?_⟩,om,qG _,?_⟩
   .rcases Nat.lt_or_eq_of_le (Nat.le_of_lt_succ hi)with h|h
    .exact hall i h
    .rw[h];exact hm
   exact A1.ck rfl
  .have e4:(((b.getD (4+IP b+k) 0).toNat:Int)!=(((be4 (Ic (b.take (4+IP b)))).getD k 0).toNat:Int))=true:=by
    rw[bne_iff_ne];intro h;exact hm (uy.1 om)
   have e:B1 b=([],12):=by
    unfold B1;rw[if_neg h8,if_neg h,if_neg];intro ha;rw[sK]at ha;exact hm (by simpa using ha k (List.mem_range.2 hk4))
   refine wd F1 [] (C3 e2 e3 e4) A0 ?_ [] true;with_reducible repeat' first|constructor|intro hc;try simp only[AB]at hc
   exact Ag e
 .have e:B1 b=((b.drop 4).take (IP b),0):=by
   unfold B1;rw[if_neg h8,if_neg h,if_pos];rw[sK];intro i hi;simpa using hall i (by have:=List.mem_range.1 hi;omega)
  have e5:(b.take (4+IP b)).drop 4=(b.drop 4).take (IP b):=by rw[List.drop_take];congr 1;omega
  refine wd F1 [] (A6 e1) A0 ?_ [] true;with_reducible repeat' first|constructor|intro hc;try simp only[AB]at hc
  exact Ag (qQ e e5)
theorem Gu(n:Int):(hdr n).length=4:=rfl
theorem R1(s:BitVec 32):(be4 s).length=4:=rfl
theorem kN(n:Nat)(h:n<256):(UInt8.ofNat n).toNat=n:=by simp[uT];omega
variable {p:List UInt8}
theorem GA(h:p.length<=112):Bi p=(hdr p.length++p++be4 (Ic (hdr p.length++p)),0):=if_neg om
theorem ct(n:Nat)(h:n<65536):hdr n=[71,1,UInt8.ofNat (n/256),UInt8.ofNat (n%256)]:=by
 have e1:((n:Int)/256%256).toNat=n/256:=om
 have e2:((n:Int)%256).toNat=n%256:=om
 unfold hdr;rw[e1,e2];rfl
theorem P1(h:p.length<=112):B1 (Bi p).1=(p,0):=by
 rw[GA h];generalize hs:be4 (Ic (hdr p.length++p))=S;have hS:S.length=4:=by rw[<-hs];rfl
 have hb:hdr p.length++p++S=71::1::UInt8.ofNat (p.length/256)::UInt8.ofNat (p.length%256)::(p++S):=by
  rw[ct p.length om];rfl
 have hfr:IP (hdr p.length++p++S)=p.length:=by
  rw[hb];unfold IP;simp only[List.getD_cons_succ,uf];rw[kN _ om,kN _ om];omega
 have htk:(hdr p.length++p++S).take (4+p.length)=hdr p.length++p:=by
  rw[List.take_append_of_le_length (by simp[Gu]),sS (by simp[Gu])]
 unfold B1;rw[hfr,htk,hs];rw[if_neg (by simp[Gu];omega),if_neg]
 .rw[if_pos]
  .rw[hb];simp
  .rw[sK];intro i hi;have hi:=List.mem_range.1 hi;rw[beq_iff_eq,qW,qW,qp (by simp[Gu])]
   congr 2
   simp[Gu]
 .rw[hb];simp[hS];omega
theorem UF{b:List UInt8}{e:Int}(h:B1 b=(p,e)):(e=0/\p.length<=112/\(Bi p).1=b)\/(e=11/\b.length<8/\p=[])\/(e=12/\8<=b.length/\p=[]):=by
 unfold B1 at h;split at h
 .cases h;exact .inr (.inl ⟨rfl,by assumption,rfl⟩)
 rename_i h8;split at h
 .cases h;exact .inr (.inr ⟨rfl,om,rfl⟩)
 rename_i hc;split at h
 .rename_i hall;simp only[qR]at h;obtain⟨rfl,rfl⟩:=h;refine .inl ⟨rfl,by simp;omega,?_⟩;have hn:b.length=IP b+8:=om
  have hpl:((b.drop 4).take (IP b)).length=IP b:=by simp;omega
  obtain⟨b0,b1,b2,b3,t,rfl⟩:∃b0 b1 b2 b3 t,b=b0::b1::b2::b3::t:=by
   rcases b with _|⟨b0,_|⟨b1,_|⟨b2,_|⟨b3,t⟩⟩⟩⟩<;>first|exact⟨_,_,_,_,_,rfl⟩|(simp at h8)
  have hfr:IP (b0::b1::b2::b3::t)=b2.toNat*256+b3.toNat:=rfl;have l2:=b2.toNat_lt;have l3:=b3.toNat_lt
  have e0:b0=71:=uy.1 (by have:((b0.toNat:Nat):Int)=71:=by simpa using Classical.not_not.1 (fun h=>hc (.inr (.inl h)))
                          have:(71:UInt8).toNat=71:=rfl
                          omega)
  have e1:b1=1:=uy.1 (by have:((b1.toNat:Nat):Int)=1:=by simpa using Classical.not_not.1 (fun h=>hc (.inr (.inr (.inl h))))
                         have:(1:UInt8).toNat=1:=rfl
                         omega)
  rw[GA (by rw[hpl];omega),hpl]
  have hh:hdr (IP (b0::b1::b2::b3::t))=[b0,b1,b2,b3]:=by
   rw[ct _ om,hfr,e0,e1,show(b2.toNat*256+b3.toNat)/256=b2.toNat by omega,show(b2.toNat*256+b3.toNat)%256=b3.toNat by omega];simp
  generalize hN:IP (b0::b1::b2::b3::t)=N at*
  have htk:(b0::b1::b2::b3::t).take (4+N)=hdr N++List.take N (List.drop 4 (b0::b1::b2::b3::t)):=by
   rw[hh,show 4+N=N+4 by omega];rfl
  have htl:(b0::b1::b2::b3::t).drop (4+N)=be4 (Ic ((b0::b1::b2::b3::t).take (4+N))):=by
   apply List.ext_getElem?;intro i;rw[tN];rcases rG i 4 with hi|hi
   .have:=sK.1 hall i (List.mem_range.2 hi);rw[beq_iff_eq,qW,qW]at this;rw[qK om]at this|-;rw[qK (by rw[R1];exact hi)]at this|-;simpa using this
   .rw[tC om,tC (by rw[R1];exact hi)]
  rw[<-htk,<-htl];exact rX _ _
 .cases h;exact .inr (.inr ⟨rfl,om,rfl⟩)
def B7(m:A2):List UInt8×Int:=if m.right then Bi (B4 m)else([],2)
def Ad(b:List UInt8):A2×Int:=if(B1 b).2=0 then DY (B1 b).1 else(A5,(B1 b).2)
theorem S9{m:A2}(h:m.right=true):B7 m=((Bi (B4 m)).1,0):=by
 have:=J9 h;unfold B7;rw[if_pos h,GA om]
theorem an(m:A2)(hl:m.list.length<9223372036854775807):qB 123 [m.d] (.tup [.by (B7 m).1,.i .i64 (B7 m).2]):=by
 have hP:=Uq m hl
 cases h:m.right with
 |false=>
  have e:B7 m=([],2):=by unfold B7;rw[h];rfl
  have e2:ID m=([],2):=by unfold ID;rw[h];rfl
  rw[e2]at hP;unfold A2.d A2.cells at *;refine zF A4 Tryz.func123 ?_;refine wd [0,1,2,3,4,5,12] [] A0 (A6 @hP) ?_;exact Ag e
 |true=>
  have e:B7 m=Bi (B4 m):=by unfold B7;rw[h];rfl
  have e2:ID m=(B4 m,0):=by unfold ID;rw[h];rfl
  have hC:=aV (B4 m);rw[e2]at hP;unfold A2.d A2.cells at *;refine zF A4 Tryz.func123 ?_;refine wd [0,1,2,3,4,5,12] [] A0 (AX @hP @hC) ?_;exact Ag e
theorem Kv(b:List UInt8)(hb:b.length<70368744177664):qB 43 [.by b] (.tup [(Ad b).1.d,.i .i64 (Ad b).2]):=by
 have hO:=fj b hb;refine zF A4 Tryz.func43 ?_
 by_cases h:(B1 b).2=0
 .have e:Ad b=DY (B1 b).1:=if_pos h;have hR:=fu (B1 b).1;have f:=BF h;unfold A2.d A2.cells at *;refine wd [0,2,3,4,5,12] [] (A6 f) (AX @hO @hR) ?_;exact Ag e
 .have e:Ad b=(A5,(B1 b).2):=if_neg h;have f:=BJ h;unfold A2.d A2.cells;refine wd [0,2,3,4,5,12] [] (A6 f) (A6 @hO) ?_;exact Ag (qQ e (qQ @A5.eq_1 @AA.eq_1))
theorem WN:A5.right=false:=by decide +kernel
theorem fF{m:A2}(h:m.right=true):Ad (Bi (B4 m)).1=(m,0):=by
 have:=J9 h;unfold Ad;rw[P1 om];simp only[qw,UY h]
end Wi
end Go.Proofs.YtkljbfejbakooaaGreatDoor
