/- Part 13 of a proof. Conditions: those that its theorems state. -/
import Derived.Test.YtkljbfejbakooaaGreatDoorS06
import Derived.Test.YtkljbfejbakooaaGreatDoorS08
set_option linter.unusedSimpArgs false
set_option linter.unusedVariables false
set_option linter.unnecessarySimpa false
set_option maxHeartbeats 40000000
set_option maxRecDepth 4000
namespace Go.Proofs.YtkljbfejbakooaaGreatDoor
namespace Wi
open Go.Gar
abbrev Dq:List Nat:=[0,1,2,3,16,18,19,22,35]
abbrev K8:List Nat:=[0,1,4,16,18,19,25,31,42,44,45,46,47,53]
def eE(m:A2)(r:Lp):List A3:=[.c (mC m),.c (mC m),.lp r]
variable {l:List Int}
theorem bI{k:Nat}(hk:k<l.length)(h:(l.take k).all B5=true)(h2:B5 (l.getD k 0)=true):(l.take (k+1)).all B5=true:=by
 rw[rU hk,List.all_append,h];rw[qW,qK hk]at h2;simpa using h2
theorem kx{k:Nat}(hk:k<l.length)(h2:B5 (l.getD k 0)=false):l.all B5=false:=by
 rw[qW,qK hk]at h2;rw[List.all_eq_false];exact⟨_,uV hk,by simpa using h2⟩
theorem YE(m:A2)(hl:m.list.length<9223372036854775807):qB 124 [m.d] (.b (decide (1<=m.kind)&&decide (m.kind<13)&&m.holds&&m.EY&&(decide (m.src≠m.dst)&&(decide (m.call>m.asker*1048576)&&decide (m.call<=(m.asker+1)*1048576))&&decide (m.beside=A5)))):=by
 have hh:=cv m hl;have hb:=YS m;have hA:=ZH m
 have hS:=fy m.beside A5 (by unfold A2.beside;repeat' split
                             all_goals first|exact hl|(show([]:List Int).length<9223372036854775807;decide))
 have hpl:=Zb m;have hok:m.EY=(B5 m.src&&B5 m.dst&&(if m.kind=4 then B5 m.key else if m.kind=10 then B5 m.place else if m.kind=7 then(decide (m.pred= -1)||B5 m.pred)&&m.list.all B5 else true)):=rfl
 have hAb:m.EY=true->0<=m.asker/\m.asker<65536:=by
  intro h;unfold A2.EY at h;simp only[qH]at h;unfold A2.asker;split
  .exact E3 h.1.1
  .exact E3 h.1.2
 unfold A2.d A2.cells at hh hA hS hb hpl|-;simp only[A5,AA]at hS|-;generalize m.beside=B at *;generalize m.holds=hs at *;generalize m.asker=A at *;generalize m.EY=O at *;obtain⟨k,c,s,d,ky,sl,dn,pl,pr,l,⟨ik,iv,ir,ig⟩,co⟩:=m;simp only[mC]at *;refine zF A4 Tryz.func124 ?_
 by_cases h1:decide (1<=k)&&decide (k<13)&&hs
 .simp only[qH,qJ]at h1;obtain⟨⟨h11,h12⟩,h13⟩:=h1;rw[h13]at hh;have d1:=Ds.mk [] (hpl);refine wd Dq [] A0 (A6 @hh) ?_ [] true;clear d1;with_reducible repeat' first|constructor|intro hc;try simp only[AB]at hc
  refine zG (K:=fun r _ H'=>(O=true/\H'=eE (A2.mk k c s d ky sl dn pl pr l ⟨ik,iv,ir,ig⟩ co) r)\/
   (O=false/\H'=eE (A2.mk k c s d ky sl dn pl pr l ⟨ik,iv,ir,ig⟩ co) (r.left (.goto 0)))) ?_ ?_
  .intro r hr
   have hT:∀n,B5 n=true->YT Tryz.prog 2 [.pY n] (eE (A2.mk k c s d ky sl dn pl pr l ⟨ik,iv,ir,ig⟩ co) r) fun x K=>x= .pq true/\K=eE (A2.mk k c s d ky sl dn pl pr l ⟨ik,iv,ir,ig⟩ co) r:=by
    intro n hn;have d1:=MX n;rw[hn]at d1;unfold eE mC;refine AZ hr rfl rfl rfl ?_;refine wd Dq [] A0 A0 ?_ [] true;refine zR ?_;refine wd Dq [] A0 (A6 @d1) ?_ [] true;exact⟨_,A1.refl _,qG _,rfl,rfl,rfl⟩
   have hF:∀n,B5 n=false->YT Tryz.prog 2 [.pY n] (eE (A2.mk k c s d ky sl dn pl pr l ⟨ik,iv,ir,ig⟩ co) r) fun x K=>x= .pq false/\K=eE (A2.mk k c s d ky sl dn pl pr l ⟨ik,iv,ir,ig⟩ co) (r.left (.goto 0)):=by
    intro n hn;have d1:=MX n;rw[hn]at d1;unfold eE mC;refine AZ hr rfl rfl rfl ?_;refine wd Dq [] A0 A0 ?_ [] true;refine zR ?_;refine wd Dq [] A0 (A6 @d1) ?_ [] true;exact⟨_,A1.refl _,qG _,rfl,rfl,rfl⟩
   refine zT A4 Tryz.func280 ?_;have hk:=hr.ok (k:=2) rfl;unfold eE mC at *;simp only at *;have g1T:=@hT;have g1F:=@hF;refine wd K8 [] A0 A0 ?_;clear g1F g1T;with_reducible repeat' first|constructor|intro hc;try simp only[AB]at hc
   all_goals clear hh hA hS hb hpl
   all_goals try exact⟨_,A1.refl _,qG _,_,_,rfl,rfl,.inl ⟨by rw[hok];simp[*],rfl⟩⟩
   all_goals try exact⟨_,A1.refl _,qG _,_,_,rfl,rfl,.inr ⟨by rw[hok];simp[*],rfl⟩⟩
   all_goals(
    have hO:O=l.all B5:=by rw[hok];simp[*]
    clear hok;refine An (fun j=>j<=l.length/\(l.take j).all B5=true) (fun j:Nat=>⟨[(0,.yl 2),(44,.qF l),(45,.pY l.length),(46,.pY j)],[.c [.pz k,.pY c,.pY s,.pY d,.pY ky,.pq sl,.pq dn,.pY pl,.pY pr,.qF l,.qE ik,.pY iv,.pY ir,.pq ig,.pY co],.c [.pz k,.pY c,.pY s,.pY d,.pY ky,.pq sl,.pq dn,.pY pl,.pY pr,.qF l,.qE ik,.pY iv,.pY ir,.pq ig,.pY co],.lp r],55⟩) (fun j=>l.length-j) 0 ⟨qP _,sm⟩ ?_ (qG _) ?_
    .exact A1.ck rfl
    rintro j ⟨hj,hall⟩
    by_cases hjl:j<l.length
    .cases hp:B5 (l.getD j 0)with
     |true=>
      have h3:=bI hjl hall hp;have h4:=hT _ hp;have q1:=@h4;refine wd K8 [] A0 A0 ?_;clear q1;with_reducible repeat' first|constructor|intro hc;try simp only[AB]at hc
      refine⟨j+1,⟨hjl,h3⟩,om,qG _,?_⟩;exact A1.ck rfl
     |false=>
      have h4:=hF _ hp;have q1:=@h4;refine wd K8 [] A0 A0 ?_;clear q1;with_reducible repeat' first|constructor|intro hc;try simp only[AB]at hc
      exact⟨_,A1.refl _,qG _,_,_,rfl,rfl,.inr ⟨by rw[hO];exact kx hjl hp,rfl⟩⟩
    .have e:j=l.length:=om
     subst e;rw[qx]at hall;refine wd K8 [] A0 A0 ?_;with_reducible repeat' first|constructor|intro hc;try simp only[AB]at hc
     exact⟨_,A1.refl _,qG _,_,_,rfl,rfl,.inl ⟨by rw[hO];exact hall,rfl⟩⟩)
  .rintro r hr y H' (⟨h,rfl⟩|⟨h,rfl⟩)
   .refine .inl ⟨rfl,?_⟩;have hC:=MR A c (hAb h);unfold eE mC;have z1:=@hS;refine wd Dq [] A0 (C3 @hA @hC @hb) ?_ [] true;clear z1;with_reducible repeat' first|constructor|intro hc;try simp only[AB]at hc
    all_goals clear hh hA hS hb hpl hC
    all_goals(refine⟨_,_,rfl,rfl,?_⟩;simp_all[Bb]<;>omega)
   .refine .inr ⟨.goto 0,rfl,?_⟩;unfold eE mC;refine wd Dq [] A0 A0 ?_ [] true;exact Ag h
 .cases hs with
  |false=>
   refine wd Dq [] A0 (A6 @hh) ?_ [] true;with_reducible repeat' first|constructor|intro hc;try simp only[AB]at hc
   all_goals clear hh hA hS hb hpl
   all_goals(refine⟨_,_,rfl,rfl,?_⟩;simp_all[Bb])
  |true=>
   have h2:¬(1<=k/\k<13):=fun h=>h1 (by simp[h]);refine wd Dq [] A0 (A6 @hh) ?_ [] true;with_reducible repeat' first|constructor|intro hc;try simp only[AB]at hc
   all_goals clear hh hA hS hb hpl
   all_goals(refine⟨_,_,rfl,rfl,?_⟩;simp_all[Bb]<;>omega)
theorem ZO(s:Int)(l:List Int):Dv l s=((decide ((l.length:Int)<=3)&&apartB s l)&&l.all B5):=by
 have h1:EZ s l=(l.all B5&&l.all (fun p=>decide (p≠s))):=by
  unfold EZ
  induction l with
  |nil=>rfl
  |cons x r ih=>simp only[sH,ih];cases B5 x<;>cases decide (x≠s)<;>simp
 have h2:decide ((l.length:Int)<=3)=decide (l.length<=3):=by congr 1;simp;omega
 unfold Dv apartB;rw[h1,h2];cases l.all B5<;>cases l.all (fun p=>decide (p≠s))<;>cases decide l.Nodup<;>cases decide (l.length<=3)<;>rfl
theorem mL(m:A2):(decide (1<=m.kind)&&decide (m.kind<13)&&m.holds&&m.EY&&(decide (m.src≠m.dst)&&(decide (m.call>m.asker*1048576)&&decide (m.call<=(m.asker+1)*1048576))&&decide (m.beside=A5)))=m.right:=by
 have hc:(decide (m.call>m.asker*1048576)&&decide (m.call<=(m.asker+1)*1048576))=(decide (m.asker*1048576+1<=m.call)&&decide (m.call<m.asker*1048576+1+1048576)):=by
  have e1:(m.call>m.asker*1048576)=(m.asker*1048576+1<=m.call):=propext om;have e2:(m.call<=(m.asker+1)*1048576)=(m.call<m.asker*1048576+1+1048576):=propext om;simp only[e1,e2]
 have key:(m.holds&&m.EY&&decide (m.beside=A5))=(B5 m.src&&B5 m.dst&&(decide (m.bare=m.empty)&&m.has)):=by
  obtain⟨k,c,s,d,ky,sl,dn,pl,pr,l,⟨ik,iv,ir,ig⟩,co⟩:=m;clear hc;simp only[A2.holds,A2.EY,A2.has,A2.bare,A2.beside,A2.empty,A5,AA]
  cases B5 s with
  |false=>simp
  |true=>
  cases B5 d with
  |false=>simp
  |true=>
  simp only[rC]
  by_cases h4:k=4
  .subst h4;simp;grind
  by_cases h5:k=5
  .subst h5;simp;grind
  by_cases h6:k=6
  .subst h6;simp;grind[AU,isVal]
  by_cases h7:k=7
  .subst h7;simp[ZO];grind
  by_cases h10:k=10
  .subst h10;simp;grind
  by_cases h11:k=11
  .subst h11;simp;grind
  by_cases h12:k=12
  .subst h12;simp;grind
  simp[*]
 rw[hc];unfold A2.right A2.I1
 revert key
 cases m.holds<;>cases m.EY<;>cases decide (m.beside=A5)<;>cases B5 m.src<;>cases B5 m.dst<;>cases(decide (m.bare=m.empty)&&m.has)<;>simp[Bool.and_assoc]
theorem BV(m:A2)(hl:m.list.length<9223372036854775807):qB 124 [m.d] (.b m.right):=by
 rw[<-mL];exact YE m hl
end Wi
end Go.Proofs.YtkljbfejbakooaaGreatDoor
