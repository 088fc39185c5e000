/- Part 9 of a proof. Conditions: those that its theorems state. -/
import Derived.Test.YtamjpnmjpponpaaGreatDoorC08
set_option linter.unusedSimpArgs false
set_option linter.unusedVariables false
set_option linter.unnecessarySimpa false
set_option maxHeartbeats 40000000
set_option maxRecDepth 4000
namespace Go.Proofs.YtamjpnmjpponpaaGreatDoor
namespace Wi
open Go.Gar
abbrev GX:BF:=[0,1,4,5,6,10,26,29,40]
abbrev Jh:BF:=[0,1,4,5,6,7,8,9,10,23]
theorem T4(x:AS):yS 139 [x.d] (.b (B7 x)):=by
 obtain⟨k,v,n,g⟩:=x;refine zF AE Tryz.func139 ?_;refine A9 [0,1,2] ?_;repeat'(apply zB<;>intro hc)
 all_goals(refine⟨_,_,rfl,rfl,?_⟩;simp_all[Cw,B7,Bp,isVal]<;>omega)
theorem LO(x:AS):yS 151 [x.d] (.b (B7 x)):=by
 obtain⟨k,v,n,g⟩:=x;have h1:=Np k;have h2:=I3 v;have h3:=I3 n;refine zF AE Tryz.func151 ?_;refine AO [0,1,2] ?_ (CP @h1 @h2 @h3);repeat'(apply zB<;>intro hc)
 all_goals(refine⟨_,_,rfl,rfl,?_⟩;simp_all[Cw,B7])
def Fw(s:Int)(l:Ai):Bool:=l.all fun p=>BV p&&decide (p≠s)
def F1(l:Ai)(s:Int):Bool:=Fw s l&&decide l.Nodup&&decide (l.length<=3)
variable {l:Ai}{k:Nat}
theorem aU{s:Int}(hk:k<l.length):Fw s (l.take (k+1))=(Fw s (l.take k)&&(BV (l.getD k 0)&&decide (l.getD k 0≠s))):=by
 unfold Fw;rw[q0N hk,zo,zV hk,List.all_append];simp only[q15,q1Z,q1G,q1e]
theorem nZ{s:Int}(h:Fw s (l.take k)=false):Fw s l=false:=by
 have e:Fw s l=(Fw s (l.take k)&&Fw s (l.drop k)):=by
  unfold Fw;rw[<-List.all_append,q0d]
 rw[e,h];rfl
theorem Y2{j:Nat}(hj:j<k)(hk:k<l.length)(h:l.getD j 0=l.getD k 0):¬l.Nodup:=by
 intro hn;rw[zo,zo,zV hk,zV (by omega:j<l.length)]at h;simp only[q1e]at h;exact(q0a.1 hn) j k om hk hj h
theorem Sn(hk:k<l.length)(h:(l.take k).Nodup)(hall:∀j,j<k->l.getD j 0≠l.getD k 0):(l.take (k+1)).Nodup:=by
 rw[q0N hk,List.nodup_append];refine⟨h,sm,?_⟩;intro a ha b hb;simp at hb;subst hb;obtain⟨j,hj,e⟩:=q1A.1 ha;rw[q0D]at hj;have:=hall j om;rw[zo,zo,zV hk,zV (by omega:j<l.length)]at this;simp at this;rw[<-e,List.getElem_take];exact this
theorem oB(l:Ai)(s:Int)(hl:l.length<=9223372036854775807):yS 257 [.is l,.yX s] (.b (F1 l s)):=by
 refine zF AE Tryz.func257 ?_;refine A9 GX ?_;refine BX (fun k=>k<=l.length/\Fw s (l.take k)=true/\(l.take k).Nodup) (fun k:Nat=>⟨[(0,.yV l),(1,.yO s),(5,.yO k)],[],44⟩) (fun k=>l.length-k) 0 ⟨zi _,by simp[Fw],sm⟩ ?_ (zN _) ?_
 .exact A8.ck rfl
 rintro k ⟨hk,hok,hnd⟩
 by_cases hkl:k<l.length
 .have hst:=aU (s:=s) hkl;rw[hok,q0A]at hst;have hp:=Et (l.getD k 0)
  by_cases hb:BV (l.getD k 0)=true/\l.getD k 0≠s
  .rw[hb.1]at hp;have f1:=eq_false' hb.2;refine AJ GX ?_ (AK f1) (AK @hp);with_reducible repeat' first|constructor|intro hc
   refine BX (fun j=>j<=k/\∀i,i<j->l.getD i 0≠l.getD k 0) (fun j:Nat=>⟨[(0,.yV l),(1,.yO s),(5,.yO k),(6,.yO j)],[],44⟩) (fun j=>k-j) 0 ⟨zi _,fun i h=>om⟩ ?_ (zN _) ?_
   .exact A8.ck rfl
   rintro j ⟨hj,hall⟩
   by_cases hjk:j<k
   .refine A9 GX ?_;with_reducible repeat' first|constructor|intro hc
    .have e:F1 l s=false:=by simp[F1,Y2 hjk hkl hc]
     exact BW e
    .refine⟨j+1,⟨hjk,fun i hi=> ?_⟩,om,zN _,?_⟩
     .rcases Nat.lt_or_eq_of_le (Nat.le_of_lt_succ hi)with h|h
      .exact hall i h
      .rw[h];exact hc
     exact A8.ck rfl
   .have e:j=k:=om
    refine A9 GX ?_;with_reducible repeat' first|constructor|intro hc
    refine⟨k+1,⟨hkl,by rw[hst,hb.1,zU hb.2];rfl,Sn hkl hnd fun i hi=>hall i om⟩,om,zN _,?_⟩;exact A8.ck rfl
  .have e:F1 l s=false:=by
    have h2:Fw s (l.take (k+1))=false:=by
     rw[hst]
     cases h:BV (l.getD k 0)with
     |false=>rfl
     |true=>simp only[q0A,q0c];exact fun h3=>hb ⟨h,h3⟩
    simp[F1,nZ h2]
   cases h:BV (l.getD k 0)with
   |false=>
    rw[h]at hp;refine AO GX ?_ (AK @hp);with_reducible repeat' first|constructor|intro hc
    exact BW e
   |true=>
    rw[h]at hp;have f1:(l.getD k 0==s)=true:=by rw[beq_iff_eq];exact Classical.not_not.1 fun h3=>hb ⟨h,h3⟩
    refine AJ GX ?_ (AK f1) (AK @hp);with_reducible repeat' first|constructor|intro hc
    exact BW e
 .have e:k=l.length:=om
  subst e;rw[q06]at hok hnd
  have e2:F1 l s=decide ((l.length:Int)<=3):=by
   simp only[F1,hok,zU hnd,q1c,q0A]
   congr 1;simp;omega
  refine A9 GX ?_;with_reducible repeat' first|constructor|intro hc
  exact BW e2
def apartB(s:Int)(l:Ai):Bool:=l.all (fun p=>decide (p≠s))&&decide l.Nodup
theorem jw(s:Int)(l:Ai)(hl:l.length<9223372036854775807):yS 261 [.yX s,.is l] (.b (apartB s l)):=by
 have cut:∀k,k<l.length->(l.take (k+1)).all (fun p=>decide (p≠s))=((l.take k).all (fun p=>decide (p≠s))&&decide (l.getD k 0≠s)):=by
  intro k hk;rw[q0N hk,zo,zV hk,List.all_append];simp only[q15,q1Z,q1G,q1e]
 refine zF AE Tryz.func261 ?_;refine A9 Jh ?_;refine BX (fun k=>k<=l.length/\(l.take k).all (fun p=>decide (p≠s))=true/\(l.take k).Nodup) (fun k:Nat=>⟨[(0,.yO s),(1,.yV l),(7,.yV l),(8,.yO l.length),(9,.yO k)],[],25⟩) (fun k=>l.length-k) 0 ⟨zi _,sm,sm⟩ ?_ (zN _) ?_
 .exact A8.ck rfl
 rintro k ⟨hk,hok,hnd⟩
 by_cases hkl:k<l.length
 .have hst:=cut k hkl;have hco:=X1 (l.take k) (l.getD k 0) (by rw[q0D];omega);rw[hok,q0A]at hst
  by_cases hb:l.getD k 0=s
  .have f1:=AT hb
   have e:apartB s l=false:=by
    unfold apartB
    have:l.getD k 0∈l:=by
     rw[zo,zV hkl];exact q0q hkl
    have h2:l.all (fun p=>decide (p≠s))=false:=by
     rw[List.all_eq_false];exact⟨_,this,by rw[hb];simp⟩
    rw[h2];rfl
   refine Aj Jh ?_ (AK f1);with_reducible repeat' first|constructor|intro hc
   exact BW e
  .have f1:=eq_false' hb
   by_cases hm:l.getD k 0∈l.take k
   .rw[zU hm]at hco
    have e:apartB s l=false:=by
     unfold apartB;obtain⟨j,hj,e⟩:=q1A.1 hm;rw[q0D]at hj;have:¬l.Nodup:=Y2 (j:=j) (k:=k) om hkl (by rw[<-e,List.getElem_take,zo,zV (by omega:j<l.length)];rfl);simp[this]
    refine AJ Jh ?_ (AK f1) (AK @hco);with_reducible repeat' first|constructor|intro hc
    exact BW e
   .rw[zQ hm]at hco;refine AJ Jh ?_ (AK f1) (AK @hco);with_reducible repeat' first|constructor|intro hc
    refine⟨k+1,⟨hkl,by rw[hst,zU hb],Sn hkl hnd fun i hi h=>hm ?_⟩,om,zN _,?_⟩
    .rw[<-h,zo,zV (by omega:i<l.length)];exact q1A.2 ⟨i,by rw[q0D];omega,by rw[List.getElem_take];rfl⟩
    exact A8.ck rfl
 .have e:k=l.length:=om
  subst e;rw[q06]at hok hnd;have e2:apartB s l=true:=by unfold apartB;rw[hok,zU hnd];rfl
  refine A9 Jh ?_;with_reducible repeat' first|constructor|intro hc
  exact BW e2
def AF.bare(m:AF):AF:=
 if m.AN=4 then{m with AI:=0,BA:=false}else
 if m.AN=5 then{m with AC:=An}else
 if m.AN=6 then{m with AC:=An}else
 if m.AN=7 then{m with AH:=0,AB:=[]}else
 if m.AN=10 then{m with AP:=0,done:=false}else
 if m.AN=11 then{m with Aa:=0}else
 if m.AN=12 then{m with Aa:=0,AC:=An}else m
def AF.has(m:AF):Bool:=
 if m.AN=4 then BV m.AI else
 if m.AN=5 then B7 m.AC else
 if m.AN=6 then B7 m.AC&&decide (m.AC=⟨m.AC.AI,0,0,false⟩)else
 if m.AN=7 then(decide (m.AH= -1)||BV m.AH)&&F1 m.AB m.B8 else
 if m.AN=10 then BV m.AP else
 if m.AN=11 then decide (m.Aa=0)||decide (m.Aa=200)else
 if m.AN=12 then(decide (m.Aa=0)&&B7 m.AC)||(decide (m.Aa=201)&&decide (m.AC=An))else true
theorem qI(m:AF):yS 188 [m.d] m.bare.d:=by
 obtain⟨k,c,s,d,ky,sl,dn,pl,pr,l,⟨ik,iv,ir,ig⟩,co⟩:=m;refine zF AE Tryz.func188 ?_;refine A9 [0,1,2,4,5,9,14,18,22,25] ?_;with_reducible repeat' first|constructor|intro hc
 all_goals(refine⟨_,_,rfl,rfl,?_⟩;simp[*,AF.bare,AF.d,AF.A4,An,Kf,CG,Ca,C7,Iv,Bl,BP,BM])
theorem uk(m:AF)(hl:m.AB.length<=9223372036854775807):yS 189 [m.d] (.b m.has):=by
 obtain⟨k,c,s,d,ky,sl,dn,pl,pr,l,⟨ik,iv,ir,ig⟩,co⟩:=m;have hp:=Et;have hP:=T4 ⟨ik,iv,ir,ig⟩;have hL:=oB l s hl;have i1:=L0 ⟨ik,iv,ir,ig⟩ ⟨ik,0,0,false⟩;have i2:=L0 ⟨ik,iv,ir,ig⟩ ⟨[],0,0,false⟩;refine zF AE Tryz.func189 ?_;refine AJ [0,1,2,4,5,10,15,29,46,51,61] ?_ (Au i1 i2) (CP @hp @hP @hL);with_reducible repeat' first|constructor|intro hc
 all_goals(clear hp hP hL i1 i2;refine⟨_,_,rfl,rfl,?_⟩;simp_all[Cw,AF.has,An,Dp])
theorem GC{n:Int}(h:BV n=true):0<=n/\n<65536:=by simpa[BV]using h
theorem dt{n:Int}:BV n=true↔0<=n/\n<65536:=by simp[BV]
def AF.empty(m:AF):AF:=⟨m.AN,m.Ae,m.B8,m.dst,0,false,false,0,0,[],An,0⟩
def AF.Iy(m:AF):Bool:=decide (1<=m.AN)&&decide (m.AN<13)&&BV m.B8&&BV m.dst&&decide (m.B8≠m.dst)&&decide (m.asker*1048576+1<=m.Ae)&&decide (m.Ae<m.asker*1048576+1+1048576)
def AF.right(m:AF):Bool:=m.Iy&&(decide (m.bare=m.empty)&&m.has)
theorem kF(m:AF)(hl:m.AB.length<=9223372036854775807):m.bare.AB.length<=9223372036854775807:=by
 unfold AF.bare
 repeat' split
 all_goals first|exact hl|(show([]:Ai).length<=9223372036854775807;decide)
theorem iF(m:AF)(hl:m.AB.length<=9223372036854775807):yS 134 [m.d] (.b m.right):=by
 have hb:=qI m;have hh:=uk m hl;have hA:=iC m;have hS:=YN m.bare m.empty (kF m hl);have hp1:=Et m.B8;have hp2:=Et m.dst;have hR:m.right=(m.Iy&&(decide (m.bare=m.empty)&&m.has)):=rfl;have hH:m.Iy=(decide (1<=m.AN)&&decide (m.AN<13)&&BV m.B8&&BV m.dst&&decide (m.B8≠m.dst)&&decide (m.asker*1048576+1<=m.Ae)&&decide (m.Ae<m.asker*1048576+1+1048576)):=rfl
 have hAb:BV m.B8=true->BV m.dst=true->0<=m.asker/\m.asker<65536:=by
  intro h1 h2;unfold AF.asker;split
  .exact GC h1
  .exact GC h2
 unfold AF.d AF.A4 at hb hh hA hS|-;simp only[AF.empty,An]at hS;generalize m.bare=B at *;generalize m.has=hs at *;generalize m.asker=A at *;generalize m.right=R at *;generalize m.Iy=H at *;obtain⟨k,c,s,d,ky,sl,dn,pl,pr,l,⟨ik,iv,ir,ig⟩,co⟩:=m;refine zF AE Tryz.func134 ?_;simp only at*
 cases h1:BV s with
 |false=>
  rw[h1]at hp1 hH;refine AO [0,1,2,3,4,31,46] ?_ (AK @hp1);repeat'(apply zB<;>intro hc)
  all_goals(refine⟨_,_,rfl,rfl,?_⟩;simp_all[Cw])
 |true=>
 rw[h1]at hp1 hH
 cases h2:BV d with
 |false=>
  rw[h2]at hp2 hH;refine AO [0,1,2,3,4,31,46] ?_ (Au @hp1 @hp2);repeat'(apply zB<;>intro hc)
  all_goals(refine⟨_,_,rfl,rfl,?_⟩;simp_all[Cw])
 |true=>
 rw[h2]at hp2 hH;have hA2:=hAb h1 h2;have z1:=@hS;refine AO [0,1,2,3,4,31,46] ?_ (TT @hp1 @hp2 @hA @hb @hh);clear z1;repeat'(apply zB<;>intro hc)
 all_goals(clear hb hh hA hS hp1 hp2 hAb;refine⟨_,_,rfl,rfl,?_⟩;simp_all[Cw,AF.empty,An]<;>omega)
theorem PV(m:AF)(hl:m.AB.length<9223372036854775807):yS 134 [m.d] (.b m.right):=iF m (Nat.le_of_lt hl)
theorem pf(a b:AF)(ha:a.AB.length<9223372036854775807):yS 161 [a.d,b.d] (.b (decide (a=b))):=by
 have hE:=GH a.AB b.AB ha;obtain⟨k,c,s,d,ky,sl,dn,pl,pr,l,⟨ik,iv,ir,ig⟩,co⟩:=a;obtain⟨k',c',s',d',ky',sl',dn',pl',pr',l',⟨ik',iv',ir',ig'⟩,co'⟩:=b;have hI:=L0 ⟨ik,iv,ir,ig⟩ ⟨ik',iv',ir',ig'⟩;refine zF AE Tryz.func161 ?_;refine AJ [0,1,2,3,4] ?_ (AK hI) (AK @hE);repeat'(apply zB<;>intro hc)
 all_goals(clear ha hE;refine⟨_,_,rfl,rfl,?_⟩;simp_all[Cw,Dp])
def AF.beside(m:AF):AF:=
 if m.AN=4 then{m with AN:=0,Ae:=0,B8:=0,dst:=0,AI:=0,BA:=false}else
 if m.AN=5 then{m with AN:=0,Ae:=0,B8:=0,dst:=0,AC:=An}else
 if m.AN=6 then{m with AN:=0,Ae:=0,B8:=0,dst:=0,AC:=⟨[],m.AC.B4,m.AC.AZ,m.AC.gone⟩}else
 if m.AN=7 then{m with AN:=0,Ae:=0,B8:=0,dst:=0,AH:=0,AB:=[]}else
 if m.AN=10 then{m with AN:=0,Ae:=0,B8:=0,dst:=0,AP:=0,done:=false}else
 if m.AN=11 then{m with AN:=0,Ae:=0,B8:=0,dst:=0,Aa:=0}else
 if m.AN=12 then{m with AN:=0,Ae:=0,B8:=0,dst:=0,Aa:=0,AC:=An}else
 {m with AN:=0,Ae:=0,B8:=0,dst:=0}
def AF.holds(m:AF):Bool:=
 if m.AN=5 then B7 m.AC else
 if m.AN=6 then Bp m.AC.AI else
 if m.AN=7 then decide ((m.AB.length:Int)<=3)&&apartB m.B8 m.AB else
 if m.AN=11 then decide (m.Aa=0)||decide (m.Aa=200)else
 if m.AN=12 then(decide (m.Aa=0)&&B7 m.AC)||(decide (m.Aa=201)&&decide (m.AC=An))else true
theorem fF(m:AF):yS 208 [m.d] m.beside.d:=by
 obtain⟨k,c,s,d,ky,sl,dn,pl,pr,l,⟨ik,iv,ir,ig⟩,co⟩:=m;refine zF AE Tryz.func208 ?_;refine A9 [0,1,2,4,5,9,13,17,21,25,28] ?_;repeat'(apply zB<;>intro hc)
 all_goals(refine⟨_,_,rfl,rfl,?_⟩;simp[*,AF.beside,AF.d,AF.A4,An,Kf,CG,Ca,C7,Iv,Bl,BP,BM])
theorem mR(m:AF)(hl:m.AB.length<9223372036854775807):yS 203 [m.d] (.b m.holds):=by
 obtain⟨k,c,s,d,ky,sl,dn,pl,pr,l,⟨ik,iv,ir,ig⟩,co⟩:=m;have hk:=Np ik;have hP:=LO ⟨ik,iv,ir,ig⟩;have hL:=jw s l hl;have i2:=L0 ⟨ik,iv,ir,ig⟩ ⟨[],0,0,false⟩;refine zF AE Tryz.func203 ?_;refine AJ [0,1,2,4,5,10,16,29,39] ?_ (AK i2) (CP @hk @hP @hL);with_reducible repeat' first|constructor|intro hc
 all_goals(clear hk hP hL i2;refine⟨_,_,rfl,rfl,?_⟩;simp_all[Cw,AF.holds,An,Dp]<;>(intro;exfalso;omega))
theorem P8(a c:Int)(h:0<=a/\a<65536):yS 206 [.yX a,.yX c] (.b (decide (c>a*1048576)&&decide (c<=(a+1)*1048576))):=by
 refine zF AE Tryz.func206 ?_;refine A9 [0,1,4] ?_;repeat'(apply zB<;>intro hc)
 all_goals(refine⟨_,_,rfl,rfl,?_⟩;simp_all[Cw]<;>omega)
def mC(m:AF):yr:=[.yQ m.AN,.yO m.Ae,.yO m.B8,.yO m.dst,.yO m.AI,.yP m.BA,.yP m.done,.yO m.AP,.yO m.AH,.yV m.AB,.yU m.AC.AI,.yO m.AC.B4,.yO m.AC.AZ,.yP m.AC.gone,.yO m.Aa]
theorem i9(m:AF):yT 204 [.d m.d] [] (.fn (.func 262) [] [.ptr 0 0 15]) [.c (mC m)]:=by
 refine zD AE Tryz.func204 ?_;refine A9 [0,1,2] ?_;exact wE
def AF.Fv(m:AF):Bool:=
 BV m.B8&&BV m.dst&&(if m.AN=4 then BV m.AI else if m.AN=10 then BV m.AP else if m.AN=7 then(decide (m.AH= -1)||BV m.AH)&&m.AB.all BV else true)
abbrev Ex:BF:=[0,1,2,3,16,18,19,22,35]
abbrev MC:BF:=[0,1,4,16,18,19,25,31,42,44,45,46,47,53]
def nr(m:AF)(r:Lp):z6:=[.c (mC m),.c (mC m),.lp r]
theorem jq(hk:k<l.length)(h:(l.take k).all BV=true)(h2:BV (l.getD k 0)=true):(l.take (k+1)).all BV=true:=by
 rw[q0N hk,List.all_append,h];rw[zo,zV hk]at h2;simpa using h2
theorem uI(hk:k<l.length)(h2:BV (l.getD k 0)=false):l.all BV=false:=by
 rw[zo,zV hk]at h2;rw[List.all_eq_false];exact⟨_,q0q hk,by simpa using h2⟩
theorem eg(m:AF)(hl:m.AB.length<9223372036854775807):yS 152 [m.d] (.b (decide (1<=m.AN)&&decide (m.AN<13)&&m.holds&&m.Fv&&(decide (m.B8≠m.dst)&&(decide (m.Ae>m.asker*1048576)&&decide (m.Ae<=(m.asker+1)*1048576))&&decide (m.beside=AU)))):=by
 have hh:=mR m hl;have hb:=fF m;have hA:=gZ m
 have hS:=pf m.beside AU (by unfold AF.beside;repeat' split
                             all_goals first|exact hl|(show([]:Ai).length<9223372036854775807;decide))
 have hpl:=i9 m;have hok:m.Fv=(BV m.B8&&BV m.dst&&(if m.AN=4 then BV m.AI else if m.AN=10 then BV m.AP else if m.AN=7 then(decide (m.AH= -1)||BV m.AH)&&m.AB.all BV else true)):=rfl
 have hAb:m.Fv=true->0<=m.asker/\m.asker<65536:=by
  intro h;unfold AF.Fv at h;simp only[zO]at h;unfold AF.asker;split
  .exact GC h.1.1
  .exact GC h.1.2
 unfold AF.d AF.A4 at hh hA hS hb hpl|-;simp only[AU,An]at hS|-;generalize m.beside=B at *;generalize m.holds=hs at *;generalize m.asker=A at *;generalize m.Fv=O at *;obtain⟨k,c,s,d,ky,sl,dn,pl,pr,l,⟨ik,iv,ir,ig⟩,co⟩:=m;simp only[mC]at *;refine zF AE Tryz.func152 ?_
 by_cases h1:decide (1<=k)&&decide (k<13)&&hs
 .simp only[zO,zW]at h1;obtain⟨⟨h11,h12⟩,h13⟩:=h1;rw[h13]at hh;refine B6 Ex ?_ (AK @hh) (BJ [] hpl);with_reducible repeat' first|constructor|intro hc
  refine zG (K:=fun r _ H'=>(O=true/\H'=nr (AF.mk k c s d ky sl dn pl pr l ⟨ik,iv,ir,ig⟩ co) r)\/
   (O=false/\H'=nr (AF.mk k c s d ky sl dn pl pr l ⟨ik,iv,ir,ig⟩ co) (r.left (.goto 0)))) ?_ ?_
  .intro r hr
   have hT:∀n,BV n=true->YT Tryz.prog 2 [.yO n] (nr (AF.mk k c s d ky sl dn pl pr l ⟨ik,iv,ir,ig⟩ co) r) fun x K=>x= .yP true/\K=nr (AF.mk k c s d ky sl dn pl pr l ⟨ik,iv,ir,ig⟩ co) r:=by
    intro n hn;have d1:=PK n;rw[hn]at d1;unfold nr mC;refine Ar hr rfl rfl rfl ?_;refine A9 Ex ?_;refine zR ?_;refine AO Ex ?_ (AK @d1);exact⟨_,A8.refl _,zN _,rfl,rfl,rfl⟩
   have hF:∀n,BV n=false->YT Tryz.prog 2 [.yO n] (nr (AF.mk k c s d ky sl dn pl pr l ⟨ik,iv,ir,ig⟩ co) r) fun x K=>x= .yP false/\K=nr (AF.mk k c s d ky sl dn pl pr l ⟨ik,iv,ir,ig⟩ co) (r.left (.goto 0)):=by
    intro n hn;have d1:=PK n;rw[hn]at d1;unfold nr mC;refine Ar hr rfl rfl rfl ?_;refine A9 Ex ?_;refine zR ?_;refine AO Ex ?_ (AK @d1);exact⟨_,A8.refl _,zN _,rfl,rfl,rfl⟩
   refine zT AE Tryz.func262 ?_;have hk:=hr.ok (k:=2) rfl;unfold nr mC at *;simp only at *;have g1T:=@hT;have g1F:=@hF;refine A9 MC ?_;clear g1F g1T;repeat'(apply zB<;>intro hc)
   all_goals clear hh hA hS hb hpl
   all_goals try exact⟨_,A8.refl _,zN _,_,_,rfl,rfl,.inl ⟨by rw[hok];simp[*],rfl⟩⟩
   all_goals try exact⟨_,A8.refl _,zN _,_,_,rfl,rfl,.inr ⟨by rw[hok];simp[*],rfl⟩⟩
   all_goals(
    have hO:O=l.all BV:=by rw[hok];simp[*]
    clear hok;refine BX (fun j=>j<=l.length/\(l.take j).all BV=true) (fun j:Nat=>⟨[(0,.yl 2),(44,.yV l),(45,.yO l.length),(46,.yO j)],[.c [.yQ k,.yO c,.yO s,.yO d,.yO ky,.yP sl,.yP dn,.yO pl,.yO pr,.yV l,.yU ik,.yO iv,.yO ir,.yP ig,.yO co],.c [.yQ k,.yO c,.yO s,.yO d,.yO ky,.yP sl,.yP dn,.yO pl,.yO pr,.yV l,.yU ik,.yO iv,.yO ir,.yP ig,.yO co],.lp r],55⟩) (fun j=>l.length-j) 0 ⟨zi _,sm⟩ ?_ (zN _) ?_
    .exact A8.ck rfl
    rintro j ⟨hj,hall⟩
    by_cases hjl:j<l.length
    .cases hp:BV (l.getD j 0)with
     |true=>
      have h3:=jq hjl hall hp;have h4:=hT _ hp;have q1:=@h4;refine A9 MC ?_;clear q1;with_reducible repeat' first|constructor|intro hc
      refine⟨j+1,⟨hjl,h3⟩,om,zN _,?_⟩;exact A8.ck rfl
     |false=>
      have h4:=hF _ hp;have q1:=@h4;refine A9 MC ?_;clear q1;with_reducible repeat' first|constructor|intro hc
      exact⟨_,A8.refl _,zN _,_,_,rfl,rfl,.inr ⟨by rw[hO];exact uI hjl hp,rfl⟩⟩
    .have e:j=l.length:=om
     subst e;rw[q06]at hall;refine A9 MC ?_;with_reducible repeat' first|constructor|intro hc
     exact⟨_,A8.refl _,zN _,_,_,rfl,rfl,.inl ⟨by rw[hO];exact hall,rfl⟩⟩)
  .rintro r hr y H' (⟨h,rfl⟩|⟨h,rfl⟩)
   .refine .inl ⟨rfl,?_⟩;have hC:=P8 A c (hAb h);unfold nr mC;have z1:=@hS;refine AO Ex ?_ (CP @hA @hC @hb);clear z1;repeat'(apply zB<;>intro hc)
    all_goals clear hh hA hS hb hpl hC
    all_goals(refine⟨_,_,rfl,rfl,?_⟩;simp_all[Cw]<;>omega)
   .refine .inr ⟨.goto 0,rfl,?_⟩;unfold nr mC;refine A9 Ex ?_;exact BW h
 .cases hs with
  |false=>
   refine AO Ex ?_ (AK @hh);repeat'(apply zB<;>intro hc)
   all_goals clear hh hA hS hb hpl
   all_goals(refine⟨_,_,rfl,rfl,?_⟩;simp_all[Cw])
  |true=>
   have h2:¬(1<=k/\k<13):=fun h=>h1 (by simp[h]);refine AO Ex ?_ (AK @hh);with_reducible repeat' first|constructor|intro hc
   all_goals clear hh hA hS hb hpl
   all_goals(refine⟨_,_,rfl,rfl,?_⟩;simp_all[Cw]<;>omega)
theorem gu(s:Int)(l:Ai):F1 l s=((decide ((l.length:Int)<=3)&&apartB s l)&&l.all BV):=by
 have h1:Fw s l=(l.all BV&&l.all (fun p=>decide (p≠s))):=by
  unfold Fw
  induction l with
  |nil=>rfl
  |cons x r ih=>simp only[q15,ih];cases BV x<;>cases decide (x≠s)<;>simp
 have h2:decide ((l.length:Int)<=3)=decide (l.length<=3):=by congr 1;simp;omega
 unfold F1 apartB;rw[h1,h2];cases l.all BV<;>cases l.all (fun p=>decide (p≠s))<;>cases decide l.Nodup<;>cases decide (l.length<=3)<;>rfl
theorem vB(m:AF):(decide (1<=m.AN)&&decide (m.AN<13)&&m.holds&&m.Fv&&(decide (m.B8≠m.dst)&&(decide (m.Ae>m.asker*1048576)&&decide (m.Ae<=(m.asker+1)*1048576))&&decide (m.beside=AU)))=m.right:=by
 have hc:(decide (m.Ae>m.asker*1048576)&&decide (m.Ae<=(m.asker+1)*1048576))=(decide (m.asker*1048576+1<=m.Ae)&&decide (m.Ae<m.asker*1048576+1+1048576)):=by
  have e1:(m.Ae>m.asker*1048576)=(m.asker*1048576+1<=m.Ae):=propext om;have e2:(m.Ae<=(m.asker+1)*1048576)=(m.Ae<m.asker*1048576+1+1048576):=propext om;simp only[e1,e2]
 have AI:(m.holds&&m.Fv&&decide (m.beside=AU))=(BV m.B8&&BV m.dst&&(decide (m.bare=m.empty)&&m.has)):=by
  obtain⟨k,c,s,d,ky,sl,dn,pl,pr,l,⟨ik,iv,ir,ig⟩,co⟩:=m;clear hc;simp only[AF.holds,AF.Fv,AF.has,AF.bare,AF.beside,AF.empty,AU,An]
  cases BV s with
  |false=>simp
  |true=>
  cases BV d with
  |false=>simp
  |true=>
  simp only[q0A]
  by_cases h4:k=4
  .subst h4;simp;grind
  by_cases h5:k=5
  .subst h5;simp;grind
  by_cases h6:k=6
  .subst h6;simp;grind[B7,isVal]
  by_cases h7:k=7
  .subst h7;simp[gu];grind
  by_cases h10:k=10
  .subst h10;simp;grind
  by_cases h11:k=11
  .subst h11;simp;grind
  by_cases h12:k=12
  .subst h12;simp;grind
  simp[*]
 rw[hc];unfold AF.right AF.Iy
 revert AI
 cases m.holds<;>cases m.Fv<;>cases decide (m.beside=AU)<;>cases BV m.B8<;>cases BV m.dst<;>cases(decide (m.bare=m.empty)&&m.has)<;>simp[Bool.and_assoc]
theorem Ct(m:AF)(hl:m.AB.length<9223372036854775807):yS 152 [m.d] (.b m.right):=by
 rw[<-vB];exact eg m hl
end Wi
end Go.Proofs.YtamjpnmjpponpaaGreatDoor
