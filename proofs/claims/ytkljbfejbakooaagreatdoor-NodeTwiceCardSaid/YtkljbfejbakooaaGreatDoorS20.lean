/- Part 20 of a proof. Conditions: those that its theorems state. -/
import Derived.Test.YtkljbfejbakooaaGreatDoorS19
set_option linter.unusedSimpArgs false
set_option linter.unusedVariables false
set_option linter.unnecessarySimpa false
set_option maxHeartbeats 40000000
set_option maxRecDepth 4000
namespace Go.Proofs.YtkljbfejbakooaaGreatDoor
namespace Nd
open Go.Gar
open Wi (A2 B5 AU)
abbrev Ex:List Nat:=[0,1,3,4,5,6,8,9,10,13]
abbrev Jz:List Nat:=[0,1,3,4,5,6,7,8,16]
theorem PI(l:List Past):qC 156 [.d (AH l)] [] (.fn (.func 234) [] [.ptr 0 0 1]) [.c [.d (AH l)]]:=by
 refine zD A4 Tryz.func156 ?_;refine wd [0,1,2] [] A0 A0 ?_;exact⟨_,(A1.ck rfl),qP _,_,_,rfl,rfl,rfl,rfl⟩
theorem fN(s c:Int):qC 165 [.pY s,.pY c] [] (.fn (.func 241) [] [.ptr 0 0 1,.ptr 1 0 1]) [.c [.pY s],.c [.pY c]]:=by
 refine zD A4 Tryz.func165 ?_;refine wd [0,1,2,3,4] [] A0 A0 ?_;exact⟨_,(A1.ck rfl),qP _,_,_,rfl,rfl,rfl,rfl⟩
theorem mt(p:Past)(s c:Int):qC 241 [.d p.d,.ptr 0 0 1,.ptr 1 0 1] [.c [.pY s],.c [.pY c]] (.pq (JX s c p)) [.c [.pY s],.c [.pY c]]:=by
 refine zD A4 Tryz.func241 ?_;unfold Past.d Past.cells;have hI:JX s c p=(decide (p.src=s)&&decide (p.call=c)):=rfl;generalize JX s c p=q at*
 by_cases h1:p.src=s
 .have f1:(p.src==s)=true:=by simp[h1]
  by_cases h2:p.call=c
  .have f2:(p.call==c)=true:=by simp[h2]
   have e:q=true:=by rw[hI];simp[h1,h2]
   subst e;refine wd [0,1,2,3,4] [] (AX f1 f2) A0 ?_;exact⟨⟨[(4,.pq true)],[.c [.pY s],.c [.pY c]],_⟩,(A1.ck rfl),qG _,_,_,rfl,rfl,rfl,rfl⟩
  .have f2:(p.call==c)=false:=by simp[h2]
   have e:q=false:=by rw[hI];simp[h2]
   subst e;refine wd [0,1,2,3,4] [] (AX f1 f2) A0 ?_;exact⟨⟨[(4,.pq false)],[.c [.pY s],.c [.pY c]],_⟩,(A1.ck rfl),qG _,_,_,rfl,rfl,rfl,rfl⟩
 .have f1:(p.src==s)=false:=by simp[h1]
  have e:q=false:=by rw[hI];simp[h1]
  subst e;refine wd [0,1,2,3,4] [] (A6 f1) A0 ?_;exact⟨⟨[(4,.pq false)],[.c [.pY s],.c [.pY c]],_⟩,(A1.ck rfl),qG _,_,_,rfl,rfl,rfl,rfl⟩
def KB(l:List Past)(s c:Int):Int:=match l.findIdx? (JX s c)with
 |some n=>(n:Int)
 |none=> -1
variable {α:Type}{l:List α}{k:Nat}
theorem Mz{p:α->Bool}{x:α}(hx:l[k]? =some x)(h:p x=true)(hn:(l.take k).any p=false):l.findIdx? p=some k:=by
 rw[List.findIdx?_eq_some_iff_getElem];obtain⟨hk,hv⟩:=qN.1 hx;refine⟨hk,by rw[hv];exact h,fun j hj=> ?_⟩;rw[uF]at hn;exact hn _ (List.mem_iff_getElem?.2 ⟨j,by rw[sV,if_pos hj];exact qK _⟩)
theorem gl{l:List Past}{s c:Int}{x:Past}(hx:l[k]? =some x)(h:JX s c x=true)(hn:(l.take k).any (JX s c)=false):KB l s c=k:=by
 unfold KB;rw[Mz hx h hn]
theorem X6{l:List Past}{s c:Int}(hn:l.any (JX s c)=false):KB l s c= -1:=by
 unfold KB
 have:l.findIdx? (JX s c)=none:=by
  rw[List.findIdx?_eq_none_iff];rw[uF]at hn;intro x hx;simpa using hn x hx
 rw[this]
theorem gm(l:List Past)(s c:Int):decide (KB l s c>=0)=l.any (JX s c):=by
 cases h:l.any (JX s c)with
 |false=>rw[X6 h];rfl
 |true=>
  obtain⟨x,hx,hp⟩:=List.any_eq_true.1 h
  have:l.findIdx? (JX s c)≠none:=by
   rw[Ne,List.findIdx?_eq_none_iff];intro hh;have:=hh x hx;rw[hp]at this;cases this
  unfold KB;split
  .exact qM om
  .contradiction
theorem Oa(l:List Past)(s c:Int)(hn:l.length<=9223372036854775807):qC 164 [.d (AH l),.fn (.func 241) [] [.ptr 0 0 1,.ptr 1 0 1]] [.c [.pY s],.c [.pY c]] (.pY (KB l s c)) [.c [.pY s],.c [.pY c]]:=by
 refine AY.drop (K:=[.c [.pY s],.c [.pY c],.gone,.c [.pY (KB l s c)]]) _ ?_ ⟨.inr rfl,.inr rfl,trivial⟩ rfl rfl rfl;refine zD A4 Tryz.func164 ?_;have d1:=Ds.mk [] (PI l);refine wd Ex [] A0 A0 ?_;clear d1
 refine zG (K:=fun r _ H'=>(l.any (JX s c)=false/\H'=[.c [.pY s],.c [.pY c],.c [.fn (.func 241) [] [.ptr 0 0 1,.ptr 1 0 1]],.c [.pY 0],.c [.d (AH l)],.lp r])\/
  (∃k:Nat,KB l s c=k/\H'=[.c [.pY s],.c [.pY c],.c [.fn (.func 241) [] [.ptr 0 0 1,.ptr 1 0 1]],.c [.pY k],.c [.d (AH l)],.lp (r.left .ret)])) ?_ ?_
 .intro r hr;refine zT A4 Tryz.func234 ?_;refine wd Jz [] A0 A0 ?_;have hk:=hr.ok (k:=5) rfl;refine CF (fun k=>k<=l.length/\(l.take k).any (JX s c)=false) (fun k:Nat=>[(7,.pY k)]) (fun k=>l.length-k) 0 ⟨qP _,rfl⟩ (fun _=>rfl) ?_ ?_
  .exact A1.ck rfl
  rintro k ⟨hkk,hpre⟩
  by_cases hkl:k<l.length
  .obtain⟨x,hx⟩:=AT hkl;have c1:=mt x s c;have hA:=GN (p:=JX s c) hx;rw[hpre,su]at hA;unfold Past.d Past.cells at c1
   cases hb:JX s c x with
   |true=>
    rw[hb]at c1
    have hY:YT Tryz.prog 5 [.pY k,.d (.agg [.i .i64 x.src,.i .i64 x.call,.i .u8 x.told.kind,.i .i64 x.told.call,.i .i64 x.told.src,.i .i64 x.told.dst,.i .i64 x.told.key,.b x.told.slow,.b x.told.done,.i .i64 x.told.place,.i .i64 x.told.pred,.is x.told.list,.s x.told.item.key,.i .i64 x.told.item.value,.i .i64 x.told.item.version,.b x.told.item.gone,.i .i64 x.told.code])] [.c [.pY s],.c [.pY c],.c [.fn (.func 241) [] [.ptr 0 0 1,.ptr 1 0 1]],.c [.pY 0],.c [.d (AH l)],.lp r,.c [.pY x.src,.pY x.call,.pz x.told.kind,.pY x.told.call,.pY x.told.src,.pY x.told.dst,.pY x.told.key,.pq x.told.slow,.pq x.told.done,.pY x.told.place,.pY x.told.pred,.qF x.told.list,.qE x.told.item.key,.pY x.told.item.value,.pY x.told.item.version,.pq x.told.item.gone,.pY x.told.code]] fun v K=>v= .pq false/\K=[.c [.pY s],.c [.pY c],.c [.fn (.func 241) [] [.ptr 0 0 1,.ptr 1 0 1]],.c [.pY k],.c [.d (AH l)],.lp (r.left .ret),.c [.pY x.src,.pY x.call,.pz x.told.kind,.pY x.told.call,.pY x.told.src,.pY x.told.dst,.pY x.told.key,.pq x.told.slow,.pq x.told.done,.pY x.told.place,.pY x.told.pred,.qF x.told.list,.qE x.told.item.key,.pY x.told.item.value,.pY x.told.item.version,.pq x.told.item.gone,.pY x.told.code]]:=by
     refine AZ hr rfl rfl rfl ?_;refine wd Ex [] A0 A0 ?_;refine zR ?_;have d1:=Ds.mk [0,1] (c1);refine wd Ex [] A0 A0 ?_;clear d1;exact⟨⟨[],[.c [.pY s],.c [.pY c],.c [.fn (.func 241) [] [.ptr 0 0 1,.ptr 1 0 1]],.c [.pY k],.c [.d (AH l)],.lp r.busy,.c [.pY x.src,.pY x.call,.pz x.told.kind,.pY x.told.call,.pY x.told.src,.pY x.told.dst,.pY x.told.key,.pq x.told.slow,.pq x.told.done,.pY x.told.place,.pY x.told.pred,.qF x.told.list,.qE x.told.item.key,.pY x.told.item.value,.pY x.told.item.version,.pq x.told.item.gone,.pY x.told.code]],_⟩,(A1.ck rfl),qG _,rfl,rfl,rfl⟩
    have ix1:=hx;have q1:=@hY;refine wd Jz [] A0 A0 ?_;clear q1 ix1;with_reducible repeat' first|constructor|intro hc;try simp only[AB]at hc
    exact⟨⟨[],[.c [.pY s],.c [.pY c],.c [.fn (.func 241) [] [.ptr 0 0 1,.ptr 1 0 1]],.c [.pY k],.c [.d (AH l)],.lp (r.left .ret)],_⟩,(A1.ck rfl),qG _,_,_,rfl,rfl,.inr ⟨k,gl hx hb hpre,rfl⟩⟩
   |false=>
    rw[hb]at c1
    have hY:YT Tryz.prog 5 [.pY k,.d (.agg [.i .i64 x.src,.i .i64 x.call,.i .u8 x.told.kind,.i .i64 x.told.call,.i .i64 x.told.src,.i .i64 x.told.dst,.i .i64 x.told.key,.b x.told.slow,.b x.told.done,.i .i64 x.told.place,.i .i64 x.told.pred,.is x.told.list,.s x.told.item.key,.i .i64 x.told.item.value,.i .i64 x.told.item.version,.b x.told.item.gone,.i .i64 x.told.code])] [.c [.pY s],.c [.pY c],.c [.fn (.func 241) [] [.ptr 0 0 1,.ptr 1 0 1]],.c [.pY 0],.c [.d (AH l)],.lp r,.c [.pY x.src,.pY x.call,.pz x.told.kind,.pY x.told.call,.pY x.told.src,.pY x.told.dst,.pY x.told.key,.pq x.told.slow,.pq x.told.done,.pY x.told.place,.pY x.told.pred,.qF x.told.list,.qE x.told.item.key,.pY x.told.item.value,.pY x.told.item.version,.pq x.told.item.gone,.pY x.told.code]] fun v K=>v= .pq true/\K=[.c [.pY s],.c [.pY c],.c [.fn (.func 241) [] [.ptr 0 0 1,.ptr 1 0 1]],.c [.pY 0],.c [.d (AH l)],.lp r,.c [.pY x.src,.pY x.call,.pz x.told.kind,.pY x.told.call,.pY x.told.src,.pY x.told.dst,.pY x.told.key,.pq x.told.slow,.pq x.told.done,.pY x.told.place,.pY x.told.pred,.qF x.told.list,.qE x.told.item.key,.pY x.told.item.value,.pY x.told.item.version,.pq x.told.item.gone,.pY x.told.code]]:=by
     refine AZ hr rfl rfl rfl ?_;refine wd Ex [] A0 A0 ?_;refine zR ?_;have d1:=Ds.mk [0,1] (c1);refine wd Ex [] A0 A0 ?_;clear d1;exact⟨⟨[],[.c [.pY s],.c [.pY c],.c [.fn (.func 241) [] [.ptr 0 0 1,.ptr 1 0 1]],.c [.pY 0],.c [.d (AH l)],.lp r.busy,.c [.pY x.src,.pY x.call,.pz x.told.kind,.pY x.told.call,.pY x.told.src,.pY x.told.dst,.pY x.told.key,.pq x.told.slow,.pq x.told.done,.pY x.told.place,.pY x.told.pred,.qF x.told.list,.qE x.told.item.key,.pY x.told.item.value,.pY x.told.item.version,.pq x.told.item.gone,.pY x.told.code]],_⟩,(A1.ck rfl),qG _,rfl,rfl,rfl⟩
    have ix1:=hx;have q1:=@hY;refine wd Jz [] A0 A0 ?_;clear q1 ix1;with_reducible repeat' first|constructor|intro hc;try simp only[AB]at hc
    refine⟨k+1,⟨hkl,by rw[hA,hb]⟩,om,qG _,?_⟩;exact A1.ck rfl
  .have e:k=l.length:=om
   subst e;rw[qx]at hpre;refine wd Jz [] A0 A0 ?_;with_reducible repeat' first|constructor|intro hc;try simp only[AB]at hc
   exact⟨_,A1.refl _,qG _,_,_,rfl,rfl,.inl ⟨hpre,rfl⟩⟩
 .rintro r hr y H' (⟨h,rfl⟩|⟨k,h,rfl⟩)
  .refine .inl ⟨rfl,?_⟩;rw[X6 h];refine wd Ex [] A0 A0 ?_;exact⟨⟨[(4,.ptr 3 0 1)],[.c [.pY s],.c [.pY c],.gone,.c [.pY (-1)]],_⟩,(A1.ck rfl),qA,_,_,rfl,rfl,rfl,rfl⟩
  .refine .inr ⟨.ret,rfl,?_⟩;rw[h];refine wd Ex [] A0 A0 ?_;exact⟨⟨[(4,.ptr 3 0 1)],[.c [.pY s],.c [.pY c],.gone,.c [.pY k]],_⟩,(A1.ck rfl),qA,_,_,rfl,rfl,rfl,rfl⟩
abbrev Ba:List Nat:=[0,1,2,3,4,7,9,10,11,20,34,44]
abbrev K0:List Nat:=[0,1,3,4,5,6,7,8,16]
theorem ix(l:List Past)(hl:∀x∈l,AD x.told)(hn:l.length<=9223372036854775807):qB 101 [AH l] (.b (Ec l)):=by
 refine zF A4 Tryz.func101 ?_
 by_cases h40:l.length>40
 .have f1:decide ((l.length:Int)>40)=true:=qM om;have hT:Ec l=false:=by unfold Ec;rw[qO om];rfl
  refine wd Ba [] (A6 f1) A0 ?_;exact Ag hT
 have f1:decide ((l.length:Int)>40)=false:=qO om;have hT:Ec l=FU l.length (E2 l):=by unfold Ec;rw[qM om];rfl
 have d1:=Ds.mk [] (PI l);refine wd Ba [] (A6 f1) A0 ?_;clear d1
 refine zG (K:=fun r _ H'=>(FU l.length (E2 l)=true/\H'=[.c [.d (AH l)],.c [.pq false],.c [.d (AH l)],.lp r])\/
  (FU l.length (E2 l)=false/\H'=[.c [.d (AH l)],.c [.pq false],.c [.d (AH l)],.lp (r.left .ret)])) ?_ ?_
 .intro r hr;refine zT A4 Tryz.func234 ?_;refine wd K0 [] A0 A0 ?_;have hk:=hr.ok (k:=3) rfl;refine CF (fun k=>k<=l.length/\FU k (E2 l)=true) (fun k:Nat=>[(7,.pY k)]) (fun k=>l.length-k) 0 ⟨qP _,rfl⟩ (fun _=>rfl) ?_ ?_
  .exact A1.ck rfl
  rintro k ⟨hkk,hpre⟩
  by_cases hkl:k<l.length
  .obtain⟨x,hx⟩:=AT hkl;have gx:l.getD k NF=x:=getD_at hx;have hlx:=hl x (rE hx);have hK:E2 l k=((x.told.right&&(!x.told.asks&&(decide (x.told.dst=x.src)&&decide (x.told.call=x.call))))&& !(decide (KB (l.take k) x.src x.call>=0))):=by unfold E2 Ke;rw[gx,gm]
   have c1:=Wi.BV x.told (lm hlx);have c2:=Wi.FK x.told;have d1:=fN x.src x.call;have d2:=Oa (l.take k) x.src x.call (by rw[rM];omega);have e1:List.take k (List.map Past.cells l)=List.map Past.cells (List.take k l):=(List.map_take ..).symm;unfold A2.d A2.cells at c1 c2;generalize KB (l.take k) x.src x.call=fi at*
   have hY:YT Tryz.prog 3 [.pY k,.d (.agg [.i .i64 x.src,.i .i64 x.call,.i .u8 x.told.kind,.i .i64 x.told.call,.i .i64 x.told.src,.i .i64 x.told.dst,.i .i64 x.told.key,.b x.told.slow,.b x.told.done,.i .i64 x.told.place,.i .i64 x.told.pred,.is x.told.list,.s x.told.item.key,.i .i64 x.told.item.value,.i .i64 x.told.item.version,.b x.told.item.gone,.i .i64 x.told.code])] [.c [.d (AH l)],.c [.pq false],.c [.d (AH l)],.lp r,.c [.pY x.src,.pY x.call,.pz x.told.kind,.pY x.told.call,.pY x.told.src,.pY x.told.dst,.pY x.told.key,.pq x.told.slow,.pq x.told.done,.pY x.told.place,.pY x.told.pred,.qF x.told.list,.qE x.told.item.key,.pY x.told.item.value,.pY x.told.item.version,.pq x.told.item.gone,.pY x.told.code]] fun v K=>v= .pq (E2 l k)/\K=if E2 l k then[.c [.d (AH l)],.c [.pq false],.c [.d (AH l)],.lp r,.c [.pY x.src,.pY x.call,.pz x.told.kind,.pY x.told.call,.pY x.told.src,.pY x.told.dst,.pY x.told.key,.pq x.told.slow,.pq x.told.done,.pY x.told.place,.pY x.told.pred,.qF x.told.list,.qE x.told.item.key,.pY x.told.item.value,.pY x.told.item.version,.pq x.told.item.gone,.pY x.told.code]]else[.c [.d (AH l)],.c [.pq false],.c [.d (AH l)],.lp (r.left .ret),.c [.pY x.src,.pY x.call,.pz x.told.kind,.pY x.told.call,.pY x.told.src,.pY x.told.dst,.pY x.told.key,.pq x.told.slow,.pq x.told.done,.pY x.told.place,.pY x.told.pred,.qF x.told.list,.qE x.told.item.key,.pY x.told.item.value,.pY x.told.item.version,.pq x.told.item.gone,.pY x.told.code]]:=by
    refine AZ hr rfl rfl rfl ?_;rw[hK];generalize x.told.right=rr at *;generalize x.told.asks=aa at *;clear hK;cases rr
    .refine wd Ba [] A0 A0 ?_;refine zR ?_;refine wd Ba [] A0 (A6 @c1) ?_;exact⟨⟨[],[.c [.d (AH l)],.c [.pq false],.c [.d (AH l)],.lp r.busy,.c [.pY x.src,.pY x.call,.pz x.told.kind,.pY x.told.call,.pY x.told.src,.pY x.told.dst,.pY x.told.key,.pq x.told.slow,.pq x.told.done,.pY x.told.place,.pY x.told.pred,.qF x.told.list,.qE x.told.item.key,.pY x.told.item.value,.pY x.told.item.version,.pq x.told.item.gone,.pY x.told.code]],_⟩,(A1.ck rfl),qG _,rfl,rfl,rfl⟩
    cases aa
    .by_cases h1:x.told.dst=x.src
     .have f2:(x.told.dst !=x.src)=false:=BF h1
      by_cases h2:x.told.call=x.call
      .have f3:(x.told.call !=x.call)=false:=BF h2;rw[qM h1,qM h2]
       by_cases h3:fi>=0
       .have f4:decide (fi>=0)=true:=qM h3;rw[f4];refine wd Ba [] A0 A0 ?_;refine zR ?_;have d1:=Ds.mk [] (d1);have d2:=Ds.mk [6,7] (d2);refine wd Ba [] (Kl f2 f3 f4 e1) (AX @c1 @c2) ?_ [(0,7)];clear d2 d1;exact⟨⟨[],[.c [.d (AH l)],.c [.pq false],.c [.d (AH l)],.lp r.busy,.c [.pY x.src,.pY x.call,.pz x.told.kind,.pY x.told.call,.pY x.told.src,.pY x.told.dst,.pY x.told.key,.pq x.told.slow,.pq x.told.done,.pY x.told.place,.pY x.told.pred,.qF x.told.list,.qE x.told.item.key,.pY x.told.item.value,.pY x.told.item.version,.pq x.told.item.gone,.pY x.told.code]],_⟩,(A1.ck rfl),qG _,rfl,rfl,rfl⟩
       .have f4:decide (fi>=0)=false:=qO h3;rw[f4];refine wd Ba [] A0 A0 ?_;refine zR ?_;have d1:=Ds.mk [] (d1);have d2:=Ds.mk [6,7] (d2);refine wd Ba [] (Kl f2 f3 f4 e1) (AX @c1 @c2) ?_ [(0,7)];clear d2 d1;exact⟨⟨[],[.c [.d (AH l)],.c [.pq false],.c [.d (AH l)],.lp r.busy,.c [.pY x.src,.pY x.call,.pz x.told.kind,.pY x.told.call,.pY x.told.src,.pY x.told.dst,.pY x.told.key,.pq x.told.slow,.pq x.told.done,.pY x.told.place,.pY x.told.pred,.qF x.told.list,.qE x.told.item.key,.pY x.told.item.value,.pY x.told.item.version,.pq x.told.item.gone,.pY x.told.code]],_⟩,(A1.ck rfl),qG _,rfl,rfl,rfl⟩
      .have f3:(x.told.call !=x.call)=true:=BJ h2;rw[qM h1,qO h2];refine wd Ba [] A0 A0 ?_;refine zR ?_;refine wd Ba [] (AX f2 f3) (AX @c1 @c2) ?_;exact⟨⟨[],[.c [.d (AH l)],.c [.pq false],.c [.d (AH l)],.lp r.busy,.c [.pY x.src,.pY x.call,.pz x.told.kind,.pY x.told.call,.pY x.told.src,.pY x.told.dst,.pY x.told.key,.pq x.told.slow,.pq x.told.done,.pY x.told.place,.pY x.told.pred,.qF x.told.list,.qE x.told.item.key,.pY x.told.item.value,.pY x.told.item.version,.pq x.told.item.gone,.pY x.told.code]],_⟩,(A1.ck rfl),qG _,rfl,rfl,rfl⟩
     .have f2:(x.told.dst !=x.src)=true:=BJ h1;rw[qO h1];refine wd Ba [] A0 A0 ?_;refine zR ?_;refine wd Ba [] (A6 f2) (AX @c1 @c2) ?_;exact⟨⟨[],[.c [.d (AH l)],.c [.pq false],.c [.d (AH l)],.lp r.busy,.c [.pY x.src,.pY x.call,.pz x.told.kind,.pY x.told.call,.pY x.told.src,.pY x.told.dst,.pY x.told.key,.pq x.told.slow,.pq x.told.done,.pY x.told.place,.pY x.told.pred,.qF x.told.list,.qE x.told.item.key,.pY x.told.item.value,.pY x.told.item.version,.pq x.told.item.gone,.pY x.told.code]],_⟩,(A1.ck rfl),qG _,rfl,rfl,rfl⟩
    .refine wd Ba [] A0 A0 ?_;refine zR ?_;refine wd Ba [] A0 (AX @c1 @c2) ?_;exact⟨⟨[],[.c [.d (AH l)],.c [.pq false],.c [.d (AH l)],.lp r.busy,.c [.pY x.src,.pY x.call,.pz x.told.kind,.pY x.told.call,.pY x.told.src,.pY x.told.dst,.pY x.told.key,.pq x.told.slow,.pq x.told.done,.pY x.told.place,.pY x.told.pred,.qF x.told.list,.qE x.told.item.key,.pY x.told.item.value,.pY x.told.item.version,.pq x.told.item.gone,.pY x.told.code]],_⟩,(A1.ck rfl),qG _,rfl,rfl,rfl⟩
   cases hb:E2 l k with
   |true=>
    rw[hb]at hY;have ix1:=hx;have q1:=@hY;refine wd K0 [] A0 A0 ?_;clear q1 ix1;with_reducible repeat' first|constructor|intro hc;try simp only[AB]at hc
    refine⟨k+1,⟨hkl,ED hpre hb⟩,om,qG _,?_⟩;exact A1.ck rfl
   |false=>
    rw[hb]at hY;have ix1:=hx;have q1:=@hY;refine wd K0 [] A0 A0 ?_;clear q1 ix1;with_reducible repeat' first|constructor|intro hc;try simp only[AB]at hc
    exact⟨⟨[],[.c [.d (AH l)],.c [.pq false],.c [.d (AH l)],.lp (r.left .ret)],_⟩,(A1.ck rfl),qG _,_,_,rfl,rfl,.inr ⟨GM hkl hb,rfl⟩⟩
  .have e:k=l.length:=om
   subst e;refine wd K0 [] A0 A0 ?_;with_reducible repeat' first|constructor|intro hc;try simp only[AB]at hc
   exact⟨_,A1.refl _,qG _,_,_,rfl,rfl,.inl ⟨hpre,rfl⟩⟩
 .rintro r hr y H' (⟨h,rfl⟩|⟨h,rfl⟩)
  .refine .inl ⟨rfl,?_⟩;rw[h]at hT;refine wd Ba [] A0 A0 ?_;exact Ag hT
  .refine .inr ⟨.ret,rfl,?_⟩;rw[h]at hT;refine wd Ba [] A0 A0 ?_;exact Ag hT
abbrev K1:List Nat:=[0,1,4,5,7,8,9,16]
structure Hp (n:Node):Prop where
 id:i64 n.view.id
 li:∀y∈n.view.list,i64 y
 vb:n.view.base.length<=1000
 vl:n.view.list.length<=1000
 cl:∀x∈n.calls.op,AD x.msg
 cn:n.calls.op.length<=1048576
 sl:∀x∈n.seen,AD x.told
 sn:n.seen.length<=1048576
 kn:n.keep.length<=1048576
 fl:n.finger.left.length<=1048576
 ml:n.mirror.left.length<=1048576
 tl:n.client.left.length<=1048576
def Md(n:Node):Bool:=!(n.seen.any fun p=>decide (p.told.src≠n.view.id))
def Ak(n:Node):Bool:=(decide (0<=n.clock)&&decide (n.clock<=1099511627776))&&(decide (0<=n.bad)&&((decide (0<=n.next)&&decide (n.next<16))&&(AS n.view&&((decide (n.calls.id=n.view.id)&&BG n.calls)&&(D6 n.phase n.of_&&(Bo n.keep&&(Ec n.seen&&Md n)))))))
def Tl(q:α->Bool)(l:List α):Int:=match l.findIdx? q with
 |some n=>(n:Int)
 |none=> -1
variable {q:α->Bool}
theorem iG{x:α}(hx:l[k]? =some x)(h:q x=true)(hn:(l.take k).any q=false):Tl q l=k:=by
 unfold Tl;rw[Mz hx h hn]
theorem XH(hn:l.any q=false):Tl q l= -1:=by
 unfold Tl
 have:l.findIdx? q=none:=by
  rw[List.findIdx?_eq_none_iff];rw[uF]at hn;intro x hx;simpa using hn x hx
 rw[this]
theorem iH(q:α->Bool)(l:List α):decide (Tl q l>=0)=l.any q:=by
 cases h:l.any q with
 |false=>rw[XH h];rfl
 |true=>
  obtain⟨x,hx,hp⟩:=List.any_eq_true.1 h
  have:l.findIdx? q≠none:=by
   rw[Ne,List.findIdx?_eq_none_iff];intro hh;have:=hh x hx;rw[hp]at this;cases this
  unfold Tl;split
  .exact qM om
  .contradiction
theorem o4(n:Node):qC 89 [.ptr 0 0 76] [.c (AJ n)] (.pq (decide (0<=n.clock)&&decide (n.clock<=1099511627776))) [.c (AJ n)]:=by
 refine zD A4 Tryz.func89 ?_;unfold AJ
 by_cases h1:0<=n.clock
 .have f1:decide (n.clock>=0)=true:=qM h1;rw[qM h1,rC];refine wd [0,1] [] (A6 f1) A0 ?_;exact⟨⟨[(1,.pq (decide (n.clock<=1099511627776)))],[.c (AJ n)],_⟩,(A1.ck rfl),qG _,_,_,rfl,rfl,rfl,rfl⟩
 .have f1:decide (n.clock>=0)=false:=qO h1;rw[qO h1,uH];refine wd [0,1] [] (A6 f1) A0 ?_;exact⟨⟨[(1,.pq false)],[.c (AJ n)],_⟩,(A1.ck rfl),qG _,_,_,rfl,rfl,rfl,rfl⟩
theorem o5(n:Node):qC 90 [.ptr 0 0 76] [.c (AJ n)] (.pq (decide (0<=n.bad))) [.c (AJ n)]:=by
 refine zD A4 Tryz.func90 ?_;unfold AJ;refine wd [0,1] [] A0 A0 ?_;exact⟨⟨[(1,.pq (decide (0<=n.bad)))],[.c (AJ n)],_⟩,(A1.ck rfl),qG _,_,_,rfl,rfl,rfl,rfl⟩
theorem o6(n:Node):qC 91 [.ptr 0 0 76] [.c (AJ n)] (.pq (decide (0<=n.next)&&decide (n.next<16))) [.c (AJ n)]:=by
 refine zD A4 Tryz.func91 ?_;unfold AJ
 by_cases h1:0<=n.next
 .have f1:decide (n.next>=0)=true:=qM h1;rw[qM h1,rC];refine wd [0,1] [] (A6 f1) A0 ?_;exact⟨⟨[(1,.pq (decide (n.next<16)))],[.c (AJ n)],_⟩,(A1.ck rfl),qG _,_,_,rfl,rfl,rfl,rfl⟩
 .have f1:decide (n.next>=0)=false:=qO h1;rw[qO h1,uH];refine wd [0,1] [] (A6 f1) A0 ?_;exact⟨⟨[(1,.pq false)],[.c (AJ n)],_⟩,(A1.ck rfl),qG _,_,_,rfl,rfl,rfl,rfl⟩
theorem o7(n:Node)(h:Hp n):qC 92 [.ptr 0 0 76] [.c (AJ n)] (.pq (AS n.view)) [.c (AJ n)]:=by
 have c1:=PS n.view (by have:=h.vb;omega) (by have:=h.vl;omega);refine zD A4 Tryz.func92 ?_;generalize AS n.view=b at *;unfold View.d View.cells at c1;unfold AJ;refine wd [0,1] [] A0 (A6 @c1) ?_;exact⟨⟨[(1,.pq b)],[.c (AJ n)],_⟩,(A1.ck rfl),qG _,_,_,rfl,rfl,rfl,rfl⟩
theorem o8(n:Node)(h:Hp n):qC 94 [.ptr 0 0 76] [.c (AJ n)] (.pq (decide (n.calls.id=n.view.id)&&BG n.calls)) [.c (AJ n)]:=by
 have c1:=ON n.calls h.cl;refine zD A4 Tryz.func94 ?_;generalize BG n.calls=b at *;unfold Calls.d Calls.cells at c1;unfold AJ
 by_cases h1:n.calls.id=n.view.id
 .have f1:=A9 h1;rw[qM h1,rC];refine wd [0,1] [] (A6 f1) (A6 @c1) ?_;exact⟨⟨[(1,.pq b)],[.c (AJ n)],_⟩,(A1.ck rfl),qG _,_,_,rfl,rfl,rfl,rfl⟩
 .have f1:=eq_false' h1;rw[qO h1,uH];refine wd [0,1] [] (A6 f1) (A6 @c1) ?_;exact⟨⟨[(1,.pq false)],[.c (AJ n)],_⟩,(A1.ck rfl),qG _,_,_,rfl,rfl,rfl,rfl⟩
theorem o9(n:Node):qC 96 [.ptr 0 0 76] [.c (AJ n)] (.pq (D6 n.phase n.of_)) [.c (AJ n)]:=by
 have c1:=Y1 n.phase n.of_;refine zD A4 Tryz.func96 ?_;generalize D6 n.phase n.of_=b at *;unfold AJ;refine wd [0,1] [] A0 (A6 @c1) ?_;exact⟨⟨[(1,.pq b)],[.c (AJ n)],_⟩,(A1.ck rfl),qG _,_,_,rfl,rfl,rfl,rfl⟩
theorem oA(n:Node)(h:Hp n):qC 98 [.ptr 0 0 76] [.c (AJ n)] (.pq (Bo n.keep)) [.c (AJ n)]:=by
 have c1:=Ri n.keep (by have:=h.kn;omega);refine zD A4 Tryz.func98 ?_;generalize Bo n.keep=b at *;unfold AJ;refine wd [0,1] [] A0 (A6 @c1) ?_;exact⟨⟨[(1,.pq b)],[.c (AJ n)],_⟩,(A1.ck rfl),qG _,_,_,rfl,rfl,rfl,rfl⟩
theorem oB(n:Node)(h:Hp n):qC 100 [.ptr 0 0 76] [.c (AJ n)] (.pq (Ec n.seen)) [.c (AJ n)]:=by
 have c1:=ix n.seen h.sl (by have:=h.sn;omega);refine zD A4 Tryz.func100 ?_;generalize Ec n.seen=b at *;unfold AJ;refine wd [0,1] [] A0 (A6 @c1) ?_;exact⟨⟨[(1,.pq b)],[.c (AJ n)],_⟩,(A1.ck rfl),qG _,_,_,rfl,rfl,rfl,rfl⟩
theorem kV(n:Node)(x:Past):qC 104 [.d x.d,.ptr 0 0 76] [.c (AJ n)] (.pq (decide (x.told.src≠n.view.id))) [.c (AJ n)]:=by
 refine zD A4 Tryz.func104 ?_;unfold AJ Past.d Past.cells
 by_cases h1:x.told.src=n.view.id
 .have f1:=BF h1;rw[qO (fun hh=>hh h1)];refine wd [0,1,2,3] [] (A6 f1) A0 ?_;exact⟨⟨[(3,.pq false)],[.c (AJ n)],_⟩,(A1.ck rfl),qG _,_,_,rfl,rfl,rfl,rfl⟩
 .have f1:=BJ h1;rw[qM h1];refine wd [0,1,2,3] [] (A6 f1) A0 ?_;exact⟨⟨[(3,.pq true)],[.c (AJ n)],_⟩,(A1.ck rfl),qG _,_,_,rfl,rfl,rfl,rfl⟩
theorem cz(n:Node)(l:List Past)(hn:l.length<=9223372036854775807):qC 166 [.d (AH l),.fn (.func 104) [] [.ptr 0 0 76]] [.c (AJ n)] (.pY (Tl (fun p=>decide (p.told.src≠n.view.id)) l)) [.c (AJ n)]:=by
 refine zD A4 Tryz.func166 ?_;have hC:=kV n;generalize hq:(fun p:Past=>decide (p.told.src≠n.view.id))=q at *;have hC':∀x,qC 104 [.d x.d,.ptr 0 0 76] [.c (AJ n)] (.pq (q x)) [.c (AJ n)]:=fun x=>by have:=hC x;rw[<-hq];exact this
 clear hC;refine wd K1 [] A0 A0 ?_;refine CF (fun k=>k<=l.length/\(l.take k).any q=false) (fun k:Nat=>[(8,.pY k)]) (fun k=>l.length-k) 0 ⟨qP _,rfl⟩ (fun _=>rfl) ?_ ?_
 .exact A1.ck rfl
 rintro k ⟨hk,hpre⟩
 by_cases hkl:k<l.length
 .obtain⟨x,hx⟩:=AT hkl;have hA:=GN (p:=q) hx;rw[hpre,su]at hA;have c1:=hC' x;unfold Past.d Past.cells at c1
  cases hb:q x with
  |true=>
   rw[hb]at c1;have ix1:=hx;have d1:=Ds.mk [0] (c1);refine wd K1 [] A0 A0 ?_;clear d1 ix1;with_reducible repeat' first|constructor|intro hc;try simp only[AB]at hc
   rw[iG hx hb hpre];exact⟨⟨[(4,.pY k)],[.c (AJ n)],_⟩,(A1.ck rfl),qG _,_,_,rfl,rfl,rfl,rfl⟩
  |false=>
   rw[hb]at c1;have ix1:=hx;have d1:=Ds.mk [0] (c1);refine wd K1 [] A0 A0 ?_;clear d1 ix1;with_reducible repeat' first|constructor|intro hc;try simp only[AB]at hc
   refine⟨k+1,⟨hkl,by rw[hA,hb]⟩,om,qG _,?_⟩;exact A1.ck rfl
 .have e:k=l.length:=om
  subst e;rw[qx]at hpre;refine wd K1 [] A0 A0 ?_;with_reducible repeat' first|constructor|intro hc;try simp only[AB]at hc
  rw[XH hpre];exact⟨⟨[(4,.pY (-1))],[.c (AJ n)],_⟩,(A1.ck rfl),qG _,_,_,rfl,rfl,rfl,rfl⟩
theorem cr(n:Node)(l:List Past)(hn:l.length<=9223372036854775807):qC 103 [.d (AH l),.fn (.func 104) [] [.ptr 0 0 76]] [.c (AJ n)] (.pq (l.any fun p=>decide (p.told.src≠n.view.id))) [.c (AJ n)]:=by
 refine zD A4 Tryz.func103 ?_;have c1:=cz n l hn;rw[<-iH];generalize Tl (fun p:Past=>decide (p.told.src≠n.view.id)) l=z at *;have d1:=Ds.mk [0] (c1);refine wd [0,1,4] [] A0 A0 ?_;clear d1;exact⟨⟨[(4,.pq (decide (z>=0)))],[.c (AJ n)],_⟩,(A1.ck rfl),qG _,_,_,rfl,rfl,rfl,rfl⟩
theorem oC(n:Node)(h:Hp n):qC 102 [.ptr 0 0 76] [.c (AJ n)] (.pq (Md n)) [.c (AJ n)]:=by
 have c1:=cr n n.seen (by have:=h.sn;omega);refine zD A4 Tryz.func102 ?_;unfold Md;generalize(n.seen.any fun p=>decide (p.told.src≠n.view.id))=b at *;unfold AJ;have d1:=Ds.mk [0] (c1);refine wd [0,1] [] A0 A0 ?_;clear d1;exact⟨⟨[(1,.pq !b)],[.c (AJ n)],_⟩,(A1.ck rfl),qG _,_,_,rfl,rfl,rfl,rfl⟩
theorem Az(n:Node)(h:Hp n):qB 41 [n.d] (.b (Ak n)):=by
 refine zF A4 Tryz.func41 ?_;have c1:=kw n _ _ _ _ _ _ _ _ _ (o4 n) (o5 n) (o6 n) (o7 n h) (o8 n h) (o9 n) (oA n h) (oB n h) (oC n h);unfold Ak;generalize((decide (0<=n.clock)&&decide (n.clock<=1099511627776))&&_)=B at *;have d1:=Ds.mk [0,1] (c1);refine wd [0,1,2] [] A0 A0 ?_;clear d1;exact zE
end Nd
end Go.Proofs.YtkljbfejbakooaaGreatDoor
namespace Go.Proofs.YtkljbfejbakooaaGreatDoor
namespace Nd
open Go.Gar
open Wi (A2 B5 AU A5 B6)
def PR(a x b:Int):Bool:=Ir a x b||decide (Cp x=Cp b)
def FX(id k p q:Int):Int:=if Ir id q k&&decide (Aa id q>Aa id p)then q else p
def oq(v:View):List Int:=KR v::(v.list++(DR v.f).filter fun p=>p != -1)
def FY(v:View)(k:Int)(slow:Bool):Int×Bool:=
 if AS v then(if PR v.id k (KR v)then(KR v,true)else if slow then(KR v,false)else((oq v).foldl (FX v.id k) (KR v),false))else(-1,false)
abbrev fV:Look:=⟨0,0,0,false,false,0⟩
def KG(l:Look):Bool:=(Ai l.key&&Ai l.at_&&decide (0<=l.hops)&&decide (l.hops<=41))&&(if l.hops>40 then decide (l.code=211)&& !l.found else decide (l.code=0))
def lookO(l:Look):Bool:=l.found||decide (l.code≠0)
def NK(l:Look):Look:=⟨l.key,l.at_,l.hops+1,l.slow,l.found,if l.hops+1>40 then 211 else l.code⟩
def SS(v:View)(l:Look)(m:A2):Bool:=decide (m.kind=10)&&(decide (m.src=l.at_)&&(decide (m.dst=v.id)&&m.right))
def ng(v:View)(l:Look)(m:A2):Int×Bool:=if m.place=v.id/\m.done=false then FY v l.key l.slow else(m.place,m.done)
def N6(v:View)(l:Look)(m:A2):Look:=
 if AS v&&(KG l&& !lookO l)then(if SS v l m then(if l.hops+1>40 then NK l else⟨l.key,(ng v l m).1,l.hops+1,l.slow,(ng v l m).2,l.code⟩)else l)else l
def Uy(l:Look):A2:=⟨4,0,0,l.at_,l.key,l.slow,false,0,0,[],AA,0⟩
def XQ(l:Look):A2×Bool:=if lookO l|| !KG l then(A5,false)else(Uy l,true)
def Bj(k:List Item)(key:List UInt8):Nat:=(k.takeWhile fun x=>decide (x.key<key)).length
def hasK(k:List Item)(key:List UInt8):Bool:=decide (Bj k key<k.length)&&decide ((k.getD (Bj k key) AA).key=key)
def KY(x y:Item):Bool:=decide (Hr x y>0)
def Dx(k:List Item)(x:Item):List Item×Int:=
 if Bo k&&AU x then
  (if hasK k x.key then(if KY x (k.getD (Bj k x.key) AA)then k.set (Bj k x.key) x else k,0)
   else if k.length>=24 then(k,200)else(k.take (Bj k x.key)++x::k.drop (Bj k x.key),0))
 else(k,2)
def Cf(k:List Item)(key:List UInt8):Item×Int:=if Bo k&&hasK k key then(k.getD (Bj k key) AA,0)else(AA,201)
structure JC where
 job:Job
 asks:List A2
 own:Bool
abbrev C1(j:Job):Job:=⟨j.what,5,j.look,j.item,j.owner,[],j.code⟩
abbrev C0(j:Job)(e:Int):Job:=⟨j.what,j.phase,j.look,j.item,j.owner,j.left,e⟩
def IS:List Int->List Int
 |[]=>[]
 |[a]=>[a]
 |[a,b]=>a::(if b=a then[]else[b])
 |a::b::c::_=>a::((if b=a then[]else[b])++(if c=a\/c=b then[]else[c]))
def DN(x:Item)(p:Int):A2:=⟨5,0,0,p,0,false,false,0,0,[],x,0⟩
def HY(id:Int)(j:Job)(owner:Int)(l:List Int):JC:=
 let ps:=IS (owner::l);let left:=ps.filter fun p=>p !=id
 ⟨⟨j.what,if left=[]then 5 else 3,j.look,j.item,j.owner,left,j.code⟩,left.map (DN j.item),decide (id∈ps)⟩
def HP(p:Int):A2:=⟨1,0,0,p,0,false,false,0,0,[],AA,0⟩
def Qu(p:Int)(key:List UInt8):A2:=⟨6,0,0,p,0,false,false,0,0,[],⟨key,0,0,false⟩,0⟩
def Eg(v:View)(j:Job):JC:=
 if j.look.code≠0 then⟨C1 (C0 j j.look.code),[],false⟩
 else if j.look.found=false then⟨⟨j.what,1,j.look,j.item,j.owner,j.left,j.code⟩,if(XQ j.look).2 then[(XQ j.look).1]else[],false⟩
 else if j.what=1 then⟨C1 (C0 ⟨j.what,j.phase,j.look,j.item,j.look.at_,j.left,j.code⟩ 0),[],false⟩
 else if j.what=2/\j.look.at_=v.id then HY v.id ⟨j.what,j.phase,j.look,j.item,j.look.at_,j.left,j.code⟩ j.look.at_ v.list
 else if j.what=2 then⟨⟨j.what,2,j.look,j.item,j.look.at_,j.left,j.code⟩,[HP j.look.at_],false⟩
 else if j.look.at_=v.id then⟨C1 (C0 ⟨j.what,j.phase,j.look,j.item,j.look.at_,j.left,j.code⟩ 0),[],true⟩
 else⟨⟨j.what,4,j.look,j.item,j.look.at_,j.left,j.code⟩,[Qu j.look.at_ j.item.key],false⟩
def Eh(j:Job)(p e:Int):Job:=
 if p∈j.left then
  ⟨j.what,if EF j.left p=[]then 5 else j.phase,j.look,j.item,j.owner,EF j.left p,if e≠0 then e else j.code⟩
 else j
abbrev zJob:Job:=⟨0,0,fV,AA,0,[],0⟩
def B8(v:View)(j:Job)(m:A2):JC:=
 if AS v&&(m.right&&decide (m.dst=v.id))then
  (if j.phase=1 then(if m.kind=10/\m.src=j.look.at_ then Eg v ⟨j.what,j.phase,N6 v j.look m,j.item,j.owner,j.left,j.code⟩else⟨j,[],false⟩)
   else if j.phase=2 then(if m.kind=7/\m.src=j.owner then HY v.id j j.owner m.list else⟨j,[],false⟩)
   else if j.phase=3 then(if m.kind=11 then⟨Eh j m.src m.code,[],false⟩else⟨j,[],false⟩)
   else if j.phase=4 then(if m.kind=12/\m.src=j.owner then⟨C1 (C0 ⟨j.what,j.phase,j.look,if m.code=0 then m.item else j.item,j.owner,j.left,j.code⟩ m.code),[],false⟩else⟨j,[],false⟩)
   else⟨j,[],false⟩)
 else⟨j,[],false⟩
def I7(x s:Int)(l:List Int):List Int:=
 if Ai s&&decide (s≠Cp x)then s::makR x s l 2 else[]
where makR (x at_:Int):List Int->Nat->List Int
 |[],_=>[]
 |_::_,0=>[]
 |p::r,n+1=>if Ai p&&decide (Aa x p>Aa x at_)then p::makR x p r n else[]
structure SC where
 view:View
 phase:Int
 of_:Int
def Gl(phase of_:Int):List (A2×Int):=
 if phase=1\/phase=2 then[(HP of_,phase)]else if phase=3 then[(⟨3,0,0,of_,0,false,false,0,0,[],AA,0⟩,3)]else[]
def V5(v:View)(phase of_:Int)(m:A2):Bool:=
 decide (phase≠0)&&(decide (m.kind=(if phase=3 then 9 else 7))&&(decide (m.src=of_)&&(decide (m.dst=v.id)&&m.right)))
def Bv(v:View)(phase of_:Int)(m:A2):SC×List (A2×Int):=
 if AS v&&(D6 phase of_&&V5 v phase of_ m)then
  (if phase=3 then(⟨v,0,0⟩,[])
   else
    let w:=DF v (I7 v.id m.src m.list)
    if phase=1/\m.pred≠ -1/\Ir v.id m.pred m.src=true then(⟨w,2,m.pred⟩,Gl 2 m.pred)
    else(⟨w,3,KR w⟩,Gl 3 (KR w)))
 else(⟨v,phase,of_⟩,[])
def eu(f:Nat->Int)(i:Nat)(p:Int):Nat->Int:=fun k=>if k=i then p else f k
def HT(v:View)(i owner:Int):View×Int:=
 if(decide (0<=i)&&(decide (i<16)&&AS v))&&Ai owner then(⟨v.id,v.base,v.list,v.pred,eu v.f i.toNat (if owner=v.id then -1 else owner)⟩,0)else(v,2)
def kJ(n:Node)(why:Int):Option Job:=if why=5 then some n.finger else if why=6 then some n.mirror else if why=7 then some n.client else none
def NQ(n:Node)(why:Int)(j:Job):Node:=
 if why=5 then{n with finger:=j}else if why=6 then{n with mirror:=j}else{n with client:=j}
def Cr(k:List Item)(j:Job):List Item×Job:=
 if j.what=2 then((Dx k j.item).1,if(Dx k j.item).2≠0 then C0 j (Dx k j.item).2 else j)
 else if j.what=3 then(k,if(Cf k j.item.key).2=0 then⟨j.what,j.phase,j.look,(Cf k j.item.key).1,j.owner,j.left,0⟩else C0 j (Cf k j.item.key).2)
 else(k,j)
def Du(n:Node):Node:=
 {n with
  view:=if n.finger.code=0 then(HT n.view n.next n.finger.owner).1 else n.view
  next:=(n.next+1).tmod 16}
def As(n:Node)(why:Int)(ended:Bool)(c:JC):Node×List (A2×Int):=
 let s:=if c.own then Cr n.keep c.job else(n.keep,c.job)
 let n1:=NQ {n with keep:=s.1} why s.2
 (if why=5/\ended=false/\s.2.phase=5 then Du n1 else n1,c.asks.map fun m=>(m,why))
def IQ(n:Node)(why:Int):Job:=(kJ n why).getD zJob
def BS(n:Node)(c:Call)(m:A2):Node×List (A2×Int):=
 if Ak n then
  (if 1<=c.why/\c.why<=3 then
   let r:=Bv n.view n.phase n.of_ m
   ({n with view:=r.1.view,phase:=r.1.phase,of_:=r.1.of_},r.2)
   else if 5<=c.why/\c.why<=7 then As n c.why (decide ((IQ n c.why).phase=5)) (B8 n.view (IQ n c.why) m)
   else(n,[]))
 else(n,[])
def Ee(n:Node)(why:Int):Node:=
 if Ak n then
  (if 1<=why/\why<=3 then{n with phase:=0,of_:=0}
   else if(5<=why/\why<=7)/\(IQ n why).phase≠5 then(As n why false ⟨C1 (C0 (IQ n why) 100),[],false⟩).1
   else n)
 else n
theorem Of{a b c:List UInt8}(h:a<b)(k:b<c):a<c:=List.lt_trans h k
theorem VV(a b:List UInt8):a<b\/a=b\/b<a:=by
 by_cases h:a<b
 .exact .inl h
 by_cases h2:b<a
 .exact .inr (.inr h2)
 exact .inr (.inl (List.le_antisymm (List.not_lt.1 h2) (List.not_lt.1 h)))
abbrev kS(l:List Item):Prop:=l.Pairwise fun x y=>x.key<y.key
theorem dL:∀(l:List Item),(∀k,k<l.length->k=0\/(l.getD (k-1) AA).key<(l.getD k AA).key)->kS l
 |[],_=>List.Pairwise.nil
 |[a],_=>by simp[kS]
 |a::b::r,h=>by
  have ih:=dL (b::r) (fun k hk=>by
   rcases uK k with e|e
   .exact .inl e
   .have:=h (k+1) (by simpa using hk);obtain⟨j,rfl⟩:∃j,k=j+1:=⟨k-1,om⟩
    simpa using this)
  have hab:a.key<b.key:=by
   have:=h 1 sm;simpa using this
  refine uq.2 ⟨fun x hx=> ?_,ih⟩;rcases sG.1 hx with rfl|hx
  .exact hab
  .exact Of hab ((uq.1 ih).1 x hx)
variable {l:List Item}
theorem Di:Bo l=true↔l.length<=24/\(∀x∈l,AU x=true)/\kS l:=by
 unfold Bo;rw[qH,qJ,Im];constructor
 .rintro⟨h1,h2⟩;refine⟨h1,fun x hx=> ?_,dL l fun k hk=> ?_⟩
  .obtain⟨k,hk,rfl⟩:=uZ hx;have:=h2 k hk;unfold EX at this;rw[qH,getD_at (qK hk)]at this;exact this.1
  .have:=h2 k hk;unfold EX at this;rw[qH,qJ]at this;exact this.2
 .rintro⟨h1,h2,h3⟩;refine⟨h1,fun k hk=> ?_⟩;unfold EX;rw[qH,qJ,getD_at (qK hk)];refine⟨h2 _ (uV hk),?_⟩;rcases uK k with e|e
  .exact .inl e
  .right;rw[getD_at (qK (show k-1<l.length by omega))];exact sW.1 h3 (k-1) k om hk om
theorem Jg(key:List UInt8):∀(l:List Item),kS l->(∀x∈l.take (Bj l key),x.key<key)/\(∀x∈l.drop (Bj l key),¬x.key<key)
 |[],_=>by simp[Bj]
 |a::r,h=>by
  obtain⟨h1,h2⟩:=uq.1 h
  by_cases e:a.key<key
  .have hp:Bj (a::r) key=Bj r key+1:=by unfold Bj;rw[List.takeWhile_cons_of_pos (by simpa using e)];rfl
   obtain⟨i1,i2⟩:=Jg key r h2;rw[hp];refine⟨fun x hx=> ?_,fun x hx=>i2 x (by simpa using hx)⟩;rw[List.take_succ_cons]at hx;rcases sG.1 hx with rfl|hx
   .exact e
   .exact i1 x hx
  .have hp:Bj (a::r) key=0:=by unfold Bj;rw[List.takeWhile_cons_of_neg (by simpa using e)];rfl
   rw[hp];refine⟨fun x hx=>by simp at hx,fun x hx=> ?_⟩;rw[List.drop_zero]at hx;rcases sG.1 hx with rfl|hx
   .exact e
   .exact fun hlt=>e (Of (h1 x hx) hlt)
theorem S8(l:List Item)(key:List UInt8):Bj l key<=l.length:=by
 unfold Bj;exact(List.takeWhile_sublist _).length_le
variable {key:List UInt8}
theorem Tk(h:kS l):hasK l key=true↔∃x∈l,x.key=key:=by
 unfold hasK;rw[qH,qJ,qJ];constructor
 .rintro⟨h1,h2⟩;rw[getD_at (qK h1)]at h2;exact⟨_,uV h1,h2⟩
 .rintro⟨x,hx,rfl⟩;obtain⟨i1,i2⟩:=Jg x.key l h
  have hx':x∈l.drop (Bj l x.key):=by
   rw[<-rX (Bj l x.key) l,sU]at hx;rcases hx with hx|hx
   .exact absurd (i1 x hx) (List.lt_irrefl _)
   .exact hx
  have hlt:Bj l x.key<l.length:=by
   rcases rG (Bj l x.key) l.length with h|h
   .exact h
   .rw[List.drop_eq_nil_of_le h]at hx';cases hx'
  refine⟨hlt,?_⟩;rw[getD_at (qK hlt)];rw[uQ hlt]at hx';have hd:=(h.sublist (List.drop_sublist (Bj l x.key) l));rw[uQ hlt]at hd;rcases sG.1 hx' with e|hm
  .rw[<-e]
  .have h1:=(uq.1 hd).1 x hm;exact absurd h1 (i2 _ (by rw[uQ hlt];exact sQ ..))
theorem I0(h:hasK l key=true):∃x,l[Bj l key]? =some x/\x.key=key/\l.getD (Bj l key) AA=x:=by
 unfold hasK at h;rw[qH,qJ,qJ]at h;have e:=qK h.1;rw[getD_at e]at h;exact⟨_,e,h.2,getD_at e⟩
theorem dM:kS l↔(l.map Item.key).Pairwise (·<·):=by rw[List.pairwise_map]
variable {x y:Item}
theorem ew{i:Nat}(hy:l[i]? =some y)(h:x.key=y.key):(l.set i x).map Item.key=l.map Item.key:=by
 rw[List.map_set,h];apply List.ext_getElem?;intro j;rw[List.getElem?_set];split
 .rename_i e;subst e;rw[rQ,hy,rZ];have:=(qN.1 hy).1;simp[this]
 .rfl
theorem P7(h:Bo l=true):Bo (Dx l x).1=true:=by
 unfold Dx;split
 .rename_i hc;rw[qH]at hc;obtain⟨h1,h2,h3⟩:=Di.1 h;split
  .rename_i hk;split
   .obtain⟨y,hy,hyk,_⟩:=I0 hk;refine Di.2 ⟨by simpa using h1,fun z hz=> ?_,?_⟩
    .rcases List.mem_or_eq_of_mem_set hz with hz|rfl
     .exact h2 z hz
     .exact hc.2
    .rw[dM,ew hy hyk.symm,<-dM];exact h3
   .exact h
  .rename_i hk;split
   .exact h
   .rename_i hl;obtain⟨i1,i2⟩:=Jg x.key l h3;have hn:∀z∈l,z.key≠x.key:=fun z hz e=>hk ((Tk h3).2 ⟨z,hz,e⟩)
    refine Di.2 ⟨?_,fun z hz=> ?_,?_⟩
    .have:=S8 l x.key;simp only[qj,qY,rM,List.length_drop];omega
    .rw[sU,sG]at hz;rcases hz with hz|rfl|hz
     .exact h2 z (List.mem_of_mem_take hz)
     .exact hc.2
     .exact h2 z (List.mem_of_mem_drop hz)
    .have hd:∀z∈l.drop (Bj l x.key),x.key<z.key:=fun z hz=>by
      rcases VV x.key z.key with e|e|e
      .exact e
      .exact absurd e.symm (hn z (List.mem_of_mem_drop hz))
      .exact absurd e (i2 z hz)
     refine List.pairwise_append.2 ⟨h3.sublist (List.take_sublist _ _),uq.2 ⟨hd,h3.sublist (List.drop_sublist _ _)⟩,fun a ha b hb=> ?_⟩;rcases sG.1 hb with rfl|hb
     .exact i1 a ha
     .exact Of (i1 a ha) (hd b hb)
 .exact h
theorem Ot(h:KY x y=true):KY y x=false:=by
 unfold KY at *;rw[qJ]at h;rw[uJ];obtain⟨k,v,n,g⟩:=x;obtain⟨k',v',n',g'⟩:=y;unfold Hr at*
 revert h
 simp only;intro h
 repeat' split at h
 all_goals(try omega)
 all_goals(repeat' split)
 all_goals(try omega)
 all_goals simp_all
theorem FM(x:Item):KY x x=false:=by
 cases h:KY x x with
 |false=>rfl
 |true=>rw[Ot h]at h;cases h
theorem UP(h:Bo l=true)(hy:y∈l):(Cf (Dx l x).1 y.key).2=0/\KY y (Cf (Dx l x).1 y.key).1=false:=by
 have hr:=P7 (x:=x) h;obtain⟨r1,r2,r3⟩:=Di.1 hr
 have key:∃z∈(Dx l x).1,z.key=y.key/\KY y z=false:=by
  obtain⟨h1,h2,h3⟩:=Di.1 h;unfold Dx;split
  .split
   .rename_i hk;split
    .rename_i hnew;obtain⟨w,hw,hwk,hwg⟩:=I0 hk
     by_cases e:y.key=x.key
     .refine⟨x,List.mem_iff_getElem?.2 ⟨Bj l x.key,by rw[rP (qN.1 hw).1]⟩,e.symm,?_⟩
      have:y=w:=by
       obtain⟨i,hi,rfl⟩:=uZ hy;obtain⟨hj,rfl⟩:=qN.1 hw;rcases Nat.lt_trichotomy i (Bj l x.key)with hlt|he|hlt
       .have:=sW.1 h3 i _ hi hj hlt;rw[e,hwk]at this;exact absurd this (List.lt_irrefl _)
       .subst he;rfl
       .have:=sW.1 h3 _ i hj hi hlt;rw[e,hwk]at this;exact absurd this (List.lt_irrefl _)
      rw[this];rw[hwg]at hnew;exact Ot hnew
     .refine⟨y,?_,rfl,FM y⟩;obtain⟨i,hi,rfl⟩:=uZ hy;refine List.mem_iff_getElem?.2 ⟨i,?_⟩;rw[List.getElem?_set]
      have hne:Bj l x.key≠i:=by
       rintro rfl;rw[qK hi]at hw;cases hw;exact e hwk
      rw[if_neg hne];exact qK hi
    .exact⟨y,hy,rfl,FM y⟩
   .split
    .exact⟨y,hy,rfl,FM y⟩
    .refine⟨y,?_,rfl,FM y⟩;have:y∈l.take (Bj l x.key)++l.drop (Bj l x.key):=by rw[rX];exact hy
     rw[sU]at this;rw[sU,sG];rcases this with h|h
     .exact .inl h
     .exact .inr (.inr h)
  .exact⟨y,hy,rfl,FM y⟩
 obtain⟨z,hz,hzk,hnew⟩:=key;have hk:hasK (Dx l x).1 y.key=true:=(Tk r3).2 ⟨z,hz,hzk⟩;obtain⟨w,hw,hwk,hwg⟩:=I0 hk
 have hzw:z=w:=by
  obtain⟨i,hi,rfl⟩:=uZ hz;obtain⟨hj,rfl⟩:=qN.1 hw;rcases Nat.lt_trichotomy i (Bj (Dx l x).1 y.key)with hlt|he|hlt
  .have:=sW.1 r3 i _ hi hj hlt;rw[hzk,hwk]at this;exact absurd this (List.lt_irrefl _)
  .subst he;rfl
  .have:=sW.1 r3 _ i hj hi hlt;rw[hzk,hwk]at this;exact absurd this (List.lt_irrefl _)
 unfold Cf;rw[hr,hk,hwg];exact⟨rfl,by rw[<-hzw];exact hnew⟩
theorem Iy(h:Bo l=true)(hy:y∈l):(Cf l y.key).2=0/\KY y (Cf l y.key).1=false:=by
 have:=UP (x:=⟨[],0,0,false⟩) h hy
 have e:(Dx l ⟨[],0,0,false⟩).1=l:=by
  unfold Dx;rw[show AU ⟨[],0,0,false⟩=false from rfl,uI];rfl
 rwa [e]at this
structure PW (v w:View):Prop where
 id:w.id=v.id
 base:w.base=v.base
 right:AS v=true->AS w=true
theorem PW.refl(v:View):PW v v:=⟨rfl,rfl,fun h=>h⟩
theorem PW.trans{a b c:View}(h:PW a b)(k:PW b c):PW a c:=⟨k.id.trans h.id,k.base.trans h.base,fun r=>k.right (h.right r)⟩
variable {v:View}
theorem PD(h1:Ai v.id=true)(h2:Bl v.base=true)(h3:BY v.id v.list=true)(h4:Ei v.id v.pred=true)(h5:(DR v.f).all (Ei v.id)=true):AS v=true:=by
 unfold AS;rw[h1,h2,h3,h4,h5];rfl
theorem MW(v:View)(l:List Int):PW v (DF v l):=by
 unfold DF;split
 .rename_i h;rw[qH]at h;refine⟨rfl,rfl,fun hv=> ?_⟩;obtain⟨h1,h2,-,h4,h5⟩:=Eb hv;exact PD h1 h2 h.2 h4 h5
 .exact .refl v
theorem lT(v:View)(i owner:Int):PW v (HT v i owner).1:=by
 unfold HT;split
 .rename_i h;simp only[qH,qJ]at h;refine⟨rfl,rfl,fun hv=> ?_⟩;obtain⟨h1,h2,h3,h4,h5⟩:=Eb hv;refine PD h1 h2 h3 h4 ?_
  have hp:Ei v.id (if owner=v.id then -1 else owner)=true:=by
   split
   .simp[Ei]
   .rename_i hne;simp[Ei,h.2,hne]
  have h5':∀i,i<16->Ei v.id (v.f i)=true:=fun i hi=>(sK.1 h5) _ (by
    rcases dW hi with rfl|rfl|rfl|rfl|rfl|rfl|rfl|rfl|rfl|rfl|rfl|rfl|rfl|rfl|rfl|rfl<;>simp[DR])
  have hq:∀k,k<16->Ei v.id (eu v.f i.toNat (if owner=v.id then -1 else owner) k)=true:=fun k hk=>by
   unfold eu;split
   .exact hp
   .exact h5' k hk
  rw[sK];intro x hx;simp only[DR,sG,List.not_mem_nil,or_false]at hx;rcases hx with rfl|rfl|rfl|rfl|rfl|rfl|rfl|rfl|rfl|rfl|rfl|rfl|rfl|rfl|rfl|rfl<;>exact hq _ (by decide)
 .exact .refl v
theorem cQ(v:View)(i owner:Int):(HT v i owner).1.list=v.list:=by unfold HT;split<;>rfl
theorem jq(h:AS v=true):Ai (KR v)=true/\KR v≠v.id:=by
 obtain⟨r1,r2,r3,-,-⟩:=Eb h;unfold KR;rw[if_pos h]
 cases hl:v.list with
 |nil=>exact⟨(T7 r1 r2).2.1,(T7 r1 r2).2.2⟩
 |cons p r=>
  rw[hl]at r3;simp only[BY,rT,qH,qJ]at r3;refine⟨r3.2.1.1,?_⟩;show p≠v.id;rintro rfl;have:=r3.2.1.2;unfold Aa at this;omega
theorem LR(n:Int):Ai n=B5 n:=by
 unfold Ai B5
 by_cases h1:0<=n<;>by_cases h2:n<65536<;>simp[h1,h2]
theorem Y6{phase of_:Int}{m:A2}(hs:D6 phase of_=true):PW v (Bv v phase of_ m).1.view/\D6 (Bv v phase of_ m).1.phase (Bv v phase of_ m).1.of_=true:=by
 unfold Bv;split
 .rename_i h;simp only[qH]at h;split
  .exact⟨.refl v,rfl⟩
  .have hw:=(MW v (I7 v.id m.src m.list)).right h.1;simp only;split
   .rename_i hp;refine⟨MW _ _,?_⟩;have hc:=h.2.2;unfold V5 at hc;simp only[qH,qJ]at hc;have hk:m.kind=7:=by rw[hc.2.1,if_neg om]
    have hr:=hc.2.2.2.2;unfold A2.right A2.has at hr;simp only[qH]at hr;have hh:=hr.2.2;rw[hk]at hh
    have hpl:B5 m.pred=true:=by
     revert hh
     simp only;intro hh;simp at hh
     grind
    show D6 2 m.pred=true;unfold D6;rw[if_neg (by decide),hpl];rfl
   .refine⟨MW _ _,?_⟩;show D6 3 (KR _)=true;unfold D6;rw[if_neg (by decide),<-LR,(jq hw).1];rfl
 .exact⟨.refl v,hs⟩
variable {n:Node}
theorem AW:Ak n=true↔(0<=n.clock/\n.clock<=1099511627776)/\0<=n.bad/\(0<=n.next/\n.next<16)/\AS n.view=true/\(n.calls.id=n.view.id/\BG n.calls=true)/\D6 n.phase n.of_=true/\Bo n.keep=true/\Ec n.seen=true/\Md n=true:=by
 unfold Ak;simp only[qH,qJ]
structure jY (n w:Node):Prop where
 view:PW n.view w.view
 clock:w.clock=n.clock
 calls:w.calls=n.calls
 seen:w.seen=n.seen
 last:w.last=n.last
 bad:w.bad=n.bad
 right:Ak n=true->Ak w=true
 keep:Bo n.keep=true->∀y∈n.keep,(Cf w.keep y.key).2=0/\KY y (Cf w.keep y.key).1=false
theorem jY.refl(n:Node):jY n n:=⟨.refl _,rfl,rfl,rfl,rfl,rfl,fun h=>h,fun h _ hy=>Iy h hy⟩
theorem Zv(k:List Item)(j:Job)(h:Bo k=true):Bo (Cr k j).1=true/\∀y∈k,(Cf (Cr k j).1 y.key).2=0/\KY y (Cf (Cr k j).1 y.key).1=false:=by
 unfold Cr;split
 .exact⟨P7 h,fun y hy=>UP h hy⟩
 .split<;>exact⟨h,fun y hy=>Iy h hy⟩
theorem eB{w:Node}(h:w.seen=n.seen)(k:w.view.id=n.view.id):Md w=Md n:=by unfold Md;rw[h,k]
theorem jY.mk'{w:Node}(hv:PW n.view w.view)(h1:w.clock=n.clock)(h2:w.calls=n.calls)(h3:w.seen=n.seen)(h4:w.last=n.last)(h5:w.bad=n.bad)(h6:0<=n.next/\n.next<16->0<=w.next/\w.next<16)(h7:D6 n.phase n.of_=true->D6 w.phase w.of_=true)(h8:Bo n.keep=true->Bo w.keep=true/\∀y∈n.keep,(Cf w.keep y.key).2=0/\KY y (Cf w.keep y.key).1=false):jY n w:=by
 refine⟨hv,h1,h2,h3,h4,h5,fun h=> ?_,fun h=>(h8 h).2⟩;rw[AW]at h|-;obtain⟨a1,a2,a3,a4,a5,a6,a7,a8,a9⟩:=h;exact⟨by rw[h1];exact a1,by rw[h5];exact a2,h6 a3,hv.right a4,by rw[h2,hv.id];exact a5,h7 a6,(h8 a7).1,by rw[h3];exact a8,by rw[eB h3 hv.id];exact a9⟩
theorem iZ{k:Int}(h:0<=k/\k<16):0<=(k+1).tmod 16/\(k+1).tmod 16<16:=by
 rw[Int.tmod_eq_emod_of_nonneg om];omega
structure GOK (n:Node) (why:Int) (c:JC) (w:Node):Prop where
 st:jY n w
 list:w.view.list=n.view.list
 phase:w.phase=n.phase
 of_:w.of_=n.of_
 finger:why≠5->w.finger=n.finger/\w.next=n.next
 mirror:why≠6->w.mirror=n.mirror
 client:why=5\/why=6->w.client=n.client
theorem gz(n:Node):PW n.view (Du n).view/\(Du n).view.list=n.view.list:=by
 unfold Du
 by_cases h:n.finger.code=0
 .simp only[if_pos h];exact⟨lT ..,cQ ..⟩
 .refine⟨?_,by simp only[if_neg h]⟩;simp only[if_neg h];exact .refl _
theorem ov(n:Node)(j:Job):NQ n 5 j={n with finger:=j}:=if_pos rfl
theorem ox(n:Node)(j:Job):NQ n 6 j={n with mirror:=j}:=by unfold NQ;rw[if_neg (by decide),if_pos rfl]
theorem oy(n:Node){why:Int}(j:Job)(h5:why≠5)(h6:why≠6):NQ n why j={n with client:=j}:=by unfold NQ;rw[if_neg h5,if_neg h6]
theorem LN(n:Node)(why:Int)(ended:Bool)(c:JC):GOK n why c (As n why ended c).1:=by
 unfold As
 have hs:Bo n.keep=true->Bo (if c.own then Cr n.keep c.job else(n.keep,c.job)).1=true/\∀y∈n.keep,(Cf (if c.own then Cr n.keep c.job else(n.keep,c.job)).1 y.key).2=0/\KY y (Cf (if c.own then Cr n.keep c.job else(n.keep,c.job)).1 y.key).1=false:=by
  intro h;split
  .exact Zv _ _ h
  .exact⟨h,fun y hy=>Iy h hy⟩
 generalize(if c.own then Cr n.keep c.job else(n.keep,c.job))=s at *;obtain⟨k,j⟩:=s;dsimp only at hs|-
 by_cases h5:why=5
 .subst h5;rw[ov];have hg:=gz {n with keep:=k,finger:=j}
  by_cases hc:(5:Int)=5/\ended=false/\j.phase=5
  .rw[if_pos hc];exact⟨.mk' hg.1 rfl rfl rfl rfl rfl iZ id hs,hg.2,rfl,rfl,fun h=>absurd rfl h,fun _=>rfl,fun _=>rfl⟩
  .rw[if_neg hc];exact⟨.mk' (.refl _) rfl rfl rfl rfl rfl id id hs,rfl,rfl,rfl,fun h=>absurd rfl h,fun _=>rfl,fun _=>rfl⟩
 .rw[if_neg (fun h=>h5 h.1)]
  by_cases h6:why=6
  .subst h6;rw[ox];exact⟨.mk' (.refl _) rfl rfl rfl rfl rfl id id hs,rfl,rfl,rfl,fun _=>⟨rfl,rfl⟩,fun h=>absurd rfl h,fun _=>rfl⟩
  .rw[oy _ _ h5 h6];exact⟨.mk' (.refl _) rfl rfl rfl rfl rfl id id hs,rfl,rfl,rfl,fun _=>⟨rfl,rfl⟩,fun _=>rfl,fun h=>om⟩
theorem Od(n:Node)(c:Call)(m:A2):jY n (BS n c m).1:=by
 unfold BS;split
 .rename_i hr;split
  .have h:=AW.1 hr;have ht:=Y6 (v:=n.view) (m:=m) h.2.2.2.2.2.1;exact .mk' ht.1 rfl rfl rfl rfl rfl id (fun _=>ht.2) (fun hk=>⟨hk,fun y hy=>Iy hk hy⟩)
  .split
   .exact(LN ..).st
   .exact .refl _
 .exact .refl _
theorem R3(n:Node)(why:Int):jY n (Ee n why):=by
 unfold Ee;split
 .split
  .exact .mk' (.refl _) rfl rfl rfl rfl rfl id (fun _=>rfl) (fun hk=>⟨hk,fun y hy=>Iy hk hy⟩)
  .split
   .exact(LN ..).st
   .exact .refl _
 .exact .refl _
abbrev Fz:List Nat:=[0,1,2,3,6,7,8,9,12,19,21,28,29,33]
abbrev Jr:List Nat:=[0,1,4,6,11,13,14,15,16,22,25,26,27,36]
theorem g8(a x b:Int):qB 255 [.i .i64 a,.i .i64 x,.i .i64 b] (.b (PR a x b)):=by
 have c1:=Oe a x b;have c2:=EQ x;have c3:=EQ b;refine zF A4 Tryz.func255 ?_
 cases h:Ir a x b with
 |true=>
  rw[h]at c1;have hT:PR a x b=true:=by unfold PR;rw[h];rfl
  refine wd [0,1,2,6] [] A0 (A6 @c1) ?_;exact Ag hT
 |false=>
  rw[h]at c1;have hT:PR a x b=(Cp x==Cp b):=by unfold PR;rw[h,Dg];rfl
  refine wd [0,1,2,6] [] A0 (C3 @c1 @c2 @c3) ?_;exact Ag hT
theorem Y7(id:Int)(base list:List Int)(pred:Int)(f:Nat->Int)(k:Nat):AV.oks k (vC id base list pred f)=true:=rfl
theorem dN(id:Int)(base list:List Int)(pred:Int)(f:Nat->Int):qC 317 [.d (View.d ⟨id,base,list,pred,f⟩)] [] (.fn (.func 350) [] [.ptr 0 0 20]) [.c (vC id base list pred f)]:=by
 refine zD A4 Tryz.func317 ?_;unfold vC;refine wd [0,1,2] [] A0 A0 ?_;exact⟨_,(A1.ck rfl),qP _,_,_,rfl,rfl,rfl,rfl⟩
theorem gw(id k:Int):qC 316 [.pY id,.pY k] [] (.fn (.func 349) [] [.ptr 0 0 1,.ptr 1 0 1]) [.c [.pY id],.c [.pY k]]:=by
 refine zD A4 Tryz.func316 ?_;refine wd [0,1,2,3,4] [] A0 A0 ?_;exact⟨_,(A1.ck rfl),qP _,_,_,rfl,rfl,rfl,rfl⟩
def VQ(id k q p:Int):Bool:=Ir id q k&&decide (Aa id q>Aa id p)
theorem cZ(id k q p:Int):qC 349 [.pY q,.pY p,.ptr 0 0 1,.ptr 1 0 1] [.c [.pY id],.c [.pY k]] (.pq (VQ id k q p)) [.c [.pY id],.c [.pY k]]:=by
 have c1:=Oe id q k;have c2:=H9 id q;have c3:=H9 id p;refine zD A4 Tryz.func349 ?_
 cases h:Ir id q k with
 |true=>
  rw[h]at c1;have hT:VQ id k q p=decide (Aa id q>Aa id p):=by unfold VQ;rw[h];rfl
  rw[hT];refine wd [0,1,2,3,6] [] A0 (C3 @c1 @c2 @c3) ?_ [(8,7)];exact⟨⟨[(6,.pq (decide (Aa id q>Aa id p)))],_,_⟩,(A1.ck rfl),qG _,_,_,rfl,rfl,rfl,rfl⟩
 |false=>
  rw[h]at c1;have hT:VQ id k q p=false:=by unfold VQ;rw[h];rfl
  rw[hT];refine wd [0,1,2,3,6] [] A0 (C3 @c1 @c2 @c3) ?_;exact⟨⟨[(6,.pq false)],_,_⟩,(A1.ck rfl),qG _,_,_,rfl,rfl,rfl,rfl⟩
theorem gj{f:Nat->Int}{k:Nat}(h:k<16):(DR f)[k]? =some (f k):=by
 rcases dW h with rfl|rfl|rfl|rfl|rfl|rfl|rfl|rfl|rfl|rfl|rfl|rfl|rfl|rfl|rfl|rfl<;>rfl
def Ra(id k p q:Int):Int:=if q != -1 then FX id k p q else p
theorem fold_filter{α:Type}(g:α->Int->α)(c:Int->Bool):∀(l:List Int)(s:α),(l.filter c).foldl g s=l.foldl (fun s x=>if c x then g s x else s) s
 |[],s=>rfl
 |a::l,s=>by
  cases h:c a with
  |true=>rw[List.filter_cons_of_pos h,tV,tV,fold_filter g c l,if_pos h]
  |false=>rw[List.filter_cons_of_neg (by rw[h];simp),tV,fold_filter g c l,if_neg (by rw[h];simp)]
theorem ot(v:View)(k p:Int):(oq v).foldl (FX v.id k) p=(DR v.f).foldl (Ra v.id k) (v.list.foldl (FX v.id k) (FX v.id k p (KR v))):=by
 unfold oq;rw[tV,List.foldl_append,fold_filter];rfl
abbrev hpH(id:Int)(base list:List Int)(pred:Int)(f:Nat->Int)(k p:Int)(r:Lp):List A3:=[.c (vC id base list pred f),.c [.pY p],.c [.pY id],.c [.pY k],.c [.fn (.func 349) [] [.ptr 2 0 1,.ptr 3 0 1]],.c (vC id base list pred f),.lp r]
theorem WQ(v:View)(k:Int)(slow:Bool)(hb:v.base.length<=1000)(hl:v.list.length<=1000):qB 274 [v.d,.i .i64 k,.b slow] (.tup [.i .i64 (FY v k slow).1,.b (FY v k slow).2]):=by
 have c1:=Bg v hb hl;have c2:=Qg v hb hl;have c3:=g8 v.id k (KR v);have c4:=dN v.id v.base v.list v.pred v.f;have c5:=gw v.id k;refine zF A4 Tryz.func274 ?_
 cases h:AS v with
 |false=>
  have hT:FY v k slow=(-1,false):=by unfold FY;rw[h];rfl
  rw[h]at c1;rw[hT];obtain⟨id,base,list,pred,f⟩:=v;refine wd Fz [] A0 (A6 @c1) ?_;exact zE
 |true=>
 rw[h]at c1
 cases hu:PR v.id k (KR v)with
 |true=>
  have hT:FY v k slow=(KR v,true):=by unfold FY;rw[h,hu];rfl
  rw[hu]at c3;rw[hT];generalize KR v=p0 at *;obtain⟨id,base,list,pred,f⟩:=v;refine wd Fz [] A0 (C3 @c1 @c2 @c3) ?_;exact zE
 |false=>
 rw[hu]at c3
 cases slow with
 |true=>
  have hT:FY v k true=(KR v,false):=by unfold FY;rw[h,hu];rfl
  rw[hT];generalize KR v=p0 at *;obtain⟨id,base,list,pred,f⟩:=v;refine wd Fz [] A0 (C3 @c1 @c2 @c3) ?_;exact zE
 |false=>
 have hT:FY v k false=((DR v.f).foldl (Ra v.id k) (v.list.foldl (FX v.id k) (FX v.id k (KR v) (KR v))),false):=by unfold FY;rw[h,hu,ot];rfl
 rw[hT];generalize KR v=p0 at *;obtain⟨id,base,list,pred,f⟩:=v;clear hT h hu;dsimp only at *;have d1:=Ds.mk [] (c4);have d2:=Ds.mk [] (c5);refine wd Fz [] A0 (C3 @c1 @c2 @c3) ?_;clear d2 d1;refine zG (K:=fun r _ H'=>H'=hpH id base list pred f k ((DR f).foldl (Ra id k) (list.foldl (FX id k) (FX id k p0 p0))) r) ?_ ?_
 .intro r hr;have hk:=qQ (Y7 id base list pred f) (hr.ok (k:=6) rfl)
  have hY:∀q p,YT Tryz.prog 6 [.pY q] (hpH id base list pred f k p r) fun x K=>x= .pq true/\K=hpH id base list pred f k (FX id k p q) r:=by
   intro q p;have c6:=cZ id k q p;have hS:FX id k p q=if VQ id k q p then q else p:=rfl
   rw[hS];refine AZ hr rfl rfl rfl ?_
   cases hi:VQ id k q p with
   |true=>
    rw[hi]at c6;refine wd Fz [] A0 A0 ?_;refine zR ?_;have d1:=Ds.mk [2,3] (c6);refine wd Fz [] A0 A0 ?_;clear d1;exact⟨_,A1.refl _,qG _,rfl,rfl,rfl⟩
   |false=>
    rw[hi]at c6;refine wd Fz [] A0 A0 ?_;refine zR ?_;have d1:=Ds.mk [2,3] (c6);refine wd Fz [] A0 A0 ?_;clear d1;exact⟨_,A1.refl _,qG _,rfl,rfl,rfl⟩
  refine zT A4 Tryz.func350 ?_;have q1:=@hY;refine wd Jr [] A0 (A6 @c2) ?_;clear q1;refine Cu (fun j=>j<=list.length) (fun j:Nat=>[(15,.pY j)]) (fun j=>[(1,.c [.pY ((list.take j).foldl (FX id k) (FX id k p0 p0))])]) (fun j=>list.length-j) 0 (qP _) (fun _=>rfl) (fun _=>rfl) ?_ ?_
  .exact A1.ck rfl
  intro j hj
  by_cases hjl:j<list.length
  .obtain⟨q,hq⟩:=AT hjl;have gq:=Cy hq;have hn:(list.take (j+1)).foldl (FX id k) (FX id k p0 p0)=FX id k ((list.take j).foldl (FX id k) (FX id k p0 p0)) q:=by rw[AQ hq,List.foldl_append];rfl
   have q1:=@hY;refine wd Jr [] (A6 gq) A0 ?_;clear q1;with_reducible repeat' first|constructor|intro hc;try simp only[AB]at hc
   refine⟨j+1,hjl,om,qG _,?_⟩;exact(have nC:=hn;A1.cn rfl)
  have e:j=list.length:=om
  subst e;rw[qx];generalize list.foldl (FX id k) (FX id k p0 p0)=p1 at *;refine wd Jr [] A0 A0 ?_;with_reducible repeat' first|constructor|intro hc;try simp only[AB]at hc
  refine Cu (fun j=>j<=16) (fun j:Nat=>[(26,.pY j)]) (fun j=>[(1,.c [.pY (((DR f).take j).foldl (Ra id k) p1)])]) (fun j=>16-j) 0 (qP _) (fun _=>rfl) (fun _=>rfl) ?_ ?_
  .exact A1.ck rfl
  intro j hj
  by_cases hjl:j<16
  .have hn:((DR f).take (j+1)).foldl (Ra id k) p1=if f j != -1 then FX id k (((DR f).take j).foldl (Ra id k) p1) (f j)else((DR f).take j).foldl (Ra id k) p1:=by rw[AQ (gj hjl),List.foldl_append];rfl
   generalize((DR f).take j).foldl (Ra id k) p1=p2 at*
   cases g:f j != -1 with
   |true=>
    rw[g,if_pos rfl]at hn;rcases dW hjl with rfl|rfl|rfl|rfl|rfl|rfl|rfl|rfl|rfl|rfl|rfl|rfl|rfl|rfl|rfl|rfl
    all_goals
     simp only[Nat.reduceAdd]at hn;have q1:=@hY;refine wd Jr [] (A6 g) A0 ?_;clear q1;refine⟨_,hjl,om,qG _,?_⟩;exact(have nC:=hn;A1.cn rfl)
   |false=>
    rw[g,if_neg (by decide)]at hn;rcases dW hjl with rfl|rfl|rfl|rfl|rfl|rfl|rfl|rfl|rfl|rfl|rfl|rfl|rfl|rfl|rfl|rfl
    all_goals
     simp only[Nat.reduceAdd]at hn;have q1:=@hY;refine wd Jr [] (A6 g) A0 ?_;clear q1;refine⟨_,hjl,om,qG _,?_⟩;exact(have nC:=hn;A1.cn rfl)
  .have e16:j=16:=om
   subst e16;refine wd Jr [] A0 A0 ?_;exact⟨_,A1.refl _,qG _,_,_,rfl,rfl,rfl⟩
 .rintro r hr x H' rfl;refine .inl ⟨rfl,?_⟩;generalize(DR f).foldl (Ra id k) (list.foldl (FX id k) (FX id k p0 p0))=p9 at *;refine wd Fz [] A0 A0 ?_;exact zE
end Nd
end Go.Proofs.YtkljbfejbakooaaGreatDoor
namespace Go.Proofs
open Go.Shelf
def Tryz.Rk:Go.Shelf.Ren:=⟨fun|10=>336|6=>361|n=>n,fun|22=>22|23=>3|25=>113|3=>3|4=>4|0=>0|n=>n,fun|n=>n⟩
theorem Tryz.dP:Go.Proofs.SlLaysH.n10 Tryz.prog Tryz.Rk:={
 mixed:=by kernel_rfl
 f6:=⟨Tryz.f361.name,by decide,Tryz.func361.trans (congrArg some (by kernel_rfl))⟩
 f10:=⟨Tryz.f336.name,by decide,Tryz.func336.trans (congrArg some (by kernel_rfl))⟩
 t0:=Tryz.underlying0
 a0:=Tryz.isAgg0
 z0:=Tryz.sizeOf0
 v0:=Tryz.zeroValue0
 t3:=Tryz.underlying3
 a3:=Tryz.isAgg3
 z3:=Tryz.sizeOf3
 v3:=Tryz.zeroValue3
 t4:=Tryz.underlying4
 a4:=Tryz.isAgg4
 z4:=Tryz.sizeOf4
 v4:=Tryz.zeroValue4
 t22:=Tryz.underlying22
 a22:=Tryz.isAgg22
 z22:=Tryz.sizeOf22
 v22:=Tryz.zeroValue22
 a23:=Tryz.isAgg3
 z23:=Tryz.sizeOf3
 t25:=Tryz.underlying113
 a25:=Tryz.isAgg113
 z25:=Tryz.sizeOf113
 v25:=Tryz.zeroValue113}
end Go.Proofs
namespace Go.Proofs.YtkljbfejbakooaaGreatDoor
namespace Nd
open Go.Gar
open Wi (A2 B5 AU A5 B6 mC)
theorem dm{n:Node}(h:Ak n=true):0<=n.next/\n.next<16:=by
 unfold Ak at h;simp only[qH,qJ]at h;exact h.2.2.1
end Nd
end Go.Proofs.YtkljbfejbakooaaGreatDoor
