/- Part 35 of a proof. Conditions: those that its theorems state. -/
import Derived.Test.YtkljbfejbakooaaGreatDoorT33
set_option linter.unusedSimpArgs false
set_option linter.unusedVariables false
set_option maxHeartbeats 40000000
set_option maxRecDepth 4000
namespace Go.Proofs.YtkljbfejbakooaaGreatDoor
namespace Nd
open Go.Gar
open Wi (AC Bp BE AN Bc mC C6 BP)
theorem tp(n:Int):xB 314 [.i .i64 n] (.b (BW n)):=by
 refine zF AF Tryz.func314 ?_;refine wd [0,2] [] A4 A4 ?_;with_reducible repeat' first|constructor|intro hc
 all_goals(refine⟨_,_,rfl,rfl,?_⟩;simp only[Cy];refine congrArg D.b ?_;unfold BW;grind)
theorem dt(id:Int)(AB A8:Ad)(AG:Int)(f:Nat->Int):xC 272 [.ptr 0 0 20] [.c (vC id AB A8 AG f)] (.fn (.func 313) [] [.ptr 1 0 1]) [.c (vC id AB A8 AG f),.c [.ptr 0 0 20]]:=by
 refine zD AF Tryz.func272 ?_;refine wd [0,1,2] [] A4 A4 ?_;exact⟨_,(A6.ck rfl),xA,_,_,rfl,rfl,rfl,rfl⟩
theorem Yu(id:Int)(AB A8:Ad)(AG:Int)(f:Nat->Int)(x:Int):xC 313 [.wo x,.ptr 1 0 1] [.c (vC id AB A8 AG f),.c [.ptr 0 0 20]] (.wu (LQ ⟨id,AB,A8,AG,f⟩ x)) [.c (vC id AB A8 AG f),.c [.ptr 0 0 20]]:=by
 have c1:=tp x;have c2:=Rh AG x id;have hT:LQ ⟨id,AB,A8,AG,f⟩ x=((BW x&&decide (x≠id))&&(decide (AG= -1)||Ee AG x id)):=rfl;rw[hT];refine zD AF Tryz.func313 ?_;unfold vC
 cases h1:BW x with
 |false=>
  rw[h1]at c1;refine wd [0,1,3,14] [] A4 (AM @c1) ?_;exact⟨_,(A6.ck rfl),xA,_,_,rfl,rfl,rfl,rfl⟩
 |true=>
 rw[h1]at c1
 by_cases h2:x=id
 .have f2:=AS h2;rw[xO (show ¬x≠id from fun h=>h h2)];refine wd [0,1,3,14] [] (AM f2) (AM @c1) ?_;exact⟨_,(A6.ck rfl),xA,_,_,rfl,rfl,rfl,rfl⟩
 have f2:=eq_false' h2;rw[xM h2]
 by_cases h3:AG= -1
 .have f3:=AS h3;rw[xM h3];refine wd [0,1,3,14] [] (Ax f2 f3) (AM @c1) ?_;exact⟨_,(A6.ck rfl),xA,_,_,rfl,rfl,rfl,rfl⟩
 .have f3:=eq_false' h3;rw[xO h3];simp only[yF,zJ];generalize Ee AG x id=b at *;refine wd [0,1,3,14] [] (Ax f2 f3) (Ax @c1 @c2) ?_;exact⟨_,(A6.ck rfl),xA,_,_,rfl,rfl,rfl,rfl⟩
theorem mT(l:Ad):xC 273 [.xG l] [] (.fn (.func 315) [] [.ptr 0 0 1]) [.c [.xG l]]:=by
 refine zD AF Tryz.func273 ?_;refine wd [0,1,2] [] A4 A4 ?_;exact⟨_,(A6.ck rfl),xQ _,_,_,rfl,rfl,rfl,rfl⟩
theorem Fl(n:AA)(m:AC)(hn:Fe n)(hm:Am m):xB 118 [n.d,m.d] (.b (D3 n m)):=by
 have c1:=Wi.H9 m;have c2:=Wi.CX m (lm hm);have c3:=Ar n hn;have hT:D3 n m=((m.BN&&m.right)&&(decide (m.dst=n.A7.id)&&Av n)):=rfl;rw[hT];clear hT hn hm;refine zF AF Tryz.func118 ?_;generalize m.BN=a at *;generalize m.right=r at *;generalize Av n=rn at *;unfold Wi.AC.d Wi.AC.A0 AA.d AA.A0 AD.A0 Calls.A0 An.A0 at *;simp only[xX,xY]at*
 cases a with
 |false=>
  refine wd [0,1,2,3,4] [] A4 (AM @c1) ?_;exact zE
 |true=>
 cases r with
 |false=>
  refine wd [0,1,2,3,4] [] A4 (Ax @c1 @c2) ?_;exact zE
 |true=>
 by_cases hd:m.dst=n.A7.id
 .have f1:=AS hd;rw[xM hd]
  cases rn<;>
  .refine wd [0,1,2,3,4] [] (AM f1) (Ci @c1 @c2 @c3) ?_;exact zE
 .have f1:=eq_false' hd;rw[xO hd];refine wd [0,1,2,3,4] [] (AM f1) (Ax @c1 @c2) ?_;exact zE
abbrev It:Aw:=[0,1,2,3,4,5,6,9,11,12,16]
abbrev Qk:Aw:=[0,1,4,6,7,8,9,16]
abbrev MB:Aw:=[0,1,2,4,5,6,7,13,15,16,19]
theorem bh{α:Type}{p:α->Bool}{x:α}:∀{l:List α}{k:Nat},l[k]? =some x->p x=true->(l.take k).any p=false->l.find? p=some x
 |[],k,h,_,_=>by simp at h
 |a::r,0,h,hp,_=>by
  simp only[q0G,xJ]at h;subst h;rw[List.find?_cons,hp]
 |a::r,k+1,h,hp,hq=>by
  rw[q0H]at h;rw[List.take_succ_cons,List.any_cons,q08]at hq;rw[List.find?_cons,hq.1];exact bh h hp hq.2
theorem oc{α:Type}{p:α->Bool}{l:List α}(h:l.any p=false):l.find? p=none:=by
 rw[List.find?_eq_none];intro x hx hp;rw[zM]at h;exact h x hx hp
abbrev HF(id AU:Int)(l:List AW)(BQ:Int)(z:AW)(b:Bool):xS:=[.c [.wo id,.wo AU,.d (Ag l)],.c [.wz BQ],.c (Bi z),.c [.wu b],.c [.wo id,.wo AU,.d (Ag l)]]
theorem jN(c:Calls)(BQ:Int)(hl:∀x∈c.op,Am x.Ao)(hn:c.op.length<=1048576):xB 111 [c.d,.i .u8 BQ] (.tup [(NP c BQ).1.d,.b (NP c BQ).2]):=by
 have c1:=Kk c hl;obtain⟨id,AU,l⟩:=c;dsimp only at hl hn;have c2:=NG ⟨id,AU,l⟩;refine zF AF Tryz.func111 ?_
 cases hc:Bs ⟨id,AU,l⟩with
 |false=>
  have hT:NP ⟨id,AU,l⟩ BQ=(Cn,false):=by unfold NP;rw[hc];rfl
  rw[hT];rw[hc]at c1;unfold Calls.d Calls.A0 AW.d AW.A0 at *;refine wd It [] A4 (AM @c1) ?_ [] true;exact BL (xU @AN.eq_1 @AY.eq_1)
 |true=>
 have hT:NP ⟨id,AU,l⟩ BQ=match l.find? (fun x=>decide (x.BQ=BQ))with
  |some x=>(x,true)
  |none=>(Cn,false):=by unfold NP;rw[hc];rfl
 rw[hT];rw[hc]at c1;clear hT hc;unfold Calls.d Calls.A0 at *;have d1:=Ds.mk [] (c2);refine wd It [] A4 (AM @c1) ?_ [] true;clear d1;refine BC (A6.JF 2 10 (.is []) rfl rfl rfl rfl trivial) sm ?_;refine zG (K:=fun r _ H'=>(l.any (fun x=>decide (x.BQ=BQ))=false/\H'=HF id AU l BQ Cn false++[.lp r])\/(∃x,l.find? (fun x=>decide (x.BQ=BQ))=some x/\H'=HF id AU l BQ x true++[.lp (r.left .ret)])) ?_ ?_
 .intro r hr;have hk:=hr.ok (k:=5) rfl;refine zT AF Tryz.func251 ?_;refine wd Qk [] A4 A4 ?_;refine DD (fun k=>k<=l.length/\(l.take k).any (fun x=>decide (x.BQ=BQ))=false) (fun k:Nat=>[(8,.wo k)]) (fun k=>l.length-k) 0 ⟨xQ _,rfl⟩ (fun _=>rfl) ?_ ?_
  .exact A6.ck rfl
  rintro k ⟨hkk,hpre⟩
  by_cases hkl:k<l.length
  .obtain⟨x,hx⟩:=BB hkl;have c3:=Jy x (hl x (yH hx));have hA:=Gw (p:=fun x:AW=>decide (x.BQ=BQ)) hx;rw[hpre,zJ]at hA;unfold AW.d AW.A0 at c3
   by_cases hb:x.BQ=BQ
   .have f1:=AS hb
    have hY:YT Tryz.prog 5 [.d x.d] (HF id AU l BQ Cn false++[.lp r,.c (Bi x)]) fun v K=>v= .wu false/\K=HF id AU l BQ x true++[.lp (r.left .ret),.c (Bi x)]:=by
     refine BD hr rfl rfl rfl ?_;unfold AW.d AW.A0 HF Bi;simp only[xX,xY];refine wd It [] A4 A4 ?_ [] true;refine zR ?_;refine wd It [] (AM f1) A4 ?_ [] true;exact rEnd rfl (A6.ck rfl)
    unfold AW.d AW.A0 HF Bi at hY;simp only[xX,xY]at hY;have ix1:=hx;have q1:=@hY;refine wd Qk [] A4 (AM @c3) ?_;clear q1 ix1;with_reducible repeat' first|constructor|intro hc
    exact⟨⟨[],HF id AU l BQ x true++[.lp (r.left .ret)],_⟩,(A6.ck rfl),xH _,_,_,rfl,rfl,.inr ⟨x,bh hx (xM hb) hpre,rfl⟩⟩
   .have f1:=eq_false' hb
    have hY:YT Tryz.prog 5 [.d x.d] (HF id AU l BQ Cn false++[.lp r,.c (Bi x)]) fun v K=>v= .wu true/\K=HF id AU l BQ Cn false++[.lp r,.c (Bi x)]:=by
     refine BD hr rfl rfl rfl ?_;unfold AW.d AW.A0 HF Bi;simp only[xX,xY];refine wd It [] A4 A4 ?_ [] true;refine zR ?_;refine wd It [] (AM f1) A4 ?_ [] true;exact gr rfl (A6.ck rfl)
    unfold AW.d AW.A0 HF Bi at hY;simp only[xX,xY]at hY;have ix1:=hx;have q1:=@hY;refine wd Qk [] A4 (AM @c3) ?_;clear q1 ix1;with_reducible repeat' first|constructor|intro hc
    refine⟨k+1,⟨hkl,by rw[hA,xO hb]⟩,om,xH _,?_⟩;exact A6.ck rfl
  .have e:k=l.length:=om
   subst e;rw[yD]at hpre;refine wd Qk [] A4 A4 ?_;with_reducible repeat' first|constructor|intro hc
   exact⟨_,A6.refl _,xH _,_,_,rfl,rfl,.inl ⟨hpre,rfl⟩⟩
 .rintro r hr y H' (⟨h,rfl⟩|⟨x,h,rfl⟩)
  .refine .inl ⟨rfl,?_⟩;rw[oc h];refine wd It [] A4 A4 ?_ [] true;exact BL (xU @AW.d.eq_1 (xU @AW.A0.eq_1 (xU @AN.eq_1 @AY.eq_1)))
  .refine .inr ⟨.ret,rfl,?_⟩;rw[h];unfold HF Bi;simp only[xX,xY];refine wd It [] A4 A4 ?_ [] true;exact BL (xU @AW.d.eq_1 @AW.A0.eq_1)
theorem Zz(v:AD)(x:Int)(hb:v.AB.length<=1000)(hl:v.A8.length<=1000):xB 187 [v.d,.is [x]] (Eg v x).d:=by
 have c1:=Hk v (zB hb (by decide)) (zB hl (by decide));have c2:=BV v hb hl;obtain⟨id,AB,A8,AG,f⟩:=v;have c3:=dt id AB A8 AG f;have c4:=mT [x];have c5:=Yu id AB A8 AG f x;refine zF AF Tryz.func187 ?_
 cases h1:Al ⟨id,AB,A8,AG,f⟩with
 |false=>
  have hT:Eg ⟨id,AB,A8,AG,f⟩ x=⟨id,AB,A8,AG,f⟩:=by unfold Eg;rw[h1];rfl
  rw[hT];rw[h1]at c2;unfold AD.d AD.A0 vC at *;have d1:=Ds.mk [2] (c3);refine wd MB [] A4 (Ax @c1 @c2) ?_ [] true;clear d1;exact zE
 |true=>
 obtain⟨q,hq⟩:∃q,q=if LQ ⟨id,AB,A8,AG,f⟩ x then x else AG:=⟨_,rfl⟩
 have hT:Eg ⟨id,AB,A8,AG,f⟩ x=⟨id,AB,A8,q,f⟩:=by
  unfold Eg;rw[h1,hq,yF];split<;>rfl
 rw[hT];rw[h1]at c2;clear hT h1;unfold AD.d AD.A0 vC at *;have d1:=Ds.mk [2] (c3);have d2:=Ds.mk [] (c4);refine wd MB [] A4 (Ax @c1 @c2) ?_ [] true;clear d2 d1;refine BC (A6.JF 1 1 (.is []) rfl rfl rfl rfl trivial) sm ?_;refine BC (A6.JF 1 2 (.is []) rfl rfl rfl rfl trivial) sm ?_;refine zG (K:=fun r _ H'=>H'=[.c (vC id AB A8 AG f),.c (vC 0 [] [] 0 fun _=>0),.c (vC id AB A8 q f),.c [.ptr 2 0 20],.c [.fn (.func 313) [] [.ptr 3 0 1]],.c [.xG ([x])],.lp r]) ?_ ?_
 .intro r hr;have hk:=hr.ok (k:=6) rfl
  have hY:YT Tryz.prog 6 [.wo x] [.c (vC id AB A8 AG f),.c (vC 0 [] [] 0 fun _=>0),.c (vC id AB A8 AG f),.c [.ptr 2 0 20],.c [.fn (.func 313) [] [.ptr 3 0 1]],.c [.xG ([x])],.lp r] fun w K=>w= .wu true/\K=[.c (vC id AB A8 AG f),.c (vC 0 [] [] 0 fun _=>0),.c (vC id AB A8 q f),.c [.ptr 2 0 20],.c [.fn (.func 313) [] [.ptr 3 0 1]],.c [.xG ([x])],.lp r]:=by
   refine BD hr rfl rfl rfl ?_;unfold vC;refine wd MB [] A4 A4 ?_ [] true;refine zR ?_
   cases hB:LQ ⟨id,AB,A8,AG,f⟩ x with
   |true=>
    rw[hB]at c5 hq;rw[if_pos rfl]at hq;subst hq;have d1:=Ds.mk [2,3] (c5);refine wd MB [] A4 A4 ?_ [] true;clear d1;exact gr rfl (A6.ck rfl)
   |false=>
    rw[hB]at c5 hq;rw[if_neg (by decide)]at hq;subst hq;have d1:=Ds.mk [2,3] (c5);refine wd MB [] A4 A4 ?_ [] true;clear d1;exact gr rfl (A6.ck rfl)
  unfold vC at hY;refine zT AF Tryz.func315 ?_;have un:No 2:=trivial;have q1:=@hY;refine wd [0,1,4,5,6,7,8,14] [] A4 A4 ?_;clear q1 un;exact⟨_,A6.refl _,xH _,_,_,rfl,rfl,rfl⟩
 .rintro r hr y H' rfl;refine .inl ⟨rfl,?_⟩;unfold vC;refine wd MB [] A4 A4 ?_ [] true;exact zE
theorem SB(j:An):xB 51 [j.d] (.b (Ko j)):=by
 have hT:Ko j=(decide (j.A5=0)||decide (j.A5=5)):=rfl;rw[hT];refine zF AF Tryz.func51 ?_;unfold An.d An.A0
 by_cases h0:j.A5=0
 .have f1:=AS h0;rw[xM h0];refine wd [0,1,2] [] (AM f1) A4 ?_;exact zE
 .have f1:=eq_false' h0;rw[xO h0]
  by_cases h5:j.A5=5
  .have f2:=AS h5;rw[xM h5];refine wd [0,1,2] [] (Ax f1 f2) A4 ?_;exact zE
  .have f2:=eq_false' h5;rw[xO h5];refine wd [0,1,2] [] (Ax f1 f2) A4 ?_;exact zE
abbrev aH(n:AA)(m t:AC):xS:=[.c (B9 n),.c [.ptr 0 0 76],.c (mX m),.c (mX t)]
abbrev aMap:xT:=[(.i .u8 1,.fn (.func 184) [] [.ptr 1 0 1,.ptr 3 0 15]),(.i .u8 2,.fn (.func 185) [] [.ptr 3 0 15]),(.i .u8 3,.fn (.func 186) [] [.ptr 1 0 1,.ptr 2 0 15,.ptr 3 0 15]),(.i .u8 4,.fn (.func 188) [] [.ptr 1 0 1,.ptr 2 0 15]),(.i .u8 5,.fn (.func 190) [] [.ptr 1 0 1,.ptr 2 0 15,.ptr 3 0 15]),(.i .u8 6,.fn (.func 192) [] [.ptr 1 0 1,.ptr 2 0 15,.ptr 3 0 15])]
theorem GW(n:AA)(m:AC):xC 120 [.ptr 0 0 76,.d m.d] [.c (B9 n)] (.mp 4) (aH n m (CV m)++[.m aMap]):=by
 have c1:=dJ m;refine zC AF Tryz.func120 ?_;unfold aH;unfold Wi.AC.d Wi.AC.A0 at *;simp only[xX,xY];refine wd [0,1,2,3,4,5] [] A4 (AM @c1) ?_;exact Hc
theorem rm(n:AA)(m t:AC)(hl:n.A7.A8.length<=1000):xC 184 [.ptr 1 0 1,.ptr 3 0 15] (aH n m t) (.d (Wi.AC.d {t with AG:=n.A7.AG,A8:=n.A7.A8})) (aH n m {t with AG:=n.A7.AG,A8:=n.A7.A8}):=by
 have c1:=LS n.A7.A8 om;refine zC AF Tryz.func184 ?_;refine wd [0,1,2] [] A4 (AM @c1) ?_;exact Hc
theorem rp(t:AC):xC 185 [.ptr 0 0 15] [.c (mX t)] (.d t.d) [.c (mX t)]:=by
 refine zC AF Tryz.func185 ?_;refine wd [0,1] [] A4 A4 ?_;exact Hc
theorem rq(n:AA)(m t:AC)(hb:n.A7.AB.length<=1000)(hl:n.A7.A8.length<=1000):xC 186 [.ptr 1 0 1,.ptr 2 0 15,.ptr 3 0 15] (aH n m t) (.d t.d) (aH {n with A7:=Eg n.A7 m.As} m t):=by
 have c1:=Zz n.A7 m.As hb hl;generalize Eg n.A7 m.As=w at *;refine zC AF Tryz.func186 ?_;unfold AD.d AD.A0 at c1;refine wd [0,1,2,3] [] A4 (AM @c1) ?_ [(0,7),(1,7),(2,7),(3,7),(4,7)];exact Hc
theorem rt(n:AA)(m t:AC)(hb:n.A7.AB.length<=1000)(hl:n.A7.A8.length<=1000)(hm:Am m):xC 188 [.ptr 1 0 1,.ptr 2 0 15] (aH n m t) (.d (Oj n.A7 m).d) (aH n m t):=by
 have c1:=pA n.A7 m hb hl hm;generalize Oj n.A7 m=w at *;refine zC AF Tryz.func188 ?_;unfold AD.d AD.A0 Wi.AC.d Wi.AC.A0 at c1;refine wd [0,1,2] [] A4 (AM @c1) ?_;exact Hc
theorem ru(n:AA)(m t:AC)(hn:n.keep.length<=1048576):xC 190 [.ptr 1 0 1,.ptr 2 0 15,.ptr 3 0 15] (aH n m t) (.d (Wi.AC.d {t with AQ:=(FI n.keep m.A9).2})) (aH {n with keep:=(FI n.keep m.A9).1} m {t with AQ:=(FI n.keep m.A9).2}):=by
 have c1:=cK n.keep m.A9 hn;generalize FI n.keep m.A9=w at *;obtain⟨w1,w2⟩:=w;refine zC AF Tryz.func190 ?_;unfold AK.d AK.A0 at c1;dsimp only at c1|-;refine wd [0,1,2,3] [] A4 (AM @c1) ?_;exact Hc
theorem rx(n:AA)(m t:AC)(hn:n.keep.length<=1048576):xC 192 [.ptr 1 0 1,.ptr 2 0 15,.ptr 3 0 15] (aH n m t) (.d (Wi.AC.d {t with A9:=(E6 n.keep m.A9.AH).1,AQ:=(E6 n.keep m.A9.AH).2})) (aH n m {t with A9:=(E6 n.keep m.A9.AH).1,AQ:=(E6 n.keep m.A9.AH).2}):=by
 have c1:=cH n.keep m.A9.AH hn;generalize E6 n.keep m.A9.AH=w at *;obtain⟨w1,w2⟩:=w;refine zC AF Tryz.func192 ?_;unfold AK.d AK.A0 at c1;dsimp only at c1|-;refine wd [0,1,2,3] [] A4 (AM @c1) ?_;exact Hc
end Nd
end Go.Proofs.YtkljbfejbakooaaGreatDoor
