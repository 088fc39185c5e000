/- Part 29 of a proof. Conditions: those that its theorems state. -/
import Derived.Test.YtamjpnmjpponpaaGreatDoorC27
set_option linter.unusedSimpArgs false
set_option linter.unusedVariables false
set_option maxHeartbeats 40000000
set_option maxRecDepth 4000
namespace Go.Proofs.YtamjpnmjpponpaaGreatDoor
namespace Nd
open Go.Gar
open Wi (AF BV B7 AU Bp mC Cp Bc)
abbrev It:BF:=[0,1,2,3,4,5,6,9,11,12,16]
abbrev R4:BF:=[0,1,4,6,7,8,9,16]
abbrev M6:BF:=[0,1,2,4,5,6,7,13,15,16,19]
theorem cd{α:Type}{p:α->Bool}{x:α}:∀{l:List α}{k:Nat},l[k]? =some x->p x=true->(l.take k).any p=false->l.find? p=some x
 |[],k,h,_,_=>by simp at h
 |a::r,0,h,hp,_=>by
  simp only[q1a,zf]at h;subst h;rw[q1k,hp]
 |a::r,k+1,h,hp,hq=>by
  rw[q1Q]at h;rw[List.take_succ_cons,List.any_cons,Bool.or_eq_false_iff]at hq;rw[q1k,hq.1];exact cd h hp hq.2
theorem qk{α:Type}{p:α->Bool}{l:List α}(h:l.any p=false):l.find? p=none:=by
 rw[List.find?_eq_none];intro x hx hp;rw[q0s]at h;exact h x hx hp
abbrev HF(id Ad:Int)(l:List Al)(Bd:Int)(z:Al)(b:Bool):z6:=[.c [.yO id,.yO Ad,.d (Ag l)],.c [.yQ Bd],.c (Bz z),.c [.yP b],.c [.yO id,.yO Ad,.d (Ag l)]]
theorem kU(c:Calls)(Bd:Int)(hl:∀x∈c.op,Ay x.BD)(hn:c.op.length<=1048576):yS 234 [c.d,.i .u8 Bd] (.tup [(NY c Bd).1.d,.b (NY c Bd).2]):=by
 have c1:=Kl c hl;obtain⟨id,Ad,l⟩:=c;dsimp only at hl hn;have c2:=NN ⟨id,Ad,l⟩;refine zF AE Tryz.func234 ?_
 cases hc:Bw ⟨id,Ad,l⟩with
 |false=>
  have hT:NY ⟨id,Ad,l⟩ Bd=(D7,false):=by unfold NY;rw[hc];rfl
  rw[hT];rw[hc]at c1;unfold Calls.d Calls.A4 Al.d Al.A4 at *;refine AO It ?_ (AK @c1);exact BW (zh @AU.eq_1 @An.eq_1)
 |true=>
 have hT:NY ⟨id,Ad,l⟩ Bd=match l.find? (fun x=>decide (x.Bd=Bd))with
  |some x=>(x,true)
  |none=>(D7,false):=by unfold NY;rw[hc];rfl
 rw[hT];rw[hc]at c1;clear hT hc;unfold Calls.d Calls.A4 at *;refine B6 It ?_ (AK @c1) (BJ [] c2);refine BG (A8.Ux 2 10 (.is []) rfl rfl rfl rfl trivial) sm ?_;refine zG (K:=fun r _ H'=>(l.any (fun x=>decide (x.Bd=Bd))=false/\H'=HF id Ad l Bd D7 false++[.lp r])\/(∃x,l.find? (fun x=>decide (x.Bd=Bd))=some x/\H'=HF id Ad l Bd x true++[.lp (r.left .ret)])) ?_ ?_
 .intro r hr;have hk:=hr.ok (k:=5) rfl;refine zT AE Tryz.func258 ?_;refine A9 R4 ?_;refine C4 (fun k=>k<=l.length/\(l.take k).any (fun x=>decide (x.Bd=Bd))=false) (fun k:Nat=>[(8,.yO k)]) (fun k=>l.length-k) 0 ⟨zi _,rfl⟩ (fun _=>rfl) ?_ ?_
  .exact A8.ck rfl
  rintro k ⟨hkk,hpre⟩
  by_cases hkl:k<l.length
  .obtain⟨x,hx⟩:=Ah hkl;have c3:=K5 x (hl x (q00 hx));have hA:=Hq (p:=fun x:Al=>decide (x.Bd=Bd)) hx;rw[hpre,q0k]at hA;unfold Al.d Al.A4 at c3
   by_cases hb:x.Bd=Bd
   .have f1:=AT hb
    have hY:YT Tryz.prog 5 [.d x.d] (HF id Ad l Bd D7 false++[.lp r,.c (Bz x)]) fun v K=>v= .yP false/\K=HF id Ad l Bd x true++[.lp (r.left .ret),.c (Bz x)]:=by
     refine Ar hr rfl rfl rfl ?_;unfold Al.d Al.A4 HF Bz;simp only[zY,zZ];refine A9 It ?_;refine zR ?_;refine Aj It ?_ (AK f1);exact rEnd rfl (A8.ck rfl)
    unfold Al.d Al.A4 HF Bz at hY;simp only[zY,zZ]at hY;have ix1:=hx;have q1:=@hY;refine AO R4 ?_ (AK @c3);clear q1 ix1;with_reducible repeat' first|constructor|intro hc
    exact⟨⟨[],HF id Ad l Bd x true++[.lp (r.left .ret)],_⟩,(A8.ck rfl),zN _,_,_,rfl,rfl,.inr ⟨x,cd hx (zU hb) hpre,rfl⟩⟩
   .have f1:=eq_false' hb
    have hY:YT Tryz.prog 5 [.d x.d] (HF id Ad l Bd D7 false++[.lp r,.c (Bz x)]) fun v K=>v= .yP true/\K=HF id Ad l Bd D7 false++[.lp r,.c (Bz x)]:=by
     refine Ar hr rfl rfl rfl ?_;unfold Al.d Al.A4 HF Bz;simp only[zY,zZ];refine A9 It ?_;refine zR ?_;refine Aj It ?_ (AK f1);exact pJ rfl (A8.ck rfl)
    unfold Al.d Al.A4 HF Bz at hY;simp only[zY,zZ]at hY;have ix1:=hx;have q1:=@hY;refine AO R4 ?_ (AK @c3);clear q1 ix1;with_reducible repeat' first|constructor|intro hc
    refine⟨k+1,⟨hkl,by rw[hA,zQ hb]⟩,om,zN _,?_⟩;exact A8.ck rfl
  .have e:k=l.length:=om
   subst e;rw[q06]at hpre;refine A9 R4 ?_;with_reducible repeat' first|constructor|intro hc
   exact⟨_,A8.refl _,zN _,_,_,rfl,rfl,.inl ⟨hpre,rfl⟩⟩
 .rintro r hr y H' (⟨h,rfl⟩|⟨x,h,rfl⟩)
  .refine .inl ⟨rfl,?_⟩;rw[qk h];refine A9 It ?_;exact BW (zh @Al.d.eq_1 (zh @Al.A4.eq_1 (zh @AU.eq_1 @An.eq_1)))
  .refine .inr ⟨.ret,rfl,?_⟩;rw[h];unfold HF Bz;simp only[zY,zZ];refine A9 It ?_;exact BW (zh @Al.d.eq_1 @Al.A4.eq_1)
theorem an(v:AG)(x:Int)(hb:v.A6.length<=1000)(hl:v.AB.length<=1000):yS 297 [v.d,.is [x]] (EX v x).d:=by
 have c1:=HS v (q0L hb (by decide)) (q0L hl (by decide));have c2:=Bo v hb hl;obtain⟨id,A6,AB,AH,f⟩:=v;have c3:=fG id A6 AB AH f;have c4:=o4 [x];have c5:=ZI id A6 AB AH f x;refine zF AE Tryz.func297 ?_
 cases h1:Aq ⟨id,A6,AB,AH,f⟩with
 |false=>
  have hT:EX ⟨id,A6,AB,AH,f⟩ x=⟨id,A6,AB,AH,f⟩:=by unfold EX;rw[h1];rfl
  rw[hT];rw[h1]at c2;unfold AG.d AG.A4 vC at *;refine B6 M6 ?_ (Au @c1 @c2) (BJ [2] c3);exact zE
 |true=>
 obtain⟨q,hq⟩:∃q,q=if LQ ⟨id,A6,AB,AH,f⟩ x then x else AH:=⟨_,rfl⟩
 have hT:EX ⟨id,A6,AB,AH,f⟩ x=⟨id,A6,AB,q,f⟩:=by
  unfold EX;rw[h1,hq,q0A];split<;>rfl
 rw[hT];rw[h1]at c2;clear hT h1;unfold AG.d AG.A4 vC at *;refine B6 M6 ?_ (Au @c1 @c2) (H0 [2] c3 [] c4);refine BG (A8.Ux 1 1 (.is []) rfl rfl rfl rfl trivial) sm ?_;refine BG (A8.Ux 1 2 (.is []) rfl rfl rfl rfl trivial) sm ?_;refine zG (K:=fun r _ H'=>H'=[.c (vC id A6 AB AH f),.c (vC 0 [] [] 0 fun _=>0),.c (vC id A6 AB q f),.c [.ptr 2 0 20],.c [.fn (.func 387) [] [.ptr 3 0 1]],.c [.yV ([x])],.lp r]) ?_ ?_
 .intro r hr;have hk:=hr.ok (k:=6) rfl
  have hY:YT Tryz.prog 6 [.yO x] [.c (vC id A6 AB AH f),.c (vC 0 [] [] 0 fun _=>0),.c (vC id A6 AB AH f),.c [.ptr 2 0 20],.c [.fn (.func 387) [] [.ptr 3 0 1]],.c [.yV ([x])],.lp r] fun w K=>w= .yP true/\K=[.c (vC id A6 AB AH f),.c (vC 0 [] [] 0 fun _=>0),.c (vC id A6 AB q f),.c [.ptr 2 0 20],.c [.fn (.func 387) [] [.ptr 3 0 1]],.c [.yV ([x])],.lp r]:=by
   refine Ar hr rfl rfl rfl ?_;unfold vC;refine A9 M6 ?_;refine zR ?_
   cases hB:LQ ⟨id,A6,AB,AH,f⟩ x with
   |true=>
    rw[hB]at c5 hq;rw[zn rfl]at hq;subst hq;refine Ax M6 ?_ (BJ [2,3] c5);exact pJ rfl (A8.ck rfl)
   |false=>
    rw[hB]at c5 hq;rw[zx (by decide)]at hq;subst hq;refine Ax M6 ?_ (BJ [2,3] c5);exact pJ rfl (A8.ck rfl)
  unfold vC at hY;refine zT AE Tryz.func389 ?_;have un:No 2:=trivial;have q1:=@hY;refine A9 [0,1,4,5,6,7,8,14] ?_;clear q1 un;exact⟨_,A8.refl _,zN _,_,_,rfl,rfl,rfl⟩
 .rintro r hr y H' rfl;refine .inl ⟨rfl,?_⟩;unfold vC;refine A9 M6 ?_;exact zE
theorem Sg(j:B9):yS 163 [j.d] (.b (Ku j)):=by
 have hT:Ku j=(decide (j.A5=0)||decide (j.A5=5)):=rfl;rw[hT];refine zF AE Tryz.func163 ?_;unfold B9.d B9.A4
 by_cases h0:j.A5=0
 .have f1:=AT h0;rw[zU h0];refine Aj [0,1,2] ?_ (AK f1);exact zE
 .have f1:=eq_false' h0;rw[zQ h0]
  by_cases h5:j.A5=5
  .have f2:=AT h5;rw[zU h5];refine Aj [0,1,2] ?_ (Au f1 f2);exact zE
  .have f2:=eq_false' h5;rw[zQ h5];refine Aj [0,1,2] ?_ (Au f1 f2);exact zE
end Nd
end Go.Proofs.YtamjpnmjpponpaaGreatDoor
