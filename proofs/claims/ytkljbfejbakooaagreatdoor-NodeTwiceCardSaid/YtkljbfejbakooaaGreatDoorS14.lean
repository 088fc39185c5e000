/- Part 14 of a proof. Conditions: those that its theorems state. -/
import Derived.Test.YtkljbfejbakooaaGreatDoorS06
import Derived.Test.YtkljbfejbakooaaGreatDoorS12
set_option linter.unusedSimpArgs false
set_option linter.unusedVariables false
set_option maxHeartbeats 40000000
set_option maxRecDepth 4000
namespace Go.Proofs.YtkljbfejbakooaaGreatDoor
namespace Wi
open Go.Gar
abbrev Ho:List Nat:=[0,1,4,5,6,8,9,10,11,12,22,23,24,25,31]
def CP(b:Bool):Int:=if b then 1 else 0
theorem V2(b:Bool):qB 321 [.b b] (.i .i64 (CP b)):=by
 refine zF A4 Tryz.func321 ?_;cases b
 .refine wd [0,2,3] [] A0 A0 ?_;exact Ag @CP.eq_1
 .refine wd [0,2,3] [] A0 A0 ?_;exact Ag @CP.eq_1
theorem GC(c:Int):qB 310 [.i .i64 0,.i .i64 c] (.tup []):=by
 refine zF A4 Tryz.func310 ?_;refine wd [0,1,5] [] A0 A0 ?_;exact zE
def pF(n:Int):List PanicEntry:=[{v:=.iface 224 (.agg #[.int .i64 n]),recovered:=false}]
theorem OP(e c:Int)(h:e≠0):KJ Tryz.prog 310 [.pY e,.pY c] [] (pF c) []:=by
 have f:=BJ h;refine zX A4 Tryz.func310 ?_;refine wx [0,1,5] [] (A6 f) A0 ?_;exact⟨rfl,⟨[],[],_⟩,(A1.ck rfl),qG _,rfl⟩
theorem Va(l:List Int):qC 319 [.qF l] [] (.fn (.func 354) [] [.ptr 0 0 1]) [.c [.qF l]]:=by
 refine zD A4 Tryz.func319 ?_;refine wd [0,1,2] [] A0 A0 ?_;exact⟨_,(A1.ck rfl),qP _,_,_,rfl,rfl,rfl,rfl⟩
theorem ofNat_toNat(d:UInt8):UInt8.ofNat ((d.toNat:Int)).toNat=d:=by simp
def wH(o:List UInt8):List A3:=[.c [.sl 1 o.length 1],.a (.by o)]
def wL(l:List Int)(o:List UInt8)(r:Lp):List A3:=[.c [.sl 1 o.length 1],.a (.by o),.c [.ptr 0 0 1],.c [.qF l],.lp r]
theorem IE(l:List Int)(o:List UInt8)(hf:l.all fits=true)(hl:l.length<=1000)(ho:o.length<=1000000):
  qC 277 [.ptr 0 0 1,.qF l] (wH o) (.tup []) (wH (o++A7 l)):=by
 refine zD A4 Tryz.func277 ?_;unfold wH;have d1:=Ds.mk [] (Va l);refine wd [0,1,2,4,6,7] [] A0 A0 ?_;clear d1;refine zG (K:=fun r _ H'=>H'=wL l (o++A7 l) r) ?_ ?_
 .intro r hr;have hk:=hr.ok (k:=4) rfl
  have hY:∀(p:List UInt8)(d:UInt8),p.length<=2000000->YT Tryz.prog 4 [.pz d.toNat] (wL l p r) fun x K=>x= .pq true/\K=wL l (p++[d]) r:=by
   intro p d hp;have hd:=d.toNat_lt;unfold wL;refine AZ hr rfl rfl rfl ?_;refine wd [0,1,2,4,6,7] [] A0 A0 ?_;refine zR ?_;refine wd [0,1,2,4,6,7] [] A0 A0 ?_ [(0,7),(8,7),(9,7)];refine⟨_,A1.refl _,qG _,rfl,rfl,?_⟩;simp[ofNat_toNat]
  refine zT A4 Tryz.func354 ?_;have hz:=hY;unfold wL at hz|-;refine wd Ho [] A0 A0 ?_;refine An (fun k=>k<=l.length) (fun k:Nat=>⟨[(0,.yl 4),(1,.ptr 3 0 1),(9,.qF l),(10,.pY l.length),(11,.pY k)],wL l (o++A7 (l.take k)) r,34⟩) (fun k=>l.length-k) 0 (qP _) ?_ (qG _) ?_
  .unfold wL;exact(have nC:=@A7.eq_1;A1.co rfl)
  intro k hkk;unfold wL
  by_cases hkl:k<l.length
  .have hfk:fits (l.getD k 0)=true:=by
    rw[sK]at hf;apply hf;rw[qW,qK hkl];exact uV hkl
   have hpf:(l.take k).all fits=true:=by
    rw[sK]at hf|-;exact fun x hx=>hf x (List.mem_of_mem_take hx)
   have hl1:=EH _ hpf;have hl2:(l.take k).length<=1000:=by rw[rM];omega
   obtain⟨m,hm,hm'⟩:=HW hfk;have hn:=Bd m hm';have hput:=mQ (l.getD k 0);have hde:=GC 2;have e:Lc (l.getD k 0)=(BP m,0):=by unfold Lc;rw[hfk,hm];rfl
   rw[e]at hput;refine wd Ho [] A0 (AX @hput @hde) ?_;with_reducible repeat' first|constructor|intro hc;try simp only[AB]at hc
   refine An (fun j=>j<=(BP m).length) (fun j:Nat=>⟨[(0,.yl 4),(1,.ptr 3 0 1),(9,.qF l),(10,.pY l.length),(11,.pY k),(22,.d (.by (BP m))),(23,.pY ((BP m).length)),(24,.pY j)],wL l (o++A7 (l.take k)++(BP m).take j) r,34⟩) (fun j=>(BP m).length-j) 0 (qP _) ?_ (qG _) ?_
   .unfold wL;exact(have nC:=trivial;A1.co rfl)
   intro j hj
   by_cases hjl:j<(BP m).length
   .have hy:=hz (o++A7 (l.take k)++(BP m).take j) ((BP m).getD j 0) (by simp only[qj,rM];omega)
    have ej:(BP m).take (j+1)=(BP m).take j++[(BP m).getD j 0]:=by
     rw[rU hjl,qW,qK hjl];rfl
    unfold wL;have q1:=@hy;refine wd Ho [] A0 A0 ?_;clear q1;with_reducible repeat' first|constructor|intro hc;try simp only[AB]at hc
    refine⟨j+1,hjl,om,qG _,?_⟩;exact(have nC:=ej;A1.co rfl)
   .have ej:(BP m).take j=BP m:=sS om;have ek:A7 (l.take (k+1))=A7 (l.take k)++BP m:=by rw[E6 hkl,hm,Int.toNat_natCast]
    unfold wL;refine wd Ho [] A0 A0 ?_;with_reducible repeat' first|constructor|intro hc;try simp only[AB]at hc
    refine⟨k+1,hkl,om,qG _,?_⟩;exact(have nC:=qQ ek ej;A1.co rfl)
  .have e:k=l.length:=om
   subst e;rw[qx];refine wd Ho [] A0 A0 ?_;with_reducible repeat' first|constructor|intro hc;try simp only[AB]at hc
   exact⟨_,A1.refl _,qG _,_,_,rfl,rfl,rfl⟩
 .rintro r hr x H' rfl;refine .inl ⟨rfl,?_⟩;unfold wL;refine wd [0,1,2,4,6,7] [] A0 A0 ?_;exact⟨⟨[],wH (o++A7 l),Tryz.f277.ntmps⟩,(A1.ck rfl),qG _,_,_,rfl,rfl,rfl,rfl⟩
def BZ(s:List UInt8):List UInt8:=UInt8.ofNat s.length::s
theorem Um(s o:List UInt8)(hs:s.length<=255)(ho:o.length<=1000000):
  qC 325 [.ptr 0 0 1,.qE s] (wH o) (.tup []) (wH (o++BZ s)):=by
 have ht:=jP s;have e:textS s=(UInt8.ofNat s.length::s,0):=by unfold textS;rw[if_neg om]
 rw[e]at ht;refine zD A4 Tryz.func325 ?_;unfold wH;refine wd [0,1,4,5] [] A0 (AX @ht (GC 2)) ?_;exact⟨⟨[],wH (o++BZ s),Tryz.f325.ntmps⟩,(A1.ck rfl),qG _,_,_,rfl,rfl,rfl,rfl⟩
theorem dR(l:List Int)(o:List UInt8)(hl:l.length<=255)(hf:l.all fits=true)(ho:o.length<=1000000):
  qC 327 [.ptr 0 0 1,.qF l] (wH o) (.tup []) (wH (o++(UInt8.ofNat l.length::A7 l))):=by
 have ht:=list_fn l;have e:Gw l=(UInt8.ofNat l.length::A7 l,0):=by unfold Gw;rw[if_neg om,if_pos hf]
 have hn:=EH l hf;rw[e]at ht;refine zD A4 Tryz.func327 ?_;unfold wH;refine wd [0,1,4,5] [] A0 (AX @ht (GC 2)) ?_;exact⟨⟨[],wH (o++(UInt8.ofNat l.length::A7 l)),Tryz.f327.ntmps⟩,(A1.ck rfl),qG _,_,_,rfl,rfl,rfl,rfl⟩
def BM(x:Item):List UInt8:=BZ x.key++A7 [x.value,x.version,CP x.gone]
theorem D5(b:Bool):fits (CP b)=true:=by cases b<;>rfl
theorem UK(x:Item)(o:List UInt8)(hs:x.key.length<=255)(h1:fits x.value=true)(h2:fits x.version=true)(ho:o.length<=100000):
  qC 323 [.ptr 0 0 1,.d x.d] (wH o) (.tup []) (wH (o++BM x)):=by
 obtain⟨k,v,n,g⟩:=x;have ht:=Um k o hs om;have hp:=IE [v,n,CP g] (o++BZ k) (by simp only[sH,tY,D5,uM];rw[h1,h2];rfl) sm (by simp only[BZ,qj,qY];simp at hs;omega);have hb:=V2 g;refine zD A4 Tryz.func323 ?_;unfold wH at *;have d1:=Ds.mk [0,1] (ht);have d2:=Ds.mk [0,1] (hp);refine wd [0,1,3] [] A0 (A6 @hb) ?_;clear d2 d1;exact⟨⟨[],wH (o++BZ k++A7 [v,n,CP g]),Tryz.f323.ntmps⟩,(A1.ck rfl),qG _,_,_,rfl,rfl,rfl,by simp only[wH,BM,qm]⟩
def kH(m:A2)(o:List UInt8):List A3:=[.c [.ptr 2 0 1],.c (mC m),.c [.sl 3 o.length 1],.a (.by o)]
def BI(m:A2):List UInt8:=
 if m.kind=4 then A7 [m.key,CP m.slow]else
 if m.kind=5 then BM m.item else
 if m.kind=6 then BZ m.item.key else
 if m.kind=7 then A7 [m.pred+1]++(UInt8.ofNat m.list.length::A7 m.list)else
 if m.kind=10 then A7 [m.place,CP m.done]else
 if m.kind=11 then A7 [m.code]else
 if m.kind=12 then A7 [m.code]++(if m.code=0 then BM m.item else[])else[]
theorem nJ(m:A2)(o:List UInt8)(h:fits m.key=true)(ho:o.length<=100000):qC 320 [.ptr 0 0 1,.ptr 1 0 15] (kH m o) (.tup []) (kH m (o++A7 [m.key,CP m.slow])):=by
 have hp:=IE [m.key,CP m.slow] o (by simp only[sH,tY,D5,uM];exact h) sm om;have hb:=V2 m.slow;refine zD A4 Tryz.func320 ?_;unfold kH mC wH at *;have d1:=Ds.mk [2,3] (hp);refine wd [0,1] [] A0 (A6 @hb) ?_;clear d1;exact⟨_,A1.refl _,qG _,_,_,rfl,rfl,rfl,rfl⟩
theorem nN(m:A2)(o:List UInt8)(h:fits m.place=true)(ho:o.length<=100000):qC 328 [.ptr 0 0 1,.ptr 1 0 15] (kH m o) (.tup []) (kH m (o++A7 [m.place,CP m.done])):=by
 have hp:=IE [m.place,CP m.done] o (by simp only[sH,tY,D5,uM];exact h) sm om;have hb:=V2 m.done;refine zD A4 Tryz.func328 ?_;unfold kH mC wH at *;have d1:=Ds.mk [2,3] (hp);refine wd [0,1] [] A0 (A6 @hb) ?_;clear d1;exact⟨_,A1.refl _,qG _,_,_,rfl,rfl,rfl,rfl⟩
theorem nK(m:A2)(o:List UInt8)(hs:m.item.key.length<=255)(h1:fits m.item.value=true)(h2:fits m.item.version=true)(ho:o.length<=100000):qC 322 [.ptr 0 0 1,.ptr 1 0 15] (kH m o) (.tup []) (kH m (o++BM m.item)):=by
 have hp:=UK m.item o hs h1 h2 ho;refine zD A4 Tryz.func322 ?_;unfold kH mC wH at *;have d1:=Ds.mk [2,3] (hp);refine wd [0,1] [] A0 A0 ?_;clear d1;exact⟨_,A1.refl _,qG _,_,_,rfl,rfl,rfl,rfl⟩
theorem nL(m:A2)(o:List UInt8)(hs:m.item.key.length<=255)(ho:o.length<=100000):qC 324 [.ptr 0 0 1,.ptr 1 0 15] (kH m o) (.tup []) (kH m (o++BZ m.item.key)):=by
 have hp:=Um m.item.key o hs om;refine zD A4 Tryz.func324 ?_;unfold kH mC wH at *;have d1:=Ds.mk [2,3] (hp);refine wd [0,1] [] A0 A0 ?_;clear d1;exact⟨_,A1.refl _,qG _,_,_,rfl,rfl,rfl,rfl⟩
theorem nM(m:A2)(o:List UInt8)(h:fits (m.pred+1)=true)(hl:m.list.length<=255)(hf:m.list.all fits=true)(ho:o.length<=100000):
  qC 326 [.ptr 0 0 1,.ptr 1 0 15] (kH m o) (.tup []) (kH m (o++A7 [m.pred+1]++(UInt8.ofNat m.list.length::A7 m.list))):=by
 have hp:=IE [m.pred+1] o (by simp only[sH,tY,uM];exact h) sm om;have hn:=EH [m.pred+1] (by simp only[sH,tY,uM];exact h);have hp2:=dR m.list (o++A7 [m.pred+1]) hl hf (by simp only[qj];simp only[qY,qy]at hn;omega);have hb: -1<=m.pred/\m.pred<=1099511627776:=by simp[fits]at h;omega
 refine zD A4 Tryz.func326 ?_;unfold kH mC wH at *;have d1:=Ds.mk [2,3] (hp);have d2:=Ds.mk [2,3] (hp2);refine wd [0,1] [] A0 A0 ?_;clear d2 d1;exact⟨_,A1.refl _,qG _,_,_,rfl,rfl,rfl,rfl⟩
theorem nO(m:A2)(o:List UInt8)(h:fits m.code=true)(ho:o.length<=100000):qC 329 [.ptr 0 0 1,.ptr 1 0 15] (kH m o) (.tup []) (kH m (o++A7 [m.code])):=by
 have hp:=IE [m.code] o (by simp only[sH,tY,uM];exact h) sm om;refine zD A4 Tryz.func329 ?_;unfold kH mC wH at *;have d1:=Ds.mk [2,3] (hp);refine wd [0,1] [] A0 A0 ?_;clear d1;exact⟨_,A1.refl _,qG _,_,_,rfl,rfl,rfl,rfl⟩
theorem nP(m:A2)(o:List UInt8)(h:fits m.code=true)(hI:m.code=0->m.item.key.length<=255/\fits m.item.value=true/\fits m.item.version=true)(ho:o.length<=10000):
  qC 330 [.ptr 0 0 1,.ptr 1 0 15] (kH m o) (.tup []) (kH m (o++(A7 [m.code]++(if m.code=0 then BM m.item else[])))):=by
 have hp:=IE [m.code] o (by simp only[sH,tY,uM];exact h) sm om;have hn:=EH [m.code] (by simp only[sH,tY,uM];exact h);simp only[qY,qy]at hn;refine zD A4 Tryz.func330 ?_
 by_cases hc0:m.code=0
 .obtain⟨a1,a2,a3⟩:=hI hc0;have hp2:=UK m.item (o++A7 [m.code]) a1 a2 a3 (by simp only[qj];omega);have f:=A9 hc0;rw[if_pos hc0,<-qm];unfold kH mC wH at *;have d1:=Ds.mk [2,3] (hp);have d2:=Ds.mk [2,3] (hp2);refine wd [0,1,9] [] (A6 f) A0 ?_;clear d2 d1;exact⟨_,A1.refl _,qG _,_,_,rfl,rfl,rfl,rfl⟩
 .have f:=eq_false' hc0;rw[if_neg hc0,rJ];unfold kH mC wH at *;have d1:=Ds.mk [2,3] (hp);refine wd [0,1,9] [] (A6 f) A0 ?_;clear d1;exact⟨_,A1.refl _,qG _,_,_,rfl,rfl,rfl,rfl⟩
end Wi
end Go.Proofs.YtkljbfejbakooaaGreatDoor
