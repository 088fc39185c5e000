/- Part 11 of a proof. Conditions: those that its theorems state. -/
import Derived.Test.YtamjpnmjpponpaaGreatDoorC09
import Derived.Test.YtamjpnmjpponpaaGreatDoorC10
set_option linter.unusedSimpArgs false
set_option linter.unusedVariables false
set_option maxHeartbeats 40000000
set_option maxRecDepth 4000
namespace Go.Proofs.YtamjpnmjpponpaaGreatDoor
namespace Wi
open Go.Gar
def O9(s:AL):AL:=UInt8.ofNat s.length::s
theorem Yk(s o:AL)(hs:s.length<=255)(ho:o.length<=1000000):
  yT 399 [.ptr 0 0 1,.yU s] (wH o) (.tup []) (wH (o++O9 s)):=by
 have ht:=sV s;have e:textS s=(UInt8.ofNat s.length::s,0):=by unfold textS;rw[zx om]
 rw[e]at ht;refine zD AE Tryz.func399 ?_;unfold wH;refine AO [0,1,4,5] ?_ (Au @ht (HY 2));exact wE
theorem mw(l:Ai)(o:AL)(hl:l.length<=255)(hf:l.all fits=true)(ho:o.length<=1000000):
  yT 401 [.ptr 0 0 1,.yV l] (wH o) (.tup []) (wH (o++(UInt8.ofNat l.length::Bi l))):=by
 have ht:=list_fn l;have e:SU l=(UInt8.ofNat l.length::Bi l,0):=by unfold SU;rw[zx om,zn hf]
 have hn:=Ha l hf;rw[e]at ht;refine zD AE Tryz.func401 ?_;unfold wH;refine AO [0,1,4,5] ?_ (Au @ht (HY 2));exact wE
def Q2(x:AS):AL:=O9 x.AI++Bi [x.B4,x.AZ,MF x.gone]
theorem S5(b:Bool):fits (MF b)=true:=by cases b<;>rfl
theorem YB(x:AS)(o:AL)(hs:x.AI.length<=255)(h1:fits x.B4=true)(h2:fits x.AZ=true)(ho:o.length<=100000):
  yT 397 [.ptr 0 0 1,.d x.d] (wH o) (.tup []) (wH (o++Q2 x)):=by
 obtain⟨k,v,n,g⟩:=x;have ht:=Yk k o hs om;have hp:=K9 [v,n,MF g] (o++O9 k) (by simp only[q15,q1Z,S5,q1G];rw[h1,h2];rfl) sm (by simp only[O9,q04,q02];simp at hs;omega);have hb:=ZJ g;refine zD AE Tryz.func397 ?_;unfold wH at *;refine B6 [0,1,3] ?_ (AK @hb) (H0 [0,1] ht [0,1] hp);exact⟨⟨[],wH (o++O9 k++Bi [v,n,MF g]),Tryz.f397.ntmps⟩,(A8.ck rfl),zN _,_,_,rfl,rfl,rfl,by simp only[wH,Q2,q0Z]⟩
def kH(m:AF)(o:AL):z6:=[.c [.ptr 2 0 1],.c (mC m),.c [.sl 3 o.length 1],.a (.by o)]
def dS(m:AF):AL:=
 if m.AN=4 then Bi [m.AI,MF m.BA]else
 if m.AN=5 then Q2 m.AC else
 if m.AN=6 then O9 m.AC.AI else
 if m.AN=7 then Bi [m.AH+1]++(UInt8.ofNat m.AB.length::Bi m.AB)else
 if m.AN=10 then Bi [m.AP,MF m.done]else
 if m.AN=11 then Bi [m.Aa]else
 if m.AN=12 then Bi [m.Aa]++(if m.Aa=0 then Q2 m.AC else[])else[]
theorem vm(m:AF)(o:AL)(h:fits m.AI=true)(ho:o.length<=100000):yT 394 [.ptr 0 0 1,.ptr 1 0 15] (kH m o) (.tup []) (kH m (o++Bi [m.AI,MF m.BA])):=by
 have hp:=K9 [m.AI,MF m.BA] o (by simp only[q15,q1Z,S5,q1G];exact h) sm om;have hb:=ZJ m.BA;refine zD AE Tryz.func394 ?_;unfold kH mC wH at *;refine B6 [0,1] ?_ (AK @hb) (BJ [2,3] hp);exact wE
theorem vq(m:AF)(o:AL)(h:fits m.AP=true)(ho:o.length<=100000):yT 402 [.ptr 0 0 1,.ptr 1 0 15] (kH m o) (.tup []) (kH m (o++Bi [m.AP,MF m.done])):=by
 have hp:=K9 [m.AP,MF m.done] o (by simp only[q15,q1Z,S5,q1G];exact h) sm om;have hb:=ZJ m.done;refine zD AE Tryz.func402 ?_;unfold kH mC wH at *;refine B6 [0,1] ?_ (AK @hb) (BJ [2,3] hp);exact wE
theorem vn(m:AF)(o:AL)(hs:m.AC.AI.length<=255)(h1:fits m.AC.B4=true)(h2:fits m.AC.AZ=true)(ho:o.length<=100000):yT 396 [.ptr 0 0 1,.ptr 1 0 15] (kH m o) (.tup []) (kH m (o++Q2 m.AC)):=by
 have hp:=YB m.AC o hs h1 h2 ho;refine zD AE Tryz.func396 ?_;unfold kH mC wH at *;refine Ax [0,1] ?_ (BJ [2,3] hp);exact wE
theorem vo(m:AF)(o:AL)(hs:m.AC.AI.length<=255)(ho:o.length<=100000):yT 398 [.ptr 0 0 1,.ptr 1 0 15] (kH m o) (.tup []) (kH m (o++O9 m.AC.AI)):=by
 have hp:=Yk m.AC.AI o hs om;refine zD AE Tryz.func398 ?_;unfold kH mC wH at *;refine Ax [0,1] ?_ (BJ [2,3] hp);exact wE
theorem vp(m:AF)(o:AL)(h:fits (m.AH+1)=true)(hl:m.AB.length<=255)(hf:m.AB.all fits=true)(ho:o.length<=100000):
  yT 400 [.ptr 0 0 1,.ptr 1 0 15] (kH m o) (.tup []) (kH m (o++Bi [m.AH+1]++(UInt8.ofNat m.AB.length::Bi m.AB))):=by
 have hp:=K9 [m.AH+1] o (by simp only[q15,q1Z,q1G];exact h) sm om;have hn:=Ha [m.AH+1] (by simp only[q15,q1Z,q1G];exact h);have hp2:=mw m.AB (o++Bi [m.AH+1]) hl hf (by simp only[q04];simp only[q02,q0B]at hn;omega);have hb: -1<=m.AH/\m.AH<=1099511627776:=by simp[fits]at h;omega
 refine zD AE Tryz.func400 ?_;unfold kH mC wH at *;refine Ax [0,1] ?_ (H0 [2,3] hp [2,3] hp2);exact wE
theorem vt(m:AF)(o:AL)(h:fits m.Aa=true)(ho:o.length<=100000):yT 403 [.ptr 0 0 1,.ptr 1 0 15] (kH m o) (.tup []) (kH m (o++Bi [m.Aa])):=by
 have hp:=K9 [m.Aa] o (by simp only[q15,q1Z,q1G];exact h) sm om;refine zD AE Tryz.func403 ?_;unfold kH mC wH at *;refine Ax [0,1] ?_ (BJ [2,3] hp);exact wE
theorem vu(m:AF)(o:AL)(h:fits m.Aa=true)(hI:m.Aa=0->m.AC.AI.length<=255/\fits m.AC.B4=true/\fits m.AC.AZ=true)(ho:o.length<=10000):
  yT 404 [.ptr 0 0 1,.ptr 1 0 15] (kH m o) (.tup []) (kH m (o++(Bi [m.Aa]++(if m.Aa=0 then Q2 m.AC else[])))):=by
 have hp:=K9 [m.Aa] o (by simp only[q15,q1Z,q1G];exact h) sm om;have hn:=Ha [m.Aa] (by simp only[q15,q1Z,q1G];exact h);simp only[q02,q0B]at hn;refine zD AE Tryz.func404 ?_
 by_cases hc0:m.Aa=0
 .obtain⟨a1,a2,a3⟩:=hI hc0;have hp2:=YB m.AC (o++Bi [m.Aa]) a1 a2 a3 (by simp only[q04];omega);have f:=AT hc0;rw[zn hc0,<-q0Z];unfold kH mC wH at *;refine Cd [0,1,9] ?_ (AK f) (H0 [2,3] hp [2,3] hp2);exact wE
 .have f:=eq_false' hc0;rw[zx hc0,q1U];unfold kH mC wH at *;refine Cd [0,1,9] ?_ (AK f) (BJ [2,3] hp);exact wE
abbrev Pk:BF:=[0,1,2,3,4,5,6,10,32]
theorem X0(n c:Int):yS 290 [.ifc 316 (.agg #[.int .i64 n]),.yX c] (.yX n):=by
 refine zF AE Tryz.func290 ?_;refine A9 [0,1,4,5,6,12] ?_;exact zE
theorem jV(H:z6):WR Tryz.prog 360 [.ptr 0 0 1,.ptr 1 0 1] H .returning H:=by
 refine LM Tryz.func360 rfl rfl yR fun c0 cs hu=> ?_;refine Kg (LP ?_)
 refine pg rfl rfl rfl rfl (.inl ⟨by simp[recoverD,hu],rfl,rfl⟩) ?_;refine Sq AE rfl rfl rfl rfl ?_ rfl;refine QS ?_;refine Kg (GE ?_);refine Kq AE rfl rfl rfl rfl ?_ rfl;refine Kn AE rfl rfl rfl rfl ?_;refine EC ?_;refine QQ rfl (bY ?_);exact⟨.returning,by rw[<-hu],rfl,_,A8.refl _,zN _,rfl⟩
theorem jU(x y:AV)(n:Int):WR Tryz.prog 360 [.ptr 0 0 1,.ptr 1 0 1] [.c [x],.c [y]] (.panicking (pF n)) [.c [.e0],.c [.yO n]]:=by
 have hc:=X0 n 2;refine LM Tryz.func360 rfl rfl yR fun c0 cs hu=> ?_
 refine Kg (LP ?_);refine pg (cs':={c0 with mode:=.panicking [{v:=.iface 316 (.agg #[.int .i64 n]),recovered:=true}]}::cs) rfl rfl rfl rfl (.inr ⟨316,.agg #[.int .i64 n],by simp[recoverD,hu,pF],rfl⟩) ?_;refine Sq AE rfl rfl rfl rfl ?_ rfl;refine QS ?_;refine Kg (GE ?_);refine Kq AE rfl rfl rfl rfl ?_ rfl;refine Kn AE rfl rfl rfl rfl ?_;refine EC ?_;refine QQ rfl (GE ?_);refine Kq AE rfl rfl rfl rfl ?_ rfl;refine KF hc rfl rfl rfl rfl (by simp[Oe,Ec,Cw]) rfl rfl ?_;refine Kw AE rfl rfl rfl rfl ?_ rfl;refine Kw AE rfl rfl rfl rfl ?_ rfl;refine EC ?_;exact⟨_,rfl,rfl,_,A8.refl _,zN _,rfl⟩
def v8:z7:=[(.i .u8 4,.fn (.func 394) [] [.ptr 3 0 1,.ptr 2 0 15]),(.i .u8 5,.fn (.func 396) [] [.ptr 3 0 1,.ptr 2 0 15]),(.i .u8 6,.fn (.func 398) [] [.ptr 3 0 1,.ptr 2 0 15]),(.i .u8 7,.fn (.func 400) [] [.ptr 3 0 1,.ptr 2 0 15]),
 (.i .u8 10,.fn (.func 402) [] [.ptr 3 0 1,.ptr 2 0 15]),(.i .u8 11,.fn (.func 403) [] [.ptr 3 0 1,.ptr 2 0 15]),(.i .u8 12,.fn (.func 404) [] [.ptr 3 0 1,.ptr 2 0 15])]
theorem bQ(m:AF)(o:AL):yT 362 [.d m.d,.ptr 0 0 1] (wH o) (.mp 4) [.c [.sl 1 o.length 1],.a (.by o),.c (mC m),.c [.ptr 0 0 1],.m v8]:=by
 refine zD AE Tryz.func362 ?_;unfold wH v8 mC AF.d AF.A4;refine A9 [0,1,2,3,4] ?_;exact wE
theorem WR.at{P:Program}{f:FuncId}{args:yr}{H:z6}{u:FrameMode}{H':z6}(ids:BF)(h:WR P f args H u H'){xs:yr}{H2 H3:z6}(hx:AV.E2 (rn ids H2.length) args=xs)(hn:nodupB ids=true)(hm:DY (rn ids H2.length) H2 ids H)(ho:Bj H.length H=true)(ha:AV.oks H.length args=true)(hH:KO ids H2 (E1 (rn ids H2.length) H')=H3):WR P f xs H2 u H3:=by
 subst hx;subst hH;exact h.ren ids hn hm ho ha
theorem Z3(m:AF)(hl:m.AB.length<9223372036854775807)(h:m.right=false):yT 305 [.d m.d] [] (.tup [.e0,.yO 2]) [.gone,.c [.e0],.c [.yO 2]]:=by
 have hR:=Ct m hl;rw[h]at hR;unfold AF.d AF.A4 at *;refine Fe (g:=360) (xs:=[.ptr 1 0 1,.ptr 2 0 1]) AE Tryz.func305 rfl rfl yR ?_;refine Ka AE rfl rfl rfl rfl rfl ?_ rfl;refine Ka AE rfl rfl rfl rfl rfl ?_ rfl;refine Ka AE rfl rfl rfl rfl rfl ?_ rfl;refine EC ?_;refine Fq AE rfl rfl rfl rfl ?_ rfl;refine Ep rfl rfl rfl rfl rfl rfl ⟨_,Tryz.func360,rfl,rfl⟩ rfl ?_;refine AO Pk ?_ (AK @hR);refine⟨_,WR.at [1,2] (jU .e0 (.yO 0) 2) rfl rfl ⟨rfl,rfl,trivial⟩ rfl rfl rfl,?_⟩;exact wE
def PT(m:AF):AL:=Bi [m.AN,m.Ae,m.B8,m.dst]++dS m
variable {n:Int}
theorem Jp(h:0<=n/\n<=1099511627776):fits n=true:=by simp[fits];omega
theorem Jq(h:BV n=true):fits n=true:=Jp (by have:=GC h;omega)
theorem XI(h:isVal n=true):fits n=true:=Jp (by simp[isVal]at h;omega)
theorem aD{x:AS}(h:B7 x=true):x.AI.length<=255/\fits x.B4=true/\fits x.AZ=true:=by
 simp only[B7,zO]at h;refine⟨?_,XI h.1.2,XI h.2⟩;have:=h.1.1;simp[Bp]at this;omega
variable {m:AF}
theorem Qo(h:m.right=true):(1<=m.AN/\m.AN<13)/\(BV m.B8=true/\BV m.dst=true)/\m.B8≠m.dst/\(m.asker*1048576+1<=m.Ae/\m.Ae<m.asker*1048576+1+1048576)/\m.bare=m.empty/\m.has=true:=by
 simp only[AF.right,AF.Iy,zO,zW]at h;obtain⟨⟨⟨⟨⟨⟨⟨h1,h2⟩,h3⟩,h4⟩,h5⟩,h6⟩,h7⟩,h8,h9⟩:=h;exact⟨⟨h1,h2⟩,⟨h3,h4⟩,h5,⟨h6,h7⟩,h8,h9⟩
variable {l:Ai}
theorem Y4{s:Int}(h:F1 l s=true):l.length<=3/\l.all fits=true:=by
 simp only[F1,Fw,zO,zW]at h;refine⟨h.2,?_⟩;rw[q0T]at *;intro x hx;have:=h.1.1 x hx;simp only[zO]at this;exact Jq this.1
theorem bp(h:m.right=true):0<=m.asker/\m.asker<65536:=by
 obtain⟨_,⟨h1,h2⟩,_⟩:=Qo h;unfold AF.asker;split
 .exact GC h1
 .exact GC h2
theorem WU(m:AF)(hl:m.AB.length<9223372036854775807)(h:m.right=true):yT 305 [.d m.d] [] (.tup [.sl 4 (PT m).length 1,.yO 0]) [.gone,.c [.sl 4 (PT m).length 1],.c [.yO 0],.gone,.a (.by (PT m))]:=by
 have hR:=Ct m hl;rw[h]at hR;obtain⟨⟨k1,k2⟩,⟨p1,p2⟩,_,⟨c1,c2⟩,hb,hh⟩:=Qo h;have ha:=bp h;have hput:=K9 [m.AN,m.Ae,m.B8,m.dst] [] (by simp only[q15,q1Z,q1G,Jq p1,Jq p2,Jp (n:=m.AN) om,Jp (n:=m.Ae) om]) sm sm;have hw:=bQ m ([]++Bi [m.AN,m.Ae,m.B8,m.dst]);have hlen:=Ha [m.AN,m.Ae,m.B8,m.dst] (by simp only[q15,q1Z,q1G,Jq p1,Jq p2,Jp (n:=m.AN) om,Jp (n:=m.Ae) om]);simp only[q02,q0B]at hlen;refine Fe (g:=360) (xs:=[.ptr 1 0 1,.ptr 2 0 1]) AE Tryz.func305 rfl rfl yR ?_;refine Ka AE rfl rfl rfl rfl rfl ?_ rfl;refine Ka AE rfl rfl rfl rfl rfl ?_ rfl;refine Ka AE rfl rfl rfl rfl rfl ?_ rfl;refine EC ?_;refine Fq AE rfl rfl rfl rfl ?_ rfl;refine Ep rfl rfl rfl rfl rfl rfl ⟨_,Tryz.func360,rfl,rfl⟩ rfl ?_;unfold wH at *;refine AO Pk ?_ (AK @hR) [] [5];refine BG (A8.ES 3 0 (.by []) rfl rfl rfl rfl trivial) sm ?_;obtain⟨k,c,s,d,ky,sl,dn,pl,pr,l,⟨ik,iv,ir,ig⟩,co⟩:=m;simp only[mC,v8]at *;have hkind:k=1\/k=2\/k=3\/k=4\/k=5\/k=6\/k=7\/k=8\/k=9\/k=10\/k=11\/k=12:=om
 clear hR h hb k1 k2;have hk:=hw;rcases hkind with rfl|rfl|rfl|rfl|rfl|rfl|rfl|rfl|rfl|rfl|rfl|rfl
 rotate_left 3
 simp[AF.has]at hh;have hk:=vm ⟨4,c,s,d,ky,sl,dn,pl,pr,l,⟨ik,iv,ir,ig⟩,co⟩ ([]++Bi [4,c,s,d]) (Jq hh) (by simp only[zZ];omega)
 rotate_left
 simp[AF.has]at hh;obtain⟨a1,a2,a3⟩:=aD hh;have hk:=vn ⟨5,c,s,d,ky,sl,dn,pl,pr,l,⟨ik,iv,ir,ig⟩,co⟩ ([]++Bi [5,c,s,d]) a1 a2 a3 (by simp only[zZ];omega)
 rotate_left
 simp[AF.has]at hh;obtain⟨a1,a2,a3⟩:=aD hh.1;have hk:=vo ⟨6,c,s,d,ky,sl,dn,pl,pr,l,⟨ik,iv,ir,ig⟩,co⟩ ([]++Bi [6,c,s,d]) a1 (by simp only[zZ];omega)
 rotate_left
 simp[AF.has]at hh
 have hf:fits (pr+1)=true:=by
  rcases hh.1 with h|h
  .subst h;rfl
  .exact Jp (by have:=GC h;omega)
 have hL:=Y4 hh.2;have hk:=vp ⟨7,c,s,d,ky,sl,dn,pl,pr,l,⟨ik,iv,ir,ig⟩,co⟩ ([]++Bi [7,c,s,d]) hf (q0L hL.1 (by decide)) hL.2 (by simp only[zZ];omega)
 rotate_left 3
 simp[AF.has]at hh;have hk:=vq ⟨10,c,s,d,ky,sl,dn,pl,pr,l,⟨ik,iv,ir,ig⟩,co⟩ ([]++Bi [10,c,s,d]) (Jq hh) (by simp only[zZ];omega)
 rotate_left
 simp[AF.has]at hh;have hk:=vt ⟨11,c,s,d,ky,sl,dn,pl,pr,l,⟨ik,iv,ir,ig⟩,co⟩ ([]++Bi [11,c,s,d]) (by rcases hh with h|h<;>subst h<;>rfl) (by simp only[zZ];omega)
 rotate_left
 simp[AF.has]at hh
 have hf:fits co=true:=by
  rcases hh with h|h
  .rw[h.1];rfl
  .rw[h.1];rfl
 have hI:co=0->B7 ⟨ik,iv,ir,ig⟩=true:=fun h=>by
  rcases hh with h2|h2
  .exact h2.2
  .exact absurd (h2.1.symm.trans h) (by decide)
 have hk:=vu ⟨12,c,s,d,ky,sl,dn,pl,pr,l,⟨ik,iv,ir,ig⟩,co⟩ ([]++Bi [12,c,s,d]) hf (fun h=>aD (hI h)) (by simp only[zZ];omega)
 all_goals
  try(unfold kH at hk;simp only[mC]at hk)
  refine Ax Pk ?_ (WA [3,4] hput [3,4] hw [6,5,3,4] hk) [(2,1),(3,1)];refine⟨_,WR.at [1,2,4] (jV [.c [.sl 2 _ 1],.c [.yO 0],.a (.by _)]) rfl rfl ⟨rfl,rfl,rfl,trivial⟩ rfl rfl (by simp only[KL,Nat.reduceAdd];rfl),?_⟩;refine wE ?_;exact(have nC:=zh @PT.eq_1 @dS.eq_1;A8.co rfl)
abbrev Hk:BF:=[0,2,3,4,5]
def YI(m:AF):AL×Int:=if m.right then(PT m,0)else([],2)
theorem Z2(m:AF)(hl:m.AB.length<9223372036854775807):yS 305 [m.d] (.tup [.by (YI m).1,.yX (YI m).2]):=by
 cases h:m.right with
 |true=>
  refine Ff (ds:=[m.d]) (WU m hl h) ?_;simp[YI,h,HM,CG,Ca,C7,Dv,BP]
 |false=>
  refine Ff (ds:=[m.d]) (Z3 m hl h) ?_;simp[YI,h,HM,CG,Ca,C7,Iv,BP,Bl,BM]
def rH(b:AL):z6:=[.c [.d (.by b)]]
def E0(b:AL):Option (Nat×AL):=if(Cq b).2.2=0 then some ((Cq b).1,(Cq b).2.1)else none
def Ig(b:AL):Option (Bool×AL):=match E0 b with
 |some (n,r)=>if n>1 then none else some (n==1,r)
 |none=>none
def KV(b:AL):Option (AL×AL):=if(E5 b).2.2=0 then some ((E5 b).1,(E5 b).2.1)else none
def MU(b:AL):Option (Ai×AL):=if(E4 b).2.2=0 then some ((E4 b).1,(E4 b).2.1)else none
def KU(b:AL):Option (AS×AL):=match KV b with
 |none=>none
 |some (k,b1)=>match E0 b1 with
  |none=>none
  |some (v,b2)=>match E0 b2 with
   |none=>none
   |some (n,b3)=>match Ig b3 with
    |none=>none
    |some (g,b4)=>some (⟨k,v,n,g⟩,b4)
variable {b r:AL}
theorem PS{n:Nat}(h:E0 b=some (n,r)):Cq b=(n,r,0):=by
 unfold E0 at h;split at h
 .rename_i e;cases h;rw[<-e]
 .cases h
theorem hZ(h:E0 b=none):(Cq b).2.2≠0:=by
 unfold E0 at h;split at h
 .cases h
 .assumption
variable {s:AL}
theorem Sx(h:KV b=some (s,r)):E5 b=(s,r,0):=by
 unfold KV at h;split at h
 .rename_i e;cases h;rw[<-e]
 .cases h
theorem af(h:KV b=none):(E5 b).2.2≠0:=by
 unfold KV at h;split at h
 .cases h
 .assumption
theorem Sv(h:MU b=some (l,r)):E4 b=(l,r,0):=by
 unfold MU at h;split at h
 .rename_i e;cases h;rw[<-e]
 .cases h
theorem ae(h:MU b=none):(E4 b).2.2≠0:=by
 unfold MU at h;split at h
 .cases h
 .assumption
theorem JS(b:AL):(Cq b).2.1.length<=b.length:=by
 unfold Cq;split
 .simp
 .repeat' split
  all_goals simp
  omega
theorem Bn{n:Nat}(h:E0 b=some (n,r)):r.length<=b.length:=by
 have:=JS b;rw[PS h]at this;exact this
theorem Lb(h:KV b=some (s,r)):r.length<=b.length:=by
 have e:=Sx h;unfold E5 at e;split at e
 .simp at e
 .split at e
  .simp at e
  .simp only[zu]at e;rw[<-e.2.1];simp;omega
theorem PQ{g:Bool}(h:Ig b=some (g,r)):r.length<=b.length:=by
 unfold Ig at h;split at h
 .rename_i n r' e;split at h
  .cases h
  .cases h;exact Bn e
 .cases h
theorem C1(b:AL)(hb:b.length<70368744177664)(n:Nat)(r:AL)(h:E0 b=some (n,r)):yT 344 [.ptr 0 0 1] (rH b) (.yO n) (rH r):=by
 have ht:=QP b hb;rw[PS h]at ht;unfold HB at ht;refine zD AE Tryz.func344 ?_;unfold rH;refine AO Hk ?_ (Au @ht (HY 12));exact wE
theorem Da(b:AL)(hb:b.length<70368744177664)(h:E0 b=none):MZ Tryz.prog 344 [.ptr 0 0 1] (rH b) (pF 12) [.gone]:=by
 have ht:=QP b hb;unfold HB at ht;have hd:=Rk (Cq b).2.2 12 (hZ h);refine zX AE Tryz.func344 ?_;unfold rH;have x1:=Ds.mk [] (hd);refine AO Hk ?_ (AK @ht);clear x1;exact⟨rfl,⟨[],[.gone],Tryz.f344.ntmps⟩,(A8.ck rfl),zN _,rfl⟩
theorem W6(b:AL)(hb:b.length<70368744177664)(s r:AL)(h:KV b=some (s,r)):yT 350 [.ptr 0 0 1] (rH b) (.yU s) (rH r):=by
 have ht:=Pn b hb;rw[Sx h]at ht;unfold Pf at ht;refine zD AE Tryz.func350 ?_;unfold rH;refine AO Hk ?_ (Au @ht (HY 12));exact wE
theorem eN(b:AL)(hb:b.length<70368744177664)(h:KV b=none):MZ Tryz.prog 350 [.ptr 0 0 1] (rH b) (pF 12) [.gone]:=by
 have ht:=Pn b hb;unfold Pf at ht;have hd:=Rk (E5 b).2.2 12 (af h);refine zX AE Tryz.func350 ?_;unfold rH;have x1:=Ds.mk [] (hd);refine AO Hk ?_ (AK @ht);clear x1;exact⟨rfl,⟨[],[.gone],Tryz.f350.ntmps⟩,(A8.ck rfl),zN _,rfl⟩
theorem VX(b:AL)(hb:b.length<70368744177664)(l:Ai)(r:AL)(h:MU b=some (l,r)):yT 352 [.ptr 0 0 1] (rH b) (.yV l) (rH r):=by
 have ht:=Pm b hb;rw[Sv h]at ht;unfold Pe at ht;refine zD AE Tryz.func352 ?_;unfold rH;refine AO Hk ?_ (Au @ht (HY 12));exact wE
theorem rU(b:AL)(hb:b.length<70368744177664)(h:MU b=none):MZ Tryz.prog 352 [.ptr 0 0 1] (rH b) (pF 12) [.gone]:=by
 have ht:=Pm b hb;unfold Pe at ht;have hd:=Rk (E4 b).2.2 12 (ae h);refine zX AE Tryz.func352 ?_;unfold rH;have x1:=Ds.mk [] (hd);refine AO Hk ?_ (AK @ht);clear x1;exact⟨rfl,⟨[],[.gone],Tryz.f352.ntmps⟩,(A8.ck rfl),zN _,rfl⟩
theorem VD(b:AL)(hb:b.length<70368744177664)(g:Bool)(r:AL)(h:Ig b=some (g,r)):yT 346 [.ptr 0 0 1] (rH b) (.yP g) (rH r):=by
 unfold Ig at h;split at h
 .rename_i n r' hn;split at h
  .cases h
  .rename_i h1;simp only[zf,zu]at h;obtain⟨rfl,rfl⟩:=h;have ht:=C1 b hb n r' hn;have e:((n:Int)==1)=(n==1):=by rw[Dp,Dp];congr 1;simp;omega
   refine zD AE Tryz.func346 ?_;unfold rH at *;refine Cd [0,2,3,7] ?_ (AK e) (BJ [0] ht);with_reducible repeat' first|constructor|intro hc
   exact wE
 .cases h
theorem VC(b:AL)(hb:b.length<70368744177664)(h:Ig b=none):MZ Tryz.prog 346 [.ptr 0 0 1] (rH b) (pF 12) [.gone]:=by
 unfold Ig at h;refine zX AE Tryz.func346 ?_;split at h
 .rename_i n r' hn;split at h
  .rename_i h1;have ht:=C1 b hb n r' hn;unfold rH at *;refine Ax [0,2,3,7] ?_ (BJ [0] ht);with_reducible repeat' first|constructor|intro hc
   exact⟨rfl,⟨[],[.gone],Tryz.f346.ntmps⟩,(A8.ck rfl),zN _,rfl⟩
  .cases h
 .rename_i hn;have ht:=Da b hb hn;unfold rH at *;have x1:=Ds.mk [0] (ht);refine A9 [0,2,3,7] ?_;clear x1;exact⟨rfl,⟨[],[.gone],Tryz.f346.ntmps⟩,(A8.ck rfl),zN _,rfl⟩
theorem dj(b:AL)(hb:b.length<70368744177664)(x:AS)(r:AL)(h:KU b=some (x,r)):yT 348 [.ptr 0 0 1] (rH b) (.d x.d) (rH r):=by
 unfold KU at h;split at h
 .cases h
 rename_i k b1 h1;split at h
 .cases h
 rename_i v b2 h2;split at h
 .cases h
 rename_i n b3 h3;split at h
 .cases h
 rename_i g b4 h4;simp only[zf,zu]at h;obtain⟨rfl,rfl⟩:=h;have l1:=Lb h1;have l2:=Bn h2;have l3:=Bn h3;have c1:=W6 b hb k b1 h1;have c2:=C1 b1 om v b2 h2;have c3:=C1 b2 om n b3 h3;have c4:=VD b3 om g b4 h4;refine Aw.drop (K:=[.c [.d (.by b4)],.c [.yU k,.yO v,.yO n,.yP g]]) _ ?_ ⟨.inr rfl,trivial⟩ rfl rfl rfl;refine zD AE Tryz.func348 ?_;unfold rH at *;refine Ax [0,2] ?_ (zd4 [0] c1 [0] c2 [0] c3 [0] c4);exact wE
theorem di(b:AL)(hb:b.length<70368744177664)(h:KU b=none):MZ Tryz.prog 348 [.ptr 0 0 1] (rH b) (pF 12) [.gone]:=by
 refine zX AE Tryz.func348 ?_
 cases h1:KV b with
 |none=>
  have c1:=eN b hb h1;unfold rH at *;have x1:=Ds.mk [0] (c1);refine A9 [0,2] ?_;clear x1;exact⟨rfl,⟨[],[.gone],Tryz.f348.ntmps⟩,(A8.ck rfl),zN _,rfl⟩
 |some p=>
 obtain⟨k,b1⟩:=p;have l1:=Lb h1;have c1:=W6 b hb k b1 h1
 cases h2:E0 b1 with
 |none=>
  have c2:=Da b1 om h2;unfold rH at *;have x1:=Ds.mk [0] (c2);refine Ax [0,2] ?_ (BJ [0] c1);clear x1;exact⟨rfl,⟨[],[.gone],Tryz.f348.ntmps⟩,(A8.ck rfl),zN _,rfl⟩
 |some p=>
 obtain⟨v,b2⟩:=p;have l2:=Bn h2;have c2:=C1 b1 om v b2 h2
 cases h3:E0 b2 with
 |none=>
  have c3:=Da b2 om h3;unfold rH at *;have x1:=Ds.mk [0] (c3);refine Ax [0,2] ?_ (H0 [0] c1 [0] c2);clear x1;exact⟨rfl,⟨[],[.gone],Tryz.f348.ntmps⟩,(A8.ck rfl),zN _,rfl⟩
 |some p=>
 obtain⟨n,b3⟩:=p;have l3:=Bn h3;have c3:=C1 b2 om n b3 h3
 cases h4:Ig b3 with
 |none=>
  have c4:=VC b3 om h4;unfold rH at *;have x1:=Ds.mk [0] (c4);refine Ax [0,2] ?_ (WA [0] c1 [0] c2 [0] c3);clear x1;exact⟨rfl,⟨[],[.gone],Tryz.f348.ntmps⟩,(A8.ck rfl),zN _,rfl⟩
 |some p=>
  unfold KU at h;simp only[h1,h2,h3,h4]at h;cases h
theorem UN{x:AS}(h:KU b=some (x,r)):r.length<=b.length:=by
 unfold KU at h;split at h
 .cases h
 rename_i k b1 h1;split at h
 .cases h
 rename_i v b2 h2;split at h
 .cases h
 rename_i n b3 h3;split at h
 .cases h
 rename_i g b4 h4;simp only[zf,zu]at h;obtain⟨rfl,rfl⟩:=h;have l1:=Lb h1;have l2:=Bn h2;have l3:=Bn h3;have l4:=PQ h4;omega
def Ih(m:AF)(b:AL):Option (AF×AL):=match E0 b with
 |none=>none
 |some (k,b1)=>if k>=13 then none else match E0 b1 with
  |none=>none
  |some (c,b2)=>match E0 b2 with
   |none=>none
   |some (s,b3)=>match E0 b3 with
    |none=>none
    |some (d,b4)=>some ({m with AN:=k,Ae:=c,B8:=s,dst:=d},b4)
def hH(m:AF)(b:AL):z6:=[.c [.d (.by b)],.c (mC m)]
def uC:yr:=List.replicate 15 .u
theorem VL(m:AF)(b:AL)(hb:b.length<70368744177664)(m':AF)(r:AL)(h:Ih m b=some (m',r)):yT 291 [.ptr 0 0 1,.ptr 1 0 15] (hH m b) (.tup []) (hH m' r):=by
 unfold Ih at h;split at h
 .cases h
 rename_i k b1 h1;split at h
 .cases h
 rename_i hk;split at h
 .cases h
 rename_i c b2 h2;split at h
 .cases h
 rename_i s b3 h3;split at h
 .cases h
 rename_i d b4 h4;simp only[zf,zu]at h;obtain⟨rfl,rfl⟩:=h;have l1:=Bn h1;have l2:=Bn h2;have l3:=Bn h3;have c1:=C1 b hb k b1 h1;have c2:=C1 b1 om c b2 h2;have c3:=C1 b2 om s b3 h3;have c4:=C1 b3 om d b4 h4;have e:(k:Int)%256=k:=om
 refine zD AE Tryz.func291 ?_;unfold rH hH mC at *;refine Cd [0,1,4,8] ?_ (AK e) (zd4 [0] c1 [0] c2 [0] c3 [0] c4);with_reducible repeat' first|constructor|intro hc
 exact wE
theorem vk{E:Nat->Option Bv}{env:yv}{cs:yr}{n:Nat}(hcs:cs.length=15):A8 ⟨env,[.c [.d (.by b)],.c cs],n⟩ ⟨[],[.gone,.c uC],n⟩:=
 (A8.us (S:=⟨env,[.c [.d (.by b)],.c cs],n⟩) 1 15 rfl hcs.symm).trans' (A8.cut (S':=⟨[],[.gone,.c uC],n⟩) rfl trivial ⟨.inl ⟨rfl,rfl⟩,.inr rfl,trivial⟩ rfl rfl) (zN _)
theorem rB(m:AF)(b:AL)(hb:b.length<70368744177664)(h:Ih m b=none):MZ Tryz.prog 291 [.ptr 0 0 1,.ptr 1 0 15] (hH m b) (pF 12) [.gone,.c uC]:=by
 refine zX AE Tryz.func291 ?_;unfold Ih at h
 cases h1:E0 b with
 |none=>
  have c1:=Da b hb h1;unfold hH rH mC at *;have x1:=Ds.mk [0] (c1);refine A9 [0,1,4,8] ?_;clear x1;exact⟨rfl,_,(A8.us (S:=⟨_,[.gone,.c _],_⟩) 1 15 rfl rfl),zN _,rfl⟩
 |some p=>
 obtain⟨k,b1⟩:=p;rw[h1]at h;simp only at h;have l1:=Bn h1;have c1:=C1 b hb k b1 h1;split at h
 .rename_i hk;unfold hH rH mC at *;refine Ax [0,1,4,8] ?_ (BJ [0] c1);with_reducible repeat' first|constructor|intro hc
  exact⟨rfl,_,vk (E:=T.get) rfl,zN _,rfl⟩
 rename_i hk;have e:(k:Int)%256=k:=om
 cases h2:E0 b1 with
 |none=>
  have c2:=Da b1 om h2;unfold hH rH mC at *;have x1:=Ds.mk [0] (c2);refine Cd [0,1,4,8] ?_ (AK e) (BJ [0] c1);clear x1;with_reducible repeat' first|constructor|intro hc
  exact⟨rfl,_,(A8.us (S:=⟨_,[.gone,.c _],_⟩) 1 15 rfl rfl),zN _,rfl⟩
 |some p=>
 obtain⟨c,b2⟩:=p;rw[h2]at h;simp only at h;have l2:=Bn h2;have c2:=C1 b1 om c b2 h2
 cases h3:E0 b2 with
 |none=>
  have c3:=Da b2 om h3;unfold hH rH mC at *;have x1:=Ds.mk [0] (c3);refine Cd [0,1,4,8] ?_ (AK e) (H0 [0] c1 [0] c2);clear x1;with_reducible repeat' first|constructor|intro hc
  exact⟨rfl,_,(A8.us (S:=⟨_,[.gone,.c _],_⟩) 1 15 rfl rfl),zN _,rfl⟩
 |some p=>
 obtain⟨s,b3⟩:=p;rw[h3]at h;simp only at h;have l3:=Bn h3;have c3:=C1 b2 om s b3 h3
 cases h4:E0 b3 with
 |none=>
  have c4:=Da b3 om h4;unfold hH rH mC at *;have x1:=Ds.mk [0] (c4);refine Cd [0,1,4,8] ?_ (AK e) (WA [0] c1 [0] c2 [0] c3);clear x1;with_reducible repeat' first|constructor|intro hc
  exact⟨rfl,_,(A8.us (S:=⟨_,[.gone,.c _],_⟩) 1 15 rfl rfl),zN _,rfl⟩
 |some p=>
  rw[h4]at h;cases h
theorem PR{m':AF}(h:Ih m b=some (m',r)):r.length<=b.length:=by
 unfold Ih at h;split at h
 .cases h
 rename_i k b1 h1;split at h
 .cases h
 split at h
 .cases h
 rename_i c b2 h2;split at h
 .cases h
 rename_i s b3 h3;split at h
 .cases h
 rename_i d b4 h4;simp only[zf,zu]at h;obtain⟨rfl,rfl⟩:=h;have l1:=Bn h1;have l2:=Bn h2;have l3:=Bn h3;have l4:=Bn h4;omega
abbrev M8:BF:=[0,1,4,5,10,14]
def u32(s:BitVec 32):D:=.i .u32 (s.toNat:Int)
theorem wrap_u32(n:Nat):IntKind.wrap .u32 (n:Int)=((BitVec.ofNat 32 n).toNat:Int):=by
 simp[IntKind.wrap,IntKind.bits,IntKind.signed]
theorem shl1(s:BitVec 32):IntKind.wrap .u32 ((s.toNat:Int)*2^min 1 IntKind.u32.bits)=((s<<<1).toNat:Int):=by
 have:(s.toNat:Int)*2^min 1 IntKind.u32.bits=((s.toNat*2:Nat):Int):=by simp[IntKind.bits]
 rw[this,wrap_u32];simp[BitVec.toNat_shiftLeft,Nat.shiftLeft_eq]
theorem ofInt32(s:BitVec 32):BitVec.ofInt 32 (s.toNat:Int)=s:=by
 apply BitVec.eq_of_toNat_eq;simp
theorem or1(s:BitVec 32):DK .or .u32 ((s<<<1).toNat:Int) 1=((s<<<1^^^1#32).toNat:Int):=by
 have h:(s<<<1)|||1#32=s<<<1^^^1#32:=by
  apply BitVec.eq_of_getLsbD_eq;intro i hi;simp only[BitVec.getLsbD_or,BitVec.getLsbD_xor,BitVec.getLsbD_shiftLeft,BitVec.getLsbD_one]
  by_cases e:i=0<;>simp[e]
 unfold DK;show IntKind.wrap .u32 ((BitVec.ofInt 32 _|||BitVec.ofInt 32 1).toNat:Int)=_;rw[ofInt32,show BitVec.ofInt 32 1=1#32 from by decide,h,wrap_u32];simp
theorem yD(s:BitVec 32):DK .xor .u32 (s.toNat:Int) 1947962583=((s^^^pat).toNat:Int):=by
 unfold DK;show IntKind.wrap .u32 ((BitVec.ofInt 32 _^^^BitVec.ofInt 32 1947962583).toNat:Int)=_;rw[ofInt32,show BitVec.ofInt 32 1947962583=pat from by decide,wrap_u32];simp
theorem tD(s:BitVec 32)(h:s.getLsbD 31=true):(s.toNat:Int).fdiv (2^min 31 IntKind.u32.bits)=1:=by
 have:=BitVec.msb_eq_decide s;rw[BitVec.msb_eq_getLsbD_last,h]at this;have hlt:=s.isLt;simp at this;rw[q1I _ (by decide)];simp[IntKind.bits];omega
theorem tC(s:BitVec 32)(h:s.getLsbD 31=false):(s.toNat:Int).fdiv (2^min 31 IntKind.u32.bits)=0:=by
 have:=BitVec.msb_eq_decide s;rw[BitVec.msb_eq_getLsbD_last,h]at this;simp at this;rw[q1I _ (by decide)];simp[IntKind.bits];omega
theorem kj(s:BitVec 32)(h:s.getLsbD 31=true):IV s true=(s<<<1^^^1#32)^^^pat:=by unfold IV;rw[h];simp[kK]
theorem ki(s:BitVec 32)(h:s.getLsbD 31=true):IV s false=(s<<<1)^^^pat:=by unfold IV;rw[h];simp[kK]
theorem kh(s:BitVec 32)(h:s.getLsbD 31=false):IV s true=s<<<1^^^1#32:=by unfold IV;rw[h];simp[kK]
theorem kg(s:BitVec 32)(h:s.getLsbD 31=false):IV s false=s<<<1:=by unfold IV;rw[h];simp[kK]
theorem pi(s:BitVec 32)(b:Bool):yS 343 [u32 s,.b b] (u32 (IV s b)):=by
 have h1:=shl1 s;have h2:=or1 s;have h3:=yD (s<<<1);have h4:=yD (s<<<1^^^1#32);refine zF AE Tryz.func343 ?_;cases hs:s.getLsbD 31<;>cases b
 .have h5:=tC s hs;have e:=kg s hs;refine Aj M8 ?_ (TT h1 h2 h3 h4 h5);exact BW (zh @u32.eq_1 e)
 .have h5:=tC s hs;have e:=kh s hs;refine Aj M8 ?_ (TT h1 h2 h3 h4 h5);exact BW (zh @u32.eq_1 e)
 .have h5:=tD s hs;have e:=ki s hs;refine Aj M8 ?_ (TT h1 h2 h3 h4 h5);exact BW (zh @u32.eq_1 e)
 .have h5:=tD s hs;have e:=kj s hs;refine Aj M8 ?_ (TT h1 h2 h3 h4 h5);exact BW (zh @u32.eq_1 e)
theorem bW(n:Int):yS 287 [.yX n] (.yX (if n<0\/n>112 then 0 else n+8)):=by
 refine zF AE Tryz.func287 ?_
 by_cases h:n<0\/n>112
 .rw[zn h];refine A9 [0,2,8] ?_;with_reducible repeat' first|constructor|intro hc
  all_goals first|(exfalso;omega)|(refine⟨_,_,rfl,rfl,?_⟩;simp[Cw])
 .rw[zx h];refine A9 [0,2,8] ?_;with_reducible repeat' first|constructor|intro hc
  all_goals first|(exfalso;omega)|(refine⟨_,_,rfl,rfl,?_⟩;simp[Cw]<;>omega)
abbrev M9:BF:=[0,1,4,5,13,17]
def Gk(d:UInt8):List Bool:=(List.range 8).map fun k=>d.toNat.testBit (7-k)
def KN(l:AL):List Bool:=l.flatMap Gk
theorem qN:∀(d:Fin 256)(i:Fin 8),(DK .and .u8 ((d.1:Int).fdiv (2^min ((i.1:Nat):Int).toNat IntKind.u8.bits)) 1==1)=d.1.testBit i.1:=by decide +kernel
theorem uV(d:UInt8)(i:Int)(h:0<=i)(h':i<=7):(DK .and .u8 ((d.toNat:Int).fdiv (2^min i.toNat IntKind.u8.bits)) 1==1)=d.toNat.testBit i.toNat:=by
 obtain⟨n,rfl⟩:∃n:Nat,i=n:=⟨i.toNat,om⟩;exact qN ⟨d.toNat,d.toNat_lt⟩ ⟨n,om⟩
theorem ZK(d:UInt8)(k:Nat)(h:k<8):(Gk d).take (k+1)=(Gk d).take k++[d.toNat.testBit (7-k)]:=by
 rw[q0N (by simp[Gk];exact h)];simp[Gk]
def LC(l:AL)(r:Lp)(s:BitVec 32):z6:=[.c [.d (u32 s)],.c [.d (.by l)],.lp r]
theorem IC(d:UInt8)(l:AL)(r:Lp)(s:BitVec 32)(hk:Ey 3 r.env=true)(hY:∀s b,YT Tryz.prog 2 [.yP b] (LC l r s) fun x K=>x= .yP true/\K=LC l r (IV s b)):
  LN Tryz.prog 382 [.yQ d.toNat,.yl 2] (LC l r s) fun x K=>x= .yP true/\K=LC l r (JD s (Gk d)):=by
 refine zT AE Tryz.func382 ?_;unfold LC at hY|-
 have hb:∀k:Nat,k<8->IV (JD s ((Gk d).take k)) (DK .and .u8 ((d.toNat:Int).fdiv (2^min (7-(k:Int)).toNat IntKind.u8.bits)) 1==1)=JD s ((Gk d).take (k+1)):=by
  intro k hk;rw[uV d (7-k) om om,ZK d k hk,Re,show(7-(k:Int)).toNat=7-k by omega];rfl
 refine A9 M9 ?_ [] [] false;refine Wa 0 _ (fun k:Nat=>1<=k/\k<8) (fun k:Nat=>⟨[(0,.yQ d.toNat),(1,.yl 2),(4,.yP false),(5,.yO (7-k))],[.c [.d (u32 (JD s ((Gk d).take k)))],.c [.d (.by l)],.lp r],18⟩) (fun k=>8-k) 8 2 2 rfl ?_ ?_
 .have h0:IV s (DK .and .u8 ((d.toNat:Int).fdiv (2^min 7 8)) 1==1)=JD s ((Gk d).take 1):=hb 0 om;have q1:=@hY;refine A9 M9 ?_ [] [] false;clear q1;refine⟨1,⟨om,om⟩,(show 8-1<8 by omega),yR,?_⟩;exact(have nC:=h0;A8.cn rfl)
 .rintro k ⟨k1,k8⟩;have h0:=hb k k8;have e7:(7-(k:Int)).toNat=7-k:=om
  have h1:=h0;rw[e7,show IntKind.u8.bits=8 from rfl]at h1
  by_cases h:k+1<8
  .have q1:=@hY;refine A9 M9 ?_ [] [] false;clear q1;with_reducible repeat' first|constructor|intro hc
   refine⟨k+1,⟨om,h⟩,(show 8-(k+1)<8-k by omega),yR,?_⟩;exact(have nC:=zh h0 h1;A8.cn rfl)
  .have hf:(Gk d).take (k+1)=Gk d:=q1V (by simp[Gk];omega);rw[hf]at h0 h1;have q1:=@hY;refine A9 M9 ?_ [] [] false;clear q1;with_reducible repeat' first|constructor|intro hc
   refine⟨_,A8.refl _,zN _,_,_,rfl,rfl,rfl,?_⟩;simp only[e7,h1]
end Wi
end Go.Proofs.YtamjpnmjpponpaaGreatDoor
