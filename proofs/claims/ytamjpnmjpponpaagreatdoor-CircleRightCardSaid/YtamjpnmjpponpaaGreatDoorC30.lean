/- Part 30 of a proof. Conditions: those that its theorems state. -/
import Derived.Test.YtamjpnmjpponpaaGreatDoorC27
set_option linter.unusedSimpArgs false
set_option linter.unusedVariables false
set_option linter.unnecessarySimpa false
set_option maxHeartbeats 40000000
set_option maxRecDepth 4000
namespace Go.Proofs.YtamjpnmjpponpaaGreatDoor
namespace Nd
open Go.Gar
open Wi (AF BV B7 AU Bp Cp Bc)
theorem jp{α:Type}{R:α->α->Prop}(tr:∀a b c,R a b->R b c->R a c)(d:α):∀l:List α,(∀k,k<l.length->k=0\/R (l.getD (k-1) d) (l.getD k d))->l.Pairwise R
 |[],_=>List.Pairwise.nil
 |[a],_=>by simp
 |a::b::r,h=>by
  have ih:=jp tr d (b::r) (fun k hk=>by
   rcases q1F k with e|e
   .exact .inl e
   .have:=h (k+1) (by simpa using hk);obtain⟨j,rfl⟩:∃j,k=j+1:=⟨k-1,om⟩
    simpa using this)
  have hab:R a b:=by
   have:=h 1 sm;simpa using this
  refine q1O.2 ⟨fun x hx=> ?_,ih⟩;rcases q0O.1 hx with rfl|hx
  .exact hab
  .exact tr _ _ _ hab ((q1O.1 ih).1 x hx)
theorem vF{α:Type}{R:α->α->Prop}(d:α){l:List α}(h:l.Pairwise R)(k:Nat)(hk:k<l.length):k=0\/R (l.getD (k-1) d) (l.getD k d):=by
 rcases q1F k with e|e
 .exact .inl e
 .right;rw[getD_at (zV hk),getD_at (zV (show k-1<l.length by omega))];exact q0a.1 h (k-1) k om hk om
variable {c:Calls}
theorem C0:Bw c=true↔(BV c.id=true/\0<=c.Ad/\c.Ad<=1048576/\c.op.length<=16)/\(∀x∈c.op,Ef c.id c.Ad x=true)/\c.op.Pairwise fun x y=>x.id<y.id:=by
 unfold Bw Px;simp only[zO,zW,Hp];refine and_congr_right fun _=>⟨fun h=>⟨fun x hx=> ?_,jp (R:=fun x y:Al=>x.id<y.id) (fun _ _ _=>Int.lt_trans) KY _ fun k hk=> ?_⟩,fun h k hk=> ?_⟩
 .obtain⟨k,hk,rfl⟩:=List.getElem_of_mem hx;have:=h k hk;unfold J8 at this;rw[zO,getD_at (zV hk)]at this;exact this.1
 .have:=h k hk;unfold J8 at this;rw[zO,zW]at this;exact this.2
 .unfold J8;rw[zO,zW];refine⟨?_,vF KY h.2 k hk⟩;rw[getD_at (zV hk)];exact h.1 _ (q0q hk)
theorem Dj{id Ad:Int}{x:Al}:Ef id Ad x=true↔x.BD.right=true/\x.BD.BY=true/\x.BD.B8=id/\x.id=x.BD.Ae/\x.id<=id*1048576+Ad/\1<=x.BQ/\x.BQ<=3/\DG x.CZ=true:=by
 unfold Ef;simp only[zO,zW]
variable {m:AF}{now:Int}
theorem dZ{Bd ref:Int}(h:Bw c=true)(he:(CX c m Bd ref now).2.2=0):
  c.op.length<16/\c.Ad<1048576/\DG now=true/\∃q:AF,q={m with Ae:=c.id*1048576+(c.Ad+1),B8:=c.id}/\q.right=true/\q.BY=true/\CX c m Bd ref now=(⟨c.id,c.Ad+1,c.op++[⟨c.id*1048576+(c.Ad+1),q,Bd,ref,now,1⟩]⟩,q,0):=by
 have hh:=(C0.1 h).1;unfold CX at he|-;rw[zn h]at he|-;split at he
 .cases he
 .rename_i h1;rw[zx h1];dsimp only at he|-;split at he
  .rename_i h2;rw[zn h2];simp only[zO]at h2;exact⟨om,om,h2.1,_,rfl,h2.2.2,h2.2.1,rfl⟩
  .cases he
theorem aY{Bd ref:Int}(h:Bw c=true)(he:(CX c m Bd ref now).2.2=0):Bw (CX c m Bd ref now).1=true:=by
 obtain⟨h1,h2,h3,q,hq,h4,h5,e⟩:=dZ h he;rw[e];obtain⟨⟨a1,a2,a3,a4⟩,a5,a6⟩:=C0.1 h;have hs:q.B8=c.id:=by rw[hq]
 have hc:q.Ae=c.id*1048576+(c.Ad+1):=by rw[hq]
 refine C0.2 ⟨⟨a1,by dsimp only;omega,by dsimp only;omega,by simp;omega⟩,fun x hx=> ?_,?_⟩
 .dsimp only at hx|-;rw[q0W,q0e]at hx;rcases hx with hx|rfl
  .obtain⟨b1,b2,b3,b4,b5,b6⟩:=Dj.1 (a5 x hx);exact Dj.2 ⟨b1,b2,b3,b4,om,b6⟩
  .exact Dj.2 ⟨h4,h5,hs,hc.symm,q1C _,q1C _,(by decide:(1:Int)<=3),h3⟩
 .refine List.pairwise_append.2 ⟨a6,sm,fun x hx y hy=> ?_⟩;rw[q0e]at hy;subst hy;have:=(Dj.1 (a5 x hx)).2.2.2.2.1;dsimp only;omega
theorem Tx{l:List Al}(h:Bw c=true)(hs:l.Sublist c.op):Bw ⟨c.id,c.Ad,l⟩=true:=by
 obtain⟨⟨a1,a2,a3,a4⟩,a5,a6⟩:=C0.1 h;have:=hs.length_le;exact C0.2 ⟨⟨a1,a2,a3,by dsimp only;omega⟩,fun x hx=>a5 x (hs.subset hx),a6.sublist hs⟩
theorem Wy(h:Bw c=true):Bw (D8 c m).1=true:=by
 unfold D8;split
 .split
  .exact Tx h List.filter_sublist
  .exact h
 .exact h
theorem Wx(hk:(D8 c m).2.2=true):Bw c=true/\m.right=true/\(D8 c m).2.1∈c.op/\QK c.id m (D8 c m).2.1=true/\(D8 c m).1=⟨c.id,c.Ad,c.op.filter fun y=> !QK c.id m y⟩:=by
 unfold D8 at hk|-;split at hk
 .rename_i hc;rw[zn hc];rw[zO]at hc
  cases hf:c.op.find? (QK c.id m)with
  |none=>rw[hf]at hk;cases hk
  |some x=>exact⟨hc.1,hc.2,List.mem_of_find?_eq_some hf,List.find?_some hf,rfl⟩
 .cases hk
theorem Sl(now:Int)(x:Al):(Gv now x).id=x.id:=by unfold Gv;split<;>rfl
theorem gg(now:Int)(x:Al):(Gv now x).BD=x.BD:=by unfold Gv;split<;>rfl
theorem aN(h:Bw c=true):Bw (Ch c now).1=true:=by
 unfold Ch;split
 .rename_i hc;rw[zO]at hc;have hs:=Tx h (List.filter_sublist (l:=c.op) (p:=fun x=> !DX now x));obtain⟨⟨a1,a2,a3,a4⟩,a5,a6⟩:=C0.1 hs;dsimp only at a1 a2 a3 a4 a5 a6;refine C0.2 ⟨⟨a1,a2,a3,by dsimp only;rw[q08];exact a4⟩,fun y hy=> ?_,?_⟩
  .obtain⟨x,hx,rfl⟩:=q1L.1 hy;obtain⟨b1,b2,b3,b4,b5,b6,b7,b8⟩:=Dj.1 (a5 x hx);rw[Dj,Sl,gg];refine⟨b1,b2,b3,b4,b5,?_⟩;unfold Gv;split
   .rename_i hd;unfold MG at hd;simp only[zO,zW]at hd;exact⟨by dsimp only;omega,by dsimp only;omega,hc.2⟩
   .exact⟨b6,b7,b8⟩
  .refine List.pairwise_map.2 (a6.imp fun{x y} hxy=> ?_);rw[Sl,Sl];exact hxy
 .exact h
theorem dM(c:Calls)(now:Int):(Ch c now).1.id=c.id/\(Ch c now).1.Ad=c.Ad:=by
 unfold Ch;split<;>exact⟨rfl,rfl⟩
theorem mn(c:Calls)(now:Int)(h:Bw c=true):(Ch c now).1.op.length<=16/\(Ch c now).2.1.length<=(Ch c now).1.op.length/\(Ch c now).2.2.length<=16:=by
 have h16:=(C0.1 h).1.2.2.2;unfold Ch;split
 .dsimp only;have h1:=q0b (fun x=> !DX now x) c.op;have h2:=q0b (MG now) (c.op.filter fun x=> !DX now x);have h3:=q0b (DX now) c.op;rw[q08,q08];omega
 .exact⟨h16,zi _,zi _⟩
theorem gT(h:Bw c=true):(∀m∈(Ch c now).2.1,m.right=true/\m.BY=true/\m.B8=c.id)/\∀x∈(Ch c now).2.2,Ef c.id c.Ad x=true:=by
 have a5:=(C0.1 h).2.1;unfold Ch;split
 .refine⟨fun m hm=> ?_,fun x hx=>a5 x (List.mem_filter.1 hx).1⟩;obtain⟨x,hx,rfl⟩:=q1L.1 hm;obtain⟨b1,b2,b3,_⟩:=Dj.1 (a5 x (List.mem_filter.1 (List.mem_filter.1 hx).1).1);exact⟨b1,b2,b3⟩
 .exact⟨fun m hm=>(by cases hm),fun x hx=>(by cases hx)⟩
variable {l:List Past}
theorem Hb:FX l=true↔l.length<=40/\(∀p∈l,Mp p=true)/\l.Pairwise fun p q=>¬(p.B8=q.B8/\p.Ae=q.Ae):=by
 unfold FX;rw[zO,zW,Hp];refine and_congr_right fun _=>⟨fun h=>⟨fun x hx=> ?_,q0a.2 fun i j hi hj hij=> ?_⟩,fun h k hk=> ?_⟩
 .obtain⟨k,hk,rfl⟩:=List.getElem_of_mem hx;have:=h k hk;unfold FC at this;rw[zO,getD_at (zV hk)]at this;exact this.1
 .have:=h j hj;unfold FC at this;rw[zO,getD_at (zV hj),q0h]at this;have h2:=q0s.1 this.2 l[i] (q0w.2 ⟨i,by rw[q0Y,zn hij];exact zV hi⟩);unfold LX at h2;simpa using h2
 .unfold FC;rw[zO,q0h,getD_at (zV hk)];refine⟨h.1 _ (q0q hk),q0s.2 fun p hp=> ?_⟩;obtain⟨i,hi,rfl⟩:=List.getElem_of_mem hp;rw[q0D]at hi;rw[List.getElem_take];have:=q0a.1 h.2 i k om hk om;unfold LX;simpa using this
theorem Mq{p:Past}:Mp p=true↔p.AD.right=true/\p.AD.BY=false/\p.AD.dst=p.B8/\p.AD.Ae=p.Ae:=by
 unfold Mp;simp only[zO,zW,q0h]
theorem Yb{s c:Int}(h:(Cr l s c).2=false):∀p∈l,¬(p.B8=s/\p.Ae=c):=by
 unfold Cr at h;intro p hp
 cases hf:l.find? (fun p=>decide (p.B8=s)&&decide (p.Ae=c))with
 |some q=>rw[hf]at h;cases h
 |none=>
  have:=List.find?_eq_none.1 hf p hp;simpa using this
theorem iP{s c:Int}(h:(Cr l s c).2=true):∃p∈l,p.B8=s/\p.Ae=c/\(Cr l s c).1=p.AD:=by
 unfold Cr at h|-
 cases hf:l.find? (fun p=>decide (p.B8=s)&&decide (p.Ae=c))with
 |some q=>
  have h2:=List.find?_some hf;simp only[zO,zW]at h2;exact⟨q,List.mem_of_find?_eq_some hf,h2.1,h2.2,rfl⟩
 |none=>rw[hf]at h;cases h
theorem YY{t:AF}(h:FX l=true):FX (EB l t)=true:=by
 unfold EB;split
 .rename_i hc;rw[zO,q0h]at hc;split
  .exact h
  .rename_i hf;have hn:=Yb (Bool.not_eq_true _▸hf);obtain⟨a1,a2,a3⟩:=Hb.1 h;have hs:=List.drop_sublist ((l.length+1)-40) (l++[⟨t.dst,t.Ae,t⟩]);refine Hb.2 ⟨?_,fun p hp=> ?_,List.Pairwise.sublist hs (List.pairwise_append.2 ⟨a3,sm,fun p hp q hq=> ?_⟩)⟩
   .rw[q1H,q04,List.length_singleton];omega
   .have hp:=hs.subset hp;rw[q0W,q0e]at hp;rcases hp with hp|rfl
    .exact a2 p hp
    .exact Mq.2 ⟨hc.1,hc.2,rfl,rfl⟩
   .rw[q0e]at hq;subst hq;exact hn p hp
 .exact h
theorem YW{t:AF}(h:FX l=true)(h1:t.right=true)(h2:t.BY=false)(h3:(Cr l t.dst t.Ae).2=false):Cr (EB l t) t.dst t.Ae=(t,true):=by
 have hn:=Yb h3;have hl:=(Hb.1 h).1;unfold EB;rw[h1,h2,h3];simp only[q1p,q1c,q0X,q0E,q0U]
 have hd:(l++[(⟨t.dst,t.Ae,t⟩:Past)]).drop ((l.length+1)-40)=l.drop ((l.length+1)-40)++[⟨t.dst,t.Ae,t⟩]:=by
  rw[List.drop_append_of_le_length om]
 rw[hd];unfold Cr
 have hnone:(l.drop ((l.length+1)-40)).find? (fun p=>decide (p.B8=t.dst)&&decide (p.Ae=t.Ae))=none:=by
  rw[List.find?_eq_none];intro p hp;have:=hn p (List.mem_of_mem_drop hp);simpa using this
 rw[List.find?_append,hnone];simp
end Nd
end Go.Proofs.YtamjpnmjpponpaaGreatDoor
namespace Go.Proofs.YtamjpnmjpponpaaGreatDoor
namespace Nd
open Go.Gar
open Wi (AF BV B7 AU Bp mC Cp Bc)
abbrev M3:BF:=[0,1,2,3,5,15,31]
abbrev D1:BF:=[0,1,2,3,4,5,6,17,18,20]
abbrev M4:BF:=[0,1,4,6,7,8,9,16]
abbrev N3:=List Al×List AF×List Al
def Cj(now:Int)(s:N3)(x:Al):N3:=
 if DX now x then(s.1++[x],s.2.1,s.2.2)else(s.1,if MG now x then s.2.1++[x.BD]else s.2.1,s.2.2++[Gv now x])
abbrev HL(now:Int)(ov:List Al)(ag:List AF):z6:=[.c [.yO now],.c [.sl 3 ov.length 20],.c [.sl 4 ag.length 15],.a (Ag ov),.a (CB ag)]
theorem aL(now:Int)(ov:List Al)(ag:List AF)(x:Al)(h1:1<=x.BQ)(h3:x.BQ<=3)(h4:DG x.CZ=true)(h5:DG now=true)(ho:ov.length<=1048576)(h:DX now x=true):
  yT 329 [.ptr 5 0 20,.ptr 0 0 1,.ptr 1 0 1,.ptr 2 0 1] (HL now ov ag++[.c (Bz x)]) (.yP false) (HL now (ov++[x]) ag++[.c (Bz x)]):=by
 have c1:=TP x now h1 h3 h4 h5;rw[h]at c1;refine zD AE Tryz.func329 ?_;unfold Bz;simp only[zY,zZ];refine AO M3 ?_ (AK @c1) [] [2];refine A9 M3 ?_;exact⟨⟨[(5,.yP false)],[.c [.yO now],.c [.sl 3 (ov++[x]).length 20],.c [.sl 4 ag.length 15],.a (Ag (ov++[x])),.a (CB ag),.c (Bz x)],_⟩,(have nC:=zh @Ag.eq_1 @Al.A4.eq_1;A8.cn rfl),yR,_,_,rfl,rfl,rfl,rfl⟩
theorem gS(now:Int)(ov:List Al)(ag:List AF)(x:Al)(hm:Ay x.BD)(h1:1<=x.BQ)(h3:x.BQ<=3)(h4:DG x.CZ=true)(h5:DG now=true)(ha:ag.length<=1048576)(h:DX now x=false)(hd:MG now x=true):
  yT 329 [.ptr 5 0 20,.ptr 0 0 1,.ptr 1 0 1,.ptr 2 0 1] (HL now ov ag++[.c (Bz x)]) (.yP true) (HL now ov (ag++[x.BD])++[.c (Bz (Gv now x))]):=by
 have c1:=TP x now h1 h3 h4 h5;have c2:=eV x now h1 h3 h4 h5;have c3:=EG x.BD hm;have e:Gv now x=⟨x.id,x.BD,x.Bd,x.ref,now,x.BQ+1⟩:=by unfold Gv;rw[hd];rfl
 rw[h]at c1;rw[hd]at c2;rw[e];refine zD AE Tryz.func329 ?_;unfold Bz;unfold Wi.AF.d Wi.AF.A4 at c3;simp only[zY,zZ];refine AO M3 ?_ (Au @c1 @c2) [] [5];refine A9 M3 ?_ [] [7];refine AO M3 ?_ (AK @c3);exact⟨⟨[(5,.yP true)],[.c [.yO now],.c [.sl 3 ov.length 20],.c [.sl 4 (ag++[x.BD]).length 15],.a (Ag ov),.a (CB (ag++[x.BD])),.c (Bz ⟨x.id,x.BD,x.Bd,x.ref,now,x.BQ+1⟩)],_⟩,(have nC:=zh @CB.eq_1 @Wi.AF.A4.eq_1;A8.cn rfl),yR,_,_,rfl,rfl,rfl,rfl⟩
theorem aM(now:Int)(ov:List Al)(ag:List AF)(x:Al)(h1:1<=x.BQ)(h3:x.BQ<=3)(h4:DG x.CZ=true)(h5:DG now=true)(h:DX now x=false)(hd:MG now x=false):
  yT 329 [.ptr 5 0 20,.ptr 0 0 1,.ptr 1 0 1,.ptr 2 0 1] (HL now ov ag++[.c (Bz x)]) (.yP true) (HL now ov ag++[.c (Bz x)]):=by
 have c1:=TP x now h1 h3 h4 h5;have c2:=eV x now h1 h3 h4 h5;rw[h]at c1;rw[hd]at c2;refine zD AE Tryz.func329 ?_;unfold Bz;simp only[zY,zZ];refine AO M3 ?_ (Au @c1 @c2);exact wE
abbrev Pl:=Al×Bool×List Al
def DD(id:Int)(m:AF)(s:Pl)(x:Al):Pl:=if QK id m x then(x,true,s.2.2)else(s.1,s.2.1,s.2.2++[x])
abbrev HK(id Ad:Int)(l0:List Al)(m:AF)(cl:Al)(fd:Bool):z6:=[.c [.yO id,.yO Ad,.d (Ag l0)],.c (mX m),.c (Bz cl),.c [.yP fd]]
theorem closeD(id Ad:Int)(l0:List Al)(m:AF)(cl:Al)(fd:Bool)(x:Al)(hk:1<=x.BD.AN/\x.BD.AN<=6)(b:Bool)(hb:QK id m x=b):
  yT 246 [.ptr 4 0 20,.ptr 0 0 3,.ptr 1 0 15,.ptr 2 0 20,.ptr 3 0 1] (HK id Ad l0 m cl fd++[.c (Bz x)]) (.yP !b) (HK id Ad l0 m (if b then x else cl) (fd||b)++[.c (Bz x)]):=by
 have c1:=rK ⟨id,Ad,l0⟩ x m hk;rw[hb]at c1;refine zD AE Tryz.func246 ?_;unfold HK Bz;unfold Wi.AF.d Wi.AF.A4 Al.d Al.A4 Calls.d Calls.A4 at c1;simp only[zY,zZ]
 cases b with
 |true=>
  refine AO [0,1,2,3,4,6,13] ?_ (AK @c1);rw[Bool.or_true];exact wE
 |false=>
  refine AO [0,1,2,3,4,6,13] ?_ (AK @c1);rw[Bool.or_false];exact wE
theorem fR(id Ad:Int)(l:List Al)(now:Int)(hl:∀x∈l,Ay x.BD)(hn:l.length<=1048576)(h5:DG now=true)(hc:∀x∈l,Ef id Ad x=true)(hs:∀j,(fun s:N3=>s.1.length<=1048576/\s.2.1.length<=1048576/\s.2.2.length<=1048576) ((l.take j).foldl (Cj now) (([],[],[]):N3))):yT 140 [.d (Calls.d ⟨id,Ad,l⟩),.fn (.func 329) [] [.ptr 0 0 1,.ptr 1 0 1,.ptr 2 0 1]] [.c [.yO now],.c [.sl 3 ([]:List Al).length 20],.c [.sl 4 ([]:List AF).length 15],.a (Ag ([]:List Al)),.a (CB ([]:List AF))] (.ag [.yO id,.yO Ad,.sl 8 (l.foldl (Cj now) (([],[],[]):N3)).2.2.length 20]) [.c [.yO now],.c [.sl 3 (l.foldl (Cj now) (([],[],[]):N3)).1.length 20],.c [.sl 4 (l.foldl (Cj now) (([],[],[]):N3)).2.1.length 15],.a (Ag (l.foldl (Cj now) (([],[],[]):N3)).1),.a (CB (l.foldl (Cj now) (([],[],[]):N3)).2.1),.gone,.gone,.c [.yO id,.yO Ad,.sl 8 (l.foldl (Cj now) (([],[],[]):N3)).2.2.length 20],.a (Ag (l.foldl (Cj now) (([],[],[]):N3)).2.2)]:=by
 have c1:=NN ⟨id,Ad,l⟩;refine zD AE Tryz.func140 ?_;unfold Calls.d Calls.A4 at *;refine A9 D1 ?_ [] [1];refine Hn T.get 7 9 8 9 ⟨[(0,.d (.agg [.yX id,.yX Ad,Ag l])),(1,.fn (.func 329) [] [.ptr 0 0 1,.ptr 1 0 1,.ptr 2 0 1]),(2,.ptr 5 0 3),(3,.ptr 6 0 1),(4,.ptr 7 0 3),(5,.ptr 9 0 3)],[.c [.yO now],.c [.sl 3 ([]:List Al).length 20],.c [.sl 4 ([]:List AF).length 15],.a (Ag ([]:List Al)),.a (CB ([]:List AF)),.c [.yO id,.yO Ad,.d (Ag l)],.c [.fn (.func 329) [] [.ptr 0 0 1,.ptr 1 0 1,.ptr 2 0 1]],.c [.yO 0,.yO 0,.e0],.a (Ag []),.c [.yO id,.yO Ad,.sl 8 0 20]],28⟩ mixed rfl rfl rfl ?_ ?_ ?_
 .refine A9 D1 ?_ [(0,7),(1,7),(2,7),(3,7),(0,9),(1,9),(2,9),(3,9)];exact⟨rfl,.inl rfl⟩
 .refine A9 D1 ?_ [(0,7),(1,7),(2,7),(3,7),(4,7),(5,7),(0,8),(1,8),(2,8),(3,8)];exact⟨rfl,.inr rfl⟩
 refine Ax D1 ?_ (BJ [] c1);refine zG (K:=fun r _ H'=>H'=[.c [.yO now],.c [.sl 3 (l.foldl (Cj now) (([],[],[]):N3)).1.length 20],.c [.sl 4 (l.foldl (Cj now) (([],[],[]):N3)).2.1.length 15],.a (Ag (l.foldl (Cj now) (([],[],[]):N3)).1),.a (CB (l.foldl (Cj now) (([],[],[]):N3)).2.1),.c [.yO id,.yO Ad,.d (Ag l)],.c [.fn (.func 329) [] [.ptr 0 0 1,.ptr 1 0 1,.ptr 2 0 1]],.c [.yO 0,.yO 0,.e0],.a (Ag (l.foldl (Cj now) (([],[],[]):N3)).2.2),.c [.yO id,.yO Ad,.sl 8 (l.foldl (Cj now) (([],[],[]):N3)).2.2.length 20],.c [.yO id,.yO Ad,.d (Ag l)],.lp r]) ?_ ?_
 .intro r hr;have hk:=hr.ok (k:=11) rfl
  have hY:∀(x:Al)(s:N3),Ef id Ad x=true->Ay x.BD->(s.1.length<=1048576/\s.2.1.length<=1048576/\s.2.2.length<=1048576)->YT Tryz.prog 11 [.d (.agg [.yX x.id,.i .u8 x.BD.AN,.yX x.BD.Ae,.yX x.BD.B8,.yX x.BD.dst,.yX x.BD.AI,.b x.BD.BA,.b x.BD.done,.yX x.BD.AP,.yX x.BD.AH,.is x.BD.AB,.s x.BD.AC.AI,.yX x.BD.AC.B4,.yX x.BD.AC.AZ,.b x.BD.AC.gone,.yX x.BD.Aa,.i .u8 x.Bd,.yX x.ref,.yX x.CZ,.yX x.BQ])] [.c [.yO now],.c [.sl 3 s.1.length 20],.c [.sl 4 s.2.1.length 15],.a (Ag s.1),.a (CB s.2.1),.c [.yO id,.yO Ad,.d (Ag l)],.c [.fn (.func 329) [] [.ptr 0 0 1,.ptr 1 0 1,.ptr 2 0 1]],.c [.yO 0,.yO 0,.e0],.a (Ag s.2.2),.c [.yO id,.yO Ad,.sl 8 s.2.2.length 20],.c [.yO id,.yO Ad,.d (Ag l)],.lp r,.c (Bz x)] fun v K=>v= .yP true/\K=[.c [.yO now],.c [.sl 3 (Cj now s x).1.length 20],.c [.sl 4 (Cj now s x).2.1.length 15],.a (Ag (Cj now s x).1),.a (CB (Cj now s x).2.1),.c [.yO id,.yO Ad,.d (Ag l)],.c [.fn (.func 329) [] [.ptr 0 0 1,.ptr 1 0 1,.ptr 2 0 1]],.c [.yO 0,.yO 0,.e0],.a (Ag (Cj now s x).2.2),.c [.yO id,.yO Ad,.sl 8 (Cj now s x).2.2.length 20],.c [.yO id,.yO Ad,.d (Ag l)],.lp r,.c (Bz x)]:=by
   intro x s hx hm hsz;obtain⟨b1,b2,b3,b4,b5,b6,b7,b8⟩:=Dj.1 hx;obtain⟨ov,ag,o⟩:=s;dsimp only at hsz
   cases hov:DX now x with
   |true=>
    have c2:=aL now ov ag x b6 b7 b8 h5 hsz.1 hov;have e:Cj now (ov,ag,o) x=(ov++[x],ag,o):=by unfold Cj;rw[hov];rfl
    rw[e];clear e;refine Ar hr rfl rfl rfl ?_;unfold HL Bz at *;simp only[zY,zZ]at *;refine A9 D1 ?_;refine zR ?_;refine Ax D1 ?_ (BJ [0,1,2,3,4,13] c2);refine⟨⟨[],[.c [.yO now],.c [.sl 3 (ov++[x]).length 20],.c [.sl 4 ag.length 15],.a (Ag (ov++[x])),.a (CB ag),.c [.yO id,.yO Ad,.d (Ag l)],.c [.fn (.func 329) [] [.ptr 0 0 1,.ptr 1 0 1,.ptr 2 0 1]],.c [.yO 0,.yO 0,.e0],.a (Ag o),.c [.yO id,.yO Ad,.sl 8 o.length 20],.c [.yO id,.yO Ad,.d (Ag l)],.lp r.busy,.c (Bz x)],_⟩,(have nC:=zh @Ag.eq_1 (zh @CB.eq_1 @Al.A4.eq_1);A8.cn rfl),zN _,rfl,rfl,rfl⟩
   |false=>
   cases hd:MG now x with
   |true=>
    have c2:=gS now ov ag x hm b6 b7 b8 h5 hsz.2.1 hov hd;have e:Cj now (ov,ag,o) x=(ov,ag++[x.BD],o++[⟨x.id,x.BD,x.Bd,x.ref,now,x.BQ+1⟩]):=by unfold Cj Gv;rw[hov,hd];rfl
    have en:Gv now x=⟨x.id,x.BD,x.Bd,x.ref,now,x.BQ+1⟩:=by unfold Gv;rw[hd];rfl
    rw[en]at c2;rw[e];clear e en;refine Ar hr rfl rfl rfl ?_;unfold HL Bz at *;simp only[zY,zZ]at *;refine A9 D1 ?_;refine zR ?_;refine Ax D1 ?_ (BJ [0,1,2,3,4,13] c2);refine⟨⟨[],[.c [.yO now],.c [.sl 3 ov.length 20],.c [.sl 4 (ag++[x.BD]).length 15],.a (Ag ov),.a (CB (ag++[x.BD])),.c [.yO id,.yO Ad,.d (Ag l)],.c [.fn (.func 329) [] [.ptr 0 0 1,.ptr 1 0 1,.ptr 2 0 1]],.c [.yO 0,.yO 0,.e0],.a (Ag (o++[(⟨x.id,x.BD,x.Bd,x.ref,now,x.BQ+1⟩:Al)])),.c [.yO id,.yO Ad,.sl 8 (o++[(⟨x.id,x.BD,x.Bd,x.ref,now,x.BQ+1⟩:Al)]).length 20],.c [.yO id,.yO Ad,.d (Ag l)],.lp r.busy,.c (Bz x)],_⟩,(have nC:=zh @Ag.eq_1 (zh @CB.eq_1 @Al.A4.eq_1);A8.cn rfl),zN _,rfl,rfl,rfl⟩
   |false=>
    have c2:=aM now ov ag x b6 b7 b8 h5 hov hd;have e:Cj now (ov,ag,o) x=(ov,ag,o++[x]):=by unfold Cj Gv;rw[hov,hd];rfl
    rw[e];clear e;refine Ar hr rfl rfl rfl ?_;unfold HL Bz at *;simp only[zY,zZ]at *;refine A9 D1 ?_;refine zR ?_;refine Ax D1 ?_ (BJ [0,1,2,3,4,13] c2);refine⟨⟨[],[.c [.yO now],.c [.sl 3 ov.length 20],.c [.sl 4 ag.length 15],.a (Ag ov),.a (CB ag),.c [.yO id,.yO Ad,.d (Ag l)],.c [.fn (.func 329) [] [.ptr 0 0 1,.ptr 1 0 1,.ptr 2 0 1]],.c [.yO 0,.yO 0,.e0],.a (Ag (o++[x])),.c [.yO id,.yO Ad,.sl 8 (o++[x]).length 20],.c [.yO id,.yO Ad,.d (Ag l)],.lp r.busy,.c (Bz x)],_⟩,(have nC:=zh @Ag.eq_1 (zh @CB.eq_1 @Al.A4.eq_1);A8.cn rfl),zN _,rfl,rfl,rfl⟩
  refine zT AE Tryz.func258 ?_;refine A9 M4 ?_;refine CM (fun j:Nat=>j<=l.length) (fun j:Nat=>[(8,.yO j)]) (fun j=>[(1,.c [.sl 3 ((l.take j).foldl (Cj now) (([],[],[]):N3)).1.length 20]),(2,.c [.sl 4 ((l.take j).foldl (Cj now) (([],[],[]):N3)).2.1.length 15]),(3,.a (Ag ((l.take j).foldl (Cj now) (([],[],[]):N3)).1)),(4,.a (CB ((l.take j).foldl (Cj now) (([],[],[]):N3)).2.1)),(8,.a (Ag ((l.take j).foldl (Cj now) (([],[],[]):N3)).2.2)),(9,.c [.yO id,.yO Ad,.sl 8 ((l.take j).foldl (Cj now) (([],[],[]):N3)).2.2.length 20])]) (fun j=>l.length-j) 0 (zi _) (fun _=>rfl) (fun _=>rfl) ?_ ?_
  .exact A8.ck rfl
  intro j hj
  by_cases hjl:j<l.length
  .obtain⟨x,hx⟩:=Ah hjl;have hxm:=q00 hx;have c3:=K5 x (hl x hxm);unfold Al.d Al.A4 at c3;have hy:=hY x ((l.take j).foldl (Cj now) (([],[],[]):N3)) (hc x hxm) (hl x hxm) (hs j);have hf:(Cj now) ((l.take j).foldl (Cj now) (([],[],[]):N3)) x=((l.take (j+1)).foldl (Cj now) (([],[],[]):N3)):=by rw[AY hx,q0o];rfl
   rw[hf]at hy;have ix1:=hx;have q1:=@hy;refine AO M4 ?_ (AK @c3);clear q1 ix1;with_reducible repeat' first|constructor|intro hc
   refine⟨j+1,hjl,om,zN _,?_⟩;exact A8.ck rfl
  .have e:j=l.length:=om
   subst e;rw[q06];refine A9 M4 ?_;with_reducible repeat' first|constructor|intro hc
   exact⟨_,A8.refl _,zN _,_,_,rfl,rfl,rfl⟩
 .rintro r hr x H' rfl;refine .inl ⟨rfl,?_⟩;refine A9 D1 ?_;exact wE
theorem fQ(id Ad:Int)(l:List Al)(l0:List Al)(m:AF)(hl:∀x∈l,Ay x.BD)(hn:l.length<=1048576)(hc:∀x∈l,Ef id Ad x=true)(hs:∀j,(fun s:Pl=>s.2.2.length<=1048576) ((l.take j).foldl (DD id m) ((D7,false,[]):Pl))):yT 140 [.d (Calls.d ⟨id,Ad,l⟩),.fn (.func 246) [] [.ptr 0 0 3,.ptr 1 0 15,.ptr 2 0 20,.ptr 3 0 1]] [.c [.yO id,.yO Ad,.d (Ag l0)],.c (mX m),.c (Bz D7),.c [.yP false]] (.ag [.yO id,.yO Ad,.sl 7 (l.foldl (DD id m) ((D7,false,[]):Pl)).2.2.length 20]) [.c [.yO id,.yO Ad,.d (Ag l0)],.c (mX m),.c (Bz (l.foldl (DD id m) ((D7,false,[]):Pl)).1),.c [.yP ((l.foldl (DD id m) ((D7,false,[]):Pl)).2.1)],.gone,.gone,.c [.yO id,.yO Ad,.sl 7 (l.foldl (DD id m) ((D7,false,[]):Pl)).2.2.length 20],.a (Ag (l.foldl (DD id m) ((D7,false,[]):Pl)).2.2)]:=by
 have c1:=NN ⟨id,Ad,l⟩;refine zD AE Tryz.func140 ?_;unfold Calls.d Calls.A4 at *;refine A9 D1 ?_ [] [1];refine Hn T.get 7 9 7 8 ⟨[(0,.d (.agg [.yX id,.yX Ad,Ag l])),(1,.fn (.func 246) [] [.ptr 0 0 3,.ptr 1 0 15,.ptr 2 0 20,.ptr 3 0 1]),(2,.ptr 4 0 3),(3,.ptr 5 0 1),(4,.ptr 6 0 3),(5,.ptr 8 0 3)],[.c [.yO id,.yO Ad,.d (Ag l0)],.c (mX m),.c (Bz D7),.c [.yP false],.c [.yO id,.yO Ad,.d (Ag l)],.c [.fn (.func 246) [] [.ptr 0 0 3,.ptr 1 0 15,.ptr 2 0 20,.ptr 3 0 1]],.c [.yO 0,.yO 0,.e0],.a (Ag []),.c [.yO id,.yO Ad,.sl 7 0 20]],28⟩ mixed rfl rfl rfl ?_ ?_ ?_
 .refine A9 D1 ?_ [(0,7),(1,7),(2,7),(3,7),(0,9),(1,9),(2,9),(3,9)];exact⟨rfl,.inl rfl⟩
 .refine A9 D1 ?_ [(0,7),(1,7),(2,7),(3,7),(4,7),(5,7),(0,8),(1,8),(2,8),(3,8)];exact⟨rfl,.inr rfl⟩
 refine Ax D1 ?_ (BJ [] c1);refine zG (K:=fun r _ H'=>H'=[.c [.yO id,.yO Ad,.d (Ag l0)],.c (mX m),.c (Bz (l.foldl (DD id m) ((D7,false,[]):Pl)).1),.c [.yP ((l.foldl (DD id m) ((D7,false,[]):Pl)).2.1)],.c [.yO id,.yO Ad,.d (Ag l)],.c [.fn (.func 246) [] [.ptr 0 0 3,.ptr 1 0 15,.ptr 2 0 20,.ptr 3 0 1]],.c [.yO 0,.yO 0,.e0],.a (Ag (l.foldl (DD id m) ((D7,false,[]):Pl)).2.2),.c [.yO id,.yO Ad,.sl 7 (l.foldl (DD id m) ((D7,false,[]):Pl)).2.2.length 20],.c [.yO id,.yO Ad,.d (Ag l)],.lp r]) ?_ ?_
 .intro r hr;have hk:=hr.ok (k:=10) rfl
  have hY:∀(x:Al)(s:Pl),Ef id Ad x=true->Ay x.BD->(s.2.2.length<=1048576)->YT Tryz.prog 10 [.d (.agg [.yX x.id,.i .u8 x.BD.AN,.yX x.BD.Ae,.yX x.BD.B8,.yX x.BD.dst,.yX x.BD.AI,.b x.BD.BA,.b x.BD.done,.yX x.BD.AP,.yX x.BD.AH,.is x.BD.AB,.s x.BD.AC.AI,.yX x.BD.AC.B4,.yX x.BD.AC.AZ,.b x.BD.AC.gone,.yX x.BD.Aa,.i .u8 x.Bd,.yX x.ref,.yX x.CZ,.yX x.BQ])] [.c [.yO id,.yO Ad,.d (Ag l0)],.c (mX m),.c (Bz s.1),.c [.yP s.2.1],.c [.yO id,.yO Ad,.d (Ag l)],.c [.fn (.func 246) [] [.ptr 0 0 3,.ptr 1 0 15,.ptr 2 0 20,.ptr 3 0 1]],.c [.yO 0,.yO 0,.e0],.a (Ag s.2.2),.c [.yO id,.yO Ad,.sl 7 s.2.2.length 20],.c [.yO id,.yO Ad,.d (Ag l)],.lp r,.c (Bz x)] fun v K=>v= .yP true/\K=[.c [.yO id,.yO Ad,.d (Ag l0)],.c (mX m),.c (Bz (DD id m s x).1),.c [.yP ((DD id m s x).2.1)],.c [.yO id,.yO Ad,.d (Ag l)],.c [.fn (.func 246) [] [.ptr 0 0 3,.ptr 1 0 15,.ptr 2 0 20,.ptr 3 0 1]],.c [.yO 0,.yO 0,.e0],.a (Ag (DD id m s x).2.2),.c [.yO id,.yO Ad,.sl 7 (DD id m s x).2.2.length 20],.c [.yO id,.yO Ad,.d (Ag l)],.lp r,.c (Bz x)]:=by
   intro x s hx hm hsz;obtain⟨b1,b2,b3,b4,b5,b6,b7,b8⟩:=Dj.1 hx
   have hk6:1<=x.BD.AN/\x.BD.AN<=6:=by
    unfold AF.BY at b2;simpa only[zO,zW]using b2
   obtain⟨cl,fd,o⟩:=s;dsimp only at hsz
   cases hof:QK id m x with
   |true=>
    have c2:=closeD id Ad l0 m cl fd x hk6 true hof;rw[Bool.or_true,zn rfl]at c2;have e:DD id m (cl,fd,o) x=(x,true,o):=by unfold DD;rw[hof];rfl
    rw[e];clear e;refine Ar hr rfl rfl rfl ?_;unfold HK Bz at *;simp only[zY,zZ]at *;refine A9 D1 ?_;refine zR ?_;refine Ax D1 ?_ (BJ [0,1,2,3,12] c2);refine⟨⟨[],[.c [.yO id,.yO Ad,.d (Ag l0)],.c (mX m),.c (Bz x),.c [.yP true],.c [.yO id,.yO Ad,.d (Ag l)],.c [.fn (.func 246) [] [.ptr 0 0 3,.ptr 1 0 15,.ptr 2 0 20,.ptr 3 0 1]],.c [.yO 0,.yO 0,.e0],.a (Ag o),.c [.yO id,.yO Ad,.sl 7 o.length 20],.c [.yO id,.yO Ad,.d (Ag l)],.lp r.busy,.c (Bz x)],_⟩,(have nC:=zh @Ag.eq_1 (zh @CB.eq_1 @Al.A4.eq_1);A8.cn rfl),zN _,rfl,rfl,rfl⟩
   |false=>
    have c2:=closeD id Ad l0 m cl fd x hk6 false hof;rw[Bool.or_false,zx (by decide)]at c2;have e:DD id m (cl,fd,o) x=(cl,fd,o++[x]):=by unfold DD;rw[hof];rfl
    rw[e];clear e;refine Ar hr rfl rfl rfl ?_;unfold HK Bz at *;simp only[zY,zZ]at *;refine A9 D1 ?_;refine zR ?_;refine Ax D1 ?_ (BJ [0,1,2,3,12] c2);refine⟨⟨[],[.c [.yO id,.yO Ad,.d (Ag l0)],.c (mX m),.c (Bz cl),.c [.yP fd],.c [.yO id,.yO Ad,.d (Ag l)],.c [.fn (.func 246) [] [.ptr 0 0 3,.ptr 1 0 15,.ptr 2 0 20,.ptr 3 0 1]],.c [.yO 0,.yO 0,.e0],.a (Ag (o++[x])),.c [.yO id,.yO Ad,.sl 7 (o++[x]).length 20],.c [.yO id,.yO Ad,.d (Ag l)],.lp r.busy,.c (Bz x)],_⟩,(have nC:=zh @Ag.eq_1 (zh @CB.eq_1 @Al.A4.eq_1);A8.cn rfl),zN _,rfl,rfl,rfl⟩
  refine zT AE Tryz.func258 ?_;refine A9 M4 ?_;refine CM (fun j:Nat=>j<=l.length) (fun j:Nat=>[(8,.yO j)]) (fun j=>[(2,.c (Bz ((l.take j).foldl (DD id m) ((D7,false,[]):Pl)).1)),(3,.c [.yP (((l.take j).foldl (DD id m) ((D7,false,[]):Pl)).2.1)]),(7,.a (Ag ((l.take j).foldl (DD id m) ((D7,false,[]):Pl)).2.2)),(8,.c [.yO id,.yO Ad,.sl 7 ((l.take j).foldl (DD id m) ((D7,false,[]):Pl)).2.2.length 20])]) (fun j=>l.length-j) 0 (zi _) (fun _=>rfl) (fun _=>rfl) ?_ ?_
  .exact A8.ck rfl
  intro j hj
  by_cases hjl:j<l.length
  .obtain⟨x,hx⟩:=Ah hjl;have hxm:=q00 hx;have c3:=K5 x (hl x hxm);unfold Al.d Al.A4 at c3;have hy:=hY x ((l.take j).foldl (DD id m) ((D7,false,[]):Pl)) (hc x hxm) (hl x hxm) (hs j);have hf:(DD id m) ((l.take j).foldl (DD id m) ((D7,false,[]):Pl)) x=((l.take (j+1)).foldl (DD id m) ((D7,false,[]):Pl)):=by rw[AY hx,q0o];rfl
   rw[hf]at hy;have ix1:=hx;have q1:=@hy;refine AO M4 ?_ (AK @c3);clear q1 ix1;with_reducible repeat' first|constructor|intro hc
   refine⟨j+1,hjl,om,zN _,?_⟩;exact A8.ck rfl
  .have e:j=l.length:=om
   subst e;rw[q06];refine A9 M4 ?_;with_reducible repeat' first|constructor|intro hc
   exact⟨_,A8.refl _,zN _,_,_,rfl,rfl,rfl⟩
 .rintro r hr x H' rfl;refine .inl ⟨rfl,?_⟩;refine A9 D1 ?_;exact wE
abbrev OY:BF:=[0,1,2,3,4,5,6,14]
abbrev Is:BF:=[0,1,2,3,4,5,6,7,8,16]
theorem lz(now:Int):∀(l:List Al)(s:N3),l.foldl (Cj now) s=(s.1++l.filter (DX now),s.2.1++((l.filter fun x=> !DX now x).filter (MG now)).map (·.BD),s.2.2++(l.filter fun x=> !DX now x).map (Gv now))
 |[],s=>by simp
 |x::r,s=>by
  rw[q0p,lz now r];unfold Cj;cases h:DX now x<;>cases hd:MG now x<;>simp[h,hd]
theorem XL(id:Int)(m:AF):∀(l:List Al)(s:Pl),(∀x∈l,QK id m x=false)->l.foldl (DD id m) s=(s.1,s.2.1,s.2.2++l)
 |[],s,_=>by simp
 |x::r,s,h=>by
  rw[q0p,XL id m r _ (fun y hy=>h y (q0P _ hy))];unfold DD;rw[h x (q0J ..)];simp
theorem lw(id:Int)(m:AF):∀(l:List Al)(s:Pl),(l.Pairwise fun x y=>x.id<y.id)->l.foldl (DD id m) s=match l.find? (QK id m)with
  |some x=>(x,true,s.2.2++l.filter fun y=> !QK id m y)
  |none=>(s.1,s.2.1,s.2.2++l)
 |[],s,_=>by simp
 |x::r,s,h=>by
  obtain⟨h1,h2⟩:=q1O.1 h
  cases hx:QK id m x with
  |true=>
   have hr:∀y∈r,QK id m y=false:=fun y hy=>by
    cases e:QK id m y with
    |false=>rfl
    |true=>
     exfalso;have:=h1 y hy;unfold QK at hx e;simp only[zO,zW]at hx e;omega
   rw[q0p,XL id m r _ hr,q1k,hx];unfold DD;rw[hx];have hf:r.filter (fun y=> !QK id m y)=r:=List.filter_eq_self.2 fun y hy=>by rw[hr y hy];rfl
   simp[hx,hf]
  |false=>
   rw[q0p,lw id m r _ h2,q1k,hx];unfold DD;rw[hx];cases r.find? (QK id m)<;>simp[hx]
theorem gU(now:Int)(l:List Al)(hn:l.length<=1048576)(j:Nat):(fun s:N3=>s.1.length<=1048576/\s.2.1.length<=1048576/\s.2.2.length<=1048576) ((l.take j).foldl (Cj now) (([],[],[]):N3)):=by
 rw[lz];have h0:=q1T j l;have h0':(l.take j).length<=l.length:=by rw[q0D];omega
 have h1:=q0b (DX now) (l.take j);have h2:=q0b (fun x=> !DX now x) (l.take j);have h3:=q0b (MG now) ((l.take j).filter fun x=> !DX now x);simp only[zZ,q08];omega
theorem kV(c:Calls)(now:Int)(hl:∀x∈c.op,Ay x.BD)(hn:c.op.length<=1048576):yS 278 [c.d,.yX now] (.tup [(Ch c now).1.d,CB (Ch c now).2.1,Ag (Ch c now).2.2]):=by
 have c1:=Kl c hl;have c2:=PC now;have c3:=QX c hl hn
 cases hc:Bw c&&DG now with
 |false=>
  have hT:Ch c now=(c,[],[]):=by unfold Ch;rw[hc];rfl
  rw[hT];refine zF AE Tryz.func278 ?_;unfold Calls.d Calls.A4 at*
  cases h1:Bw c with
  |false=>
   rw[h1]at c1;refine AO OY ?_ (Au @c1 @c3);exact zE
  |true=>
   rw[h1,q0A]at hc;rw[h1]at c1;rw[hc]at c2;refine AO OY ?_ (CP @c1 @c2 @c3);exact zE
 |true=>
  have hT:Ch c now=(⟨c.id,c.Ad,(c.op.filter fun x=> !DX now x).map (Gv now)⟩,((c.op.filter fun x=> !DX now x).filter (MG now)).map (·.BD),c.op.filter (DX now)):=by unfold Ch;rw[hc];rfl
  rw[zO]at hc;have c4:=fR c.id c.Ad c.op now hl hn hc.2 (C0.1 hc.1).2.1 (gU now c.op hn);rw[lz]at c4;rw[hc.1]at c1;rw[hc.2]at c2;rw[hT];refine zF AE Tryz.func278 ?_;unfold Calls.d Calls.A4 at *;simp only[zZ]at c4;clear hT;dsimp only;generalize((c.op.filter fun x=> !DX now x).filter (MG now)).map (·.BD)=A2 at *;generalize(c.op.filter fun x=> !DX now x).map (Gv now)=A1 at *;generalize c.op.filter (DX now)=A3 at *;refine AO OY ?_ (Au @c1 @c2) [] [2];refine BG (A8.ES 4 0 (.sl 20 []) rfl rfl rfl rfl (by simp[BM])) sm ?_;refine BG (A8.ES 3 0 (.sl 15 []) rfl rfl rfl rfl (by simp[BM])) sm ?_;refine Ax OY ?_ (BJ [1,4,3,5,6] c4) [] [3];refine A9 OY ?_ [(1,3),(2,3),(2,4)];exact zE
theorem fK(c:Calls)(m:AF)(hl:∀x∈c.op,Ay x.BD)(hn:c.op.length<=1048576)(hm:m.AB.length<9223372036854775807):yS 173 [c.d,m.d] (.tup [(D8 c m).1.d,(D8 c m).2.1.d,.b (D8 c m).2.2]):=by
 have c1:=Kl c hl;have c2:=Wi.Ct m hm;have c3:=QX c hl hn
 cases hc:Bw c&&m.right with
 |false=>
  have hT:D8 c m=(c,D7,false):=by unfold D8;rw[hc];rfl
  rw[hT];refine zF AE Tryz.func173 ?_;unfold Wi.AF.d Wi.AF.A4 Calls.d Calls.A4 Al.d Al.A4 at*
  cases h1:Bw c with
  |false=>
   rw[h1]at c1;refine AO Is ?_ (Au @c1 @c3);exact BW (zh @AU.eq_1 @An.eq_1)
  |true=>
   rw[h1,q0A]at hc;rw[h1]at c1;rw[hc]at c2;refine AO Is ?_ (CP @c1 @c2 @c3);exact BW (zh @AU.eq_1 @An.eq_1)
 |true=>
  rw[zO]at hc;obtain⟨_,k2,k3⟩:=C0.1 hc.1
  have hsz:∀j,(fun s:Pl=>s.2.2.length<=1048576) ((c.op.take j).foldl (DD c.id m) ((D7,false,[]):Pl)):=fun j=>by
   have h0:(c.op.take j).length<=c.op.length:=by rw[q0D];omega
   have hp:(c.op.take j).Pairwise fun x y=>x.id<y.id:=k3.sublist (List.take_sublist ..);rw[lw c.id m _ _ hp]
   have h1:=q0b (fun y=> !QK c.id m y) (c.op.take j)
   cases(c.op.take j).find? (QK c.id m)with
   |some x=>dsimp only;rw[zZ];omega
   |none=>dsimp only;rw[zZ];omega
  have c4:=fQ c.id c.Ad c.op c.op m hl hn k2 hsz;have hf:=lw c.id m c.op ((D7,false,[]):Pl) k3
  have hT:D8 c m=match c.op.find? (QK c.id m)with
    |some x=>(⟨c.id,c.Ad,c.op.filter fun y=> !QK c.id m y⟩,x,true)
    |none=>(c,D7,false):=by unfold D8;rw[hc.1,hc.2];rfl
  rw[hT];rw[hf]at c4;rw[hc.1]at c1;rw[hc.2]at c2;clear hf hT hsz k2 k3;generalize c.op.find? (QK c.id m)=fx at *;generalize(c.op.filter fun y=> !QK c.id m y)=fl at *;refine zF AE Tryz.func173 ?_
  cases fx with
  |some x=>
   dsimp only at c4|-;rw[zZ]at c4;unfold Bz at c4;unfold Wi.AF.d Wi.AF.A4 Calls.d Calls.A4 Al.d Al.A4 at *;refine AO Is ?_ (Au @c1 @c2) [] [4];refine BG (A8.Ux 4 10 (.is []) rfl rfl rfl rfl trivial) sm ?_;refine Ax Is ?_ (BJ [0,1,4,5] c4) [] [5];refine A9 Is ?_ [(1,3),(2,3),(2,4)];exact BW (zh @AU.eq_1 @An.eq_1)
  |none=>
   dsimp only at c4|-;rw[zZ]at c4;unfold Bz at c4;unfold Wi.AF.d Wi.AF.A4 Calls.d Calls.A4 Al.d Al.A4 at *;refine AO Is ?_ (Au @c1 @c2) [] [4];refine BG (A8.Ux 4 10 (.is []) rfl rfl rfl rfl trivial) sm ?_;refine Ax Is ?_ (BJ [0,1,4,5] c4) [] [5];refine A9 Is ?_ [(1,3),(2,3),(2,4)];exact BW (zh @AU.eq_1 @An.eq_1)
abbrev Di:BF:=[0,1,2,3,4,5,6,10,11,12,13,14,17,26,53]
theorem fN(c:Calls)(m:AF)(Bd ref now:Int)(hl:∀x∈c.op,Ay x.BD)(hn:c.op.length<=1048576)(hm:Ay m):yS 270 [c.d,m.d,.i .u8 Bd,.yX ref,.yX now] (.tup [(CX c m Bd ref now).1.d,(CX c m Bd ref now).2.1.d,.yX (CX c m Bd ref now).2.2]):=by
 have c1:=Kl c hl;have c2:=QX c hl hn;have c3:=PC now;have c5:=EG m hm
 cases hc:Bw c with
 |false=>
  have hT:CX c m Bd ref now=(c,AU,2):=by unfold CX;rw[hc];rfl
  rw[hc]at c1;rw[hT];clear c3 c5 hT hc;refine zF AE Tryz.func270 ?_;unfold Wi.AF.d Wi.AF.A4 Calls.d Calls.A4 at *;refine AO Di ?_ (Au @c1 @c2);exact BW (zh @AU.eq_1 @An.eq_1)
 |true=>
 have hh:=(C0.1 hc).1;rw[hc]at c1
 by_cases h1:c.op.length=16
 .have f1:((c.op.length:Int)==16)=true:=AT om;have hT:CX c m Bd ref now=(c,AU,100):=by unfold CX;rw[hc,zn rfl,zn (.inl h1)]
  rw[hT];clear c3 c5 hT hc;refine zF AE Tryz.func270 ?_;unfold Wi.AF.d Wi.AF.A4 Calls.d Calls.A4 at *;refine AJ Di ?_ (AK f1) (Au @c1 @c2);exact BW (zh @AU.eq_1 @An.eq_1)
 have f1:((c.op.length:Int)==16)=false:=eq_false' om
 by_cases h2:c.Ad=1048576
 .have f2:=AT h2;have hT:CX c m Bd ref now=(c,AU,100):=by unfold CX;rw[hc,zn rfl,zn (.inr h2)]
  rw[hT];clear c3 c5 hT hc;refine zF AE Tryz.func270 ?_;unfold Wi.AF.d Wi.AF.A4 Calls.d Calls.A4 at *;refine AJ Di ?_ (Au f1 f2) (Au @c1 @c2);exact BW (zh @AU.eq_1 @An.eq_1)
 have f2:=eq_false' h2;have c4:=Ue c.id (c.Ad+1);have e4:Gl c.id (c.Ad+1)=(c.id*1048576+(c.Ad+1),0):=zn ⟨hh.1,om,om⟩;rw[e4]at c4;have hp:=Wi.GC hh.1;obtain⟨q,hq⟩:∃q:AF,q={m with Ae:=c.id*1048576+(c.Ad+1),B8:=c.id}:=⟨_,rfl⟩;have hql:Ay q:=by rw[hq];exact hm
 have c6:=Wi.Gs q;have c7:=Wi.Ct q (lm hql);have c8:=EG q hql
 have hT:CX c m Bd ref now=if DG now&&(q.BY&&q.right)then(⟨c.id,c.Ad+1,c.op++[⟨c.id*1048576+(c.Ad+1),q,Bd,ref,now,1⟩]⟩,q,0)else(c,AU,2):=by
  unfold CX;rw[hc,zn rfl,zx om,hq]
 rw[hT];clear hT c5 e4;generalize q.BY=qa at *;generalize q.right=qr at *;subst hq;generalize hid:c.id*1048576+(c.Ad+1)=k at *;refine zF AE Tryz.func270 ?_;unfold Wi.AF.d Wi.AF.A4 Calls.d Calls.A4 at*
 cases ht:DG now with
 |false=>
  rw[ht]at c3;refine AJ Di ?_ (Au f1 f2) (Au @c1 @c4) [] [7];refine A9 Di ?_ [(1,4),(2,4)] [8];refine AO Di ?_ (Au @c2 @c3);exact BW (zh @AU.eq_1 @An.eq_1)
 |true=>
 rw[ht]at c3
 cases qa with
 |false=>
  refine AJ Di ?_ (Au f1 f2) (Au @c1 @c4) [] [7];refine A9 Di ?_ [(1,4),(2,4)] [8];refine AO Di ?_ (CP @c2 @c3 @c6);exact BW (zh @AU.eq_1 @An.eq_1)
 |true=>
 cases qr with
 |false=>
  refine AJ Di ?_ (Au f1 f2) (Au @c1 @c4) [] [7];refine A9 Di ?_ [(1,4),(2,4)] [8];refine AO Di ?_ (ME @c2 @c3 @c6 @c7);exact BW (zh @AU.eq_1 @An.eq_1)
 |true=>
  have c9:=kX c.id c.Ad c.op hl hn;unfold Calls.d Calls.A4 at c9;refine AJ Di ?_ (Au f1 f2) (Au @c1 @c4) [] [7];refine A9 Di ?_ [(1,4),(2,4)] [8];refine B6 Di ?_ (CP @c3 @c6 @c7) (BJ [] c9) [] [11];have ow:Lv [69]:=trivial;refine AO Di ?_ (AK @c8) [(0,9),(1,9)] [12];clear ow;refine AO Di ?_ (AK @c8) [(1,3)];refine⟨_,_,rfl,rfl,?_⟩;simp[LL,BP,Bl,BM,Ag,q0f,List.map_cons,List.map_nil,Al.A4]
end Nd
end Go.Proofs.YtamjpnmjpponpaaGreatDoor
