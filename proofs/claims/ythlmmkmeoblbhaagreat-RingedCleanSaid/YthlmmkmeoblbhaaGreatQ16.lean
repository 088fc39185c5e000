/- Part 16 of a proof. Conditions: those that its theorems state. -/
import Derived.Test.YthlmmkmeoblbhaaGreatQ13
set_option linter.unusedSimpArgs false
set_option linter.unusedVariables false
set_option linter.unnecessarySimpa false
set_option maxHeartbeats 40000000
set_option maxRecDepth 4000
namespace Go.Proofs.YthlmmkmeoblbhaaGreat
namespace Nd
open Go.Gar
open Wi (AE BE Ay AU C2 CG Ac)
abbrev Mx:B4:=⟨0,AU,0,0,0,0⟩
def Bl(c:Calls)(m:AE)(BH ref now:Int):Calls×AE×Int:=
 if Bc c then
  (if c.op.length=16\/c.Ah=1048576 then(c,AU,100)
   else
    let q:AE:={m with AW:=c.id*1048576+(c.Ah+1),Ax:=c.id}
    if EV now&&(q.BW&&q.right)then(⟨c.id,c.Ah+1,c.op++[⟨c.id*1048576+(c.Ah+1),q,BH,ref,now,1⟩]⟩,q,0)else(c,AU,2))
 else(c,AU,2)
def ar(id:Int)(m:AE)(x:B4):Bool:=decide (m.AW=x.id)&&(decide (m.Ax=x.Cl.dst)&&(decide (m.dst=id)&&decide (m.AG=x.Cl.AG+6)))
def Bi(c:Calls)(m:AE):Calls×B4×Bool:=
 if Bc c&&m.right then
  (match c.op.find? (ar c.id m)with
   |some x=>(⟨c.id,c.Ah,c.op.filter fun y=> !ar c.id m y⟩,x,true)
   |none=>(c,Mx,false))
 else(c,Mx,false)
def Lg(D3:Int):Int:=if D3<1 then 0 else if D3=1 then 1 else if D3=2 then 2 else 4
def EF(now:Int)(x:B4):Bool:=decide (3<=x.D3)&&decide (now-x.GD>=Lg x.D3)
def Kt(now:Int)(x:B4):Bool:=(decide (1<=x.D3)&&decide (x.D3<3))&&decide (now-x.GD>=Lg x.D3)
def Kg(now:Int)(x:B4):B4:=if Kt now x then⟨x.id,x.Cl,x.BH,x.ref,now,x.D3+1⟩else x
def C6(c:Calls)(now:Int):Calls×List AE×List B4:=
 if Bc c&&EV now then
  (⟨c.id,c.Ah,(c.op.filter fun x=> !EF now x).map (Kg now)⟩,((c.op.filter fun x=> !EF now x).filter (Kt now)).map (·.Cl),c.op.filter (EF now))
 else(c,[],[])
def SV(c:Calls)(BH:Int):B4×Bool:=
 if Bc c then
  (match c.op.find? (fun x=>decide (x.BH=BH))with
   |some x=>(x,true)
   |none=>(Mx,false))
 else(Mx,false)
def GU(l:List Past)(Ax AW:Int):AE×Bool:=
 match l.find? (fun p=>decide (p.Ax=Ax)&&decide (p.AW=AW))with
 |some p=>(p.AA,true)
 |none=>(AU,false)
def Ha(l:List Past)(AA:AE):List Past:=
 if AA.right&& !AA.BW then
  (if(GU l AA.dst AA.AW).2 then l
   else(l++[(⟨AA.dst,AA.AW,AA⟩:Past)]).drop ((l.length+1)-40))
 else l
def Jo(m:AE):AE:=if m.BW then⟨m.AG+6,m.AW,m.dst,m.Ax,0,false,false,0,0,[],AN,0⟩else AU
def Is(v:AB)(x:Int):Bool:=(BG x&&decide (x≠v.id))&&(decide (v.AO= -1)||Dt v.AO x v.id)
def HC(v:AB)(x:Int):AB:=if AZ v&&Is v x then{v with AO:=x}else v
def Sl(v:AB)(m:AE):AE:=
 if(AZ v&&decide (m.AG=4))&&(decide (m.dst=v.id)&&m.right)then{Jo m with AY:=(F4 v m.AH m.BX).1,done:=(F4 v m.AH m.BX).2}else AU
def E7(n:A6)(m:AE):Bool:=(m.BW&&m.right)&&(decide (m.dst=n.A4.id)&&Ch n)
def BC(n:A6)(m:AE):A6×AE:=
 let t:=Jo m
 if m.AG=1 then(n,{t with AO:=n.A4.AO,A8:=n.A4.A8})
 else if m.AG=2 then(n,t)
 else if m.AG=3 then({n with A4:=HC n.A4 m.Ax},t)
 else if m.AG=4 then(n,Sl n.A4 m)
 else if m.AG=5 then({n with keep:=(Fj n.keep m.AC).1},{t with Ab:=(Fj n.keep m.AC).2})
 else if m.AG=6 then(n,{t with AC:=(Et n.keep m.AC.AH).1,Ab:=(Et n.keep m.AC.AH).2})
 else(n,AU)
def Bv(n:A6)(m:AE):A6×AE:=
 if E7 n m then
  (if(GU n.BL m.Ax m.AW).2 then(n,(GU n.BL m.Ax m.AW).1)
   else({(BC n m).1 with BL:=Ha n.BL (BC n m).2},(BC n m).2))
 else(n,AU)
abbrev NS:Type:=A6×List Af
def Ir(m:AE):List Af:=if(CG m).2=0 then[⟨m.dst,(CG m).1,false⟩]else[]
def Gq(s:NS)(a:AE×Int):NS:=
 if(Bl s.1.AI a.1 a.2 0 s.1.AJ).2.2=0 then({s.1 with AI:=(Bl s.1.AI a.1 a.2 0 s.1.AJ).1},s.2++Ir (Bl s.1.AI a.1 a.2 0 s.1.AJ).2.1)
 else(ED s.1 a.2,s.2)
def Cb(s:NS)(l:List (AE×Int)):NS:=l.foldl Gq s
def EU(g:List Af)(r:A6×List (AE×Int)):NS:=Cb (r.1,g) r.2
def FW(s:NS):NS:=
 (C6 s.1.AI s.1.AJ).2.2.foldl (fun s x=>EU s.2 (Bu s.1 x)) ({s.1 with AI:=(C6 s.1.AI s.1.AJ).1},s.2++(C6 s.1.AI s.1.AJ).2.1.flatMap Ir)
def LF(j:B5):Bool:=decide (j.A3=0)||decide (j.A3=5)
def CX(v:AB)(A3 BN:Int):(Int×Int)×List (AE×Int):=
 if(AZ v&&Ci A3 BN)&&decide (A3=0)then((1,FJ v),Kc 1 (FJ v))else((A3,BN),[])
def DF(s:NS):NS:=
 let b:=CX s.1.A4 s.1.A3 s.1.BN
 Cb ({s.1 with A3:=b.1.1,BN:=b.1.2},s.2) b.2
def LW(v:AB):Int×Bool:=if AZ v&&decide (v.AO≠ -1)then(v.AO,true)else(0,false)
def Ep(s:NS):NS:=
 if(LW s.1.A4).2&& !(SV s.1.AI 4).2 then Cb s [(⟨2,0,0,(LW s.1.A4).1,0,false,false,0,0,[],AN,0⟩,4)]else s
def Gd(v:AB):Nat->Nat->(Nat->Int)->(Nat->Int)×yW
 |0,_,f=>(f,none)
 |k+1,i,f=>if Ko v.id (WF v.id i) (FJ v)then Gd v k (i+1) (L0 f i (if FJ v=v.id then -1 else FJ v))else(f,some i)
def walkT(v:AB)(i:Int):AB×Int×Int×Bool:=
 if AZ v then
  let i0:=if 0<=i/\i<16 then i.toNat else 0
  match Gd v (16-i0) i0 v.f with
  |(f,none)=>({v with f:=f},0,0,false)
  |(f,some k)=>({v with f:=f},k,WF v.id k,true)
 else(v,0,0,false)
def C5(s:NS):NS:=
 if LF s.1.Ag then
  let r:=walkT s.1.A4 s.1.next;let n:={s.1 with A4:=r.1,next:=r.2.1}
  if r.2.2.2 then EU s.2 (CL n 5 1 r.2.2.1 AN)else(n,s.2)
 else s
def HT(k:List AL)(AH:AT):AL×Bool:=
 if decide (0<k.length)&&CK k then
  let Ck:=if hasK k AH then Cc k AH+1 else Cc k AH
  (k.getD (if k.length<=Ck then 0 else Ck) AN,true)
 else(AN,false)
def Cr(s:NS):NS:=
 if LF s.1.Ak&&(HT s.1.keep s.1.last).2 then
  let x:=(HT s.1.keep s.1.last).1
  EU s.2 (CL {s.1 with last:=x.AH} 6 2 0 x)
 else s
def EW(n:A6):NS:=
 if n.AJ>=1099511627776\/Ch n=false then(n,[])
 else Cr (C5 (Ep (DF (FW ({n with AJ:=n.AJ+1},[])))))
def ET(n:A6)(b:AT):NS:=
 if Ch n then
  (if(Ac b).2≠0\/(Ac b).1.dst≠n.A4.id then({n with bad:=if n.bad<1099511627776 then n.bad+1 else n.bad},[])
   else if(Ac b).1.BW then((Bv n (Ac b).1).1,Ir (Bv n (Ac b).1).2)
   else if(Bi n.AI (Ac b).1).2.2 then EU [] (CQ {n with AI:=(Bi n.AI (Ac b).1).1} (Bi n.AI (Ac b).1).2.1 (Ac b).1)
   else(n,[]))
 else(n,[])
def Rt(AR:Int)(x:AL):Bool:=(decide (AR=2)&&Ay x)||(decide (AR=3)&&C2 x.AH)
def Gg(n:A6)(AR:Int)(x:AL):NS×Int:=
 if Ch n&&Rt AR x then
  (if LF n.Aj then(EU [] (CL n 7 AR 0 x),0)else((n,[]),100))
 else((n,[]),2)
def LM(n:A6)(i:Nat)(x:AL):AE:=⟨5,(E0 n.A4.id (n.AI.Ah+1+i)).1,n.A4.id,FJ n.A4,0,false,false,0,0,[],x,0⟩
def IW(n:A6):Nat->List AL->List Af
 |_,[]=>[]
 |i,x::r=>if(E0 n.A4.id (n.AI.Ah+1+i)).2=0 then Ir (LM n i x)++IW n (i+1) r else[]
def GP(n:A6):List Af:=if Ch n then IW n 0 n.keep else[]
theorem jz{α:Type}{R:α->α->Prop}(tr:∀a b c,R a b->R b c->R a c)(d:α):∀l:List α,(∀k,k<l.length->k=0\/R (l.getD (k-1) d) (l.getD k d))->l.Pairwise R
 |[],_=>List.Pairwise.nil
 |[a],_=>by simp
 |a::b::r,h=>by
  have ih:=jz tr d (b::r) (fun k hk=>by
   rcases q0x k with e|e
   .exact .inl e
   .have:=h (k+1) (by simpa using hk);obtain⟨j,rfl⟩:∃j,k=j+1:=⟨k-1,om⟩
    simpa using this)
  have hab:R a b:=by
   have:=h 1 sm;simpa using this
  refine q1M.2 ⟨fun x hx=> ?_,ih⟩;rcases q0C.1 hx with rfl|hx
  .exact hab
  .exact tr _ _ _ hab ((q1M.1 ih).1 x hx)
theorem ut{α:Type}{R:α->α->Prop}(d:α){l:List α}(h:l.Pairwise R)(k:Nat)(hk:k<l.length):k=0\/R (l.getD (k-1) d) (l.getD k d):=by
 rcases q0x k with e|e
 .exact .inl e
 .right;rw[getD_at (yj hk),getD_at (yj (show k-1<l.length by omega))];exact q0L.1 h (k-1) k om hk om
variable {c:Calls}
theorem Be:Bc c=true↔(BE c.id=true/\0<=c.Ah/\c.Ah<=1048576/\c.op.length<=16)/\(∀x∈c.op,Gi c.id c.Ah x=true)/\c.op.Pairwise fun x y=>x.id<y.id:=by
 unfold Bc QI;simp only[yU,yc,Ex];refine and_congr_right fun _=>⟨fun h=>⟨fun x hx=> ?_,jz (R:=fun x y:B4=>x.id<y.id) (fun _ _ _=>Int.lt_trans) Kp _ fun k hk=> ?_⟩,fun h k hk=> ?_⟩
 .obtain⟨k,hk,rfl⟩:=List.getElem_of_mem hx;have:=h k hk;unfold JS at this;rw[yU,getD_at (yj hk)]at this;exact this.1
 .have:=h k hk;unfold JS at this;rw[yU,yc]at this;exact this.2
 .unfold JS;rw[yU,yc];refine⟨?_,ut Kp h.2 k hk⟩;rw[getD_at (yj hk)];exact h.1 _ (q0a hk)
theorem Ce{id Ah:Int}{x:B4}:Gi id Ah x=true↔x.Cl.right=true/\x.Cl.BW=true/\x.Cl.Ax=id/\x.id=x.Cl.AW/\x.id<=id*1048576+Ah/\1<=x.D3/\x.D3<=3/\EV x.GD=true:=by
 unfold Gi;simp only[yU,yc]
variable {m:AE}{now:Int}
theorem R0{BH ref:Int}(h:Bc c=true)(he:(Bl c m BH ref now).2.2=0):
  c.op.length<16/\c.Ah<1048576/\EV now=true/\∃q:AE,q={m with AW:=c.id*1048576+(c.Ah+1),Ax:=c.id}/\q.right=true/\q.BW=true/\Bl c m BH ref now=(⟨c.id,c.Ah+1,c.op++[⟨c.id*1048576+(c.Ah+1),q,BH,ref,now,1⟩]⟩,q,0):=by
 have hh:=(Be.1 h).1;unfold Bl at he|-;rw[zN h]at he|-;split at he
 .cases he
 .rename_i h1;rw[zO h1];dsimp only at he|-;split at he
  .rename_i h2;rw[zN h2];simp only[yU]at h2;exact⟨om,om,h2.1,_,rfl,h2.2.2,h2.2.1,rfl⟩
  .cases he
theorem ay{BH ref:Int}(h:Bc c=true)(he:(Bl c m BH ref now).2.2=0):Bc (Bl c m BH ref now).1=true:=by
 obtain⟨h1,h2,h3,q,hq,h4,h5,e⟩:=R0 h he;rw[e];obtain⟨⟨a1,a2,a3,a4⟩,a5,a6⟩:=Be.1 h;have hs:q.Ax=c.id:=by rw[hq]
 have hc:q.AW=c.id*1048576+(c.Ah+1):=by rw[hq]
 refine Be.2 ⟨⟨a1,by dsimp only;omega,by dsimp only;omega,by simp;omega⟩,fun x hx=> ?_,?_⟩
 .dsimp only at hx|-;rw[q04,q00]at hx;rcases hx with hx|rfl
  .obtain⟨b1,b2,b3,b4,b5,b6⟩:=Ce.1 (a5 x hx);exact Ce.2 ⟨b1,b2,b3,b4,om,b6⟩
  .exact Ce.2 ⟨h4,h5,hs,hc.symm,q0l _,q0l _,(by decide:(1:Int)<=3),h3⟩
 .refine List.pairwise_append.2 ⟨a6,sm,fun x hx y hy=> ?_⟩;rw[q00]at hy;subst hy;have:=(Ce.1 (a5 x hx)).2.2.2.2.1;dsimp only;omega
theorem UX{l:List B4}(h:Bc c=true)(hs:l.Sublist c.op):Bc ⟨c.id,c.Ah,l⟩=true:=by
 obtain⟨⟨a1,a2,a3,a4⟩,a5,a6⟩:=Be.1 h;have:=hs.length_le;exact Be.2 ⟨⟨a1,a2,a3,by dsimp only;omega⟩,fun x hx=>a5 x (hs.subset hx),a6.sublist hs⟩
theorem Xk(h:Bc c=true):Bc (Bi c m).1=true:=by
 unfold Bi;split
 .split
  .exact UX h List.filter_sublist
  .exact h
 .exact h
theorem kV(hk:(Bi c m).2.2=true):Bc c=true/\m.right=true/\(Bi c m).2.1∈c.op/\ar c.id m (Bi c m).2.1=true/\(Bi c m).1=⟨c.id,c.Ah,c.op.filter fun y=> !ar c.id m y⟩:=by
 unfold Bi at hk|-;split at hk
 .rename_i hc;rw[zN hc];rw[yU]at hc
  cases hf:c.op.find? (ar c.id m)with
  |none=>rw[hf]at hk;cases hk
  |some x=>exact⟨hc.1,hc.2,List.mem_of_find?_eq_some hf,List.find?_some hf,rfl⟩
 .cases hk
theorem T8(now:Int)(x:B4):(Kg now x).id=x.id:=by unfold Kg;split<;>rfl
theorem gP(now:Int)(x:B4):(Kg now x).Cl=x.Cl:=by unfold Kg;split<;>rfl
theorem ab(h:Bc c=true):Bc (C6 c now).1=true:=by
 unfold C6;split
 .rename_i hc;rw[yU]at hc;have hs:=UX h (List.filter_sublist (l:=c.op) (p:=fun x=> !EF now x));obtain⟨⟨a1,a2,a3,a4⟩,a5,a6⟩:=Be.1 hs;dsimp only at a1 a2 a3 a4 a5 a6;refine Be.2 ⟨⟨a1,a2,a3,by dsimp only;rw[zY];exact a4⟩,fun y hy=> ?_,?_⟩
  .obtain⟨x,hx,rfl⟩:=q0q.1 hy;obtain⟨b1,b2,b3,b4,b5,b6,b7,b8⟩:=Ce.1 (a5 x hx);rw[Ce,T8,gP];refine⟨b1,b2,b3,b4,b5,?_⟩;unfold Kg;split
   .rename_i hd;unfold Kt at hd;simp only[yU,yc]at hd;exact⟨by dsimp only;omega,by dsimp only;omega,hc.2⟩
   .exact⟨b6,b7,b8⟩
  .refine List.pairwise_map.2 (a6.imp fun{x y} hxy=> ?_);rw[T8,T8];exact hxy
 .exact h
theorem dm(c:Calls)(now:Int):(C6 c now).1.id=c.id/\(C6 c now).1.Ah=c.Ah:=by
 unfold C6;split<;>exact⟨rfl,rfl⟩
theorem Sw(c:Calls)(now:Int)(h:Bc c=true):(C6 c now).1.op.length<=16/\(C6 c now).2.1.length<=(C6 c now).1.op.length/\(C6 c now).2.2.length<=16:=by
 have h16:=(Be.1 h).1.2.2.2;unfold C6;split
 .dsimp only;have h1:=q0b (fun x=> !EF now x) c.op;have h2:=q0b (Kt now) (c.op.filter fun x=> !EF now x);have h3:=q0b (EF now) c.op;rw[zY,zY];omega
 .exact⟨h16,yx _,yx _⟩
theorem Lx(h:Bc c=true):(∀m∈(C6 c now).2.1,m.right=true/\m.BW=true/\m.Ax=c.id)/\∀x∈(C6 c now).2.2,Gi c.id c.Ah x=true:=by
 have a5:=(Be.1 h).2.1;unfold C6;split
 .refine⟨fun m hm=> ?_,fun x hx=>a5 x (List.mem_filter.1 hx).1⟩;obtain⟨x,hx,rfl⟩:=q0q.1 hm;obtain⟨b1,b2,b3,_⟩:=Ce.1 (a5 x (List.mem_filter.1 (List.mem_filter.1 hx).1).1);exact⟨b1,b2,b3⟩
 .exact⟨fun m hm=>(by cases hm),fun x hx=>(by cases hx)⟩
variable {l:List Past}
theorem I9:Fw l=true↔l.length<=40/\(∀p∈l,NP p=true)/\l.Pairwise fun p q=>¬(p.Ax=q.Ax/\p.AW=q.AW):=by
 unfold Fw;rw[yU,yc,Ex];refine and_congr_right fun _=>⟨fun h=>⟨fun x hx=> ?_,q0L.2 fun i j hi hj hij=> ?_⟩,fun h k hk=> ?_⟩
 .obtain⟨k,hk,rfl⟩:=List.getElem_of_mem hx;have:=h k hk;unfold FZ at this;rw[yU,getD_at (yj hk)]at this;exact this.1
 .have:=h j hj;unfold FZ at this;rw[yU,getD_at (yj hj),q0H]at this;have h2:=q0O.1 this.2 l[i] (q0e.2 ⟨i,by rw[q0T,zN hij];exact yj hi⟩);unfold JZ at h2;simpa using h2
 .unfold FZ;rw[yU,q0H,getD_at (yj hk)];refine⟨h.1 _ (q0a hk),q0O.2 fun p hp=> ?_⟩;obtain⟨i,hi,rfl⟩:=List.getElem_of_mem hp;rw[q09]at hi;rw[List.getElem_take];have:=q0L.1 h.2 i k om hk om;unfold JZ;simpa using this
theorem NQ{p:Past}:NP p=true↔p.AA.right=true/\p.AA.BW=false/\p.AA.dst=p.Ax/\p.AA.AW=p.AW:=by
 unfold NP;simp only[yU,yc,q0H]
theorem ZN{s c:Int}(h:(GU l s c).2=false):∀p∈l,¬(p.Ax=s/\p.AW=c):=by
 unfold GU at h;intro p hp
 cases hf:l.find? (fun p=>decide (p.Ax=s)&&decide (p.AW=c))with
 |some q=>rw[hf]at h;cases h
 |none=>
  have:=q0r.1 hf p hp;simpa using this
theorem Pv{s c:Int}(h:(GU l s c).2=true):∃p∈l,p.Ax=s/\p.AW=c/\(GU l s c).1=p.AA:=by
 unfold GU at h|-
 cases hf:l.find? (fun p=>decide (p.Ax=s)&&decide (p.AW=c))with
 |some q=>
  have h2:=List.find?_some hf;simp only[yU,yc]at h2;exact⟨q,List.mem_of_find?_eq_some hf,h2.1,h2.2,rfl⟩
 |none=>rw[hf]at h;cases h
variable {t:AE}
theorem ZM(h:Fw l=true):Fw (Ha l t)=true:=by
 unfold Ha;split
 .rename_i hc;rw[yU,q0H]at hc;split
  .exact h
  .rename_i hf;have hn:=ZN (Bool.not_eq_true _▸hf);obtain⟨a1,a2,a3⟩:=I9.1 h;have hs:=List.drop_sublist ((l.length+1)-40) (l++[⟨t.dst,t.AW,t⟩]);refine I9.2 ⟨?_,fun p hp=> ?_,List.Pairwise.sublist hs (List.pairwise_append.2 ⟨a3,sm,fun p hp q hq=> ?_⟩)⟩
   .rw[q15,yw,List.length_singleton];omega
   .have hp:=hs.subset hp;rw[q04,q00]at hp;rcases hp with hp|rfl
    .exact a2 p hp
    .exact NQ.2 ⟨hc.1,hc.2,rfl,rfl⟩
   .rw[q00]at hq;subst hq;exact hn p hp
 .exact h
theorem ZL(h:Fw l=true)(h1:t.right=true)(h2:t.BW=false)(h3:(GU l t.dst t.AW).2=false):GU (Ha l t) t.dst t.AW=(t,true):=by
 have hn:=ZN h3;have hl:=(I9.1 h).1;unfold Ha;rw[h1,h2,h3];simp only[Bool.not_false,q0g,zx,q0F,zo]
 have hd:(l++[(⟨t.dst,t.AW,t⟩:Past)]).drop ((l.length+1)-40)=l.drop ((l.length+1)-40)++[⟨t.dst,t.AW,t⟩]:=by
  rw[List.drop_append_of_le_length om]
 rw[hd];unfold GU
 have hnone:(l.drop ((l.length+1)-40)).find? (fun p=>decide (p.Ax=t.dst)&&decide (p.AW=t.AW))=none:=by
  rw[q0r];intro p hp;have:=hn p (List.mem_of_mem_drop hp);simpa using this
 rw[List.find?_append,hnone];simp
variable {L:Nat}
theorem dh(v:AB)(j:B5)(h:j.left.length<=L)(hL:3<=L):(ER v j).job.left.length<=L:=by
 unfold ER;split
 .exact yx _
 split
 .exact h
 split
 .exact yx _
 split
 .have:=(WP v.id ⟨j.AR,j.A3,j.Am,j.AC,j.Am.Ck,j.left,j.Ab⟩ j.Am.Ck v.A8).2.2;omega
 split
 .exact h
 split
 .exact yx _
 .exact h
theorem qy(v:AB)(j:B5)(m:AE)(h:j.left.length<=L)(hL:3<=L):(FV v j m).job.left.length<=L:=by
 unfold FV;split
 .split
  .split
   .exact dh v _ h hL
   .exact h
  split
  .split
   .have:=(WP v.id j j.Ar m.A8).2.2;omega
   .exact h
  split
  .split
   .exact q0E (Qt j m.Ax m.Ab).2 h
   .exact h
  split
  .split
   .exact yx _
   .exact h
  .exact h
 .exact h
theorem qu(v:AB)(j:B5)(d:Int)(h:j.left.length<=L)(hL:3<=L):(FT v j d).job.left.length<=L:=by
 unfold FT;split
 .split
  .split
   .exact dh v _ h hL
   .exact h
  split
  .split
   .exact yx _
   .exact h
  split
  .exact q0E (Qt j d 210).2 h
  .exact h
 .exact h
variable {K:Nat}
theorem qh(n:A6)(c:B4)(m:AE)(h:JB L K n)(hL:3<=L)(hm:m.AC.AH.length<=K):JB L K (CQ n c m).1:=by
 have hj:=WO c.BH h;unfold CQ;split
 .split
  .exact⟨h.f,h.m,h.c⟩
  split
  .exact WG _ _ _ _ h ⟨qy _ _ _ hj.l hL,(dl n.A4 (Bj n c.BH) m K hj.k hm).2.1⟩
  .exact h
 .exact h
theorem uj(n:A6)(c:B4)(h:JB L K n)(hL:3<=L):JB L K (Bu n c).1:=by
 have hj:=WO c.BH h;unfold Bu;split
 .dsimp only;split
  .exact⟨h.f,h.m,h.c⟩
  split
  .refine WG {n with A4:=Ca n.A4 c.Cl.dst} _ _ _ ⟨h.f,h.m,h.c⟩ ⟨qu _ _ _ hj.l hL,?_⟩;rw[(de (Ca n.A4 c.Cl.dst) (Bj n c.BH) c.Cl.dst).2.1];exact hj.k
  .exact⟨h.f,h.m,h.c⟩
 .exact h
variable {v:AB}{A3 BN:Int}
theorem ol(h:0<=A3):0<=(D1 v A3 BN m).1.A3:=by
 unfold D1;split
 .split
  .exact q0l _
  .dsimp only;split
   .exact(by decide:(0:Int)<=2)
   .exact(by decide:(0:Int)<=3)
 .exact h
theorem oh{d:Int}(h:0<=A3):0<=(Dw v A3 BN d).A3:=by
 unfold Dw;split
 .split
  .exact q0l _
  .exact h
 .exact h
variable {n:A6}{w AR AY:Int}{x:AL}
theorem oo(h:0<=n.A3):0<=(CL n w AR AY x).1.A3:=by
 unfold CL;split
 .rw[(D6 ..).A3];exact h
 .exact h
theorem lZ{c:B4}(h:0<=n.A3):0<=(CQ n c m).1.A3:=by
 unfold CQ;split
 .split
  .exact ol h
  split
  .rw[(D6 ..).A3];exact h
  .exact h
 .exact h
theorem rE{c:B4}(h:0<=n.A3):0<=(Bu n c).1.A3:=by
 unfold Bu;split
 .dsimp only;split
  .exact oh h
  split
  .rw[(D6 ..).A3];exact h
  .exact h
 .exact h
theorem qF(h:0<=n.A3):0<=(ED n w).A3:=by
 unfold ED;split
 .split
  .exact q0l _
  split
  .rw[(D6 ..).A3];exact h
  .exact h
 .exact h
abbrev big:Nat:=9223372036854775807
structure NL (n:A6):Prop where
 f:n.Ag.left.length<=1000
 m:n.Ak.left.length<=1000
 c:n.Aj.left.length<=1000
theorem NL.of(h:JB 1000 K n):NL n:=⟨h.f.l,h.m.l,h.c.l⟩
structure NB (n:A6):Prop where
 r:Ch n=true
 l:NL n
 ph:0<=n.A3
theorem NB.j(h:NB n)(K:Nat):JB 1000 (n.Ag.AC.AH.length+(n.Ak.AC.AH.length+(n.Aj.AC.AH.length+K))) n:=
 ⟨⟨h.l.f,om⟩,⟨h.l.m,om⟩,⟨h.l.c,om⟩⟩
theorem DZ(h:m.right=true):Co m:=by
 unfold Co;unfold AE.right at h;rw[yU,yU]at h
 by_cases h7:m.AG=7
 .have:=h.2.2;unfold AE.has at this;simp only[h7]at this;simp only[show ¬((7:Int)=4)by decide,show ¬((7:Int)=5)by decide,show ¬((7:Int)=6)by decide,zo,zx]at this;rw[yU]at this;have h3:=this.2;unfold Wi.F7 at h3;simp only[yU,yc]at h3;omega
 .have hb:=q1H h.2.1
  have e:m.bare.A8=m.A8:=by
   unfold AE.bare
   repeat' split
   all_goals first|rfl|(exfalso;omega)
  rw[<-e,hb];show(AE.empty m).A8.length<=1048576;exact yx _
theorem NB.P5(h:NB n):P1 n:=by
 obtain⟨_,_,_,hv,hc,_,hk,hs,_⟩:=Al.1 h.r;have hv:=Bz hv
 have hl:n.A4.A8.length<=3/\rT n.A4.id 0 n.A4.A8=true:=by
  have:=hv.2.2.1;unfold CB at this;rw[yU,yc]at this;exact this
 have hb:n.A4.A2.length<=4:=by
  have:=hv.2.1;unfold CZ at this;simp only[yU,yc]at this;omega
 obtain⟨⟨_,_,_,c1⟩,c2,_⟩:=Be.1 hc.2;obtain⟨s1,s2,_⟩:=I9.1 hs;have:=(CI.1 hk).1;have:=h.l.f;have:=h.l.m;have:=h.l.c;exact⟨DW hv.1,fun y hy=>DW (o6 _ _ _ hl.2 y hy),om,om,fun x hx=>DZ (Ce.1 (c2 x hx)).1,om,fun x hx=>DZ (NQ.1 (s2 x hx)).1,om,om,om,om,om⟩
theorem NB.hok(h:NB n):HOk n:=⟨h.P5,h.ph,h.l.f,h.l.m,h.l.c,yx _,yx _,yx _⟩
theorem NB.start(h:NB n)(hx:x.AH.length<=big):NB (CL n w AR AY x).1:=
 ⟨(Ih ..).1.right h.r,.of (sQ n w AR AY x (h.j x.AH.length) (by decide) om),oo h.ph⟩
theorem NB.heard(h:NB n){c:B4}(hm:m.AC.AH.length<=big):NB (CQ n c m).1:=
 ⟨(OC ..).right h.r,.of (qh n c m (h.j m.AC.AH.length) (by decide) om),lZ h.ph⟩
theorem NB.lost(h:NB n){c:B4}:NB (Bu n c).1:=⟨(Qu ..).right h.r,.of (uj n c (h.j 0) (by decide)),rE h.ph⟩
theorem NB.busy(h:NB n):NB (ED n w):=⟨(dE ..).right h.r,.of (uM n w (h.j 0)),qF h.ph⟩
theorem NB.AI{n:A6}(h:NB n){c:Calls}(hi:c.id=n.AI.id)(hc:Bc c=true):NB {n with AI:=c}:=by
 refine⟨?_,⟨h.l.f,h.l.m,h.l.c⟩,h.ph⟩;obtain⟨a1,a2,a3,a4,a5,a6,a7,a8,a9⟩:=Al.1 h.r;exact Al.2 ⟨a1,a2,a3,a4,⟨hi.trans a5.1,hc⟩,a6,a7,a8,a9⟩
theorem NB.cB{n:A6}(h:NB n):Bc n.AI=true/\n.AI.id=n.A4.id:=(Al.1 h.r).2.2.2.2.1.symm
def Ms(id:Int)(g:Af):Prop:=∃m:AE,m.right=true/\m.Ax=id/\g=⟨m.dst,(CG m).1,false⟩
theorem Cu(h:m.right=true):Ir m=[⟨m.dst,(CG m).1,false⟩]:=by
 unfold Ir;rw[Wi.Wm h,zN rfl]
structure jV (s t:NS):Prop where
 A4:N6 s.1.A4 t.1.A4
 A8:t.1.A4.A8=s.1.A4.A8
 AJ:t.1.AJ=s.1.AJ
 BL:t.1.BL=s.1.BL
 last:t.1.last=s.1.last
 bad:t.1.bad=s.1.bad
 Ah:s.1.AI.Ah<=t.1.AI.Ah
 keep:t.1.keep=s.1.keep
 nb:NB t.1
 tO:t.1.A3=0\/(t.1.A3=s.1.A3/\t.1.BN=s.1.BN)
 GD:∃g:List Af,t.2=s.2++g/\(∀x∈g,Ms s.1.A4.id x)/\t.1.AI.op.length=s.1.AI.op.length+g.length
variable {s:NS}
theorem jV.refl(h:NB s.1):jV s s:=⟨.refl _,rfl,rfl,rfl,rfl,rfl,q0l _,rfl,h,.inr ⟨rfl,rfl⟩,[],sm,fun x hx=>(by cases hx),rfl⟩
theorem jV.trans{t u:NS}(h:jV s t)(k:jV t u):jV s u:=by
 obtain⟨g1,a1,a2,a3⟩:=h.GD;obtain⟨g2,b1,b2,b3⟩:=k.GD;refine⟨h.A4.trans k.A4,k.A8.trans h.A8,k.AJ.trans h.AJ,k.BL.trans h.BL,k.last.trans h.last,k.bad.trans h.bad,Int.le_trans h.Ah k.Ah,k.keep.trans h.keep,k.nb,?_,g1++g2,by rw[b1,a1,zu],fun x hx=> ?_,by rw[yw];omega⟩
 .rcases k.tO with e|⟨e1,e2⟩
  .exact .inl e
  .rw[e1,e2];exact h.tO
 .rcases q04.1 hx with hx|hx
  .exact a2 x hx
  .rw[<-h.A4.id];exact b2 x hx
theorem Zu(n:A6)(w:Int):(ED n w).A4.A8=n.A4.A8/\(ED n w).keep=n.keep/\((ED n w).A3=0\/((ED n w).A3=n.A3/\(ED n w).BN=n.BN)):=by
 unfold ED;split
 .split
  .exact⟨rfl,rfl,.inl rfl⟩
  split
  .have g:=D6 n w false ⟨FU (F5 (Bj n w) 100),[],false⟩;refine⟨g.A8,?_,.inr ⟨g.A3,g.BN⟩⟩;unfold Cv;simp only[q0F,zo]
   have hp:∀(a:A6)(j:B5),(FL a w j).keep=a.keep:=fun a j=>by
    unfold FL;repeat' split
    all_goals rfl
   split
   .unfold K7;exact hp _ _
   .exact hp _ _
  .exact⟨rfl,rfl,.inr ⟨rfl,rfl⟩⟩
 .exact⟨rfl,rfl,.inr ⟨rfl,rfl⟩⟩
theorem TF(h:NB s.1)(a:AE×Int):jV s (Gq s a):=by
 unfold Gq;split
 .rename_i he;obtain⟨h1,h2,h3,q,hq,h4,h5,e⟩:=R0 h.cB.1 he;have hr:=ay h.cB.1 he;rw[e]at hr|-;refine⟨.refl _,rfl,rfl,rfl,rfl,rfl,by dsimp only;omega,rfl,h.AI rfl hr,.inr ⟨rfl,rfl⟩,Ir q,rfl,fun x hx=> ?_,?_⟩
  .rw[Cu h4,q00]at hx;exact⟨q,h4,by rw[hq];exact h.cB.2,hx⟩
  .rw[Cu h4];simp
 .have b:=dE s.1 a.2;have p:=Zu s.1 a.2;exact⟨b.A4,p.1,b.AJ,b.BL,b.last,b.bad,by rw[b.AI];exact q0l _,p.2.1,h.busy,p.2.2,[],sm,fun x hx=>(by cases hx),by rw[b.AI];rfl⟩
theorem J3:∀(l:List (AE×Int)){s:NS},NB s.1->jV s (Cb s l)
 |[],s,h=> .refl h
 |a::r,s,h=>(TF h a).trans (J3 r (TF h a).nb)
theorem eN(l:List AL)(x:AL):l.length<=(Fj l x).1.length:=by
 unfold Fj;split
 .split
  .split
   .simp
   .exact yV _
  .split
   .exact yV _
   .have:=bF l x.AH;simp only[yw,yu,q09,q15];omega
 .exact yV _
theorem ob(k:List AL)(j:B5):k.length<=(Df k j).1.length:=by
 unfold Df;split
 .exact eN ..
 .split<;>exact yV _
theorem Si(n:A6)(w:Int)(e:Bool)(c:JC):n.keep.length<=(Cv n w e c).1.keep.length:=by
 unfold Cv
 have hs:n.keep.length<=(if c.own then Df n.keep c.job else(n.keep,c.job)).1.length:=by
  split
  .exact ob ..
  .exact yV _
 generalize(if c.own then Df n.keep c.job else(n.keep,c.job))=s at*
 have hp:∀(a:A6)(j:B5),(FL a w j).keep=a.keep:=fun a j=>by
  unfold FL;repeat' split
  all_goals rfl
 dsimp only;split
 .unfold K7;dsimp only;rw[hp];exact hs
 .rw[hp];exact hs
theorem jG(n:A6)(w AR AY:Int)(x:AL):n.keep.length<=(CL n w AR AY x).1.keep.length:=by
 unfold CL;split
 .exact Si ..
 .exact yV _
theorem aT(n:A6)(c:B4)(m:AE):n.keep.length<=(CQ n c m).1.keep.length:=by
 unfold CQ;split
 .split
  .exact yV _
  split
  .exact Si ..
  .exact yV _
 .exact yV _
theorem gG(n:A6)(c:B4):n.keep.length<=(Bu n c).1.keep.length:=by
 unfold Bu;split
 .dsimp only;split
  .exact yV _
  split
  .exact Si {n with A4:=Ca n.A4 c.Cl.dst} _ _ _
  .exact yV _
 .exact yV _
structure Nc (s t:NS):Prop where
 A4:N6 s.1.A4 t.1.A4
 AJ:t.1.AJ=s.1.AJ
 Ah:s.1.AI.Ah<=t.1.AI.Ah
 keep:s.1.keep.length<=t.1.keep.length
 bad:t.1.bad=s.1.bad
 nb:NB t.1
 GD:∃g:List Af,t.2=s.2++g/\(∀x∈g,Ms s.1.A4.id x)/\t.1.AI.op.length=s.1.AI.op.length+g.length
theorem jV.h{s t:NS}(h:jV s t):Nc s t:=⟨h.A4,h.AJ,h.Ah,by rw[h.keep];exact yV _,h.bad,h.nb,h.GD⟩
theorem Nc.refl(h:NB s.1):Nc s s:=(jV.refl h).h
theorem Nc.trans{t u:NS}(h:Nc s t)(k:Nc t u):Nc s u:=by
 obtain⟨g1,a1,a2,a3⟩:=h.GD;obtain⟨g2,b1,b2,b3⟩:=k.GD;refine⟨h.A4.trans k.A4,k.AJ.trans h.AJ,Int.le_trans h.Ah k.Ah,q0E h.keep k.keep,k.bad.trans h.bad,k.nb,g1++g2,by rw[b1,a1,zu],fun x hx=> ?_,by rw[yw];omega⟩;rcases q04.1 hx with hx|hx
 .exact a2 x hx
 .rw[<-h.A4.id];exact b2 x hx
variable {g:List Af}
theorem Nc.of{w:A6}(hv:N6 n.A4 w.A4)(h1:w.AJ=n.AJ)(h2:w.AI=n.AI)(h3:n.keep.length<=w.keep.length)(h5:w.bad=n.bad)(h4:NB w):Nc (n,g) (w,g):=
 ⟨hv,h1,by rw[h2];exact q0l _,h3,h5,h4,[],sm,fun x hx=>(by cases hx),by rw[h2];rfl⟩
theorem cA{r:A6×List (AE×Int)}(s:jU n r.1)(hk:n.keep.length<=r.1.keep.length)(h:NB r.1):Nc (n,g) (EU g r):=
 (Nc.of s.A4 s.AJ s.AI hk s.bad h).trans (J3 r.2 (s:=(r.1,g)) h).h
theorem R7(h:NB n)(hx:x.AH.length<=big):Nc (n,g) (EU g (CL n w AR AY x)):=cA (Ih ..).1 (jG ..) (h.start hx)
theorem qg(h:NB n){c:B4}(hm:m.AC.AH.length<=big):Nc (n,g) (EU g (CQ n c m)):=cA (OC ..) (aT ..) (h.heard hm)
theorem ae(h:NB n){c:B4}:Nc (n,g) (EU g (Bu n c)):=cA (Qu ..) (gG ..) h.lost
theorem Lz:∀(l:List B4){s:NS},NB s.1->Nc s (l.foldl (fun s x=>EU s.2 (Bu s.1 x)) s)
 |[],s,h=> .refl h
 |x::r,s,h=>(ae (g:=s.2) h (c:=x)).trans (Lz r (ae (g:=s.2) h (c:=x)).nb)
theorem NB.AJ{n:A6}(h:NB n)(hc:n.AJ<1099511627776):NB {n with AJ:=n.AJ+1}:=by
 refine⟨?_,⟨h.l.f,h.l.m,h.l.c⟩,h.ph⟩;obtain⟨a1,a2,a3,a4,a5,a6,a7,a8,a9⟩:=Al.1 h.r;exact Al.2 ⟨⟨by dsimp only;omega,by dsimp only;omega⟩,a2,a3,a4,a5,a6,a7,a8,a9⟩
theorem NB.late(h:NB n)(now:Int):NB {n with AI:=(C6 n.AI now).1}:=h.AI (dm ..).1 (ab h.cB.1)
theorem K4(hv:AZ v=true)(hs:Ci A3 BN=true)(h0:0<=A3):Ci (CX v A3 BN).1.1 (CX v A3 BN).1.2=true/\0<=(CX v A3 BN).1.1:=by
 unfold CX;split
 .refine⟨?_,(by decide:(0:Int)<=1)⟩;show Ci 1 (FJ v)=true;unfold Ci;rw[zO (by decide),<-CU,(Nx hv).1];rfl
 .exact⟨hs,h0⟩
theorem NB.tO(h:NB n){p o:Int}(hs:Ci p o=true)(h0:0<=p):NB {n with A3:=p,BN:=o}:=by
 refine⟨?_,⟨h.l.f,h.l.m,h.l.c⟩,h0⟩;obtain⟨a1,a2,a3,a4,a5,a6,a7,a8,a9⟩:=Al.1 h.r;exact Al.2 ⟨a1,a2,a3,a4,a5,hs,a7,a8,a9⟩
theorem NB.rv(h:NB n):AZ n.A4=true:=(Al.1 h.r).2.2.2.1
theorem Od(h:NB s.1):Nc s (DF s):=by
 have hb:=K4 h.rv (Al.1 h.r).2.2.2.2.2.1 h.ph;have hn:=h.tO hb.1 hb.2;have h1:Nc (s.1,s.2) ({s.1 with A3:=(CX s.1.A4 s.1.A3 s.1.BN).1.1,BN:=(CX s.1.A4 s.1.A3 s.1.BN).1.2},s.2):=Nc.of (.refl _) rfl rfl (yV _) rfl hn;exact h1.trans (J3 _ (s:=({s.1 with A3:=(CX s.1.A4 s.1.A3 s.1.BN).1.1,BN:=(CX s.1.A4 s.1.A3 s.1.BN).1.2},s.2)) hn).h
theorem bE(h:NB s.1):Nc s (Ep s):=by
 unfold Ep;split
 .exact(J3 _ h).h
 .exact .refl h
theorem ZV{v:AB}(hv:AZ v=true):∀(k i:Nat)(f:Nat->Int),(∀j,j<16->Eu v.id (f j)=true)->∀j,j<16->Eu v.id ((Gd v k i f).1 j)=true
 |0,i,f,h=>h
 |k+1,i,f,h=>by
  unfold Gd;split
  .refine ZV hv k (i+1) _ fun j hj=> ?_;unfold L0
   split
   .split
    .simp[Eu]
    .rename_i hne;simp[Eu,(Nx hv).1,hne]
   .exact h j hj
  .exact h
theorem ZU(v:AB):∀(k i:Nat)(f:Nat->Int)(j:Nat),(Gd v k i f).2=some j->j<i+k
 |0,i,f,j,h=>by unfold Gd at h;cases h
 |k+1,i,f,j,h=>by
  unfold Gd at h;split at h
  .have:=ZU v k (i+1) _ j h;omega
  .cases h;omega
theorem O1{f:Nat->Int}{p:Int->Bool}:(Hy f).all p=true↔∀j,j<16->p (f j)=true:=by
 rw[q0I];constructor
 .intro h j hj;refine h _ ?_;rcases YO hj with rfl|rfl|rfl|rfl|rfl|rfl|rfl|rfl|rfl|rfl|rfl|rfl|rfl|rfl|rfl|rfl<;>simp[Hy]
 .intro h x hx;simp only[Hy,q0C,q1e,or_false]at hx;rcases hx with rfl|rfl|rfl|rfl|rfl|rfl|rfl|rfl|rfl|rfl|rfl|rfl|rfl|rfl|rfl|rfl<;>exact h _ (by decide)
theorem RA(hv:AZ v=true)(i:Int):N6 v (walkT v i).1/\(walkT v i).1.A8=v.A8/\0<=(walkT v i).2.1/\(walkT v i).2.1<16:=by
 unfold walkT;rw[zN hv];dsimp only;generalize hi:(if 0<=i/\i<16 then i.toNat else 0)=i0
 have hi0:i0<16:=by
  rw[<-hi];split<;>omega
 obtain⟨h1,h2,h3,h4,h5⟩:=Bz hv;have ho:=ZV hv (16-i0) i0 v.f (O1.1 h5);have hl:=ZU v (16-i0) i0 v.f;generalize Gd v (16-i0) i0 v.f=r at *;obtain⟨f,o⟩:=r
 have hr:∀w:AB,w={v with f:=f}->N6 v w:=fun w hw=>by
  subst hw;exact⟨rfl,rfl,fun _=>Jk h1 h2 h3 h4 (O1.2 ho)⟩
 cases o with
 |none=>exact⟨hr _ rfl,rfl,q0l _,(by decide:(0:Int)<16)⟩
 |some k=>
  have:=hl k rfl;exact⟨hr _ rfl,rfl,by dsimp only;omega,by dsimp only;omega⟩
theorem NB.A4{n:A6}(h:NB n){v:AB}(hv:N6 n.A4 v){k:Int}(hk:0<=k/\k<16):NB {n with A4:=v,next:=k}:=by
 refine⟨?_,⟨h.l.f,h.l.m,h.l.c⟩,h.ph⟩;obtain⟨a1,a2,a3,a4,a5,a6,a7,a8,a9⟩:=Al.1 h.r;refine Al.2 ⟨a1,a2,hk,hv.right a4,⟨a5.1.trans hv.id.symm,a5.2⟩,a6,a7,a8,?_⟩;exact(nD (n:=n) (w:={n with A4:=v,next:=k}) rfl hv.id).trans a9
theorem O0(h:NB s.1):Nc s (C5 s):=by
 have hw:=RA h.rv s.1.next;have hn:=h.A4 hw.1 hw.2.2;have h1:Nc (s.1,s.2) ({s.1 with A4:=(walkT s.1.A4 s.1.next).1,next:=(walkT s.1.A4 s.1.next).2.1},s.2):=Nc.of hw.1 rfl rfl (yV _) rfl hn;unfold C5;split
 .dsimp only;split
  .exact h1.trans (R7 hn (by decide))
  .exact h1
 .exact .refl h
theorem NB.last{n:A6}(h:NB n)(k:AT):NB {n with last:=k}:=by
 refine⟨?_,⟨h.l.f,h.l.m,h.l.c⟩,h.ph⟩;exact Al.2 (Al.1 h.r)
theorem OH{k:List AL}(h:CK k=true)(hx:x∈k):x.AH.length<=20:=by
 have:=(CI.1 h).2.1 x hx;unfold Wi.Ay Wi.C2 at this;simp only[yU,yc]at this;omega
variable {AH:AT}
theorem Qy{k:List AL}(h:(HT k AH).2=true):CK k=true/\(HT k AH).1∈k:=by
 unfold HT at h|-;split
 .rename_i hc;rw[yU,yc]at hc;refine⟨hc.2,?_⟩;dsimp only;generalize(if hasK k AH=true then Cc k AH+1 else Cc k AH)=a;have:(if k.length<=a then 0 else a)<k.length:=by split<;>omega
  rw[zJ,yj this];exact q0a this
 .rename_i hc;rw[zO hc]at h;cases h
theorem YW(h:NB s.1):Nc s (Cr s):=by
 unfold Cr;split
 .rename_i hc;rw[yU]at hc;have hx:=Qy hc.2;have hk:=OH hx.1 hx.2;dsimp only;have h1:Nc (s.1,s.2) ({s.1 with last:=(HT s.1.keep s.1.last).1.AH},s.2):=Nc.of (.refl _) rfl rfl (yV _) rfl (h.last _);exact h1.trans (R7 (h.last _) (q0E hk (by decide)))
 .exact .refl h
theorem X4(h:NB n):NB (EW n).1/\N6 n.A4 (EW n).1.A4/\(EW n).1.AJ=(if n.AJ>=1099511627776 then n.AJ else n.AJ+1)/\n.AI.Ah<=(EW n).1.AI.Ah/\n.keep.length<=(EW n).1.keep.length/\(∀g∈(EW n).2,Ms n.A4.id g)/\(EW n).2.length<=48:=by
 unfold EW;split
 .rename_i hc
  have hc:n.AJ>=1099511627776:=by
   rcases hc with hc|hc
   .exact hc
   .rw[h.r]at hc;cases hc
  rw[zN hc];exact⟨h,.refl _,rfl,q0l _,yV _,fun g hg=>(by cases hg),yx _⟩
 .rename_i hc
  have hlt:n.AJ<1099511627776:=by
   rcases Int.lt_or_le n.AJ 1099511627776 with hl|hl
   .exact hl
   .exact absurd (.inl hl) hc
  rw[zO om];have h1:=h.AJ hlt;have hcb:=h.cB;have h2:=h1.late (n.AJ+1);have hm:=(Lx (c:=n.AI) (now:=n.AJ+1) hcb.1).1;have hl:=Sw n.AI (n.AJ+1) hcb.1;have hi:=dm n.AI (n.AJ+1)
  have hq:∀l:List AE,(∀m∈l,m.right=true/\m.BW=true/\m.Ax=n.AI.id)->(∀g∈l.flatMap Ir,Ms n.A4.id g)/\(l.flatMap Ir).length=l.length:=by
   intro l
   induction l with
   |nil=>exact fun _=>⟨fun g hg=>(by cases hg),rfl⟩
   |cons m r ih=>
    intro hr;obtain⟨i1,i2⟩:=ih fun m hm=>hr m (q05 _ hm)
    have hm:=hr m (q02 ..);rw[List.flatMap_cons,Cu hm.1];refine⟨fun g hg=> ?_,by rw[yw,i2];simp;omega⟩;rcases q04.1 hg with hg|hg
    .rw[q00]at hg;exact⟨m,hm.1,hm.2.2.trans hcb.2,hg⟩
    .exact i1 g hg
  obtain⟨q1,q2⟩:=hq _ hm;have a:=Lz (C6 n.AI (n.AJ+1)).2.2 (s:=({n with AJ:=n.AJ+1,AI:=(C6 n.AI (n.AJ+1)).1},[]++(C6 n.AI (n.AJ+1)).2.1.flatMap Ir)) h2;change Nc _ (FW ({n with AJ:=n.AJ+1},[]))at a;have b:=a.trans (Od a.nb);have c:=b.trans (bE b.nb);have d:=c.trans (O0 c.nb);have e:=d.trans (YW d.nb);obtain⟨g,g1,g2,g3⟩:=e.GD;have h16:=(Be.1 e.nb.cB.1).1.2.2.2;refine⟨e.nb,e.A4,e.AJ,by have:=e.Ah;dsimp only at this;omega,e.keep,fun x hx=> ?_,?_⟩
  .rw[g1]at hx;rw[zK]at hx;rcases q04.1 hx with hx|hx
   .exact q1 x hx
   .exact g2 x hx
  .rw[g1,zK,yw,q2];dsimp only at g3;omega
theorem Tf(h:m.right=true):(1<=m.AG/\m.AG<13)/\BE m.Ax=true/\BE m.dst=true/\m.Ax≠m.dst/\m.asker*1048576+1<=m.AW/\m.AW<m.asker*1048576+1+1048576:=by
 unfold AE.right AE.JK at h;simp only[yU,yc]at h;obtain⟨⟨⟨⟨⟨⟨⟨h1,h2⟩,h3⟩,h4⟩,h5⟩,h6⟩,h7⟩,_⟩:=h;exact⟨⟨h1,h2⟩,h3,h4,h5,h6,h7⟩
theorem HL:m.BW=true↔1<=m.AG/\m.AG<=6:=by
 unfold AE.BW;rw[yU,yc,yc]
theorem sG(h1:7<=m.AG/\m.AG<13)(h2:BE m.Ax=true)(h3:BE m.dst=true)(h4:m.Ax≠m.dst)(h5:m.dst*1048576+1<=m.AW)(h6:m.AW<m.dst*1048576+1+1048576)(hb:m.bare=m.empty)(hh:m.has=true):m.right=true:=by
 have ha:m.asker=m.dst:=by
  unfold AE.asker;rw[zO];rw[HL];omega
 unfold AE.right AE.JK;rw[ha];simp only[yU,yc];exact⟨⟨⟨⟨⟨⟨⟨om,h1.2⟩,h2⟩,h3⟩,h4⟩,h5⟩,h6⟩,hb,hh⟩
theorem ZB(x:Int):∀(l:Ao)(f:Int),rT x f l=true->(∀p∈l,BG p=true/\An x p>f)/\l.Nodup
 |[],_,_=>⟨fun p hp=>(by cases hp),List.nodup_nil⟩
 |p::r,f,h=>by
  unfold rT at h;simp only[yU,yc]at h;obtain⟨i1,i2⟩:=ZB x r _ h.2;refine⟨fun q hq=> ?_,List.nodup_cons.2 ⟨fun hp=> ?_,i2⟩⟩
  .rcases q0C.1 hq with rfl|hq
   .exact h.1
   .have:=i1 q hq;have:=h.1.2;exact⟨(i1 q hq).1,om⟩
  .have:=(i1 p hp).2;omega
theorem WT(hv:AZ v=true):Wi.F7 v.A8 v.id=true:=by
 obtain⟨_,_,h3,_,_⟩:=Bz hv;unfold CB at h3;rw[yU,yc]at h3;obtain⟨h4,h5⟩:=ZB v.id v.A8 0 h3.2;unfold Wi.F7 Wi.Fu;simp only[yU,yc,q0I];refine⟨⟨fun p hp=>⟨by rw[<-CU];exact(h4 p hp).1,?_⟩,h5⟩,h3.1⟩;rintro rfl;have:=(h4 _ hp).2;unfold An at this;omega
theorem Yh{id n:Int}(h:Eu id n=true)(h1:n≠ -1):BG n=true:=by
 unfold Eu at h;rw[q0G,yc,yU]at h;rcases h with h|h
 .exact absurd h h1
 .exact h.1
theorem WK{k:Int}{BX:Bool}(hv:AZ v=true):BG (F4 v k BX).1=true:=by
 have hfi:=Nx hv;obtain⟨_,_,h3,_,h5⟩:=Bz hv;unfold CB at h3;rw[yU]at h3;have hl:=(ZB v.id v.A8 0 h3.2).1;unfold F4;rw[zN hv];split
 .exact hfi.1
 split
 .exact hfi.1
 .have hk:∀q∈vh v,BG q=true:=by
   intro q hq;unfold vh at hq;rcases q0C.1 hq with rfl|hq
   .exact hfi.1
   rcases q04.1 hq with hq|hq
   .exact(hl q hq).1
   .have h1:=List.mem_filter.1 hq;exact Yh (q0I.1 h5 q h1.1) (by simpa using h1.2)
  have AH:∀(l:Ao)(p:Int),(∀q∈l,BG q=true)->BG p=true->BG (l.foldl (WJ v.id k) p)=true:=by
   intro l
   induction l with
   |nil=>exact fun p _ h=>h
   |cons q r ih=>
    intro p hq hp;rw[q0c];refine ih _ (fun q' h=>hq q' (q05 _ h)) ?_;unfold WJ;split
    .exact hq q (q02 ..)
    .exact hp
  exact AH _ _ hk hfi.1
theorem nM{l:List AL}(h:CK l=true)(hx:Ay x=true):(Fj l x).2=0\/(Fj l x).2=200:=by
 unfold Fj;rw[h,hx];simp only[q0g,zx];split
 .exact .inl rfl
 split
 .exact .inr rfl
 .exact .inl rfl
theorem lS{l:List AL}(h:CK l=true):((Et l AH).2=0/\Ay (Et l AH).1=true)\/((Et l AH).2=201/\(Et l AH).1=AN):=by
 unfold Et;split
 .rename_i hc;rw[yU]at hc;obtain⟨x,hx,_,hg⟩:=Ix hc.2;exact .inl ⟨rfl,by dsimp only;rw[hg];exact(CI.1 h).2.1 x (zM hx)⟩
 .exact .inr ⟨rfl,rfl⟩
theorem Jp(h:m.BW=true):Jo m=⟨m.AG+6,m.AW,m.dst,m.Ax,0,false,false,0,0,[],AN,0⟩:=by
 unfold Jo;rw[zN h]
theorem Gu:E7 n m=true↔m.BW=true/\m.right=true/\m.dst=n.A4.id/\Ch n=true:=by
 unfold E7;simp only[yU,yc,and_assoc]
theorem K2(h:E7 n m=true):(BC n m).2.right=true/\(BC n m).2.BW=false/\(BC n m).2.Ax=n.A4.id/\(BC n m).2.dst=m.Ax/\(BC n m).2.AW=m.AW:=by
 obtain⟨ha,hr,hd,hn⟩:=Gu.1 h;obtain⟨_,_,_,hv,_,_,hk,_,_⟩:=Al.1 hn;have hk6:=HL.1 ha;obtain⟨_,h2,h3,h4,h5,h6⟩:=Tf hr;have hask:m.asker=m.Ax:=by unfold AE.asker;rw[zN ha]
 rw[hask]at h5 h6
 have hhas:m.has=true:=by
  unfold AE.right at hr;simp only[yU]at hr;exact hr.2.2
 have AH:∀t:AE,t.AG=m.AG+6->t.Ax=m.dst->t.dst=m.Ax->t.AW=m.AW->t.bare=t.empty->t.has=true->t.right=true/\t.BW=false/\t.Ax=n.A4.id/\t.dst=m.Ax/\t.AW=m.AW:=by
  intro t e1 e2 e3 e4 e5 e6;refine⟨sG om (by rw[e2];exact h3) (by rw[e3];exact h2) (by rw[e2,e3];exact fun e=>h4 e.symm) (by rw[e3,e4];exact h5) (by rw[e3,e4];exact h6) e5 e6,?_,e2.trans hd,e3,e4⟩
  cases e:t.BW with
  |false=>rfl
  |true=>have:=HL.1 e;omega
 unfold BC;rw[Jp ha];dsimp only;have hkk:m.AG=1\/m.AG=2\/m.AG=3\/m.AG=4\/m.AG=5\/m.AG=6:=om
 rcases hkk with e|e|e|e|e|e
 .rw[zN e];refine AH _ rfl rfl rfl rfl ?_ ?_
  .unfold AE.bare AE.empty;simp[e]
  .unfold AE.has;simp only[e,show((1:Int)+6)=7 by decide,show ¬((7:Int)=4)by decide,show ¬((7:Int)=5)by decide,show ¬((7:Int)=6)by decide,zo,zx];rw[yU,hd];refine⟨?_,WT hv⟩;have ho:=(Bz hv).2.2.2.1;rw[q0G,yc]
   by_cases hp:n.A4.AO= -1
   .exact .inl hp
   .right;rw[<-CU];exact Yh ho hp
 .rw[zO om,zN e];refine AH _ rfl rfl rfl rfl ?_ ?_
  .unfold AE.bare AE.empty;simp[e]
  .unfold AE.has;simp[e]
 .rw[zO om,zO om,zN e];refine AH _ rfl rfl rfl rfl ?_ ?_
  .unfold AE.bare AE.empty;simp[e]
  .unfold AE.has;simp[e]
 .rw[zO om,zO om,zO om,zN e]
  have eh:Sl n.A4 m={Jo m with AY:=(F4 n.A4 m.AH m.BX).1,done:=(F4 n.A4 m.AH m.BX).2}:=by
   unfold Sl;rw[hv,yX e,yX hd,hr];rfl
  rw[eh,Jp ha];refine AH _ rfl rfl rfl rfl ?_ ?_
  .unfold AE.bare AE.empty;simp[e]
  .unfold AE.has;simp only[e,show((4:Int)+6)=10 by decide,show ¬((10:Int)=4)by decide,show ¬((10:Int)=5)by decide,show ¬((10:Int)=6)by decide,show ¬((10:Int)=7)by decide,zo,zx];rw[<-CU];exact WK hv
 .rw[zO om,zO om,zO om,zO om,zN e];refine AH _ rfl rfl rfl rfl ?_ ?_
  .unfold AE.bare AE.empty;simp[e]
  .have hi:Ay m.AC=true:=by
    unfold AE.has at hhas;simpa only[e,show ¬((5:Int)=4)by decide,zo,zx]using hhas
   unfold AE.has;simp only[e,show((5:Int)+6)=11 by decide,show ¬((11:Int)=4)by decide,show ¬((11:Int)=5)by decide,show ¬((11:Int)=6)by decide,show ¬((11:Int)=7)by decide,show ¬((11:Int)=10)by decide,zo,zx];rw[q0G,yc,yc];exact nM hk hi
 .rw[zO om,zO om,zO om,zO om,zO om,zN e];refine AH _ rfl rfl rfl rfl ?_ ?_
  .unfold AE.bare AE.empty;simp[e]
  .unfold AE.has;simp only[e,show((6:Int)+6)=12 by decide,show ¬((12:Int)=4)by decide,show ¬((12:Int)=5)by decide,show ¬((12:Int)=6)by decide,show ¬((12:Int)=7)by decide,show ¬((12:Int)=10)by decide,show ¬((12:Int)=11)by decide,zo,zx];rw[q0G,yU,yU,yc,yc,yc];exact lS hk
theorem PE(h:NB n)(hs:E7 n m=true):NB (BC n m).1/\N6 n.A4 (BC n m).1.A4/\(BC n m).1.A4.A8=n.A4.A8/\(BC n m).1.AJ=n.AJ/\(BC n m).1.AI=n.AI/\(BC n m).1.BL=n.BL/\n.keep.length<=(BC n m).1.keep.length/\(BC n m).1.bad=n.bad/\(BC n m).1.A3=n.A3/\(BC n m).1.BN=n.BN:=by
 have hself:NB n/\N6 n.A4 n.A4/\n.A4.A8=n.A4.A8/\n.AJ=n.AJ/\n.AI=n.AI/\n.BL=n.BL/\n.keep.length<=n.keep.length/\n.bad=n.bad/\n.A3=n.A3/\n.BN=n.BN:=⟨h,.refl _,rfl,rfl,rfl,rfl,yV _,rfl,rfl,rfl⟩;obtain⟨ha,hr,hd,hn⟩:=Gu.1 hs;unfold BC;dsimp only;split
 .exact hself
 split
 .exact hself
 split
 .have hv:N6 n.A4 (HC n.A4 m.Ax):=by
   unfold HC;split
   .rename_i hc;rw[yU]at hc;refine⟨rfl,rfl,fun _=> ?_⟩;obtain⟨h1,h2,h3,h4,h5⟩:=Bz h.rv;refine Jk h1 h2 h3 ?_ h5;have hb:=hc.2;unfold Is at hb;simp only[yU,yc]at hb;show Eu n.A4.id m.Ax=true;unfold Eu;rw[hb.1.1,yX hb.1.2];simp
   .exact .refl _
  have hnx:=(Al.1 h.r).2.2.1;have hl:(HC n.A4 m.Ax).A8=n.A4.A8:=by unfold HC;split<;>rfl
  exact⟨h.A4 hv hnx,hv,hl,rfl,rfl,rfl,yV _,rfl,rfl,rfl⟩
 split
 .exact hself
 split
 .refine⟨⟨?_,⟨h.l.f,h.l.m,h.l.c⟩,h.ph⟩,.refl _,rfl,rfl,rfl,rfl,eN ..,rfl,rfl,rfl⟩;obtain⟨a1,a2,a3,a4,a5,a6,a7,a8,a9⟩:=Al.1 h.r;exact Al.2 ⟨a1,a2,a3,a4,a5,a6,OU a7,a8,a9⟩
 split
 .exact hself
 .exact hself
theorem NB.BL{n:A6}(h:NB n){l:List Past}(hl:Fw l=true)(ho:∀p∈l,p.AA.Ax=n.A4.id):NB {n with BL:=l}:=by
 refine⟨?_,⟨h.l.f,h.l.m,h.l.c⟩,h.ph⟩;obtain⟨a1,a2,a3,a4,a5,a6,a7,a8,a9⟩:=Al.1 h.r;refine Al.2 ⟨a1,a2,a3,a4,a5,a6,a7,hl,?_⟩;unfold Pg;rw[q0H,q0O];intro p hp;have:=ho p hp;simpa using this
theorem NB.own(h:NB n):∀p∈n.BL,p.AA.Ax=n.A4.id:=by
 have:=(Al.1 h.r).2.2.2.2.2.2.2.2;unfold Pg at this;rw[q0H,q0O]at this;intro p hp;simpa using this p hp
theorem VS{p:Past}(h:p∈Ha l t):p∈l\/p=⟨t.dst,t.AW,t⟩:=by
 unfold Ha at h;split at h
 .split at h
  .exact .inl h
  .have:=List.mem_of_mem_drop h;rw[q04,q00]at this;exact this
 .exact .inl h
theorem Og(h:NB n)(hs:E7 n m=true):NB (Bv n m).1/\N6 n.A4 (Bv n m).1.A4/\(Bv n m).1.A4.A8=n.A4.A8/\(Bv n m).1.AJ=n.AJ/\(Bv n m).1.AI=n.AI/\n.keep.length<=(Bv n m).1.keep.length/\(Bv n m).1.bad=n.bad/\((Bv n m).1.A3=n.A3/\(Bv n m).1.BN=n.BN)/\
  (Bv n m).2.right=true/\(Bv n m).2.BW=false/\(Bv n m).2.Ax=n.A4.id/\(Bv n m).2.dst=m.Ax/\(Bv n m).2.AW=m.AW/\GU (Bv n m).1.BL m.Ax m.AW=((Bv n m).2,true):=by
 have hsn:=(Al.1 h.r).2.2.2.2.2.2.2.1;unfold Bv;rw[zN hs];split
 .rename_i hf;obtain⟨p,hp,e1,e2,e3⟩:=Pv hf;obtain⟨b1,b2,b3,b4⟩:=NQ.1 ((I9.1 hsn).2.1 p hp);refine⟨h,.refl _,rfl,rfl,rfl,yV _,rfl,⟨rfl,rfl⟩,?_⟩;dsimp only;rw[e3];refine⟨b1,b2,h.own p hp,b3.trans e1,b4.trans e2,?_⟩;rw[<-e3,<-hf]
 .rename_i hf;rw[Bool.not_eq_true]at hf;obtain⟨t1,t2,t3,t4,t5⟩:=K2 hs;obtain⟨a1,a2,a3,a4,a5,a6,a7,a8,a9,a10⟩:=PE h hs;have hr:=ZM (t:=(BC n m).2) hsn;refine⟨a1.BL hr fun p hp=> ?_,a2,a3,a4,a5,a7,a8,⟨a9,a10⟩,t1,t2,t3,t4,t5,?_⟩
  .rw[a2.id];rcases VS hp with hp|rfl
   .exact h.own p hp
   .exact t3
  .dsimp only;rw[<-t4,<-t5];refine ZL hsn t1 t2 ?_;rw[t4,t5];exact hf
theorem MF(h:m.right=true):m.AC.AH.length<=20:=by
 have hz:(AN:AL).AH.length<=20:=by decide
 have hi:∀x:AL,Ay x=true->x.AH.length<=20:=fun x hx=>by
  unfold Wi.Ay Wi.C2 at hx;simp only[yU,yc]at hx;omega
 unfold AE.right at h;simp only[yU,yc]at h;have hb:=h.2.1;have hh:=h.2.2
 by_cases h5:m.AG=5
 .unfold AE.has at hh;simp only[h5,show ¬((5:Int)=4)by decide,zo,zx]at hh;exact hi _ hh
 by_cases h6:m.AG=6
 .unfold AE.has at hh;simp only[h6,show ¬((6:Int)=4)by decide,show ¬((6:Int)=5)by decide,zo,zx]at hh;rw[yU]at hh;exact hi _ hh.1
 by_cases h12:m.AG=12
 .unfold AE.has at hh;simp only[h12,show ¬((12:Int)=4)by decide,show ¬((12:Int)=5)by decide,show ¬((12:Int)=6)by decide,show ¬((12:Int)=7)by decide,show ¬((12:Int)=10)by decide,show ¬((12:Int)=11)by decide,zo,zx]at hh;rw[q0G,yU,yU,yc,yc,yc]at hh;rcases hh with hh|hh
  .exact hi _ hh.2
  .rw[hh.2];exact hz
 .have e:m.bare.AC=m.AC:=by
   unfold AE.bare
   repeat' split
   all_goals first|rfl|(exfalso;omega)
  rw[<-e,hb];exact hz
theorem NB.bad{n:A6}(h:NB n){k:Int}(hk:0<=k):NB {n with bad:=k}:=by
 refine⟨?_,⟨h.l.f,h.l.m,h.l.c⟩,h.ph⟩;obtain⟨a1,a2,a3,a4,a5,a6,a7,a8,a9⟩:=Al.1 h.r;exact Al.2 ⟨a1,hk,a3,a4,a5,a6,a7,a8,a9⟩
theorem NB.close(h:NB n)(m:AE):NB {n with AI:=(Bi n.AI m).1}:=by
 refine h.AI ?_ (Xk h.cB.1);unfold Bi;split
 .split<;>rfl
 .rfl
theorem X1(h:NB n)(b:AT):NB (ET n b).1/\N6 n.A4 (ET n b).1.A4/\(ET n b).1.AJ=n.AJ/\n.keep.length<=(ET n b).1.keep.length/\(∀g∈(ET n b).2,Ms n.A4.id g)/\(ET n b).2.length<=16:=by
 unfold ET;rw[zN h.r];split
 .refine⟨h.bad ?_,.refl _,rfl,yV _,fun g hg=>(by cases hg),yx _⟩;have:=(Al.1 h.r).2.1;split<;>omega
 rename_i hc;split
 .rename_i ha
  by_cases hs:E7 n (Ac b).1=true
  .obtain⟨a1,a2,_,a4,_,a6,_,_,t1,_,t3,_⟩:=Og h hs;refine⟨a1,a2,a4,a6,fun g hg=> ?_,?_⟩
   .dsimp only at hg;rw[Cu t1,q00]at hg;exact⟨_,t1,t3,hg⟩
   .dsimp only;rw[Cu t1];exact(by decide:(1:Nat)<=16)
  .have e:Bv n (Ac b).1=(n,AU):=by unfold Bv;rw[zO hs]
   rw[e]
   have hz:Ir AU=[]:=by
    unfold Ir;rw[zO];unfold Wi.CG;rw[Wi.cJ];decide
   refine⟨h,.refl _,rfl,yV _,fun g hg=> ?_,?_⟩
   .dsimp only at hg;rw[hz]at hg;cases hg
   .dsimp only;rw[hz];exact yx _
 split
 .rename_i hk;obtain⟨k1,k2,_⟩:=kV hk;have hn:=h.close (Ac b).1;have a:=qg (g:=[]) hn (c:=(Bi n.AI (Ac b).1).2.1) (m:=(Ac b).1) (q0E (MF k2) (by decide));obtain⟨g,g1,g2,g3⟩:=a.GD;have h16:=(Be.1 a.nb.cB.1).1.2.2.2;refine⟨a.nb,a.A4,a.AJ,a.keep,fun x hx=> ?_,?_⟩
  .rw[g1]at hx;exact g2 x (by simpa using hx)
  .rw[g1];simp only[zK];omega
 .exact⟨h,.refl _,rfl,yV _,fun g hg=>(by cases hg),yx _⟩
theorem Zp(h:NB n)(AR:Int)(x:AL)(hx:x.AH.length<=big):NB (Gg n AR x).1.1/\(Gg n AR x).1.1.AJ=n.AJ/\(∀g∈(Gg n AR x).1.2,Ms n.A4.id g)/\(Gg n AR x).1.2.length<=16/\((Gg n AR x).2=0\/(Gg n AR x).1=(n,[])):=by
 have hself:NB n/\n.AJ=n.AJ/\(∀g∈([]:List Af),Ms n.A4.id g)/\([]:List Af).length<=16:=⟨h,rfl,fun g hg=>(by cases hg),yx _⟩;unfold Gg;split
 .split
  .have a:=R7 (g:=[]) h (w:=7) (AR:=AR) (AY:=0) hx;obtain⟨g,g1,g2,g3⟩:=a.GD;have h16:=(Be.1 a.nb.cB.1).1.2.2.2;refine⟨a.nb,a.AJ,fun x hx=> ?_,?_,.inl rfl⟩
   .dsimp only at hx;rw[g1]at hx;exact g2 x (by simpa using hx)
   .dsimp only;rw[g1];simp only[zK];omega
  .exact⟨hself.1,hself.2.1,hself.2.2.1,hself.2.2.2,.inr rfl⟩
 .exact⟨hself.1,hself.2.1,hself.2.2.1,hself.2.2.2,.inr rfl⟩
theorem OJ(h:NB n){i:Nat}(hi:(E0 n.A4.id (n.AI.Ah+1+i)).2=0)(hx:x∈n.keep):(LM n i x).right=true:=by
 obtain⟨_,_,_,hv,hc,_,hk,_,_⟩:=Al.1 h.r;have hit:=(CI.1 hk).2.1 x hx;have hp:=(Bz hv).1;have hf:=Nx hv;unfold E0 at hi;split at hi
 .rename_i hcall;have e:(E0 n.A4.id (n.AI.Ah+1+i)).1=n.A4.id*1048576+(n.AI.Ah+1+i):=by unfold E0;rw[zN hcall]
  have ha:(LM n i x).asker=n.A4.id:=rfl;unfold AE.right AE.JK;rw[ha];simp only[yU,yc];unfold LM;rw[e];refine⟨⟨⟨⟨⟨⟨⟨(by decide:(1:Int)<=5),(by decide:(5:Int)<13)⟩,hcall.1⟩,by rw[<-CU];exact hf.1⟩,fun e=>hf.2 e.symm⟩,by dsimp only;omega⟩,by dsimp only;omega⟩,?_,?_⟩
  .unfold AE.bare AE.empty;simp
  .unfold AE.has;simp[hit]
 .cases hi
theorem Up{n:A6}(h:NB n):∀(l:List AL)(i:Nat),(∀x∈l,x∈n.keep)->(∀g∈IW n i l,Ms n.A4.id g)
 |[],i,_=>fun g hg=>(by cases hg)
 |x::r,i,hl=>fun g hg=>by
  unfold IW at hg;split at hg
  .rename_i hi;have hr:=OJ h hi (hl x (q02 ..));rcases q04.1 hg with hg|hg
   .rw[Cu hr,q00]at hg;exact⟨_,hr,rfl,hg⟩
   .exact Up h r (i+1) (fun y hy=>hl y (q05 _ hy)) g hg
  .cases hg
theorem mP(h:NB n):∀g∈GP n,Ms n.A4.id g:=by
 unfold GP;rw[zN h.r];exact Up h n.keep 0 fun x hx=>hx
theorem NM{n:A6}(h:NB n):∀(l:List AL)(i:Nat),(∀x∈l,x∈n.keep)->(IW n i l).length=min l.length (1048576-(n.AI.Ah.toNat+i))/\∀k g,(IW n i l)[k]? =some g->∃x,l[k]? =some x/\(LM n (i+k) x).right=true/\g=⟨FJ n.A4,(CG (LM n (i+k) x)).1,false⟩
 |[],i,_=>⟨by unfold IW;simp,fun k g hg=>(by unfold IW at hg;simp at hg)⟩
 |x::r,i,hl=>by
  have hm:=(Be.1 h.cB.1).1;have hp:BE n.A4.id=true:=by rw[<-CU];exact(Bz h.rv).1
  obtain⟨i1,i2⟩:=NM h r (i+1) (fun y hy=>hl y (q05 _ hy));unfold IW;split
  .rename_i hi;have hr:=OJ h hi (hl x (q02 ..))
   have hle:n.AI.Ah+1+i<=1048576:=by
    unfold E0 at hi;split at hi
    .rename_i hc;exact hc.2.2
    .cases hi
   rw[Cu hr];refine⟨?_,fun k g hg=> ?_⟩
   .rw[yw,i1];simp only[yu,zI];omega
   .cases k with
    |zero=>
     simp only[zA,zK,q1R,yh]at hg;exact⟨x,rfl,hr,hg.symm⟩
    |succ k=>
     simp only[zA,zK,q1G]at hg;obtain⟨y,h1,h2,h3⟩:=i2 k g hg;rw[show i+1+k=i+(k+1)by omega]at h2 h3;exact⟨y,by simpa using h1,h2,h3⟩
  .rename_i hi
   have hgt:¬(n.AI.Ah+1+i<=1048576):=fun hle=>hi (by
    unfold E0
    rw[zN ⟨hp,om,hle⟩])
   refine⟨?_,fun k g hg=>(by simp at hg)⟩;rw[zI];omega
theorem Uq(h:NB n):(GP n).length=min n.keep.length (1048576-n.AI.Ah.toNat)/\∀(k:Nat)(g:Af),(GP n)[k]? =some g->∃(x:AL)(m:AE),n.keep[k]? =some x/\m.right=true/\m.AG=5/\m.AC=x/\m.dst=FJ n.A4/\g=⟨m.dst,(CG m).1,false⟩:=by
 obtain⟨h1,h2⟩:=NM h n.keep 0 fun x hx=>hx;unfold GP
 rw[zN h.r];refine⟨by rw[h1];rfl,fun k g hg=> ?_⟩;obtain⟨x,a1,a2,a3⟩:=h2 k g hg;exact⟨x,_,a1,a2,rfl,rfl,rfl,a3⟩
end Nd
end Go.Proofs.YthlmmkmeoblbhaaGreat
namespace Go.Proofs.YthlmmkmeoblbhaaGreat
open Go.Gar
theorem kB{id:Int}(hid:BG id=true):∀(l:Ao)(best:Int),(∀y∈l,BG y=true)->(best= -1\/(BG best=true/\best≠id))->
  (∀b,(b∈l\/(b=best/\best≠ -1))->b≠id->An id (l.foldl (Hg id) best)<=An id b)/\(l.foldl (Hg id) best=best\/l.foldl (Hg id) best∈l)
 |[],best,_,h=>by
  refine⟨fun b hb _=> ?_,.inl rfl⟩;rcases hb with hb|hb
  .cases hb
  .rw[hb.1];exact q0l _
 |a::l,best,hl,h=>by
  simp only[q0c];have ha:=hl a (q02 ..);have ha':=Cq ha
  by_cases hc:a≠id/\(best<0\/An id a<An id best)
  .have e:Hg id best a=a:=zN hc;rw[e];obtain⟨g1,g2⟩:=kB hid l a (fun y hy=>hl y (q05 _ hy)) (.inr ⟨ha,hc.1⟩);have g3:=g1 a (.inr ⟨rfl,om⟩) hc.1;refine⟨fun b hb hne=> ?_,.inr (g2.elim (fun h=>by rw[h];exact q02 ..) (q05 _))⟩;rcases hb with hb|⟨rfl,hb⟩
   .rcases q0C.1 hb with rfl|hb
    .exact g3
    .exact g1 b (.inl hb) hne
   .rcases hc.2 with h3|h3
    .rcases h with h|h
     .exact absurd h hb
     .have:=Cq h.1;omega
    .omega
  .have e:Hg id best a=best:=zO hc;rw[e];obtain⟨g1,g2⟩:=kB hid l best (fun y hy=>hl y (q05 _ hy)) h;refine⟨fun b hb hne=> ?_,g2.elim .inl fun h=> .inr (q05 _ h)⟩;rcases hb with hb|hb
   .rcases q0C.1 hb with rfl|hb
    .have h3:¬(best<0):=fun h4=>hc ⟨hne,.inl h4⟩;have h5:¬(An id b<An id best):=fun h4=>hc ⟨hne,.inr h4⟩
     have hbest:best≠ -1:=om
     have h6:=h.resolve_left hbest;have:=g1 best (.inr ⟨rfl,hbest⟩) h6.2;omega
    .exact g1 b (.inl hb) hne
   .exact g1 b (.inr hb) hne
theorem fG{id:Int}{l:Ao}(hid:BG id=true)(h:CZ l=true):(∀b∈l,b≠id->An id (GG id l)<=An id b)/\GG id l∈l:=by
 have hp:=ME h;have hs:=Vk hid l (-1) hp (Tc h id);obtain⟨h1,h2⟩:=kB hid l (-1) hp (.inl rfl);exact⟨fun b hb hne=>h1 b (.inl hb) hne,h2.resolve_left hs⟩
end Go.Proofs.YthlmmkmeoblbhaaGreat
namespace Go.Proofs.YthlmmkmeoblbhaaGreat
namespace Nd
open Go.Gar
open Wi (AE BE Ay AU C2 mC CG Ac)
theorem Co.nil{m:AE}(h:m.A8=[]):Co m:=by unfold Co;rw[h];exact yx _
theorem Bw.cut{P:Program}{f:FuncId}{args:yq}{r:AV}{H':yz}(K:yz)(h:Bw P f args [] r H')(hs:C0 K H')(ho:Ai K.length K=true)(hx:r.ok K.length=true):Bw P f args [] r K:=by
 refine⟨h.1,fun G w vs hG hR hv=>(h.2 G w vs hG hR hv).mono ?_⟩;rintro e w' ⟨v,r',G',rfl,⟨rfl,hH⟩,hrv,hr,hf⟩;have hs':C0 K G'.H:=by rw[hH];exact hs
 exact⟨v,_,G'.cut K,rfl,⟨rfl,rfl⟩,RV.cut hs' hx hrv,hr.cut hs' ho,hf.ghost (XL.cut hs') (by rw[hG];exact yx _)⟩
theorem W7{α:Type}{p:α->Bool}{x:α}:∀{l:List α}{k:Nat},l[k]? =some x->p x=true->(l.take k).any p=false->l.find? p=some x
 |[],k,h,_,_=>by simp at h
 |a::r,0,h,hp,_=>by
  simp only[q1R,yh]at h;subst h;rw[List.find?_cons,hp]
 |a::r,k+1,h,hp,hq=>by
  rw[q1G]at h;rw[List.take_succ_cons,List.any_cons,q14]at hq;rw[List.find?_cons,hq.1];exact W7 h hp hq.2
theorem W8{α:Type}{p:α->Bool}{l:List α}(h:l.any p=false):l.find? p=none:=by
 rw[q0r];intro x hx hp;rw[q0O]at h;exact h x hx hp
end Nd
end Go.Proofs.YthlmmkmeoblbhaaGreat
namespace Go.Proofs.YthlmmkmeoblbhaaGreat
open Go.Gar
theorem cK(a x b:Int)(ha:i64 a)(hx:i64 x)(hb:i64 b):yA 268 [.yE a,.yE x,.yE b] (.b (Dt a x b)):=by
 have c1:=C1 a ha;have c2:=C1 b hb;have c3:=C1 x hx;have c4:=J5 a x ha hx;have c5:=J5 a b ha hb;refine zF AK Tryz.func268 ?_
 by_cases h:C9 a=C9 b
 .have f1:=B6 h;have hT:Dt a x b=decide (C9 x≠C9 a):=zN h
  by_cases h2:C9 x=C9 a
  .have f2:=BJ h2;have hT2:Dt a x b=false:=by rw[hT];simp[h2]
   refine AD [0,1,2,6,11] ?_ (B1 f1 f2) (DO @c1 @c2 @c3);exact BO hT2
  .have f2:=Bp h2;have hT2:Dt a x b=true:=by rw[hT];simp[h2]
   refine AD [0,1,2,6,11] ?_ (B1 f1 f2) (DO @c1 @c2 @c3);exact BO hT2
 .have f1:=eq_false' h;have hT:Dt a x b=decide (An a x>0/\An a x<An a b):=zO h
  by_cases h2:An a x>0
  .have f2:decide (An a x>0)=true:=yX h2;have hT2:Dt a x b=decide (An a x<An a b):=by rw[hT];simp[h2]
   refine AD [0,1,2,6,11] ?_ (B1 f1 f2) (Ll @c1 @c2 @c3 @c4 @c5);exact BO hT2
  .have f2:decide (An a x>0)=false:=yY h2;have hT2:Dt a x b=false:=by rw[hT];simp[h2]
   refine AD [0,1,2,6,11] ?_ (B1 f1 f2) (Ll @c1 @c2 @c3 @c4 @c5);exact BO hT2
end Go.Proofs.YthlmmkmeoblbhaaGreat
namespace Go.Proofs.YthlmmkmeoblbhaaGreat
namespace Nd
open Go.Gar
open Wi (AE BE Ay AU C2)
def T3(x:Int)(o:Ao)(p:Int):Bool:=decide (o.length>=3)||(!BG p||decide (An x p<=An x (o.getD (o.length-1) 0)))
def Pd(x:Int):Ao->Ao->Ao
 |o,[]=>o
 |o,p::r=>if T3 x o p then o else Pd x (o++[p]) r
theorem gD(o:Ao)(p:Int):(o++[p]).getD ((o++[p]).length-1) 0=p:=by
 rw[yw,List.length_singleton,Nat.add_sub_cancel,zJ,zl (yV _),Nat.sub_self];rfl
theorem mW(x:Int):∀(l o:Ao),o.length<=3->Pd x o l=o++FC.makR x (o.getD (o.length-1) 0) l (3-o.length)
 |[],o,_=>by unfold Pd FC.makR;simp
 |p::r,o,h=>by
  unfold Pd T3;rcases q0A o.length 3 with h3|h3
  .obtain⟨k,hk⟩:∃k,3-o.length=k+1:=⟨2-o.length,om⟩;rw[hk,yY om,q0N];unfold FC.makR
   cases hp:BG p with
   |false=>simp
   |true=>
    by_cases hf:An x p>An x (o.getD (o.length-1) 0)
    .have ih:=mW x r (o++[p]) (by simp;omega);rw[gD]at ih;rw[yY (show ¬An x p<=An x (o.getD (o.length-1) 0)by omega),yX hf];simp only[q1Y,Bool.or_self,q0F,zo,q0g,zx];rw[ih,zu];have e:3-(o++[p]).length=k:=by rw[yw,List.length_singleton];omega
     rw[e];rfl
    .rw[yX (show An x p<=An x (o.getD (o.length-1) 0)by omega),yY hf];simp
  .have hk:3-o.length=0:=om
   rw[hk,yX h3];unfold FC.makR;simp
theorem YP(x:Int):∀(l o:Ao),o.length<=3->(Pd x o l).length<=3
 |[],o,h=>h
 |p::r,o,h=>by
  unfold Pd;split
  .exact h
  .rename_i hs;refine YP x r _ ?_;unfold T3 at hs;simp only[q0G,yc,not_or]at hs;rw[yw,List.length_singleton];omega
theorem mX(x s:Int)(l:Ao):FC x s l=if BG s&&decide (s≠C9 x)then Pd x [s] l else[]:=by
 unfold FC;split
 .rw[mW x l [s] y9];rfl
 .rfl
theorem mY(x s:Int)(l:Ao):(FC x s l).length<=3:=by
 rw[mX];split
 .exact YP x l [s] y9
 .simp
theorem nL{l:List AL}{AH:AT}(h:kS l){k:Nat}{x:AL}(hx:l[k]? =some x):x.AH<AH↔k<Cc l AH:=by
 obtain⟨h1,h2⟩:=Jf AH l h;constructor
 .intro hlt;rcases q0A k (Cc l AH)with h|h
  .exact h
  .refine absurd hlt (h2 x (q0e.2 ⟨k-Cc l AH,?_⟩));rw[q0Y,show Cc l AH+(k-Cc l AH)=k by omega];exact hx
 .intro hlt;refine h1 x (q0e.2 ⟨k,?_⟩);rw[q0T,zN hlt];exact hx
end Nd
end Go.Proofs.YthlmmkmeoblbhaaGreat
