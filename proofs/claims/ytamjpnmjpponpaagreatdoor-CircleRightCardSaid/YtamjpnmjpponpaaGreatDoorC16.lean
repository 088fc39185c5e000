/- Part 16 of a proof. Conditions: those that its theorems state. -/
import Derived.Test.YtamjpnmjpponpaaGreatDoorC14
import Derived.Test.YtamjpnmjpponpaaGreatDoorC15
set_option linter.unusedSimpArgs false
set_option linter.unusedVariables false
set_option linter.unnecessarySimpa false
set_option maxHeartbeats 40000000
set_option maxRecDepth 4000
namespace Go.Proofs.YtamjpnmjpponpaaGreatDoor
namespace Nd
open Go.Gar
open Wi (AF BV B7 AU Bp)
def JW(a x b:Int):Bool:=Kk a x b||decide (DN x=DN b)
def H9(id k p q:Int):Int:=if Kk id q k&&decide (Ba id q>Ba id p)then q else p
def xh(v:AG):Ai:=FM v::(v.AB++(D6 v.f).filter fun p=>p != -1)
def Eg(v:AG)(k:Int)(BA:Bool):Int×Bool:=
 if Aq v then(if JW v.id k (FM v)then(FM v,true)else if BA then(FM v,false)else((xh v).foldl (H9 v.id k) (FM v),false))else(-1,false)
abbrev Q8:C6:=⟨0,0,0,false,false,0⟩
def JO(l:C6):Bool:=(Bb l.AI&&Bb l.CF&&decide (0<=l.C3)&&decide (l.C3<=41))&&(if l.C3>40 then decide (l.Aa=211)&& !l.CK else decide (l.Aa=0))
def lookO(l:C6):Bool:=l.CK||decide (l.Aa≠0)
def xj(v:AG)(AI:Int):C6:=if Aq v then⟨DN AI,(Eg v (DN AI) false).1,0,false,(Eg v (DN AI) false).2,0⟩else Q8
def Nl(l:C6):C6:=⟨l.AI,l.CF,l.C3+1,l.BA,l.CK,if l.C3+1>40 then 211 else l.Aa⟩
def W7(v:AG)(l:C6)(m:AF):Bool:=decide (m.AN=10)&&(decide (m.B8=l.CF)&&(decide (m.dst=v.id)&&m.right))
def wV(v:AG)(l:C6)(m:AF):Int×Bool:=if m.AP=v.id/\m.done=false then Eg v l.AI l.BA else(m.AP,m.done)
def TU(v:AG)(l:C6)(m:AF):C6:=
 if Aq v&&(JO l&& !lookO l)then(if W7 v l m then(if l.C3+1>40 then Nl l else⟨l.AI,(wV v l m).1,l.C3+1,l.BA,(wV v l m).2,l.Aa⟩)else l)else l
def tE(v:AG)(l:C6):C6:=
 if Aq v&&(JO l&& !lookO l)then(if l.C3+1>40 then Nl l else⟨l.AI,(Eg v l.AI true).1,l.C3+1,true,(Eg v l.AI true).2,l.Aa⟩)else l
def ZD(l:C6):AF:=⟨4,0,0,l.CF,l.AI,l.BA,false,0,0,[],An,0⟩
def dN(l:C6):AF×Bool:=if lookO l|| !JO l then(AU,false)else(ZD l,true)
def nQ(CF:Int)(b:UInt8):Int:=DN (40503*DN CF+(b.toNat:Int)+1)
def Va(s:AL):Int:=s.foldl nQ 7
def Vb(s:AL):Int×Int:=if Bp s then(Va s,0)else(0,2)
def Cc(k:List AS)(AI:AL):Nat:=(k.takeWhile fun x=>decide (x.AI<AI)).length
def hasK(k:List AS)(AI:AL):Bool:=decide (Cc k AI<k.length)&&decide ((k.getD (Cc k AI) An).AI=AI)
def Mo(x y:AS):Bool:=decide (Jn x y>0)
def F3(k:List AS)(x:AS):List AS×Int:=
 if Cg k&&B7 x then
  (if hasK k x.AI then(if Mo x (k.getD (Cc k x.AI) An)then k.set (Cc k x.AI) x else k,0)
   else if k.length>=24 then(k,200)else(k.take (Cc k x.AI)++x::k.drop (Cc k x.AI),0))
 else(k,2)
def Dx(k:List AS)(AI:AL):AS×Int:=if Cg k&&hasK k AI then(k.getD (Cc k AI) An,0)else(An,201)
structure JC where
 job:B9
 BY:List AF
 own:Bool
abbrev Dg(j:B9):B9:=⟨j.AR,5,j.Ap,j.AC,j.Ao,[],j.Aa⟩
abbrev DW(j:B9)(e:Int):B9:=⟨j.AR,j.A5,j.Ap,j.AC,j.Ao,j.left,e⟩
def KT:Ai->Ai
 |[]=>[]
 |[a]=>[a]
 |[a,b]=>a::(if b=a then[]else[b])
 |a::b::c::_=>a::((if b=a then[]else[b])++(if c=a\/c=b then[]else[c]))
def F0(x:AS)(p:Int):AF:=⟨5,0,0,p,0,false,false,0,0,[],x,0⟩
def MJ(id:Int)(j:B9)(Ao:Int)(l:Ai):JC:=
 let ps:=KT (Ao::l);let left:=ps.filter fun p=>p !=id
 ⟨⟨j.AR,if left=[]then 5 else 3,j.Ap,j.AC,j.Ao,left,j.Aa⟩,left.map (F0 j.AC),decide (id∈ps)⟩
def Ki(p:Int):AF:=⟨1,0,0,p,0,false,false,0,0,[],An,0⟩
def ZC(p:Int)(AI:AL):AF:=⟨6,0,0,p,0,false,false,0,0,[],⟨AI,0,0,false⟩,0⟩
def GB(v:AG)(j:B9):JC:=
 if j.Ap.Aa≠0 then⟨Dg (DW j j.Ap.Aa),[],false⟩
 else if j.Ap.CK=false then⟨⟨j.AR,1,j.Ap,j.AC,j.Ao,j.left,j.Aa⟩,if(dN j.Ap).2 then[(dN j.Ap).1]else[],false⟩
 else if j.AR=1 then⟨Dg (DW ⟨j.AR,j.A5,j.Ap,j.AC,j.Ap.CF,j.left,j.Aa⟩ 0),[],false⟩
 else if j.AR=2/\j.Ap.CF=v.id then MJ v.id ⟨j.AR,j.A5,j.Ap,j.AC,j.Ap.CF,j.left,j.Aa⟩ j.Ap.CF v.AB
 else if j.AR=2 then⟨⟨j.AR,2,j.Ap,j.AC,j.Ap.CF,j.left,j.Aa⟩,[Ki j.Ap.CF],false⟩
 else if j.Ap.CF=v.id then⟨Dg (DW ⟨j.AR,j.A5,j.Ap,j.AC,j.Ap.CF,j.left,j.Aa⟩ 0),[],true⟩
 else⟨⟨j.AR,4,j.Ap,j.AC,j.Ap.CF,j.left,j.Aa⟩,[ZC j.Ap.CF j.AC.AI],false⟩
def F9(j:B9)(p e:Int):B9:=
 if p∈j.left then
  ⟨j.AR,if CO j.left p=[]then 5 else j.A5,j.Ap,j.AC,j.Ao,CO j.left p,if e≠0 then e else j.Aa⟩
 else j
abbrev IP:B9:=⟨0,0,Q8,An,0,[],0⟩
def QB(AR AP:Int)(x:AS):Int×AS×Bool:=
 if AR=1 then(AP,An,decide (0<=AP)&&decide (AP<65536))
 else if AR=2 then((Vb x.AI).1,x,decide ((Vb x.AI).2=0)&&B7 x)
 else if AR=3 then((Vb x.AI).1,⟨x.AI,0,0,false⟩,decide ((Vb x.AI).2=0))
 else(0,An,false)
def Ei(v:AG)(AR AP:Int)(x:AS):JC:=
 if(QB AR AP x).2.2&&Aq v then GB v ⟨AR,0,xj v (QB AR AP x).1,(QB AR AP x).2.1,0,[],0⟩
 else⟨⟨AR,5,Q8,An,0,[],2⟩,[],false⟩
def CH(v:AG)(j:B9)(m:AF):JC:=
 if Aq v&&(m.right&&decide (m.dst=v.id))then
  (if j.A5=1 then(if m.AN=10/\m.B8=j.Ap.CF then GB v ⟨j.AR,j.A5,TU v j.Ap m,j.AC,j.Ao,j.left,j.Aa⟩else⟨j,[],false⟩)
   else if j.A5=2 then(if m.AN=7/\m.B8=j.Ao then MJ v.id j j.Ao m.AB else⟨j,[],false⟩)
   else if j.A5=3 then(if m.AN=11 then⟨F9 j m.B8 m.Aa,[],false⟩else⟨j,[],false⟩)
   else if j.A5=4 then(if m.AN=12/\m.B8=j.Ao then⟨Dg (DW ⟨j.AR,j.A5,j.Ap,if m.Aa=0 then m.AC else j.AC,j.Ao,j.left,j.Aa⟩ m.Aa),[],false⟩else⟨j,[],false⟩)
   else⟨j,[],false⟩)
 else⟨j,[],false⟩
def CE(v:AG)(j:B9)(d:Int):JC:=
 if Aq v then
  (if j.A5=1 then(if j.Ap.CF=d then GB v ⟨j.AR,j.A5,tE v j.Ap,j.AC,j.Ao,j.left,j.Aa⟩else⟨j,[],false⟩)
   else if j.A5=2\/j.A5=4 then(if j.Ao=d then⟨Dg (DW j 210),[],false⟩else⟨j,[],false⟩)
   else if j.A5=3 then⟨F9 j d 210,[],false⟩
   else⟨j,[],false⟩)
 else⟨j,[],false⟩
def K1(x s:Int)(l:Ai):Ai:=
 if Bb s&&decide (s≠DN x)then s::makR x s l 2 else[]
where makR (x CF:Int):Ai->Nat->Ai
 |[],_=>[]
 |_::_,0=>[]
 |p::r,n+1=>if Bb p&&decide (Ba x p>Ba x CF)then p::makR x p r n else[]
structure SC where
 A7:AG
 A5:Int
 BH:Int
def G9(A5 BH:Int):List (AF×Int):=
 if A5=1\/A5=2 then[(Ki BH,A5)]else if A5=3 then[(⟨3,0,0,BH,0,false,false,0,0,[],An,0⟩,3)]else[]
def ZR(v:AG)(A5 BH:Int)(m:AF):Bool:=
 decide (A5≠0)&&(decide (m.AN=(if A5=3 then 9 else 7))&&(decide (m.B8=BH)&&(decide (m.dst=v.id)&&m.right)))
def Dm(v:AG)(A5 BH:Int)(m:AF):SC×List (AF×Int):=
 if Aq v&&(Cl A5 BH&&ZR v A5 BH m)then
  (if A5=3 then(⟨v,0,0⟩,[])
   else
    let w:=EW v (K1 v.id m.B8 m.AB)
    if A5=1/\m.AH≠ -1/\Kk v.id m.AH m.B8=true then(⟨w,2,m.AH⟩,G9 2 m.AH)
    else(⟨w,3,FM w⟩,G9 3 (FM w)))
 else(⟨v,A5,BH⟩,[])
def F6(v:AG)(A5 BH d:Int):SC:=
 if Aq v&&Cl A5 BH then(if A5≠0/\BH=d then⟨Bu v d,0,0⟩else⟨Bu v d,A5,BH⟩)else⟨v,A5,BH⟩
def Vz(f:Nat->Int)(i:Nat)(p:Int):Nat->Int:=fun k=>if k=i then p else f k
def NX(v:AG)(i Ao:Int):AG×Int:=
 if(decide (0<=i)&&(decide (i<16)&&Aq v))&&Bb Ao then(⟨v.id,v.A6,v.AB,v.AH,Vz v.f i.toNat (if Ao=v.id then -1 else Ao)⟩,0)else(v,2)
def tQ(n:AA)(Bd:Int):Option B9:=if Bd=5 then some n.AQ else if Bd=6 then some n.AX else if Bd=7 then some n.AW else none
def QL(n:AA)(Bd:Int)(j:B9):AA:=
 if Bd=5 then{n with AQ:=j}else if Bd=6 then{n with AX:=j}else{n with AW:=j}
def EK(k:List AS)(j:B9):List AS×B9:=
 if j.AR=2 then((F3 k j.AC).1,if(F3 k j.AC).2≠0 then DW j (F3 k j.AC).2 else j)
 else if j.AR=3 then(k,if(Dx k j.AC.AI).2=0 then⟨j.AR,j.A5,j.Ap,(Dx k j.AC.AI).1,j.Ao,j.left,0⟩else DW j (Dx k j.AC.AI).2)
 else(k,j)
def I0(n:AA):AA:=
 {n with
  A7:=if n.AQ.Aa=0 then(NX n.A7 n.next n.AQ.Ao).1 else n.A7
  next:=(n.next+1).tmod 16}
def B5(n:AA)(Bd:Int)(ended:Bool)(c:JC):AA×List (AF×Int):=
 let s:=if c.own then EK n.keep c.job else(n.keep,c.job)
 let n1:=QL {n with keep:=s.1} Bd s.2
 (if Bd=5/\ended=false/\s.2.A5=5 then I0 n1 else n1,c.BY.map fun m=>(m,Bd))
def Bq(n:AA)(Bd AR AP:Int)(x:AS):AA×List (AF×Int):=
 if(decide (5<=Bd)&&decide (Bd<=7))&&BL n then B5 n Bd false (Ei n.A7 AR AP x)else(n,[])
def Gr(n:AA)(Bd:Int):B9:=(tQ n Bd).getD IP
def D4(n:AA)(c:Al)(m:AF):AA×List (AF×Int):=
 if BL n then
  (if 1<=c.Bd/\c.Bd<=3 then
   let r:=Dm n.A7 n.A5 n.BH m
   ({n with A7:=r.1.A7,A5:=r.1.A5,BH:=r.1.BH},r.2)
   else if 5<=c.Bd/\c.Bd<=7 then B5 n c.Bd (decide ((Gr n c.Bd).A5=5)) (CH n.A7 (Gr n c.Bd) m)
   else(n,[]))
 else(n,[])
def Dz(n:AA)(c:Al):AA×List (AF×Int):=
 if BL n then
  let n1:={n with A7:=Bu n.A7 c.BD.dst}
  (if 1<=c.Bd/\c.Bd<=3 then
   let r:=F6 n1.A7 n.A5 n.BH c.BD.dst
   ({n1 with A7:=r.A7,A5:=r.A5,BH:=r.BH},[])
   else if 5<=c.Bd/\c.Bd<=7 then B5 n1 c.Bd (decide ((Gr n c.Bd).A5=5)) (CE n1.A7 (Gr n c.Bd) c.BD.dst)
   else(n1,[]))
 else(n,[])
def GA(n:AA)(Bd:Int):AA:=
 if BL n then
  (if 1<=Bd/\Bd<=3 then{n with A5:=0,BH:=0}
   else if(5<=Bd/\Bd<=7)/\(Gr n Bd).A5≠5 then(B5 n Bd false ⟨Dg (DW (Gr n Bd) 100),[],false⟩).1
   else n)
 else n
theorem SJ{a b c:AL}(h:a<b)(k:b<c):a<c:=List.lt_trans h k
theorem aJ(a b:AL):a<b\/a=b\/b<a:=by
 by_cases h:a<b
 .exact .inl h
 by_cases h2:b<a
 .exact .inr (.inr h2)
 exact .inr (.inl (List.le_antisymm (List.not_lt.1 h2) (List.not_lt.1 h)))
abbrev kS(l:List AS):Prop:=l.Pairwise fun x y=>x.AI<y.AI
theorem mh:∀(l:List AS),(∀k,k<l.length->k=0\/(l.getD (k-1) An).AI<(l.getD k An).AI)->kS l
 |[],_=>List.Pairwise.nil
 |[a],_=>by simp[kS]
 |a::b::r,h=>by
  have ih:=mh (b::r) (fun k hk=>by
   rcases q1F k with e|e
   .exact .inl e
   .have:=h (k+1) (by simpa using hk);obtain⟨j,rfl⟩:∃j,k=j+1:=⟨k-1,om⟩
    simpa using this)
  have hab:a.AI<b.AI:=by
   have:=h 1 sm;simpa using this
  refine q1O.2 ⟨fun x hx=> ?_,ih⟩;rcases q0O.1 hx with rfl|hx
  .exact hab
  .exact SJ hab ((q1O.1 ih).1 x hx)
variable {l:List AS}
theorem DJ:Cg l=true↔l.length<=24/\(∀x∈l,B7 x=true)/\kS l:=by
 unfold Cg;rw[zO,zW,Hp];constructor
 .rintro⟨h1,h2⟩;refine⟨h1,fun x hx=> ?_,mh l fun k hk=> ?_⟩
  .obtain⟨k,hk,rfl⟩:=List.getElem_of_mem hx;have:=h2 k hk;unfold Fu at this;rw[zO,getD_at (zV hk)]at this;exact this.1
  .have:=h2 k hk;unfold Fu at this;rw[zO,zW]at this;exact this.2
 .rintro⟨h1,h2,h3⟩;refine⟨h1,fun k hk=> ?_⟩;unfold Fu;rw[zO,zW,getD_at (zV hk)];refine⟨h2 _ (q0q hk),?_⟩;rcases q1F k with e|e
  .exact .inl e
  .right;rw[getD_at (zV (show k-1<l.length by omega))];exact q0a.1 h3 (k-1) k om hk om
theorem Lc(AI:AL):∀(l:List AS),kS l->(∀x∈l.take (Cc l AI),x.AI<AI)/\(∀x∈l.drop (Cc l AI),¬x.AI<AI)
 |[],_=>by simp[Cc]
 |a::r,h=>by
  obtain⟨h1,h2⟩:=q1O.1 h
  by_cases e:a.AI<AI
  .have hp:Cc (a::r) AI=Cc r AI+1:=by unfold Cc;rw[List.takeWhile_cons_of_pos (by simpa using e)];rfl
   obtain⟨i1,i2⟩:=Lc AI r h2;rw[hp];refine⟨fun x hx=> ?_,fun x hx=>i2 x (by simpa using hx)⟩;rw[List.take_succ_cons]at hx;rcases q0O.1 hx with rfl|hx
   .exact e
   .exact i1 x hx
  .have hp:Cc (a::r) AI=0:=by unfold Cc;rw[List.takeWhile_cons_of_neg (by simpa using e)];rfl
   rw[hp];refine⟨fun x hx=>by simp at hx,fun x hx=> ?_⟩;rw[List.drop_zero]at hx;rcases q0O.1 hx with rfl|hx
   .exact e
   .exact fun hlt=>e (SJ (h1 x hx) hlt)
theorem Sz(l:List AS)(AI:AL):Cc l AI<=l.length:=by
 unfold Cc;exact(List.takeWhile_sublist _).length_le
variable {AI:AL}
theorem XU(h:kS l):hasK l AI=true↔∃x∈l,x.AI=AI:=by
 unfold hasK;rw[zO,zW,zW];constructor
 .rintro⟨h1,h2⟩;rw[getD_at (zV h1)]at h2;exact⟨_,q0q h1,h2⟩
 .rintro⟨x,hx,rfl⟩;obtain⟨i1,i2⟩:=Lc x.AI l h
  have hx':x∈l.drop (Cc l x.AI):=by
   rw[<-q0d (Cc l x.AI) l,q0W]at hx;rcases hx with hx|hx
   .exact absurd (i1 x hx) (List.lt_irrefl _)
   .exact hx
  have hlt:Cc l x.AI<l.length:=by
   rcases q0C (Cc l x.AI) l.length with h|h
   .exact h
   .rw[List.drop_eq_nil_of_le h]at hx';cases hx'
  refine⟨hlt,?_⟩;rw[getD_at (zV hlt)];rw[q14 hlt]at hx';have hd:=(h.sublist (List.drop_sublist (Cc l x.AI) l));rw[q14 hlt]at hd;rcases q0O.1 hx' with e|hm
  .rw[<-e]
  .have h1:=(q1O.1 hd).1 x hm;exact absurd h1 (i2 _ (by rw[q14 hlt];exact q0J ..))
theorem Jw(h:hasK l AI=true):∃x,l[Cc l AI]? =some x/\x.AI=AI/\l.getD (Cc l AI) An=x:=by
 unfold hasK at h;rw[zO,zW,zW]at h;have e:=zV h.1;rw[getD_at e]at h;exact⟨_,e,h.2,getD_at e⟩
theorem mj:kS l↔(l.map AS.AI).Pairwise (·<·):=by rw[List.pairwise_map]
variable {x y:AS}
theorem oO{i:Nat}(hy:l[i]? =some y)(h:x.AI=y.AI):(l.set i x).map AS.AI=l.map AS.AI:=by
 rw[List.map_set,h];apply List.ext_getElem?;intro j;rw[q1X];split
 .rename_i e;subst e;rw[q0G,hy,q08];have:=(zS.1 hy).1;simp[this]
 .rfl
theorem T2(h:Cg l=true):Cg (F3 l x).1=true:=by
 unfold F3;split
 .rename_i hc;rw[zO]at hc;obtain⟨h1,h2,h3⟩:=DJ.1 h;split
  .rename_i hk;split
   .obtain⟨y,hy,hyk,_⟩:=Jw hk;refine DJ.2 ⟨by simpa using h1,fun z hz=> ?_,?_⟩
    .rcases List.mem_or_eq_of_mem_set hz with hz|rfl
     .exact h2 z hz
     .exact hc.2
    .rw[mj,oO hy hyk.symm,<-mj];exact h3
   .exact h
  .rename_i hk;split
   .exact h
   .rename_i hl;obtain⟨i1,i2⟩:=Lc x.AI l h3;have hn:∀z∈l,z.AI≠x.AI:=fun z hz e=>hk ((XU h3).2 ⟨z,hz,e⟩)
    refine DJ.2 ⟨?_,fun z hz=> ?_,?_⟩
    .have:=Sz l x.AI;simp only[q04,q02,q0D,q1H];omega
    .rw[q0W,q0O]at hz;rcases hz with hz|rfl|hz
     .exact h2 z (List.mem_of_mem_take hz)
     .exact hc.2
     .exact h2 z (List.mem_of_mem_drop hz)
    .have hd:∀z∈l.drop (Cc l x.AI),x.AI<z.AI:=fun z hz=>by
      rcases aJ x.AI z.AI with e|e|e
      .exact e
      .exact absurd e.symm (hn z (List.mem_of_mem_drop hz))
      .exact absurd e (i2 z hz)
     refine List.pairwise_append.2 ⟨h3.sublist (List.take_sublist _ _),q1O.2 ⟨hd,h3.sublist (List.drop_sublist _ _)⟩,fun a ha b hb=> ?_⟩;rcases q0O.1 hb with rfl|hb
     .exact i1 a ha
     .exact SJ (i1 a ha) (hd b hb)
 .exact h
theorem Si(h:Mo x y=true):Mo y x=false:=by
 unfold Mo at *;rw[zW]at h;rw[q0c];obtain⟨k,v,n,g⟩:=x;obtain⟨k',v',n',g'⟩:=y;unfold Jn at*
 revert h
 simp only;intro h
 repeat' split at h
 all_goals(try omega)
 all_goals(repeat' split)
 all_goals(try omega)
 all_goals simp_all
theorem Gu(x:AS):Mo x x=false:=by
 cases h:Mo x x with
 |false=>rfl
 |true=>rw[Si h]at h;cases h
theorem YM(h:Cg l=true)(hy:y∈l):(Dx (F3 l x).1 y.AI).2=0/\Mo y (Dx (F3 l x).1 y.AI).1=false:=by
 have hr:=T2 (x:=x) h;obtain⟨r1,r2,r3⟩:=DJ.1 hr
 have AI:∃z∈(F3 l x).1,z.AI=y.AI/\Mo y z=false:=by
  obtain⟨h1,h2,h3⟩:=DJ.1 h;unfold F3;split
  .split
   .rename_i hk;split
    .rename_i hnew;obtain⟨w,hw,hwk,hwg⟩:=Jw hk
     by_cases e:y.AI=x.AI
     .refine⟨x,q0w.2 ⟨Cc l x.AI,by rw[q0H (zS.1 hw).1]⟩,e.symm,?_⟩
      have:y=w:=by
       obtain⟨i,hi,rfl⟩:=List.getElem_of_mem hy;obtain⟨hj,rfl⟩:=zS.1 hw;rcases Nat.lt_trichotomy i (Cc l x.AI)with hlt|he|hlt
       .have:=q0a.1 h3 i _ hi hj hlt;rw[e,hwk]at this;exact absurd this (List.lt_irrefl _)
       .subst he;rfl
       .have:=q0a.1 h3 _ i hj hi hlt;rw[e,hwk]at this;exact absurd this (List.lt_irrefl _)
      rw[this];rw[hwg]at hnew;exact Si hnew
     .refine⟨y,?_,rfl,Gu y⟩;obtain⟨i,hi,rfl⟩:=List.getElem_of_mem hy;refine q0w.2 ⟨i,?_⟩;rw[q1X]
      have hne:Cc l x.AI≠i:=by
       rintro rfl;rw[zV hi]at hw;cases hw;exact e hwk
      rw[zx hne];exact zV hi
    .exact⟨y,hy,rfl,Gu y⟩
   .split
    .exact⟨y,hy,rfl,Gu y⟩
    .refine⟨y,?_,rfl,Gu y⟩;have:y∈l.take (Cc l x.AI)++l.drop (Cc l x.AI):=by rw[q0d];exact hy
     rw[q0W]at this;rw[q0W,q0O];rcases this with h|h
     .exact .inl h
     .exact .inr (.inr h)
  .exact⟨y,hy,rfl,Gu y⟩
 obtain⟨z,hz,hzk,hnew⟩:=AI;have hk:hasK (F3 l x).1 y.AI=true:=(XU r3).2 ⟨z,hz,hzk⟩;obtain⟨w,hw,hwk,hwg⟩:=Jw hk
 have hzw:z=w:=by
  obtain⟨i,hi,rfl⟩:=List.getElem_of_mem hz;obtain⟨hj,rfl⟩:=zS.1 hw;rcases Nat.lt_trichotomy i (Cc (F3 l x).1 y.AI)with hlt|he|hlt
  .have:=q0a.1 r3 i _ hi hj hlt;rw[hzk,hwk]at this;exact absurd this (List.lt_irrefl _)
  .subst he;rfl
  .have:=q0a.1 r3 _ i hj hi hlt;rw[hzk,hwk]at this;exact absurd this (List.lt_irrefl _)
 unfold Dx;rw[hr,hk,hwg];exact⟨rfl,by rw[<-hzw];exact hnew⟩
theorem Hz(h:Cg l=true)(hy:y∈l):(Dx l y.AI).2=0/\Mo y (Dx l y.AI).1=false:=by
 have:=YM (x:=⟨[],0,0,false⟩) h hy
 have e:(F3 l ⟨[],0,0,false⟩).1=l:=by
  unfold F3;rw[show B7 ⟨[],0,0,false⟩=false from rfl,q0v];rfl
 rwa [e]at this
abbrev WB:BF:=[0,1,4,5,6,11,12,13,16,19]
abbrev Ip:BF:=[0,1,3,4,5,6,7,8,9,15,28]
def QF(a b:AL):Int:=if a<b then -1 else if b<a then 1 else 0
theorem UB(s:AL):yS 380 [.s s] (.b false):=by
 have e:(s !=s)=false:=by simp
 refine zF AE Tryz.func380 ?_;refine Aj [0,2] ?_ (AK e);exact zE
theorem WO(a b:AL):yS 341 [.s a,.s b] (.yX (QF a b)):=by
 have c1:=UB a;have c2:=UB b;have hT:QF a b=if a<b then -1 else if b<a then 1 else 0:=rfl
 refine zF AE Tryz.func341 ?_
 by_cases h1:a<b
 .have f1:Op.bytesLess a b=true:=by rw[bytesLess_eq];exact zU h1
  rw[hT,zn h1];refine AJ WB ?_ (AK f1) (Au @c1 @c2);exact zE
 .have f1:Op.bytesLess a b=false:=by rw[bytesLess_eq];exact zQ h1
  by_cases h2:b<a
  .have f2:(a==b)=false:=by
    rw[beq_eq_false_iff_ne];rintro rfl;exact List.lt_irrefl _ h2
   rw[hT,zx h1,zn h2];refine AJ WB ?_ (Au f1 f2) (Au @c1 @c2);exact zE
  .have f2:(a==b)=true:=by
    rw[beq_iff_eq];rcases aJ a b with h|h|h
    .exact absurd h h1
    .exact h
    .exact absurd h h2
   rw[hT,zx h1,zx h2];refine AJ WB ?_ (Au f1 f2) (Au @c1 @c2);exact zE
theorem Vr(x:AS)(AI:AL):yT 340 [.d x.d,.ptr 0 0 1] [.c [.yU AI]] (.yO (QF x.AI AI)) [.c [.yU AI]]:=by
 have c1:=WO x.AI AI;refine zD AE Tryz.func340 ?_;generalize QF x.AI AI=q at *;unfold AS.d AS.A4;refine AO [0,1,2,3] ?_ (AK @c1);exact wE
theorem aj(h:kS l){k:Nat}(hx:l[k]? =some x):x.AI<AI↔k<Cc l AI:=by
 obtain⟨h1,h2⟩:=Lc AI l h;constructor
 .intro hlt;rcases q0C k (Cc l AI)with h|h
  .exact h
  .refine absurd hlt (h2 x (q0w.2 ⟨k-Cc l AI,?_⟩));rw[q0i,show Cc l AI+(k-Cc l AI)=k by omega];exact hx
 .intro hlt;refine h1 x (q0w.2 ⟨k,?_⟩);rw[q0Y,zn hlt];exact hx
def du(l:List AS)(AI:AL)(x:Nat×Nat):St:=⟨[(0,.d (BU l)),(6,.fn (.func 340) [] [.ptr 0 0 1]),(7,.yO x.1),(8,.yO x.2)],[.c [.yU AI]],46⟩
theorem ai(l:List AS)(AI:AL)(h:kS l)(hn:l.length<=1048576):yS 286 [BU l,.s AI] (.tup [.yX (Cc l AI),.b (hasK l AI)]):=by
 have hle:=Sz l AI;refine zF AE Tryz.func286 ?_;refine A9 Ip ?_ [] [] false;refine Wa 0 _ (fun x:Nat×Nat=>x.1<=Cc l AI/\Cc l AI<=x.2/\x.2<=l.length) (du l AI) (fun x=>x.2-x.1) (l.length+1) 0 0 rfl ?_ ?_
 .by_cases h0:0<l.length
  .have f1:decide ((0:Int)<(l.length:Int))=true:=zU om;have e1:((l.length:Int)-0).tdiv 2=((l.length/2:Nat):Int):=by rw[Int.tdiv_eq_ediv_of_nonneg om];omega
   have e2:(0:Int)+((l.length/2:Nat):Int)=((l.length/2:Nat):Int):=om
   generalize hmm:l.length/2=m at *;obtain⟨x,hx⟩:=Ah (xs:=l) (k:=m) om;have hlt:=aj (AI:=AI) h hx;have c1:=Vr x AI;unfold AS.d AS.A4 at c1
   by_cases hk:x.AI<AI
   .have hc:QF x.AI AI= -1:=zn hk;rw[hc]at c1;have hk':=hlt.1 hk;have ix1:=hx;refine Cd Ip ?_ (CP f1 e1 e2) (BJ [0] c1) [] [] false;clear ix1;refine⟨(m+1,l.length),⟨hk',hle,zN _⟩,(show l.length-(m+1)<l.length+1 by omega),zN _,?_⟩;unfold du;exact A8.ck rfl
   .have hc:decide (QF x.AI AI<0)=false:=zQ (by unfold QF;rw[zx hk];split<;>omega);have hk':¬m<Cc l AI:=fun hh=>hk (hlt.2 hh)
    have ix1:=hx;refine Cd Ip ?_ (ME f1 e1 e2 hc) (BJ [0] c1) [] [] false;clear ix1;refine⟨(0,m),⟨zi _,Nat.le_of_not_lt hk',(show m<=l.length by omega)⟩,(show m-0<l.length+1 by omega),zN _,?_⟩;unfold du;exact A8.ck rfl
  .have e:l=[]:=q18.1 om;subst e;refine A9 Ip ?_ [] [] false;exact BW (zh @Cc.eq_1 @hasK.eq_1)
 rintro⟨a,b⟩ ⟨h1,h2,h3⟩;dsimp only at h1 h2 h3;unfold du
 by_cases hab:a<b
 .have f1:decide ((a:Int)<(b:Int))=true:=zU om;have e1:((b:Int)-(a:Int)).tdiv 2=(((b-a)/2:Nat):Int):=by rw[Int.tdiv_eq_ediv_of_nonneg om];omega
  have e2:(a:Int)+(((b-a)/2:Nat):Int)=((a+(b-a)/2:Nat):Int):=om
  have hm:a+(b-a)/2<b:=om
  have hm2:a<=a+(b-a)/2:=om
  generalize hmm:a+(b-a)/2=m at *;obtain⟨x,hx⟩:=Ah (xs:=l) (k:=m) om;have hlt:=aj (AI:=AI) h hx;have c1:=Vr x AI;unfold AS.d AS.A4 at c1
  by_cases hk:x.AI<AI
  .have hc:QF x.AI AI= -1:=zn hk;rw[hc]at c1;have hk':=hlt.1 hk;have ix1:=hx;refine Cd Ip ?_ (CP f1 e1 e2) (BJ [0] c1) [] [] false;clear ix1;refine⟨(m+1,b),⟨hk',h2,h3⟩,(show b-(m+1)<b-a by omega),zN _,?_⟩;exact A8.ck rfl
  .have hc:decide (QF x.AI AI<0)=false:=zQ (by unfold QF;rw[zx hk];split<;>omega);have hk':¬m<Cc l AI:=fun hh=>hk (hlt.2 hh)
   have ix1:=hx;refine Cd Ip ?_ (ME f1 e1 e2 hc) (BJ [0] c1) [] [] false;clear ix1;refine⟨(a,m),⟨h1,Nat.le_of_not_lt hk',om⟩,(show m-a<b-a by omega),zN _,?_⟩;exact A8.ck rfl
 .have f1:decide ((a:Int)<(b:Int))=false:=zQ om;have ha:a=Cc l AI:=om
  by_cases hl:a<l.length
  .have f2:decide ((a:Int)<(l.length:Int))=true:=zU om;obtain⟨x,hx⟩:=Ah (xs:=l) (k:=a) hl;have c1:=Vr x AI;unfold AS.d AS.A4 at c1;have gx:l.getD a An=x:=getD_at hx;have hlt:¬x.AI<AI:=fun hh=>by have:=(aj (AI:=AI) h hx).1 hh;omega
   have hT:hasK l AI=(QF x.AI AI==0):=by
    unfold hasK;rw[<-ha,gx,zU hl,q0A,Dp];unfold QF;rw[zx hlt]
    by_cases e:x.AI=AI
    .rw[zx (by rw[e];exact List.lt_irrefl _)];simp[e]
    .rcases aJ x.AI AI with h|h|h
     .exact absurd h hlt
     .exact absurd h e
     .rw[zn h];simp[e]
   rw[hT,<-ha];have ix1:=hx;refine Cd Ip ?_ (Au f1 f2) (BJ [0] c1) [] [] false;clear ix1;exact zE
  .have f2:decide ((a:Int)<(l.length:Int))=false:=zQ om
   have hT:hasK l AI=false:=by
    unfold hasK;rw[<-ha,zQ hl];rfl
   rw[hT,<-ha];refine Aj Ip ?_ (Au f1 f2) [] [] false;exact zE
theorem dI(l:List AS)(AI:AL)(hn:l.length<=1048576):yS 303 [BU l,.s AI] (.tup [(Dx l AI).1.d,.yX (Dx l AI).2]):=by
 have c1:=Qh l om;refine zF AE Tryz.func303 ?_;have hT:Dx l AI=if Cg l&&hasK l AI then(l.getD (Cc l AI) An,0)else(An,201):=rfl
 cases h:Cg l with
 |false=>
  rw[h]at c1 hT;rw[hT];refine AO [0,1,4,5,6,7,10,19] ?_ (AK @c1);exact BW (zh @AS.d.eq_1 (zh @AS.A4.eq_1 @An.eq_1))
 |true=>
  have c2:=ai l AI (DJ.1 h).2.2 hn;rw[h]at c1 hT
  cases hh:hasK l AI with
  |false=>
   rw[hh]at c2 hT;rw[hT];refine AO [0,1,4,5,6,7,10,19] ?_ (Au @c1 @c2);exact BW (zh @AS.d.eq_1 (zh @AS.A4.eq_1 @An.eq_1))
  |true=>
   obtain⟨x,hx,hxk,hxg⟩:=Jw hh;rw[hh]at c2 hT;rw[hxg]at hT;rw[hT];generalize Cc l AI=m at *;have ix1:=hx;refine AO [0,1,4,5,6,7,10,19] ?_ (Au @c1 @c2);clear ix1;exact BW (zh @AS.d.eq_1 @AS.A4.eq_1)
abbrev OR:BF:=[0,2,3,5,8,13,14,15]
abbrev WE:BF:=[0,1,3,4,5,6,7,8,16]
abbrev KH:BF:=[0,1,3,4,5,6,7,8,9,17,27,35,43]
theorem Xd(l:List AS)(h0:0<l.length)(hn:l.length<=1048576):yT 62 [.d (BU l)] [] (.sl 0 l.length 4) [.a (BU l)]:=by
 have c1:=Xe l;have f1:=eq_false' (show(l.length:Int)≠0 by omega);refine zD AE Tryz.func62 ?_;have k1:No 11:=trivial;have k2:Dd ((BU [])):=trivial;refine Cd OR ?_ (AK f1) (BJ [] c1);clear k2 k1;refine zG (K:=fun r _ H'=>H'=[.a (BU l),.c [.sl 0 l.length 4],.c [.d (BU l)],.lp r]) ?_ ?_
 .intro r hr;have hk:=hr.ok (k:=3) rfl
  have hY:∀(k:Nat)(x:AS)(o:List AS),o.length<=1048576->YT Tryz.prog 3 [.yO k,.d (.agg [.s x.AI,.yX x.B4,.yX x.AZ,.b x.gone])] [.a (BU o),.c [.sl 0 o.length 4],.c [.d (BU l)],.lp r,.c [.yU x.AI,.yO x.B4,.yO x.AZ,.yP x.gone]] fun v K=>v= .yP true/\K=[.a (BU (o++[x])),.c [.sl 0 (o++[x]).length 4],.c [.d (BU l)],.lp r,.c [.yU x.AI,.yO x.B4,.yO x.AZ,.yP x.gone]]:=by
   intro k x o ho;refine Ar hr rfl rfl rfl ?_;refine A9 OR ?_;refine zR ?_;refine A9 OR ?_;refine⟨⟨[],[.a (BU (o++[x])),.c [.sl 0 (o++[x]).length 4],.c [.d (BU l)],.lp r.busy,.c [.yU x.AI,.yO x.B4,.yO x.AZ,.yP x.gone]],_⟩,(have nC:=zh @BU.eq_1 @AS.A4.eq_1;A8.cn rfl),zN _,rfl,rfl,rfl⟩
  refine zT AE Tryz.func193 ?_;refine A9 WE ?_;refine CM (fun j:Nat=>j<=l.length) (fun j:Nat=>[(7,.yO j)]) (fun j=>[(0,.a (BU (l.take j))),(1,.c [.sl 0 (l.take j).length 4])]) (fun j=>l.length-j) 0 (zi _) (fun _=>rfl) (fun _=>rfl) ?_ ?_
  .exact A8.ck rfl
  intro j hj
  by_cases hjl:j<l.length
  .obtain⟨x,hx⟩:=Ah hjl;have hy:=hY j x (l.take j) (by rw[q0D];omega);have hn:=AY hx;rw[<-hn]at hy;have ix1:=hx;have q1:=@hy;refine A9 WE ?_;clear q1 ix1;with_reducible repeat' first|constructor|intro hc
   refine⟨j+1,hjl,om,zN _,?_⟩;exact A8.ck rfl
  .have e:j=l.length:=om
   subst e;rw[q06];refine A9 WE ?_;with_reducible repeat' first|constructor|intro hc
   exact⟨_,A8.refl _,zN _,_,_,rfl,rfl,rfl⟩
 .rintro r hr x H' rfl;refine .inl ⟨rfl,?_⟩;refine A9 OR ?_;exact wE
theorem dJ(l:List AS)(hn:l.length<=1048576):yS 62 [BU l] (BU l):=by
 by_cases h0:0<l.length
 .refine Ff (ds:=[BU l]) (Xd l h0 hn) ?_;simp[Dv,BP]
 .have e:l=[]:=q18.1 om;subst e;refine zF AE Tryz.func62 ?_;refine A9 OR ?_;exact zE
theorem t7:∀(l:List AS)(m:Nat),((l.map AS.A4).flatten).drop (m*4)=((l.drop m).map AS.A4).flatten
 |[],m=>by simp
 |a::l,0=>rfl
 |a::l,m+1=>by
  rw[List.map_cons,q0M,q1B,Nat.one_mul,Nat.add_comm,<-List.drop_drop];show List.drop (m*4) (List.drop 4 ([_,_,_,_]++_))=_;exact t7 l m
theorem oQ{m:Nat}(hy:l[m]? =some y):((slc (BU l)).drop (m*4+0)).take 4=y.A4:=by
 show(((l.map AS.A4).flatten).drop (m*4+0)).take 4=_;have h:=(zS.1 hy).1;rw[q1R,t7,q14 h,List.map_cons,q0M];have:l[m]=y:=(zS.1 hy).2;rw[this];rfl
theorem TD(x:AS):∀(m:Nat)(l:List AS),m<l.length->setRows 0 x.A4 m (l.map AS.A4)=(l.set m x).map AS.A4
 |_,[],h=>by simp at h
 |0,a::l,_=>rfl
 |m+1,a::l,h=>by
  show a.A4::setRows 0 x.A4 m (l.map AS.A4)=_;rw[TD x m l (by simpa using h)];rfl
theorem dK(l:List AS)(x:AS)(hn:l.length<=1048576):yS 301 [BU l,x.d] (.tup [BU (F3 l x).1,.yX (F3 l x).2]):=by
 have c1:=Qh l om;have c2:=Wi.LO x;have c3:=dJ l hn
 have hT:F3 l x=if Cg l&&B7 x then
  (if hasK l x.AI then(if Mo x (l.getD (Cc l x.AI) An)then l.set (Cc l x.AI) x else l,0)
   else if l.length>=24 then(l,200)else(l.take (Cc l x.AI)++x::l.drop (Cc l x.AI),0))else(l,2):=rfl
 refine zF AE Tryz.func301 ?_;generalize B7 x=b2 at*
 cases h:Cg l with
 |false=>
  rw[h]at c1 hT;rw[hT];refine AO KH ?_ (Au @c1 @c3);exact zE
 |true=>
 have c4:=ai l x.AI (DJ.1 h).2.2 hn;rw[h]at c1 hT
 cases b2 with
 |false=>
  rw[hT];refine AO KH ?_ (CP @c1 @c2 @c3);exact zE
 |true=>
 rw[q0A,zn rfl]at hT;have hle:=Sz l x.AI
 cases hh:hasK l x.AI with
 |true=>
  obtain⟨y,hy,hyk,hyg⟩:=Jw hh;rw[hh,zn rfl,hyg]at hT;rw[hh]at c4;have hlt:=(zS.1 hy).1;have c5:=Xd l om hn;have c6:=jR x y;have hsl:=oQ hy;have hst:setRows 0 [.s x.AI,.yX x.B4,.yX x.AZ,.b x.gone] (Cc l x.AI) (l.map AS.A4)=(l.set (Cc l x.AI) x).map AS.A4:=TD x _ l hlt;rw[hT];unfold Mo;generalize Cc l x.AI=m at *;unfold AS.d at c6;rw[<-hsl]at c6;unfold AS.A4 at c6
  cases hnw:decide (Jn x y>0)with
  |false=>
   rw[hnw]at c6;refine B6 KH ?_ (ME @c1 @c2 @c4 @c6) (BJ [] c5);exact zE
  |true=>
   rw[hnw]at c6;refine B6 KH ?_ (ME @c1 @c2 @c4 @c6) (BJ [] c5) [] [7];refine Aj KH ?_ (AK hst);exact BW hst
 |false=>
 rw[hh,zx (by decide)]at hT;rw[hh]at c4
 by_cases h24:l.length>=24
 .have f1:decide ((l.length:Int)>=24)=true:=zU om;rw[zn h24]at hT;rw[hT];refine AJ KH ?_ (AK f1) (ME @c1 @c2 @c3 @c4);exact zE
 .have f1:decide ((l.length:Int)>=24)=false:=zQ om;rw[zx h24]at hT;rw[hT];generalize Cc l x.AI=m at *;have k1:No 49:=trivial;have k2:Dd ((BU [])):=trivial;refine AJ KH ?_ (AK f1) (ME @c1 @c2 @c3 @c4);clear k2 k1;refine⟨_,_,rfl,rfl,?_⟩;simp[LL,BP,Bl,BM,List.map_take,List.map_drop,AS.A4]
abbrev HT:BF:=[0,1,2,3,6,7,8,9,12,19,21,28,29,33]
abbrev Ll:BF:=[0,1,4,6,11,13,14,15,16,22,25,26,27,36]
theorem bX(a x b:Int):yS 339 [.yX a,.yX x,.yX b] (.b (JW a x b)):=by
 have c1:=SI a x b;have c2:=F7 x;have c3:=F7 b;refine zF AE Tryz.func339 ?_
 cases h:Kk a x b with
 |true=>
  rw[h]at c1;have hT:JW a x b=true:=by unfold JW;rw[h];rfl
  refine AO [0,1,2,6] ?_ (AK @c1);exact BW hT
 |false=>
  rw[h]at c1;have hT:JW a x b=(DN x==DN b):=by unfold JW;rw[h,Dp];rfl
  refine AO [0,1,2,6] ?_ (CP @c1 @c2 @c3);exact BW hT
theorem eU(id:Int)(A6 AB:Ai)(AH:Int)(f:Nat->Int)(k:Nat):AV.oks k (vC id A6 AB AH f)=true:=rfl
theorem mm(id:Int)(A6 AB:Ai)(AH:Int)(f:Nat->Int):yT 391 [.d (AG.d ⟨id,A6,AB,AH,f⟩)] [] (.fn (.func 423) [] [.ptr 0 0 20]) [.c (vC id A6 AB AH f)]:=by
 refine zD AE Tryz.func391 ?_;unfold vC;refine A9 [0,1,2] ?_;exact wE
theorem qw(id k:Int):yT 390 [.yO id,.yO k] [] (.fn (.func 422) [] [.ptr 0 0 1,.ptr 1 0 1]) [.c [.yO id],.c [.yO k]]:=by
 refine zD AE Tryz.func390 ?_;refine A9 [0,1,2,3,4] ?_;exact wE
def Zz(id k q p:Int):Bool:=Kk id q k&&decide (Ba id q>Ba id p)
theorem mD(id k q p:Int):yT 422 [.yO q,.yO p,.ptr 0 0 1,.ptr 1 0 1] [.c [.yO id],.c [.yO k]] (.yP (Zz id k q p)) [.c [.yO id],.c [.yO k]]:=by
 have c1:=SI id q k;have c2:=Iu id q;have c3:=Iu id p;refine zD AE Tryz.func422 ?_
 cases h:Kk id q k with
 |true=>
  rw[h]at c1;have hT:Zz id k q p=decide (Ba id q>Ba id p):=by unfold Zz;rw[h];rfl
  rw[hT];refine AO [0,1,2,3,6] ?_ (CP @c1 @c2 @c3) [(8,7)];exact wE
 |false=>
  rw[h]at c1;have hT:Zz id k q p=false:=by unfold Zz;rw[h];rfl
  rw[hT];refine AO [0,1,2,3,6] ?_ (CP @c1 @c2 @c3);exact wE
theorem ql{f:Nat->Int}{k:Nat}(h:k<16):(D6 f)[k]? =some (f k):=by
 rcases Mn h with rfl|rfl|rfl|rfl|rfl|rfl|rfl|rfl|rfl|rfl|rfl|rfl|rfl|rfl|rfl|rfl<;>rfl
def VM(id k p q:Int):Int:=if q != -1 then H9 id k p q else p
theorem fold_filter{α:Type}(g:α->Int->α)(c:Int->Bool):∀(l:Ai)(s:α),(l.filter c).foldl g s=l.foldl (fun s x=>if c x then g s x else s) s
 |[],s=>rfl
 |a::l,s=>by
  cases h:c a with
  |true=>rw[List.filter_cons_of_pos h,q0p,q0p,fold_filter g c l,zn h]
  |false=>rw[List.filter_cons_of_neg (by rw[h];simp),q0p,fold_filter g c l,zx (by rw[h];simp)]
theorem xi(v:AG)(k p:Int):(xh v).foldl (H9 v.id k) p=(D6 v.f).foldl (VM v.id k) (v.AB.foldl (H9 v.id k) (H9 v.id k p (FM v))):=by
 unfold xh;rw[q0p,q0o,fold_filter];rfl
abbrev hpH(id:Int)(A6 AB:Ai)(AH:Int)(f:Nat->Int)(k p:Int)(r:Lp):z6:=[.c (vC id A6 AB AH f),.c [.yO p],.c [.yO id],.c [.yO k],.c [.fn (.func 422) [] [.ptr 2 0 1,.ptr 3 0 1]],.c (vC id A6 AB AH f),.lp r]
theorem bS(v:AG)(k:Int)(BA:Bool)(hb:v.A6.length<=1000)(hl:v.AB.length<=1000):yS 358 [v.d,.yX k,.b BA] (.tup [.yX (Eg v k BA).1,.b (Eg v k BA).2]):=by
 have c1:=Bo v hb hl;have c2:=JX v hb hl;have c3:=bX v.id k (FM v);have c4:=mm v.id v.A6 v.AB v.AH v.f;have c5:=qw v.id k;refine zF AE Tryz.func358 ?_
 cases h:Aq v with
 |false=>
  have hT:Eg v k BA=(-1,false):=by unfold Eg;rw[h];rfl
  rw[h]at c1;rw[hT];obtain⟨id,A6,AB,AH,f⟩:=v;refine AO HT ?_ (AK @c1);exact zE
 |true=>
 rw[h]at c1
 cases hu:JW v.id k (FM v)with
 |true=>
  have hT:Eg v k BA=(FM v,true):=by unfold Eg;rw[h,hu];rfl
  rw[hu]at c3;rw[hT];generalize FM v=p0 at *;obtain⟨id,A6,AB,AH,f⟩:=v;refine AO HT ?_ (CP @c1 @c2 @c3);exact zE
 |false=>
 rw[hu]at c3
 cases BA with
 |true=>
  have hT:Eg v k true=(FM v,false):=by unfold Eg;rw[h,hu];rfl
  rw[hT];generalize FM v=p0 at *;obtain⟨id,A6,AB,AH,f⟩:=v;refine AO HT ?_ (CP @c1 @c2 @c3);exact zE
 |false=>
 have hT:Eg v k false=((D6 v.f).foldl (VM v.id k) (v.AB.foldl (H9 v.id k) (H9 v.id k (FM v) (FM v))),false):=by unfold Eg;rw[h,hu,xi];rfl
 rw[hT];generalize FM v=p0 at *;obtain⟨id,A6,AB,AH,f⟩:=v;clear hT h hu;dsimp only at *;refine B6 HT ?_ (CP @c1 @c2 @c3) (H0 [] c4 [] c5);refine zG (K:=fun r _ H'=>H'=hpH id A6 AB AH f k ((D6 f).foldl (VM id k) (AB.foldl (H9 id k) (H9 id k p0 p0))) r) ?_ ?_
 .intro r hr;have hk:=zh (eU id A6 AB AH f) (hr.ok (k:=6) rfl)
  have hY:∀q p,YT Tryz.prog 6 [.yO q] (hpH id A6 AB AH f k p r) fun x K=>x= .yP true/\K=hpH id A6 AB AH f k (H9 id k p q) r:=by
   intro q p;have c6:=mD id k q p;have hS:H9 id k p q=if Zz id k q p then q else p:=rfl
   rw[hS];refine Ar hr rfl rfl rfl ?_
   cases hi:Zz id k q p with
   |true=>
    rw[hi]at c6;refine A9 HT ?_;refine zR ?_;refine Ax HT ?_ (BJ [2,3] c6);exact⟨_,A8.refl _,zN _,rfl,rfl,rfl⟩
   |false=>
    rw[hi]at c6;refine A9 HT ?_;refine zR ?_;refine Ax HT ?_ (BJ [2,3] c6);exact⟨_,A8.refl _,zN _,rfl,rfl,rfl⟩
  refine zT AE Tryz.func423 ?_;have q1:=@hY;refine AO Ll ?_ (AK @c2);clear q1;refine CM (fun j=>j<=AB.length) (fun j:Nat=>[(15,.yO j)]) (fun j=>[(1,.c [.yO ((AB.take j).foldl (H9 id k) (H9 id k p0 p0))])]) (fun j=>AB.length-j) 0 (zi _) (fun _=>rfl) (fun _=>rfl) ?_ ?_
  .exact A8.ck rfl
  intro j hj
  by_cases hjl:j<AB.length
  .obtain⟨q,hq⟩:=Ah hjl;have gq:=C5 hq;have hn:(AB.take (j+1)).foldl (H9 id k) (H9 id k p0 p0)=H9 id k ((AB.take j).foldl (H9 id k) (H9 id k p0 p0)) q:=by rw[AY hq,q0o];rfl
   have q1:=@hY;refine Aj Ll ?_ (AK gq);clear q1;with_reducible repeat' first|constructor|intro hc
   refine⟨j+1,hjl,om,zN _,?_⟩;exact(have nC:=hn;A8.cn rfl)
  have e:j=AB.length:=om
  subst e;rw[q06];generalize AB.foldl (H9 id k) (H9 id k p0 p0)=p1 at *;refine A9 Ll ?_;with_reducible repeat' first|constructor|intro hc
  refine CM (fun j=>j<=16) (fun j:Nat=>[(26,.yO j)]) (fun j=>[(1,.c [.yO (((D6 f).take j).foldl (VM id k) p1)])]) (fun j=>16-j) 0 (zi _) (fun _=>rfl) (fun _=>rfl) ?_ ?_
  .exact A8.ck rfl
  intro j hj
  by_cases hjl:j<16
  .have hn:((D6 f).take (j+1)).foldl (VM id k) p1=if f j != -1 then H9 id k (((D6 f).take j).foldl (VM id k) p1) (f j)else((D6 f).take j).foldl (VM id k) p1:=by rw[AY (ql hjl),q0o];rfl
   generalize((D6 f).take j).foldl (VM id k) p1=p2 at*
   cases g:f j != -1 with
   |true=>
    rw[g,zn rfl]at hn;rcases Mn hjl with rfl|rfl|rfl|rfl|rfl|rfl|rfl|rfl|rfl|rfl|rfl|rfl|rfl|rfl|rfl|rfl
    all_goals
     simp only[Nat.reduceAdd]at hn;have q1:=@hY;refine Aj Ll ?_ (AK g);clear q1;refine⟨_,hjl,om,zN _,?_⟩;exact(have nC:=hn;A8.cn rfl)
   |false=>
    rw[g,zx (by decide)]at hn;rcases Mn hjl with rfl|rfl|rfl|rfl|rfl|rfl|rfl|rfl|rfl|rfl|rfl|rfl|rfl|rfl|rfl|rfl
    all_goals
     simp only[Nat.reduceAdd]at hn;have q1:=@hY;refine Aj Ll ?_ (AK g);clear q1;refine⟨_,hjl,om,zN _,?_⟩;exact(have nC:=hn;A8.cn rfl)
  .have e16:j=16:=om
   subst e16;refine A9 Ll ?_;exact⟨_,A8.refl _,zN _,_,_,rfl,rfl,rfl⟩
 .rintro r hr x H' rfl;refine .inl ⟨rfl,?_⟩;generalize(D6 f).foldl (VM id k) (AB.foldl (H9 id k) (H9 id k p0 p0))=p9 at *;refine A9 HT ?_;exact zE
end Nd
end Go.Proofs.YtamjpnmjpponpaaGreatDoor
