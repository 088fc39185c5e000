/- Part 15 of a proof. Conditions: those that its theorems state. -/
import Derived.Test.YtkljbfejbakooaaGreatDoorT14
import Derived.Shelf.SlicesE.DeleteFunc
set_option linter.unusedSimpArgs false
set_option linter.unusedVariables false
set_option linter.unnecessarySimpa false
set_option maxHeartbeats 40000000
set_option maxRecDepth 4000
namespace Go.Proofs.YtkljbfejbakooaaGreatDoor
namespace Nd
open Go.Gar
open Wi (AC Bp BE AN Bc)
def JY(a x b:Int):Bool:=Ee a x b||decide (Cp x=Cp b)
def HO(id k p q:Int):Int:=if Ee id q k&&decide (B1 id q>B1 id p)then q else p
def vk(v:AD):Ad:=FK v::(v.A8++(E3 v.f).filter fun p=>p != -1)
def Eo(v:AD)(k:Int)(B4:Bool):Int×Bool:=
 if Al v then(if JY v.id k (FK v)then(FK v,true)else if B4 then(FK v,false)else((vk v).foldl (HO v.id k) (FK v),false))else(-1,false)
abbrev Ps:Bw:=⟨0,0,0,false,false,0⟩
def JP(l:Bw):Bool:=(BW l.AH&&BW l.Cj&&decide (0<=l.Bn)&&decide (l.Bn<=41))&&(if l.Bn>40 then decide (l.AQ=211)&& !l.CB else decide (l.AQ=0))
def lookO(l:Bw):Bool:=l.CB||decide (l.AQ≠0)
def vn(v:AD)(AH:Int):Bw:=if Al v then⟨Cp AH,(Eo v (Cp AH) false).1,0,false,(Eo v (Cp AH) false).2,0⟩else Ps
def NY(l:Bw):Bw:=⟨l.AH,l.Cj,l.Bn+1,l.B4,l.CB,if l.Bn+1>40 then 211 else l.AQ⟩
def Vx(v:AD)(l:Bw)(m:AC):Bool:=decide (m.AR=10)&&(decide (m.As=l.Cj)&&(decide (m.dst=v.id)&&m.right))
def uY(v:AD)(l:Bw)(m:AC):Int×Bool:=if m.AT=v.id/\m.done=false then Eo v l.AH l.B4 else(m.AT,m.done)
def Ph(v:AD)(l:Bw)(m:AC):Bw:=
 if Al v&&(JP l&& !lookO l)then(if Vx v l m then(if l.Bn+1>40 then NY l else⟨l.AH,(uY v l m).1,l.Bn+1,l.B4,(uY v l m).2,l.AQ⟩)else l)else l
def gz(v:AD)(l:Bw):Bw:=
 if Al v&&(JP l&& !lookO l)then(if l.Bn+1>40 then NY l else⟨l.AH,(Eo v l.AH true).1,l.Bn+1,true,(Eo v l.AH true).2,l.AQ⟩)else l
def Yo(l:Bw):AC:=⟨4,0,0,l.Cj,l.AH,l.B4,false,0,0,[],AY,0⟩
def cP(l:Bw):AC×Bool:=if lookO l|| !JP l then(AN,false)else(Yo l,true)
def lT(Cj:Int)(b:UInt8):Int:=Cp (40503*Cp Cj+(b.toNat:Int)+1)
def VM(s:AJ):Int:=s.foldl lT 7
def VN(s:AJ):Int×Int:=if Bc s then(VM s,0)else(0,2)
def CY(k:List AK)(AH:AJ):Nat:=(k.takeWhile fun x=>decide (x.AH<AH)).length
def hasK(k:List AK)(AH:AJ):Bool:=decide (CY k AH<k.length)&&decide ((k.getD (CY k AH) AY).AH=AH)
def Mm(x y:AK):Bool:=decide (Jh x y>0)
def FI(k:List AK)(x:AK):List AK×Int:=
 if Ck k&&BE x then
  (if hasK k x.AH then(if Mm x (k.getD (CY k x.AH) AY)then k.set (CY k x.AH) x else k,0)
   else if k.length>=24 then(k,200)else(k.take (CY k x.AH)++x::k.drop (CY k x.AH),0))
 else(k,2)
def E6(k:List AK)(AH:AJ):AK×Int:=if Ck k&&hasK k AH then(k.getD (CY k AH) AY,0)else(AY,201)
structure JC where
 job:An
 BN:List AC
 own:Bool
abbrev CU(j:An):An:=⟨j.AL,5,j.Ak,j.A9,j.AO,[],j.AQ⟩
abbrev CS(j:An)(e:Int):An:=⟨j.AL,j.A5,j.Ak,j.A9,j.AO,j.left,e⟩
def KI:Ad->Ad
 |[]=>[]
 |[a]=>[a]
 |[a,b]=>a::(if b=a then[]else[b])
 |a::b::c::_=>a::((if b=a then[]else[b])++(if c=a\/c=b then[]else[c]))
def El(x:AK)(p:Int):AC:=⟨5,0,0,p,0,false,false,0,0,[],x,0⟩
def JM(id:Int)(j:An)(AO:Int)(l:Ad):JC:=
 let ps:=KI (AO::l);let left:=ps.filter fun p=>p !=id
 ⟨⟨j.AL,if left=[]then 5 else 3,j.Ak,j.A9,j.AO,left,j.AQ⟩,left.map (El j.A9),decide (id∈ps)⟩
def J9(p:Int):AC:=⟨1,0,0,p,0,false,false,0,0,[],AY,0⟩
def UW(p:Int)(AH:AJ):AC:=⟨6,0,0,p,0,false,false,0,0,[],⟨AH,0,0,false⟩,0⟩
def EH(v:AD)(j:An):JC:=
 if j.Ak.AQ≠0 then⟨CU (CS j j.Ak.AQ),[],false⟩
 else if j.Ak.CB=false then⟨⟨j.AL,1,j.Ak,j.A9,j.AO,j.left,j.AQ⟩,if(cP j.Ak).2 then[(cP j.Ak).1]else[],false⟩
 else if j.AL=1 then⟨CU (CS ⟨j.AL,j.A5,j.Ak,j.A9,j.Ak.Cj,j.left,j.AQ⟩ 0),[],false⟩
 else if j.AL=2/\j.Ak.Cj=v.id then JM v.id ⟨j.AL,j.A5,j.Ak,j.A9,j.Ak.Cj,j.left,j.AQ⟩ j.Ak.Cj v.A8
 else if j.AL=2 then⟨⟨j.AL,2,j.Ak,j.A9,j.Ak.Cj,j.left,j.AQ⟩,[J9 j.Ak.Cj],false⟩
 else if j.Ak.Cj=v.id then⟨CU (CS ⟨j.AL,j.A5,j.Ak,j.A9,j.Ak.Cj,j.left,j.AQ⟩ 0),[],true⟩
 else⟨⟨j.AL,4,j.Ak,j.A9,j.Ak.Cj,j.left,j.AQ⟩,[UW j.Ak.Cj j.A9.AH],false⟩
def Dm(j:An)(p e:Int):An:=
 if p∈j.left then
  ⟨j.AL,if C1 j.left p=[]then 5 else j.A5,j.Ak,j.A9,j.AO,C1 j.left p,if e≠0 then e else j.AQ⟩
 else j
abbrev zJob:An:=⟨0,0,Ps,AY,0,[],0⟩
def Pw(AL AT:Int)(x:AK):Int×AK×Bool:=
 if AL=1 then(AT,AY,decide (0<=AT)&&decide (AT<65536))
 else if AL=2 then((VN x.AH).1,x,decide ((VN x.AH).2=0)&&BE x)
 else if AL=3 then((VN x.AH).1,⟨x.AH,0,0,false⟩,decide ((VN x.AH).2=0))
 else(0,AY,false)
def Ep(v:AD)(AL AT:Int)(x:AK):JC:=
 if(Pw AL AT x).2.2&&Al v then EH v ⟨AL,0,vn v (Pw AL AT x).1,(Pw AL AT x).2.1,0,[],0⟩
 else⟨⟨AL,5,Ps,AY,0,[],2⟩,[],false⟩
def C5(v:AD)(j:An)(m:AC):JC:=
 if Al v&&(m.right&&decide (m.dst=v.id))then
  (if j.A5=1 then(if m.AR=10/\m.As=j.Ak.Cj then EH v ⟨j.AL,j.A5,Ph v j.Ak m,j.A9,j.AO,j.left,j.AQ⟩else⟨j,[],false⟩)
   else if j.A5=2 then(if m.AR=7/\m.As=j.AO then JM v.id j j.AO m.A8 else⟨j,[],false⟩)
   else if j.A5=3 then(if m.AR=11 then⟨Dm j m.As m.AQ,[],false⟩else⟨j,[],false⟩)
   else if j.A5=4 then(if m.AR=12/\m.As=j.AO then⟨CU (CS ⟨j.AL,j.A5,j.Ak,if m.AQ=0 then m.A9 else j.A9,j.AO,j.left,j.AQ⟩ m.AQ),[],false⟩else⟨j,[],false⟩)
   else⟨j,[],false⟩)
 else⟨j,[],false⟩
def C3(v:AD)(j:An)(d:Int):JC:=
 if Al v then
  (if j.A5=1 then(if j.Ak.Cj=d then EH v ⟨j.AL,j.A5,gz v j.Ak,j.A9,j.AO,j.left,j.AQ⟩else⟨j,[],false⟩)
   else if j.A5=2\/j.A5=4 then(if j.AO=d then⟨CU (CS j 210),[],false⟩else⟨j,[],false⟩)
   else if j.A5=3 then⟨Dm j d 210,[],false⟩
   else⟨j,[],false⟩)
 else⟨j,[],false⟩
def HQ(x s:Int)(l:Ad):Ad:=
 if BW s&&decide (s≠Cp x)then s::makR x s l 2 else[]
where makR (x Cj:Int):Ad->Nat->Ad
 |[],_=>[]
 |_::_,0=>[]
 |p::r,n+1=>if BW p&&decide (B1 x p>B1 x Cj)then p::makR x p r n else[]
structure SC where
 A7:AD
 A5:Int
 B8:Int
def GK(A5 B8:Int):List (AC×Int):=
 if A5=1\/A5=2 then[(J9 B8,A5)]else if A5=3 then[(⟨3,0,0,B8,0,false,false,0,0,[],AY,0⟩,3)]else[]
def Uf(v:AD)(A5 B8:Int)(m:AC):Bool:=
 decide (A5≠0)&&(decide (m.AR=(if A5=3 then 9 else 7))&&(decide (m.As=B8)&&(decide (m.dst=v.id)&&m.right)))
def Cb(v:AD)(A5 B8:Int)(m:AC):SC×List (AC×Int):=
 if Al v&&(CZ A5 B8&&Uf v A5 B8 m)then
  (if A5=3 then(⟨v,0,0⟩,[])
   else
    let w:=DY v (HQ v.id m.As m.A8)
    if A5=1/\m.AG≠ -1/\Ee v.id m.AG m.As=true then(⟨w,2,m.AG⟩,GK 2 m.AG)
    else(⟨w,3,FK w⟩,GK 3 (FK w)))
 else(⟨v,A5,B8⟩,[])
def DW(v:AD)(A5 B8 d:Int):SC:=
 if Al v&&CZ A5 B8 then(if A5≠0/\B8=d then⟨BU v d,0,0⟩else⟨BU v d,A5,B8⟩)else⟨v,A5,B8⟩
def Vq(f:Nat->Int)(i:Nat)(p:Int):Nat->Int:=fun k=>if k=i then p else f k
def JG(v:AD)(i AO:Int):AD×Int:=
 if(decide (0<=i)&&(decide (i<16)&&Al v))&&BW AO then(⟨v.id,v.AB,v.A8,v.AG,Vq v.f i.toNat (if AO=v.id then -1 else AO)⟩,0)else(v,2)
def rA(n:AA)(BQ:Int):Option An:=if BQ=5 then some n.AP else if BQ=6 then some n.Ai else if BQ=7 then some n.Ah else none
def Q3(n:AA)(BQ:Int)(j:An):AA:=
 if BQ=5 then{n with AP:=j}else if BQ=6 then{n with Ai:=j}else{n with Ah:=j}
def EK(k:List AK)(j:An):List AK×An:=
 if j.AL=2 then((FI k j.A9).1,if(FI k j.A9).2≠0 then CS j (FI k j.A9).2 else j)
 else if j.AL=3 then(k,if(E6 k j.A9.AH).2=0 then⟨j.AL,j.A5,j.Ak,(E6 k j.A9.AH).1,j.AO,j.left,0⟩else CS j (E6 k j.A9.AH).2)
 else(k,j)
def FF(n:AA):AA:=
 {n with
  A7:=if n.AP.AQ=0 then(JG n.A7 n.next n.AP.AO).1 else n.A7
  next:=(n.next+1).tmod 16}
def B6(n:AA)(BQ:Int)(ended:Bool)(c:JC):AA×List (AC×Int):=
 let s:=if c.own then EK n.keep c.job else(n.keep,c.job)
 let n1:=Q3 {n with keep:=s.1} BQ s.2
 (if BQ=5/\ended=false/\s.2.A5=5 then FF n1 else n1,c.BN.map fun m=>(m,BQ))
def Bh(n:AA)(BQ AL AT:Int)(x:AK):AA×List (AC×Int):=
 if(decide (5<=BQ)&&decide (BQ<=7))&&Av n then B6 n BQ false (Ep n.A7 AL AT x)else(n,[])
def H6(n:AA)(BQ:Int):An:=(rA n BQ).getD zJob
def Cd(n:AA)(c:AW)(m:AC):AA×List (AC×Int):=
 if Av n then
  (if 1<=c.BQ/\c.BQ<=3 then
   let r:=Cb n.A7 n.A5 n.B8 m
   ({n with A7:=r.1.A7,A5:=r.1.A5,B8:=r.1.B8},r.2)
   else if 5<=c.BQ/\c.BQ<=7 then B6 n c.BQ (decide ((H6 n c.BQ).A5=5)) (C5 n.A7 (H6 n c.BQ) m)
   else(n,[]))
 else(n,[])
def Cv(n:AA)(c:AW):AA×List (AC×Int):=
 if Av n then
  let n1:={n with A7:=BU n.A7 c.Ao.dst}
  (if 1<=c.BQ/\c.BQ<=3 then
   let r:=DW n1.A7 n.A5 n.B8 c.Ao.dst
   ({n1 with A7:=r.A7,A5:=r.A5,B8:=r.B8},[])
   else if 5<=c.BQ/\c.BQ<=7 then B6 n1 c.BQ (decide ((H6 n c.BQ).A5=5)) (C3 n1.A7 (H6 n c.BQ) c.Ao.dst)
   else(n1,[]))
 else(n,[])
def GL(n:AA)(BQ:Int):AA:=
 if Av n then
  (if 1<=BQ/\BQ<=3 then{n with A5:=0,B8:=0}
   else if(5<=BQ/\BQ<=7)/\(H6 n BQ).A5≠5 then(B6 n BQ false ⟨CU (CS (H6 n BQ) 100),[],false⟩).1
   else n)
 else n
theorem Rk{a b c:AJ}(h:a<b)(k:b<c):a<c:=List.lt_trans h k
theorem ZY(a b:AJ):a<b\/a=b\/b<a:=by
 by_cases h:a<b
 .exact .inl h
 by_cases h2:b<a
 .exact .inr (.inr h2)
 exact .inr (.inl (List.le_antisymm (List.not_lt.1 h2) (List.not_lt.1 h)))
abbrev kS(l:List AK):Prop:=l.Pairwise fun x y=>x.AH<y.AH
theorem ku:∀(l:List AK),(∀k,k<l.length->k=0\/(l.getD (k-1) AY).AH<(l.getD k AY).AH)->kS l
 |[],_=>List.Pairwise.nil
 |[a],_=>by simp[kS]
 |a::b::r,h=>by
  have ih:=ku (b::r) (fun k hk=>by
   rcases zu k with e|e
   .exact .inl e
   .have:=h (k+1) (by simpa using hk);obtain⟨j,rfl⟩:∃j,k=j+1:=⟨k-1,om⟩
    simpa using this)
  have hab:a.AH<b.AH:=by
   have:=h 1 sm;simpa using this
  refine q0L.2 ⟨fun x hx=> ?_,ih⟩;rcases yP.1 hx with rfl|hx
  .exact hab
  .exact Rk hab ((q0L.1 ih).1 x hx)
variable {l:List AK}
theorem Dg:Ck l=true↔l.length<=24/\(∀x∈l,BE x=true)/\kS l:=by
 unfold Ck;rw[xI,xK,Kg];constructor
 .rintro⟨h1,h2⟩;refine⟨h1,fun x hx=> ?_,ku l fun k hk=> ?_⟩
  .obtain⟨k,hk,rfl⟩:=List.getElem_of_mem hx;have:=h2 k hk;unfold GD at this;rw[xI,getD_at (xP hk)]at this;exact this.1
  .have:=h2 k hk;unfold GD at this;rw[xI,xK]at this;exact this.2
 .rintro⟨h1,h2,h3⟩;refine⟨h1,fun k hk=> ?_⟩;unfold GD;rw[xI,xK,getD_at (xP hk)];refine⟨h2 _ (q00 hk),?_⟩;rcases zu k with e|e
  .exact .inl e
  .right;rw[getD_at (xP (show k-1<l.length by omega))];exact zk.1 h3 (k-1) k om hk om
theorem Lj(AH:AJ):∀(l:List AK),kS l->(∀x∈l.take (CY l AH),x.AH<AH)/\(∀x∈l.drop (CY l AH),¬x.AH<AH)
 |[],_=>by simp[CY]
 |a::r,h=>by
  obtain⟨h1,h2⟩:=q0L.1 h
  by_cases e:a.AH<AH
  .have hp:CY (a::r) AH=CY r AH+1:=by unfold CY;rw[List.takeWhile_cons_of_pos (by simpa using e)];rfl
   obtain⟨i1,i2⟩:=Lj AH r h2;rw[hp];refine⟨fun x hx=> ?_,fun x hx=>i2 x (by simpa using hx)⟩;rw[List.take_succ_cons]at hx;rcases yP.1 hx with rfl|hx
   .exact e
   .exact i1 x hx
  .have hp:CY (a::r) AH=0:=by unfold CY;rw[List.takeWhile_cons_of_neg (by simpa using e)];rfl
   rw[hp];refine⟨fun x hx=>by simp at hx,fun x hx=> ?_⟩;rw[List.drop_zero]at hx;rcases yP.1 hx with rfl|hx
   .exact e
   .exact fun hlt=>e (Rk (h1 x hx) hlt)
theorem SR(l:List AK)(AH:AJ):CY l AH<=l.length:=by
 unfold CY;exact(List.takeWhile_sublist _).length_le
variable {AH:AJ}
theorem XB(h:kS l):hasK l AH=true↔∃x∈l,x.AH=AH:=by
 unfold hasK;rw[xI,xK,xK];constructor
 .rintro⟨h1,h2⟩;rw[getD_at (xP h1)]at h2;exact⟨_,q00 h1,h2⟩
 .rintro⟨x,hx,rfl⟩;obtain⟨i1,i2⟩:=Lj x.AH l h
  have hx':x∈l.drop (CY l x.AH):=by
   rw[<-yg (CY l x.AH) l,yx]at hx;rcases hx with hx|hx
   .exact absurd (i1 x hx) (List.lt_irrefl _)
   .exact hx
  have hlt:CY l x.AH<l.length:=by
   rcases yO (CY l x.AH) l.length with h|h
   .exact h
   .rw[List.drop_eq_nil_of_le h]at hx';cases hx'
  refine⟨hlt,?_⟩;rw[getD_at (xP hlt)];rw[zS hlt]at hx';have hd:=(h.sublist (List.drop_sublist (CY l x.AH) l));rw[zS hlt]at hd;rcases yP.1 hx' with e|hm
  .rw[<-e]
  .have h1:=(q0L.1 hd).1 x hm;exact absurd h1 (i2 _ (by rw[zS hlt];exact yT ..))
theorem Jq(h:hasK l AH=true):∃x,l[CY l AH]? =some x/\x.AH=AH/\l.getD (CY l AH) AY=x:=by
 unfold hasK at h;rw[xI,xK,xK]at h;have e:=xP h.1;rw[getD_at e]at h;exact⟨_,e,h.2,getD_at e⟩
theorem kw:kS l↔(l.map AK.AH).Pairwise (·<·):=by rw[List.pairwise_map]
variable {x y:AK}
theorem mt{i:Nat}(hy:l[i]? =some y)(h:x.AH=y.AH):(l.set i x).map AK.AH=l.map AK.AH:=by
 rw[List.map_set,h];apply List.ext_getElem?;intro j;rw[List.getElem?_set];split
 .rename_i e;subst e;rw[yU,hy,yS];have:=(xW.1 hy).1;simp[this]
 .rfl
theorem SS(h:Ck l=true):Ck (FI l x).1=true:=by
 unfold FI;split
 .rename_i hc;rw[xI]at hc;obtain⟨h1,h2,h3⟩:=Dg.1 h;split
  .rename_i hk;split
   .obtain⟨y,hy,hyk,_⟩:=Jq hk;refine Dg.2 ⟨by simpa using h1,fun z hz=> ?_,?_⟩
    .rcases List.mem_or_eq_of_mem_set hz with hz|rfl
     .exact h2 z hz
     .exact hc.2
    .rw[kw,mt hy hyk.symm,<-kw];exact h3
   .exact h
  .rename_i hk;split
   .exact h
   .rename_i hl;obtain⟨i1,i2⟩:=Lj x.AH l h3;have hn:∀z∈l,z.AH≠x.AH:=fun z hz e=>hk ((XB h3).2 ⟨z,hz,e⟩)
    refine Dg.2 ⟨?_,fun z hz=> ?_,?_⟩
    .have:=SR l x.AH;simp only[y9,xw,yM,List.length_drop];omega
    .rw[yx,yP]at hz;rcases hz with hz|rfl|hz
     .exact h2 z (List.mem_of_mem_take hz)
     .exact hc.2
     .exact h2 z (List.mem_of_mem_drop hz)
    .have hd:∀z∈l.drop (CY l x.AH),x.AH<z.AH:=fun z hz=>by
      rcases ZY x.AH z.AH with e|e|e
      .exact e
      .exact absurd e.symm (hn z (List.mem_of_mem_drop hz))
      .exact absurd e (i2 z hz)
     refine List.pairwise_append.2 ⟨h3.sublist (List.take_sublist _ _),q0L.2 ⟨hd,h3.sublist (List.drop_sublist _ _)⟩,fun a ha b hb=> ?_⟩;rcases yP.1 hb with rfl|hb
     .exact i1 a ha
     .exact Rk (i1 a ha) (hd b hb)
 .exact h
theorem SD(h:Mm x y=true):Mm y x=false:=by
 unfold Mm at *;rw[xK]at h;rw[zK];obtain⟨k,v,n,g⟩:=x;obtain⟨k',v',n',g'⟩:=y;unfold Jh at*
 revert h
 simp only;intro h
 repeat' split at h
 all_goals(try omega)
 all_goals(repeat' split)
 all_goals(try omega)
 all_goals simp_all
theorem HB(x:AK):Mm x x=false:=by
 cases h:Mm x x with
 |false=>rfl
 |true=>rw[SD h]at h;cases h
theorem Xx(h:Ck l=true)(hy:y∈l):(E6 (FI l x).1 y.AH).2=0/\Mm y (E6 (FI l x).1 y.AH).1=false:=by
 have hr:=SS (x:=x) h;obtain⟨r1,r2,r3⟩:=Dg.1 hr
 have AH:∃z∈(FI l x).1,z.AH=y.AH/\Mm y z=false:=by
  obtain⟨h1,h2,h3⟩:=Dg.1 h;unfold FI;split
  .split
   .rename_i hk;split
    .rename_i hnew;obtain⟨w,hw,hwk,hwg⟩:=Jq hk
     by_cases e:y.AH=x.AH
     .refine⟨x,List.mem_iff_getElem?.2 ⟨CY l x.AH,by rw[yR (xW.1 hw).1]⟩,e.symm,?_⟩
      have:y=w:=by
       obtain⟨i,hi,rfl⟩:=List.getElem_of_mem hy;obtain⟨hj,rfl⟩:=xW.1 hw;rcases Nat.lt_trichotomy i (CY l x.AH)with hlt|he|hlt
       .have:=zk.1 h3 i _ hi hj hlt;rw[e,hwk]at this;exact absurd this (List.lt_irrefl _)
       .subst he;rfl
       .have:=zk.1 h3 _ i hj hi hlt;rw[e,hwk]at this;exact absurd this (List.lt_irrefl _)
      rw[this];rw[hwg]at hnew;exact SD hnew
     .refine⟨y,?_,rfl,HB y⟩;obtain⟨i,hi,rfl⟩:=List.getElem_of_mem hy;refine List.mem_iff_getElem?.2 ⟨i,?_⟩;rw[List.getElem?_set]
      have hne:CY l x.AH≠i:=by
       rintro rfl;rw[xP hi]at hw;cases hw;exact e hwk
      rw[if_neg hne];exact xP hi
    .exact⟨y,hy,rfl,HB y⟩
   .split
    .exact⟨y,hy,rfl,HB y⟩
    .refine⟨y,?_,rfl,HB y⟩;have:y∈l.take (CY l x.AH)++l.drop (CY l x.AH):=by rw[yg];exact hy
     rw[yx]at this;rw[yx,yP];rcases this with h|h
     .exact .inl h
     .exact .inr (.inr h)
  .exact⟨y,hy,rfl,HB y⟩
 obtain⟨z,hz,hzk,hnew⟩:=AH;have hk:hasK (FI l x).1 y.AH=true:=(XB r3).2 ⟨z,hz,hzk⟩;obtain⟨w,hw,hwk,hwg⟩:=Jq hk
 have hzw:z=w:=by
  obtain⟨i,hi,rfl⟩:=List.getElem_of_mem hz;obtain⟨hj,rfl⟩:=xW.1 hw;rcases Nat.lt_trichotomy i (CY (FI l x).1 y.AH)with hlt|he|hlt
  .have:=zk.1 r3 i _ hi hj hlt;rw[hzk,hwk]at this;exact absurd this (List.lt_irrefl _)
  .subst he;rfl
  .have:=zk.1 r3 _ i hj hi hlt;rw[hzk,hwk]at this;exact absurd this (List.lt_irrefl _)
 unfold E6;rw[hr,hk,hwg];exact⟨rfl,by rw[<-hzw];exact hnew⟩
theorem I8(h:Ck l=true)(hy:y∈l):(E6 l y.AH).2=0/\Mm y (E6 l y.AH).1=false:=by
 have:=Xx (x:=⟨[],0,0,false⟩) h hy
 have e:(FI l ⟨[],0,0,false⟩).1=l:=by
  unfold FI;rw[show BE ⟨[],0,0,false⟩=false from rfl,zY];rfl
 rwa [e]at this
variable {d:Int}
theorem Xk{id n:Int}(h:FO id n=true):FO id (if n=d then -1 else n)=true:=by
 split
 .simp[FO]
 .exact h
structure OP (v w:AD):Prop where
 id:w.id=v.id
 AB:w.AB=v.AB
 right:Al v=true->Al w=true
theorem OP.refl(v:AD):OP v v:=⟨rfl,rfl,fun h=>h⟩
theorem OP.trans{a b c:AD}(h:OP a b)(k:OP b c):OP a c:=⟨k.id.trans h.id,k.AB.trans h.AB,fun r=>k.right (h.right r)⟩
variable {v:AD}
theorem LB(h1:BW v.id=true)(h2:Cl v.AB=true)(h3:CO v.id v.A8=true)(h4:FO v.id v.AG=true)(h5:(E3 v.f).all (FO v.id)=true):Al v=true:=by
 unfold Al;rw[h1,h2,h3,h4,h5];rfl
theorem LU(v:AD)(d:Int):OP v (BU v d):=by
 unfold BU;split
 .refine⟨rfl,rfl,fun hv=> ?_⟩;obtain⟨h1,h2,h3,h4,h5⟩:=Cw hv;refine LB h1 h2 ?_ (Xk h4) ?_
  .simp only[CO,xI,xK]at h3|-;exact⟨zB (TT _ _) h3.1,PE _ _ _ _ h3.2 (q0C _)⟩
  .show(E3 fun i=>if v.f i=d then -1 else v.f i).all (FO v.id)=true;rw[yc]at h5|-;intro x hx;simp only[E3,yP,List.not_mem_nil,or_false]at hx
   have h5':∀i,i<16->FO v.id (v.f i)=true:=fun i hi=>h5 _ (by
    rcases Q1 hi with rfl|rfl|rfl|rfl|rfl|rfl|rfl|rfl|rfl|rfl|rfl|rfl|rfl|rfl|rfl|rfl<;>simp[E3])
   rcases hx with rfl|rfl|rfl|rfl|rfl|rfl|rfl|rfl|rfl|rfl|rfl|rfl|rfl|rfl|rfl|rfl<;>exact Xk (h5' _ (by decide))
 .exact .refl v
theorem Ou(v:AD)(l:Ad):OP v (DY v l):=by
 unfold DY;split
 .rename_i h;rw[xI]at h;refine⟨rfl,rfl,fun hv=> ?_⟩;obtain⟨h1,h2,-,h4,h5⟩:=Cw hv;exact LB h1 h2 h.2 h4 h5
 .exact .refl v
theorem sX(v:AD)(i AO:Int):OP v (JG v i AO).1:=by
 unfold JG;split
 .rename_i h;simp only[xI,xK]at h;refine⟨rfl,rfl,fun hv=> ?_⟩;obtain⟨h1,h2,h3,h4,h5⟩:=Cw hv;refine LB h1 h2 h3 h4 ?_
  have hp:FO v.id (if AO=v.id then -1 else AO)=true:=by
   split
   .simp[FO]
   .rename_i hne;simp[FO,h.2,hne]
  have h5':∀i,i<16->FO v.id (v.f i)=true:=fun i hi=>(yc.1 h5) _ (by
    rcases Q1 hi with rfl|rfl|rfl|rfl|rfl|rfl|rfl|rfl|rfl|rfl|rfl|rfl|rfl|rfl|rfl|rfl<;>simp[E3])
  have hq:∀k,k<16->FO v.id (Vq v.f i.toNat (if AO=v.id then -1 else AO) k)=true:=fun k hk=>by
   unfold Vq;split
   .exact hp
   .exact h5' k hk
  rw[yc];intro x hx;simp only[E3,yP,List.not_mem_nil,or_false]at hx;rcases hx with rfl|rfl|rfl|rfl|rfl|rfl|rfl|rfl|rfl|rfl|rfl|rfl|rfl|rfl|rfl|rfl<;>exact hq _ (by decide)
 .exact .refl v
theorem jz(v:AD)(i AO:Int):(JG v i AO).1.A8=v.A8:=by unfold JG;split<;>rfl
theorem YJ(d:Int)(hv:Al v=true)(h:Fw v.id v.A8 v.AB=false):Fw (BU v d).id (BU v d).A8 (BU v d).AB=false:=by
 by_cases hd:d∈v.AB
 .have e:BU v d=v:=by unfold BU;rw[hv,xM hd];rfl
  rw[e];exact h
 .have e:BU v d=⟨v.id,v.AB,C1 v.A8 d,if v.AG=d then -1 else v.AG,fun i=>if v.f i=d then -1 else v.f i⟩:=by
   unfold BU;rw[hv,xO hd];rfl
  have hr:=(LU v d).right hv;rw[e]at hr|-;obtain⟨r1,r2,r3,-,-⟩:=Cw hv;obtain⟨-,-,q3,-,-⟩:=Cw hr;have hs:B1 v.id v.id=0:=by unfold B1;omega
  have hb:=PI r2;simp only[CO,xI]at r3 q3
  cases hh:Fw v.id (C1 v.A8 d) v.AB with
  |false=>rfl
  |true=>
   obtain⟨b,h1,h2,⟨p,h3,h4⟩,h5⟩:=(aT hb (C1 v.A8 d) v.id (by rw[hs];exact q3.2)).1 hh;have hm:∀x:Int,x∈C1 v.A8 d↔x∈v.A8/\x≠d:=fun x=>by simp[C1,List.mem_filter]
   rw[(aT hb v.A8 v.id (by rw[hs];exact r3.2)).2 ⟨b,h1,h2,⟨p,((hm p).1 h3).1,h4⟩,fun hx=>h5 ((hm b).2 ⟨hx,fun e=>hd (e▸h1)⟩)⟩]at h;cases h
theorem lO(x:Int)(AB:Ad):∀(l:Ad)(n:Nat)(a:Int),Fw a l AB=false->Fw a (HQ.makR x a l n) AB=false
 |[],n,a,_=>by unfold HQ.makR;rfl
 |p::r,0,a,_=>by unfold HQ.makR;rfl
 |p::r,n+1,a,h=>by
  unfold HQ.makR;simp only[Fw,q08]at h;split
  .simp only[Fw,q08];exact⟨h.1,lO x AB r n p h.2⟩
  .rfl
theorem vo{x s:Int}{l AB:Ad}(h1:Fw x [s] AB=false)(h2:Fw s l AB=false):Fw x (HQ x s l) AB=false:=by
 unfold HQ;split
 .simp only[Fw,q08]at h1|-;exact⟨h1.1,lO x AB l 2 s h2⟩
 .rfl
theorem fH{l:Ad}(h:Fw v.id v.A8 v.AB=false)(hl:Fw v.id l v.AB=false):Fw (DY v l).id (DY v l).A8 (DY v l).AB=false:=by
 unfold DY;split
 .exact hl
 .exact h
theorem Te(h:Al v=true):BW (FK v)=true/\FK v≠v.id:=by
 obtain⟨r1,r2,r3,-,-⟩:=Cw h;unfold FK;rw[if_pos h]
 cases hl:v.A8 with
 |nil=>exact⟨(R0 r1 r2).2.1,(R0 r1 r2).2.2⟩
 |cons p r=>
  rw[hl]at r3;simp only[CO,rT,xI,xK]at r3;refine⟨r3.2.1.1,?_⟩;show p≠v.id;rintro rfl;have:=r3.2.1.2;unfold B1 at this;omega
theorem H5(n:Int):BW n=Bp n:=by
 unfold BW Bp
 by_cases h1:0<=n<;>by_cases h2:n<65536<;>simp[h1,h2]
variable {A5 B8:Int}{m:AC}
theorem dN(hs:CZ A5 B8=true):OP v (Cb v A5 B8 m).1.A7/\CZ (Cb v A5 B8 m).1.A5 (Cb v A5 B8 m).1.B8=true:=by
 unfold Cb;split
 .rename_i h;simp only[xI]at h;split
  .exact⟨.refl v,rfl⟩
  .have hw:=(Ou v (HQ v.id m.As m.A8)).right h.1;simp only;split
   .rename_i hp;refine⟨Ou _ _,?_⟩;have hc:=h.2.2;unfold Uf at hc;simp only[xI,xK]at hc;have hk:m.AR=7:=by rw[hc.2.1,if_neg om]
    have hr:=hc.2.2.2.2;unfold AC.right AC.has at hr;simp only[xI]at hr;have hh:=hr.2.2;rw[hk]at hh
    have hpl:Bp m.AG=true:=by
     revert hh
     simp only;intro hh;simp at hh
     grind
    show CZ 2 m.AG=true;unfold CZ;rw[if_neg (by decide),hpl];rfl
   .refine⟨Ou _ _,?_⟩;show CZ 3 (FK _)=true;unfold CZ;rw[if_neg (by decide),<-H5,(Te hw).1];rfl
 .exact⟨.refl v,hs⟩
theorem ob(hs:CZ A5 B8=true):OP v (DW v A5 B8 d).A7/\CZ (DW v A5 B8 d).A5 (DW v A5 B8 d).B8=true:=by
 unfold DW;split
 .split
  .exact⟨LU v d,rfl⟩
  .exact⟨LU v d,hs⟩
 .exact⟨.refl v,hs⟩
theorem qM(h0:0<=A5)(h:Fw v.id v.A8 v.AB=false)(hm:Fw m.As m.A8 v.AB=false)(ho:A5=1\/A5=2->Fw v.id [B8] v.AB=false):
  Fw (Cb v A5 B8 m).1.A7.id (Cb v A5 B8 m).1.A7.A8 (Cb v A5 B8 m).1.A7.AB=false:=by
 unfold Cb;split
 .rename_i hc;simp only[xI]at hc;split
  .exact h
  .rename_i h3;have hcn:=hc.2.2;unfold Uf at hcn;simp only[xI,xK]at hcn;have hst:=hc.2.1
   have hph:A5=1\/A5=2:=by
    unfold CZ at hst;rw[if_neg hcn.1]at hst;simp only[xI,xK]at hst;have h1:=hcn.1;have hle:=hst.1;omega
   have ho':=ho hph;rw[<-hcn.2.2.1]at ho';have hl:=fH h (vo ho' hm);simp only;split<;>exact hl
 .exact h
theorem oa(hv:Al v=true)(h:Fw v.id v.A8 v.AB=false):Fw (DW v A5 B8 d).A7.id (DW v A5 B8 d).A7.A8 (DW v A5 B8 d).A7.AB=false:=by
 unfold DW;split
 .split<;>exact YJ d hv h
 .exact h
variable {n:AA}
theorem Aq:Av n=true↔(0<=n.Aj/\n.Aj<=1099511627776)/\0<=n.bad/\(0<=n.next/\n.next<16)/\Al n.A7=true/\(n.AX.id=n.A7.id/\Bs n.AX=true)/\CZ n.A5 n.B8=true/\Ck n.keep=true/\GI n.BO=true/\P7 n=true:=by
 unfold Av;simp only[xI,xK]
structure iH (n w:AA):Prop where
 A7:OP n.A7 w.A7
 Aj:w.Aj=n.Aj
 AX:w.AX=n.AX
 BO:w.BO=n.BO
 last:w.last=n.last
 bad:w.bad=n.bad
 right:Av n=true->Av w=true
 keep:Ck n.keep=true->∀y∈n.keep,(E6 w.keep y.AH).2=0/\Mm y (E6 w.keep y.AH).1=false
theorem iH.refl(n:AA):iH n n:=⟨.refl _,rfl,rfl,rfl,rfl,rfl,fun h=>h,fun h _ hy=>I8 h hy⟩
theorem gI(k:List AK)(j:An)(h:Ck k=true):Ck (EK k j).1=true/\∀y∈k,(E6 (EK k j).1 y.AH).2=0/\Mm y (E6 (EK k j).1 y.AH).1=false:=by
 unfold EK;split
 .exact⟨SS h,fun y hy=>Xx h hy⟩
 .split<;>exact⟨h,fun y hy=>I8 h hy⟩
variable {w:AA}
theorem mD(h:w.BO=n.BO)(k:w.A7.id=n.A7.id):P7 w=P7 n:=by unfold P7;rw[h,k]
theorem iH.mk'(hv:OP n.A7 w.A7)(h1:w.Aj=n.Aj)(h2:w.AX=n.AX)(h3:w.BO=n.BO)(h4:w.last=n.last)(h5:w.bad=n.bad)(h6:0<=n.next/\n.next<16->0<=w.next/\w.next<16)(h7:CZ n.A5 n.B8=true->CZ w.A5 w.B8=true)(h8:Ck n.keep=true->Ck w.keep=true/\∀y∈n.keep,(E6 w.keep y.AH).2=0/\Mm y (E6 w.keep y.AH).1=false):iH n w:=by
 refine⟨hv,h1,h2,h3,h4,h5,fun h=> ?_,fun h=>(h8 h).2⟩;rw[Aq]at h|-;obtain⟨a1,a2,a3,a4,a5,a6,a7,a8,a9⟩:=h;exact⟨by rw[h1];exact a1,by rw[h5];exact a2,h6 a3,hv.right a4,by rw[h2,hv.id];exact a5,h7 a6,(h8 a7).1,by rw[h3];exact a8,by rw[mD h3 hv.id];exact a9⟩
theorem pZ{k:Int}(h:0<=k/\k<16):0<=(k+1).tmod 16/\(k+1).tmod 16<16:=by
 rw[Int.tmod_eq_emod_of_nonneg om];omega
structure GOK (n:AA) (BQ:Int) (c:JC) (w:AA):Prop where
 st:iH n w
 A8:w.A7.A8=n.A7.A8
 A5:w.A5=n.A5
 B8:w.B8=n.B8
 AP:BQ≠5->w.AP=n.AP/\w.next=n.next
 Ai:BQ≠6->w.Ai=n.Ai
 Ah:BQ=5\/BQ=6->w.Ah=n.Ah
theorem ot(n:AA):OP n.A7 (FF n).A7/\(FF n).A7.A8=n.A7.A8:=by
 unfold FF
 by_cases h:n.AP.AQ=0
 .simp only[if_pos h];exact⟨sX ..,jz ..⟩
 .refine⟨?_,by simp only[if_neg h]⟩;simp only[if_neg h];exact .refl _
theorem vw(n:AA)(j:An):Q3 n 5 j={n with AP:=j}:=if_pos rfl
theorem vy(n:AA)(j:An):Q3 n 6 j={n with Ai:=j}:=by unfold Q3;rw[if_neg (by decide),if_pos rfl]
theorem vz(n:AA){BQ:Int}(j:An)(h5:BQ≠5)(h6:BQ≠6):Q3 n BQ j={n with Ah:=j}:=by unfold Q3;rw[if_neg h5,if_neg h6]
theorem Cz(n:AA)(BQ:Int)(ended:Bool)(c:JC):GOK n BQ c (B6 n BQ ended c).1:=by
 unfold B6
 have hs:Ck n.keep=true->Ck (if c.own then EK n.keep c.job else(n.keep,c.job)).1=true/\∀y∈n.keep,(E6 (if c.own then EK n.keep c.job else(n.keep,c.job)).1 y.AH).2=0/\Mm y (E6 (if c.own then EK n.keep c.job else(n.keep,c.job)).1 y.AH).1=false:=by
  intro h;split
  .exact gI _ _ h
  .exact⟨h,fun y hy=>I8 h hy⟩
 generalize(if c.own then EK n.keep c.job else(n.keep,c.job))=s at *;obtain⟨k,j⟩:=s;dsimp only at hs|-
 by_cases h5:BQ=5
 .subst h5;rw[vw];have hg:=ot {n with keep:=k,AP:=j}
  by_cases hc:(5:Int)=5/\ended=false/\j.A5=5
  .rw[if_pos hc];exact⟨.mk' hg.1 rfl rfl rfl rfl rfl pZ id hs,hg.2,rfl,rfl,fun h=>absurd rfl h,fun _=>rfl,fun _=>rfl⟩
  .rw[if_neg hc];exact⟨.mk' (.refl _) rfl rfl rfl rfl rfl id id hs,rfl,rfl,rfl,fun h=>absurd rfl h,fun _=>rfl,fun _=>rfl⟩
 .rw[if_neg (fun h=>h5 h.1)]
  by_cases h6:BQ=6
  .subst h6;rw[vy];exact⟨.mk' (.refl _) rfl rfl rfl rfl rfl id id hs,rfl,rfl,rfl,fun _=>⟨rfl,rfl⟩,fun h=>absurd rfl h,fun _=>rfl⟩
  .rw[vz _ _ h5 h6];exact⟨.mk' (.refl _) rfl rfl rfl rfl rfl id id hs,rfl,rfl,rfl,fun _=>⟨rfl,rfl⟩,fun _=>rfl,fun h=>om⟩
theorem O1(n:AA)(BQ AL AT:Int)(x:AK):iH n (Bh n BQ AL AT x).1/\(Bh n BQ AL AT x).1.A7.A8=n.A7.A8:=by
 unfold Bh;split
 .exact⟨(Cz ..).st,(Cz ..).A8⟩
 .exact⟨.refl _,rfl⟩
theorem Rf(n:AA)(c:AW)(m:AC):iH n (Cd n c m).1:=by
 unfold Cd;split
 .rename_i hr;split
  .have h:=Aq.1 hr;have ht:=dN (v:=n.A7) (m:=m) h.2.2.2.2.2.1;exact .mk' ht.1 rfl rfl rfl rfl rfl id (fun _=>ht.2) (fun hk=>⟨hk,fun y hy=>I8 hk hy⟩)
  .split
   .exact(Cz ..).st
   .exact .refl _
 .exact .refl _
theorem VJ(n:AA)(c:AW):iH n (Cv n c).1:=by
 unfold Cv;have hd:=LU n.A7 c.Ao.dst;split
 .rename_i hr;have h:=Aq.1 hr;dsimp only;split
  .have ht:=ob (v:=BU n.A7 c.Ao.dst) (d:=c.Ao.dst) h.2.2.2.2.2.1;exact .mk' (hd.trans ht.1) rfl rfl rfl rfl rfl id (fun _=>ht.2) (fun hk=>⟨hk,fun y hy=>I8 hk hy⟩)
  .have n1:iH n {n with A7:=BU n.A7 c.Ao.dst}:=.mk' hd rfl rfl rfl rfl rfl id id (fun hk=>⟨hk,fun y hy=>I8 hk hy⟩);split
   .have g:=(Cz {n with A7:=BU n.A7 c.Ao.dst} c.BQ (decide ((H6 n c.BQ).A5=5)) (C3 (BU n.A7 c.Ao.dst) (H6 n c.BQ) c.Ao.dst)).st;exact⟨n1.A7.trans g.A7,g.Aj,g.AX,g.BO,g.last,g.bad,fun h=>g.right (n1.right h),g.keep⟩
   .exact n1
 .exact .refl _
theorem bO(n:AA)(BQ:Int):iH n (GL n BQ):=by
 unfold GL;split
 .split
  .exact .mk' (.refl _) rfl rfl rfl rfl rfl id (fun _=>rfl) (fun hk=>⟨hk,fun y hy=>I8 hk hy⟩)
  .split
   .exact(Cz ..).st
   .exact .refl _
 .exact .refl _
abbrev pc(n:AA):Bool:=Fw n.A7.id n.A7.A8 n.A7.AB
theorem Zh(h:OP n.A7 w.A7)(hl:w.A7.A8=n.A7.A8):pc w=pc n:=by unfold pc;rw[h.id,h.AB,hl]
theorem kR{c:AW}(h0:0<=n.A5)(h:pc n=false)(hm:Fw m.As m.A8 n.A7.AB=false)(ho:n.A5=1\/n.A5=2->Fw n.A7.id [n.B8] n.A7.AB=false):pc (Cd n c m).1=false:=by
 unfold Cd;split
 .split
  .exact qM h0 h hm ho
  .split
   .rw[Zh (Cz ..).st.A7 (Cz ..).A8];exact h
   .exact h
 .exact h
theorem pR{c:AW}(h:pc n=false):pc (Cv n c).1=false:=by
 unfold Cv;split
 .rename_i hr;have hv:=(Aq.1 hr).2.2.2.1;have h1:=YJ c.Ao.dst hv h;have hv1:=(LU n.A7 c.Ao.dst).right hv;dsimp only;split
  .exact oa hv1 h1
  .split
   .rw[Zh (Cz ..).st.A7 (Cz ..).A8];exact h1
   .exact h1
 .exact h
abbrev Hl:Aw:=[0,1,2,3,6,7,8,9,12,19,21,28,29,33]
abbrev Lt:Aw:=[0,1,4,6,11,13,14,15,16,22,25,26,27,36]
theorem aw(a x b:Int):xB 255 [.i .i64 a,.i .i64 x,.i .i64 b] (.b (JY a x b)):=by
 have c1:=Rh a x b;have c2:=FL x;have c3:=FL b;refine zF AF Tryz.func255 ?_
 cases h:Ee a x b with
 |true=>
  rw[h]at c1;have hT:JY a x b=true:=by unfold JY;rw[h];rfl
  refine wd [0,1,2,6] [] A4 (AM @c1) ?_;exact BL hT
 |false=>
  rw[h]at c1;have hT:JY a x b=(Cp x==Cp b):=by unfold JY;rw[h,F2];rfl
  refine wd [0,1,2,6] [] A4 (Ci @c1 @c2 @c3) ?_;exact BL hT
theorem dO(id:Int)(AB A8:Ad)(AG:Int)(f:Nat->Int)(k:Nat):AV.oks k (vC id AB A8 AG f)=true:=rfl
theorem kx(id:Int)(AB A8:Ad)(AG:Int)(f:Nat->Int):xC 317 [.d (AD.d ⟨id,AB,A8,AG,f⟩)] [] (.fn (.func 350) [] [.ptr 0 0 20]) [.c (vC id AB A8 AG f)]:=by
 refine zD AF Tryz.func317 ?_;unfold vC;refine wd [0,1,2] [] A4 A4 ?_;exact⟨_,(A6.ck rfl),xQ _,_,_,rfl,rfl,rfl,rfl⟩
theorem oq(id k:Int):xC 316 [.wo id,.wo k] [] (.fn (.func 349) [] [.ptr 0 0 1,.ptr 1 0 1]) [.c [.wo id],.c [.wo k]]:=by
 refine zD AF Tryz.func316 ?_;refine wd [0,1,2,3,4] [] A4 A4 ?_;exact⟨_,(A6.ck rfl),xQ _,_,_,rfl,rfl,rfl,rfl⟩
def ZR(id k q p:Int):Bool:=Ee id q k&&decide (B1 id q>B1 id p)
theorem kF(id k q p:Int):xC 349 [.wo q,.wo p,.ptr 0 0 1,.ptr 1 0 1] [.c [.wo id],.c [.wo k]] (.wu (ZR id k q p)) [.c [.wo id],.c [.wo k]]:=by
 have c1:=Rh id q k;have c2:=Iu id q;have c3:=Iu id p;refine zD AF Tryz.func349 ?_
 cases h:Ee id q k with
 |true=>
  rw[h]at c1;have hT:ZR id k q p=decide (B1 id q>B1 id p):=by unfold ZR;rw[h];rfl
  rw[hT];refine wd [0,1,2,3,6] [] A4 (Ci @c1 @c2 @c3) ?_ [(8,7)];exact⟨⟨[(6,.wu (decide (B1 id q>B1 id p)))],_,_⟩,(A6.ck rfl),xH _,_,_,rfl,rfl,rfl,rfl⟩
 |false=>
  rw[h]at c1;have hT:ZR id k q p=false:=by unfold ZR;rw[h];rfl
  rw[hT];refine wd [0,1,2,3,6] [] A4 (Ci @c1 @c2 @c3) ?_;exact⟨⟨[(6,.wu false)],_,_⟩,(A6.ck rfl),xH _,_,_,rfl,rfl,rfl,rfl⟩
theorem od{f:Nat->Int}{k:Nat}(h:k<16):(E3 f)[k]? =some (f k):=by
 rcases Q1 h with rfl|rfl|rfl|rfl|rfl|rfl|rfl|rfl|rfl|rfl|rfl|rfl|rfl|rfl|rfl|rfl<;>rfl
def V4(id k p q:Int):Int:=if q != -1 then HO id k p q else p
theorem fold_filter{α:Type}(g:α->Int->α)(c:Int->Bool):∀(l:Ad)(s:α),(l.filter c).foldl g s=l.foldl (fun s x=>if c x then g s x else s) s
 |[],s=>rfl
 |a::l,s=>by
  cases h:c a with
  |true=>rw[List.filter_cons_of_pos h,zH,zH,fold_filter g c l,if_pos h]
  |false=>rw[List.filter_cons_of_neg (by rw[h];simp),zH,fold_filter g c l,if_neg (by rw[h];simp)]
theorem vm(v:AD)(k p:Int):(vk v).foldl (HO v.id k) p=(E3 v.f).foldl (V4 v.id k) (v.A8.foldl (HO v.id k) (HO v.id k p (FK v))):=by
 unfold vk;rw[zH,q04,fold_filter];rfl
abbrev hpH(id:Int)(AB A8:Ad)(AG:Int)(f:Nat->Int)(k p:Int)(r:Lp):xS:=[.c (vC id AB A8 AG f),.c [.wo p],.c [.wo id],.c [.wo k],.c [.fn (.func 349) [] [.ptr 2 0 1,.ptr 3 0 1]],.c (vC id AB A8 AG f),.lp r]
theorem an(v:AD)(k:Int)(B4:Bool)(hb:v.AB.length<=1000)(hl:v.A8.length<=1000):xB 274 [v.d,.i .i64 k,.b B4] (.tup [.i .i64 (Eo v k B4).1,.b (Eo v k B4).2]):=by
 have c1:=BV v hb hl;have c2:=JZ v hb hl;have c3:=aw v.id k (FK v);have c4:=kx v.id v.AB v.A8 v.AG v.f;have c5:=oq v.id k;refine zF AF Tryz.func274 ?_
 cases h:Al v with
 |false=>
  have hT:Eo v k B4=(-1,false):=by unfold Eo;rw[h];rfl
  rw[h]at c1;rw[hT];obtain⟨id,AB,A8,AG,f⟩:=v;refine wd Hl [] A4 (AM @c1) ?_;exact zE
 |true=>
 rw[h]at c1
 cases hu:JY v.id k (FK v)with
 |true=>
  have hT:Eo v k B4=(FK v,true):=by unfold Eo;rw[h,hu];rfl
  rw[hu]at c3;rw[hT];generalize FK v=p0 at *;obtain⟨id,AB,A8,AG,f⟩:=v;refine wd Hl [] A4 (Ci @c1 @c2 @c3) ?_;exact zE
 |false=>
 rw[hu]at c3
 cases B4 with
 |true=>
  have hT:Eo v k true=(FK v,false):=by unfold Eo;rw[h,hu];rfl
  rw[hT];generalize FK v=p0 at *;obtain⟨id,AB,A8,AG,f⟩:=v;refine wd Hl [] A4 (Ci @c1 @c2 @c3) ?_;exact zE
 |false=>
 have hT:Eo v k false=((E3 v.f).foldl (V4 v.id k) (v.A8.foldl (HO v.id k) (HO v.id k (FK v) (FK v))),false):=by unfold Eo;rw[h,hu,vm];rfl
 rw[hT];generalize FK v=p0 at *;obtain⟨id,AB,A8,AG,f⟩:=v;clear hT h hu;dsimp only at *;have d1:=Ds.mk [] (c4);have d2:=Ds.mk [] (c5);refine wd Hl [] A4 (Ci @c1 @c2 @c3) ?_;clear d2 d1;refine zG (K:=fun r _ H'=>H'=hpH id AB A8 AG f k ((E3 f).foldl (V4 id k) (A8.foldl (HO id k) (HO id k p0 p0))) r) ?_ ?_
 .intro r hr;have hk:=xU (dO id AB A8 AG f) (hr.ok (k:=6) rfl)
  have hY:∀q p,YT Tryz.prog 6 [.wo q] (hpH id AB A8 AG f k p r) fun x K=>x= .wu true/\K=hpH id AB A8 AG f k (HO id k p q) r:=by
   intro q p;have c6:=kF id k q p;have hS:HO id k p q=if ZR id k q p then q else p:=rfl
   rw[hS];refine BD hr rfl rfl rfl ?_
   cases hi:ZR id k q p with
   |true=>
    rw[hi]at c6;refine wd Hl [] A4 A4 ?_;refine zR ?_;have d1:=Ds.mk [2,3] (c6);refine wd Hl [] A4 A4 ?_;clear d1;exact⟨_,A6.refl _,xH _,rfl,rfl,rfl⟩
   |false=>
    rw[hi]at c6;refine wd Hl [] A4 A4 ?_;refine zR ?_;have d1:=Ds.mk [2,3] (c6);refine wd Hl [] A4 A4 ?_;clear d1;exact⟨_,A6.refl _,xH _,rfl,rfl,rfl⟩
  refine zT AF Tryz.func350 ?_;have q1:=@hY;refine wd Lt [] A4 (AM @c2) ?_;clear q1;refine Ct (fun j=>j<=A8.length) (fun j:Nat=>[(15,.wo j)]) (fun j=>[(1,.c [.wo ((A8.take j).foldl (HO id k) (HO id k p0 p0))])]) (fun j=>A8.length-j) 0 (xQ _) (fun _=>rfl) (fun _=>rfl) ?_ ?_
  .exact A6.ck rfl
  intro j hj
  by_cases hjl:j<A8.length
  .obtain⟨q,hq⟩:=BB hjl;have gq:=DX hq;have hn:(A8.take (j+1)).foldl (HO id k) (HO id k p0 p0)=HO id k ((A8.take j).foldl (HO id k) (HO id k p0 p0)) q:=by rw[Au hq,q04];rfl
   have q1:=@hY;refine wd Lt [] (AM gq) A4 ?_;clear q1;with_reducible repeat' first|constructor|intro hc
   refine⟨j+1,hjl,om,xH _,?_⟩;exact(have nC:=hn;A6.cn rfl)
  have e:j=A8.length:=om
  subst e;rw[yD];generalize A8.foldl (HO id k) (HO id k p0 p0)=p1 at *;refine wd Lt [] A4 A4 ?_;with_reducible repeat' first|constructor|intro hc
  refine Ct (fun j=>j<=16) (fun j:Nat=>[(26,.wo j)]) (fun j=>[(1,.c [.wo (((E3 f).take j).foldl (V4 id k) p1)])]) (fun j=>16-j) 0 (xQ _) (fun _=>rfl) (fun _=>rfl) ?_ ?_
  .exact A6.ck rfl
  intro j hj
  by_cases hjl:j<16
  .have hn:((E3 f).take (j+1)).foldl (V4 id k) p1=if f j != -1 then HO id k (((E3 f).take j).foldl (V4 id k) p1) (f j)else((E3 f).take j).foldl (V4 id k) p1:=by rw[Au (od hjl),q04];rfl
   generalize((E3 f).take j).foldl (V4 id k) p1=p2 at*
   cases g:f j != -1 with
   |true=>
    rw[g,if_pos rfl]at hn;rcases Q1 hjl with rfl|rfl|rfl|rfl|rfl|rfl|rfl|rfl|rfl|rfl|rfl|rfl|rfl|rfl|rfl|rfl
    all_goals
     simp only[Nat.reduceAdd]at hn;have q1:=@hY;refine wd Lt [] (AM g) A4 ?_;clear q1;refine⟨_,hjl,om,xH _,?_⟩;exact(have nC:=hn;A6.cn rfl)
   |false=>
    rw[g,if_neg (by decide)]at hn;rcases Q1 hjl with rfl|rfl|rfl|rfl|rfl|rfl|rfl|rfl|rfl|rfl|rfl|rfl|rfl|rfl|rfl|rfl
    all_goals
     simp only[Nat.reduceAdd]at hn;have q1:=@hY;refine wd Lt [] (AM g) A4 ?_;clear q1;refine⟨_,hjl,om,xH _,?_⟩;exact(have nC:=hn;A6.cn rfl)
  .have e16:j=16:=om
   subst e16;refine wd Lt [] A4 A4 ?_;exact⟨_,A6.refl _,xH _,_,_,rfl,rfl,rfl⟩
 .rintro r hr x H' rfl;refine .inl ⟨rfl,?_⟩;generalize(E3 f).foldl (V4 id k) (A8.foldl (HO id k) (HO id k p0 p0))=p9 at *;refine wd Hl [] A4 A4 ?_;exact zE
end Nd
end Go.Proofs.YtkljbfejbakooaaGreatDoor
namespace Go.Proofs.YtkljbfejbakooaaGreatDoor
open Go.Gar
def fits(n:Int):Bool:=decide (n>=0)&&decide (n<=1099511627776)
theorem QK(n:Int):xB 366 [.i .i64 n] (.b (fits n)):=by
 refine zF AF Tryz.func366 ?_;refine wd [0,2] [] A4 A4 ?_;repeat'(first|with_reducible constructor|(with_reducible intro hc;try simp only[Pu]at hc)|with_reducible refine Ki ?_ ?_|(with_reducible refine xM ?_;first|rfl|omega)|decide)
 all_goals(refine⟨_,_,rfl,rfl,?_⟩;simp_all[Cq,fits]<;>omega)
def E7(n:Nat):Nat:=if n=0 then 0 else n.log2+1
theorem JN{n k:Nat}:E7 n=k↔n<2^k/\(k=0\/2^(k-1)<=n):=by
 unfold E7;split
 .rename_i h;subst h;constructor
  .intro h;subst h;simp
  .rintro⟨h1,h2|h2⟩
   .exact h2.symm
   .have:0<2^(k-1):=Nat.two_pow_pos _;omega
 .rename_i h;constructor
  .intro hk;subst hk;exact⟨Nat.lt_log2_self,.inr (by simpa using Nat.log2_self_le h)⟩
  .rintro⟨h1,h2⟩;have h2':k≠0:=fun e=>by subst e;simp at h1;omega
   have h2:2^(k-1)<=n:=by rcases h2 with h2|h2;exact absurd h2 h2';exact h2
   have:=(Nat.log2_eq_iff h).2 ⟨h2,by rwa [show k-1+1=k by omega]⟩;omega
theorem XQ{n k:Nat}(h:2^k<=n):E7 n=E7 (n/2^k)+k:=by
 rw[JN];have hp:0<2^k:=Nat.two_pow_pos k;obtain⟨h1,h2⟩:=(JN (n:=n/2^k)).1 rfl;have hne:0<n/2^k:=Nat.div_pos h hp;have hk:E7 (n/2^k)≠0:=fun e=>by rw[e]at h1;simp at h1;omega
 have h2:2^(E7 (n/2^k)-1)<=n/2^k:=by rcases h2 with h2|h2;exact absurd h2 hk;exact h2
 refine⟨?_,.inr ?_⟩
 .rw[Nat.pow_add];exact(Nat.div_lt_iff_lt_mul hp).1 h1
 .rw[show E7 (n/2^k)+k-1=(E7 (n/2^k)-1)+k by omega,Nat.pow_add];exact(Nat.le_div_iff_mul_le hp).1 h2
def gU:AJ:=[0,1,2,2,3,3,3,3,4,4,4,4,4,4,4,4,5,5,5,5,5,5,5,5,5,5,5,5,5,5,5,5,6,6,6,6,6,6,6,6,6,6,6,6,6,6,6,6,6,6,6,6,6,6,6,6,6,6,6,6,6,6,6,6,7,7,7,7,7,7,7,7,7,7,7,7,7,7,7,7,7,7,7,7,7,7,7,7,7,7,7,7,7,7,7,7,7,7,7,7,7,7,7,7,7,7,7,7,7,7,7,7,7,7,7,7,7,7,7,7,7,7,7,7,7,7,7,7,8,8,8,8,8,8,8,8,8,8,8,8,8,8,8,8,8,8,8,8,8,8,8,8,8,8,8,8,8,8,8,8,8,8,8,8,8,8,8,8,8,8,8,8,8,8,8,8,8,8,8,8,8,8,8,8,8,8,8,8,8,8,8,8,8,8,8,8,8,8,8,8,8,8,8,8,8,8,8,8,8,8,8,8,8,8,8,8,8,8,8,8,8,8,8,8,8,8,8,8,8,8,8,8,8,8,8,8,8,8,8,8,8,8,8,8,8,8,8,8,8,8,8,8,8,8,8,8]
theorem qI:∀n:Fin 256,(gU.getD n.1 0).toNat=E7 n.1:=by decide +kernel
theorem Us(a:Int)(h:(decide (0<=a)&&decide (a<=4611686018427387904))=true)(u:UInt8):GM .i64 (a+(u.toNat:Int))=true:=by
 have:=u.toNat_lt;simp[GM]at h|-;omega
theorem pD(y:Int):V5 (y%256) gU.length=true:=by
 have:gU.length=256:=by decide +kernel
 rw[this,F3];omega
theorem dH(y:Int)(h:0<=y)(h':y<256):((gU.getD (y%256).toNat 0).toNat:Int)=(E7 y.toNat:Int):=by
 have:=qI ⟨y.toNat,om⟩;simp only at this;rw[<-this];congr 4;omega
theorem Ju(x k:Nat)(h:2^k<=x)(h':x/2^k<256)(y:Int)(hy:y=((x/2^k:Nat):Int)):(E7 x:Int)=(k:Int)+((gU.getD (y%256).toNat 0).toNat:Int):=by
 subst hy;have:=XQ h;rw[dH _ (zx _) (Int.ofNat_lt.2 h'),Int.toNat_natCast];omega
theorem XR(x:Nat)(h':x<256):(E7 x:Int)=((gU.getD ((x:Int)%256).toNat 0).toNat:Int):=by
 rw[dH x om om,Int.toNat_natCast]
theorem lC(x:Nat)(hx:x<18446744073709551616):xB 371 [.i .u64 x] (.i .i64 (E7 x)):=by
 refine zF AF Tryz.func371 ?_;refine wd [0,2,4,8,14] [] A4 A4 ?_;repeat'(first|with_reducible constructor|(with_reducible intro hc;try simp only[Pu]at hc)|with_reducible refine Ki ?_ ?_|(with_reducible refine xM ?_;first|rfl|omega)|decide)
 all_goals first
  |exact E4 _
  |exact Us _ rfl _
  |exact pD _
  |(refine⟨_,_,rfl,rfl,?_⟩;simp only[Cq];refine congrArg (D.i .i64) ?_
    first
     |exact Ju x 56 om om _ om
     |exact Ju x 48 om om _ om
     |exact Ju x 40 om om _ om
     |exact Ju x 32 om om _ om
     |exact Ju x 24 om om _ om
     |exact Ju x 16 om om _ om
     |exact Ju x 8 om om _ om
     |exact(XR x om).trans (Int.zero_add _).symm
     |exact XR x om)
end Go.Proofs.YtkljbfejbakooaaGreatDoor
namespace Go.Proofs
open Go.Shelf
def Tryz.VF:Go.Shelf.Ren:=⟨fun|10=>336|6=>361|n=>n,fun|22=>22|23=>3|25=>113|3=>3|4=>4|0=>0|n=>n,fun|n=>n⟩
theorem Tryz.l9:Go.Proofs.SlLaysH.n10 Tryz.prog Tryz.VF:={
 mixed:=by kernel_rfl
 f6:=⟨Tryz.f361.name,by decide,Tryz.func361.trans (congrArg some (by kernel_rfl))⟩
 f10:=⟨Tryz.f336.name,by decide,Tryz.func336.trans (congrArg some (by kernel_rfl))⟩
 t0:=Tryz.underlying0
 a0:=Tryz.isAgg0
 z0:=Tryz.sizeOf0
 v0:=Tryz.zeroValue0
 t3:=Tryz.underlying3
 a3:=Tryz.isAgg3
 z3:=Tryz.sizeOf3
 v3:=Tryz.zeroValue3
 t4:=Tryz.underlying4
 a4:=Tryz.isAgg4
 z4:=Tryz.sizeOf4
 v4:=Tryz.zeroValue4
 t22:=Tryz.underlying22
 a22:=Tryz.isAgg22
 z22:=Tryz.sizeOf22
 v22:=Tryz.zeroValue22
 a23:=Tryz.isAgg3
 z23:=Tryz.sizeOf3
 t25:=Tryz.underlying113
 a25:=Tryz.isAgg113
 z25:=Tryz.sizeOf113
 v25:=Tryz.zeroValue113}
end Go.Proofs
