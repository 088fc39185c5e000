/- Part 20 of a proof. Conditions: those that its theorems state. -/
import Derived.Test.YtkljbfejbakooaaGreatDoorT19
set_option linter.unusedSimpArgs false
set_option linter.unusedVariables false
set_option linter.unnecessarySimpa false
set_option maxHeartbeats 40000000
set_option maxRecDepth 4000
namespace Go.Proofs.YtkljbfejbakooaaGreatDoor
namespace Wi
open Go.Gar
abbrev Hz:Aw:=[0,2,3,4,5]
def K0(m:AC):AJ×Int:=if m.right then(By m,0)else([],2)
theorem YZ(m:AC)(hl:m.A8.length<9223372036854775807):xB 195 [m.d] (.tup [.by (K0 m).1,.i .i64 (K0 m).2]):=by
 cases h:m.right with
 |true=>
  refine FT (ds:=[m.d]) (WC m hl h) ?_;simp[K0,h,HY,DL,Dz,Cy,Kb,BK]
 |false=>
  refine FT (ds:=[m.d]) (Yb m hl h) ?_;simp[K0,h,HY,DL,Dz,Cy,OT,BK,Bd,B0]
def rH(b:AJ):xS:=[.c [.d (.by b)]]
def DR(b:AJ):Option (Nat×AJ):=if(Bl b).2.2=0 then some ((Bl b).1,(Bl b).2.1)else none
def GN(b:AJ):Option (Bool×AJ):=match DR b with
 |some (n,r)=>if n>1 then none else some (n==1,r)
 |none=>none
def Im(b:AJ):Option (AJ×AJ):=if(BI b).2.2=0 then some ((BI b).1,(BI b).2.1)else none
def KJ(b:AJ):Option (Ad×AJ):=if(BZ b).2.2=0 then some ((BZ b).1,(BZ b).2.1)else none
def HT(b:AJ):Option (AK×AJ):=match Im b with
 |none=>none
 |some (k,b1)=>match DR b1 with
  |none=>none
  |some (v,b2)=>match DR b2 with
   |none=>none
   |some (n,b3)=>match GN b3 with
    |none=>none
    |some (g,b4)=>some (⟨k,v,n,g⟩,b4)
variable {b r:AJ}{n:Nat}
theorem JS(h:DR b=some (n,r)):Bl b=(n,r,0):=by
 unfold DR at h;split at h
 .rename_i e;cases h;rw[<-e]
 .cases h
theorem Ty(h:DR b=none):(Bl b).2.2≠0:=by
 unfold DR at h;split at h
 .cases h
 .assumption
variable {s:AJ}
theorem Mp(h:Im b=some (s,r)):BI b=(s,r,0):=by
 unfold Im at h;split at h
 .rename_i e;cases h;rw[<-e]
 .cases h
theorem Zu(h:Im b=none):(BI b).2.2≠0:=by
 unfold Im at h;split at h
 .cases h
 .assumption
theorem Mo{l:Ad}(h:KJ b=some (l,r)):BZ b=(l,r,0):=by
 unfold KJ at h;split at h
 .rename_i e;cases h;rw[<-e]
 .cases h
theorem Zt(h:KJ b=none):(BZ b).2.2≠0:=by
 unfold KJ at h;split at h
 .cases h
 .assumption
theorem Hs(b:AJ):(Bl b).2.1.length<=b.length:=by
 unfold Bl;split
 .simp
 .repeat' split
  all_goals simp
  omega
theorem Bb(h:DR b=some (n,r)):r.length<=b.length:=by
 have:=Hs b;rw[JS h]at this;exact this
theorem Lh(h:Im b=some (s,r)):r.length<=b.length:=by
 have e:=Mp h;unfold BI at e;split at e
 .simp at e
 .split at e
  .simp at e
  .simp only[xZ]at e;rw[<-e.2.1];simp;omega
theorem P8{g:Bool}(h:GN b=some (g,r)):r.length<=b.length:=by
 unfold GN at h;split at h
 .rename_i n r' e;split at h
  .cases h
  .cases h;exact Bb e
 .cases h
theorem Bu(b:AJ)(hb:b.length<70368744177664)(n:Nat)(r:AJ)(h:DR b=some (n,r)):xC 260 [.ptr 0 0 1] (rH b) (.wo n) (rH r):=by
 have ht:=N9 b hb;rw[JS h]at ht;unfold De at ht;refine zD AF Tryz.func260 ?_;unfold rH;refine wd Hz [] A4 (Ax @ht (Hq 12)) ?_;exact⟨⟨[(2,.wo n)],rH r,Tryz.f260.ntmps⟩,(A6.ck rfl),xH _,_,_,rfl,rfl,rfl,rfl⟩
theorem Dh(b:AJ)(hb:b.length<70368744177664)(h:DR b=none):MY Tryz.prog 260 [.ptr 0 0 1] (rH b) (pF 12) [.gone]:=by
 have ht:=N9 b hb;unfold De at ht;have hd:=RB (Bl b).2.2 12 (Ty h);refine zX AF Tryz.func260 ?_;unfold rH;have x1:=Ds.mk [] (hd);refine wd Hz [] A4 (AM @ht) ?_;clear x1;exact⟨rfl,⟨[],[.gone],Tryz.f260.ntmps⟩,(A6.ck rfl),xH _,rfl⟩
theorem Vw(b:AJ)(hb:b.length<70368744177664)(s r:AJ)(h:Im b=some (s,r)):xC 266 [.ptr 0 0 1] (rH b) (.xE s) (rH r):=by
 have ht:=Pa b hb;rw[Mp h]at ht;unfold HS at ht;refine zD AF Tryz.func266 ?_;unfold rH;refine wd Hz [] A4 (Ax @ht (Hq 12)) ?_;exact⟨⟨[(2,.xE s)],rH r,Tryz.f266.ntmps⟩,(A6.ck rfl),xH _,_,_,rfl,rfl,rfl,rfl⟩
theorem dK(b:AJ)(hb:b.length<70368744177664)(h:Im b=none):MY Tryz.prog 266 [.ptr 0 0 1] (rH b) (pF 12) [.gone]:=by
 have ht:=Pa b hb;unfold HS at ht;have hd:=RB (BI b).2.2 12 (Zu h);refine zX AF Tryz.func266 ?_;unfold rH;have x1:=Ds.mk [] (hd);refine wd Hz [] A4 (AM @ht) ?_;clear x1;exact⟨rfl,⟨[],[.gone],Tryz.f266.ntmps⟩,(A6.ck rfl),xH _,rfl⟩
theorem VH(b:AJ)(hb:b.length<70368744177664)(l:Ad)(r:AJ)(h:KJ b=some (l,r)):xC 268 [.ptr 0 0 1] (rH b) (.xG l) (rH r):=by
 have ht:=PZ b hb;rw[Mo h]at ht;unfold IL at ht;refine zD AF Tryz.func268 ?_;unfold rH;refine wd Hz [] A4 (Ax @ht (Hq 12)) ?_;exact⟨⟨[(2,.xG l)],rH r,Tryz.f268.ntmps⟩,(A6.ck rfl),xH _,_,_,rfl,rfl,rfl,rfl⟩
theorem pM(b:AJ)(hb:b.length<70368744177664)(h:KJ b=none):MY Tryz.prog 268 [.ptr 0 0 1] (rH b) (pF 12) [.gone]:=by
 have ht:=PZ b hb;unfold IL at ht;have hd:=RB (BZ b).2.2 12 (Zt h);refine zX AF Tryz.func268 ?_;unfold rH;have x1:=Ds.mk [] (hd);refine wd Hz [] A4 (AM @ht) ?_;clear x1;exact⟨rfl,⟨[],[.gone],Tryz.f268.ntmps⟩,(A6.ck rfl),xH _,rfl⟩
theorem Uv(b:AJ)(hb:b.length<70368744177664)(g:Bool)(r:AJ)(h:GN b=some (g,r)):xC 262 [.ptr 0 0 1] (rH b) (.wu g) (rH r):=by
 unfold GN at h;split at h
 .rename_i n r' hn;split at h
  .cases h
  .rename_i h1;simp only[xJ,xZ]at h;obtain⟨rfl,rfl⟩:=h;have ht:=Bu b hb n r' hn;have e:((n:Int)==1)=(n==1):=by rw[F2,F2];congr 1;simp;omega
   refine zD AF Tryz.func262 ?_;unfold rH at *;have d1:=Ds.mk [0] (ht);refine wd [0,2,3,7] [] (AM e) A4 ?_;clear d1;with_reducible repeat' first|constructor|intro hc
   exact⟨⟨[(2,.wu (n==1))],rH r',Tryz.f262.ntmps⟩,(A6.ck rfl),xH _,_,_,rfl,rfl,rfl,rfl⟩
 .cases h
theorem Uu(b:AJ)(hb:b.length<70368744177664)(h:GN b=none):MY Tryz.prog 262 [.ptr 0 0 1] (rH b) (pF 12) [.gone]:=by
 unfold GN at h;refine zX AF Tryz.func262 ?_;split at h
 .rename_i n r' hn;split at h
  .rename_i h1;have ht:=Bu b hb n r' hn;unfold rH at *;have d1:=Ds.mk [0] (ht);refine wd [0,2,3,7] [] A4 A4 ?_;clear d1;with_reducible repeat' first|constructor|intro hc
   exact⟨rfl,⟨[],[.gone],Tryz.f262.ntmps⟩,(A6.ck rfl),xH _,rfl⟩
  .cases h
 .rename_i hn;have ht:=Dh b hb hn;unfold rH at *;have x1:=Ds.mk [0] (ht);refine wd [0,2,3,7] [] A4 A4 ?_;clear x1;exact⟨rfl,⟨[],[.gone],Tryz.f262.ntmps⟩,(A6.ck rfl),xH _,rfl⟩
theorem cf(b:AJ)(hb:b.length<70368744177664)(x:AK)(r:AJ)(h:HT b=some (x,r)):xC 264 [.ptr 0 0 1] (rH b) (.d x.d) (rH r):=by
 unfold HT at h;split at h
 .cases h
 rename_i k b1 h1;split at h
 .cases h
 rename_i v b2 h2;split at h
 .cases h
 rename_i n b3 h3;split at h
 .cases h
 rename_i g b4 h4;simp only[xJ,xZ]at h;obtain⟨rfl,rfl⟩:=h;have l1:=Lh h1;have l2:=Bb h2;have l3:=Bb h3;have c1:=Vw b hb k b1 h1;have c2:=Bu b1 om v b2 h2;have c3:=Bu b2 om n b3 h3;have c4:=Uv b3 om g b4 h4;refine BJ.drop (K:=[.c [.d (.by b4)],.c [.xE k,.wo v,.wo n,.wu g]]) _ ?_ ⟨.inr rfl,trivial⟩ rfl rfl rfl;refine zD AF Tryz.func264 ?_;unfold rH at *;have d1:=Ds.mk [0] (c1);have d2:=Ds.mk [0] (c2);have d3:=Ds.mk [0] (c3);have d4:=Ds.mk [0] (c4);refine wd [0,2] [] A4 A4 ?_;clear d4 d3 d2 d1;exact⟨_,A6.refl _,Nat.le_add_right _ _,_,_,rfl,rfl,rfl,rfl⟩
theorem ce(b:AJ)(hb:b.length<70368744177664)(h:HT b=none):MY Tryz.prog 264 [.ptr 0 0 1] (rH b) (pF 12) [.gone]:=by
 refine zX AF Tryz.func264 ?_
 cases h1:Im b with
 |none=>
  have c1:=dK b hb h1;unfold rH at *;have x1:=Ds.mk [0] (c1);refine wd [0,2] [] A4 A4 ?_;clear x1;exact⟨rfl,⟨[],[.gone],Tryz.f264.ntmps⟩,(A6.ck rfl),xH _,rfl⟩
 |some p=>
 obtain⟨k,b1⟩:=p;have l1:=Lh h1;have c1:=Vw b hb k b1 h1
 cases h2:DR b1 with
 |none=>
  have c2:=Dh b1 om h2;unfold rH at *;have d1:=Ds.mk [0] (c1);have x1:=Ds.mk [0] (c2);refine wd [0,2] [] A4 A4 ?_;clear x1 d1;exact⟨rfl,⟨[],[.gone],Tryz.f264.ntmps⟩,(A6.ck rfl),xH _,rfl⟩
 |some p=>
 obtain⟨v,b2⟩:=p;have l2:=Bb h2;have c2:=Bu b1 om v b2 h2
 cases h3:DR b2 with
 |none=>
  have c3:=Dh b2 om h3;unfold rH at *;have d1:=Ds.mk [0] (c1);have d2:=Ds.mk [0] (c2);have x1:=Ds.mk [0] (c3);refine wd [0,2] [] A4 A4 ?_;clear x1 d2 d1;exact⟨rfl,⟨[],[.gone],Tryz.f264.ntmps⟩,(A6.ck rfl),xH _,rfl⟩
 |some p=>
 obtain⟨n,b3⟩:=p;have l3:=Bb h3;have c3:=Bu b2 om n b3 h3
 cases h4:GN b3 with
 |none=>
  have c4:=Uu b3 om h4;unfold rH at *;have d1:=Ds.mk [0] (c1);have d2:=Ds.mk [0] (c2);have d3:=Ds.mk [0] (c3);have x1:=Ds.mk [0] (c4);refine wd [0,2] [] A4 A4 ?_;clear x1 d3 d2 d1;exact⟨rfl,⟨[],[.gone],Tryz.f264.ntmps⟩,(A6.ck rfl),xH _,rfl⟩
 |some p=>
  unfold HT at h;simp only[h1,h2,h3,h4]at h;cases h
theorem U0{x:AK}(h:HT b=some (x,r)):r.length<=b.length:=by
 unfold HT at h;split at h
 .cases h
 rename_i k b1 h1;split at h
 .cases h
 rename_i v b2 h2;split at h
 .cases h
 rename_i n b3 h3;split at h
 .cases h
 rename_i g b4 h4;simp only[xJ,xZ]at h;obtain⟨rfl,rfl⟩:=h;have l1:=Lh h1;have l2:=Bb h2;have l3:=Bb h3;have l4:=P8 h4;omega
def GO(m:AC)(b:AJ):Option (AC×AJ):=match DR b with
 |none=>none
 |some (k,b1)=>if k>=13 then none else match DR b1 with
  |none=>none
  |some (c,b2)=>match DR b2 with
   |none=>none
   |some (s,b3)=>match DR b3 with
    |none=>none
    |some (d,b4)=>some ({m with AR:=k,Aa:=c,As:=s,dst:=d},b4)
def hH(m:AC)(b:AJ):xS:=[.c [.d (.by b)],.c (mC m)]
def uC:xD:=List.replicate 15 .u
theorem V3(m:AC)(b:AJ)(hb:b.length<70368744177664)(m':AC)(r:AJ)(h:GO m b=some (m',r)):xC 181 [.ptr 0 0 1,.ptr 1 0 15] (hH m b) (.tup []) (hH m' r):=by
 unfold GO at h;split at h
 .cases h
 rename_i k b1 h1;split at h
 .cases h
 rename_i hk;split at h
 .cases h
 rename_i c b2 h2;split at h
 .cases h
 rename_i s b3 h3;split at h
 .cases h
 rename_i d b4 h4;simp only[xJ,xZ]at h;obtain⟨rfl,rfl⟩:=h;have l1:=Bb h1;have l2:=Bb h2;have l3:=Bb h3;have c1:=Bu b hb k b1 h1;have c2:=Bu b1 om c b2 h2;have c3:=Bu b2 om s b3 h3;have c4:=Bu b3 om d b4 h4;have e:(k:Int)%256=k:=om
 refine zD AF Tryz.func181 ?_;unfold rH hH mC at *;have d1:=Ds.mk [0] (c1);have d2:=Ds.mk [0] (c2);have d3:=Ds.mk [0] (c3);have d4:=Ds.mk [0] (c4);refine wd [0,1,4,8] [] (AM e) A4 ?_;clear d4 d3 d2 d1;with_reducible repeat' first|constructor|intro hc
 exact⟨_,A6.refl _,xH _,_,_,rfl,rfl,rfl,rfl⟩
theorem uI{E:Nat->Option Be}{env:xF}{cs:xD}(hcs:cs.length=15):A6 ⟨env,[.c [.d (.by b)],.c cs],n⟩ ⟨[],[.gone,.c uC],n⟩:=
 (A6.us (S:=⟨env,[.c [.d (.by b)],.c cs],n⟩) 1 15 rfl hcs.symm).trans' (A6.cut (S':=⟨[],[.gone,.c uC],n⟩) rfl trivial ⟨.inl ⟨rfl,rfl⟩,.inr rfl,trivial⟩ rfl rfl) (xH _)
theorem oy(m:AC)(b:AJ)(hb:b.length<70368744177664)(h:GO m b=none):MY Tryz.prog 181 [.ptr 0 0 1,.ptr 1 0 15] (hH m b) (pF 12) [.gone,.c uC]:=by
 refine zX AF Tryz.func181 ?_;unfold GO at h
 cases h1:DR b with
 |none=>
  have c1:=Dh b hb h1;unfold hH rH mC at *;have x1:=Ds.mk [0] (c1);refine wd [0,1,4,8] [] A4 A4 ?_;clear x1;exact⟨rfl,_,(A6.us (S:=⟨_,[.gone,.c _],_⟩) 1 15 rfl rfl),xH _,rfl⟩
 |some p=>
 obtain⟨k,b1⟩:=p;rw[h1]at h;simp only at h;have l1:=Bb h1;have c1:=Bu b hb k b1 h1;split at h
 .rename_i hk;unfold hH rH mC at *;have d1:=Ds.mk [0] (c1);refine wd [0,1,4,8] [] A4 A4 ?_;clear d1;with_reducible repeat' first|constructor|intro hc
  exact⟨rfl,_,uI (E:=T.get) rfl,xH _,rfl⟩
 rename_i hk;have e:(k:Int)%256=k:=om
 cases h2:DR b1 with
 |none=>
  have c2:=Dh b1 om h2;unfold hH rH mC at *;have d1:=Ds.mk [0] (c1);have x1:=Ds.mk [0] (c2);refine wd [0,1,4,8] [] (AM e) A4 ?_;clear x1 d1;with_reducible repeat' first|constructor|intro hc
  exact⟨rfl,_,(A6.us (S:=⟨_,[.gone,.c _],_⟩) 1 15 rfl rfl),xH _,rfl⟩
 |some p=>
 obtain⟨c,b2⟩:=p;rw[h2]at h;simp only at h;have l2:=Bb h2;have c2:=Bu b1 om c b2 h2
 cases h3:DR b2 with
 |none=>
  have c3:=Dh b2 om h3;unfold hH rH mC at *;have d1:=Ds.mk [0] (c1);have d2:=Ds.mk [0] (c2);have x1:=Ds.mk [0] (c3);refine wd [0,1,4,8] [] (AM e) A4 ?_;clear x1 d2 d1;with_reducible repeat' first|constructor|intro hc
  exact⟨rfl,_,(A6.us (S:=⟨_,[.gone,.c _],_⟩) 1 15 rfl rfl),xH _,rfl⟩
 |some p=>
 obtain⟨s,b3⟩:=p;rw[h3]at h;simp only at h;have l3:=Bb h3;have c3:=Bu b2 om s b3 h3
 cases h4:DR b3 with
 |none=>
  have c4:=Dh b3 om h4;unfold hH rH mC at *;have d1:=Ds.mk [0] (c1);have d2:=Ds.mk [0] (c2);have d3:=Ds.mk [0] (c3);have x1:=Ds.mk [0] (c4);refine wd [0,1,4,8] [] (AM e) A4 ?_;clear x1 d3 d2 d1;with_reducible repeat' first|constructor|intro hc
  exact⟨rfl,_,(A6.us (S:=⟨_,[.gone,.c _],_⟩) 1 15 rfl rfl),xH _,rfl⟩
 |some p=>
  rw[h4]at h;cases h
theorem PC{m m':AC}(h:GO m b=some (m',r)):r.length<=b.length:=by
 unfold GO at h;split at h
 .cases h
 rename_i k b1 h1;split at h
 .cases h
 split at h
 .cases h
 rename_i c b2 h2;split at h
 .cases h
 rename_i s b3 h3;split at h
 .cases h
 rename_i d b4 h4;simp only[xJ,xZ]at h;obtain⟨rfl,rfl⟩:=h;have l1:=Bb h1;have l2:=Bb h2;have l3:=Bb h3;have l4:=Bb h4;omega
end Wi
end Go.Proofs.YtkljbfejbakooaaGreatDoor
namespace Go.Proofs.YtkljbfejbakooaaGreatDoor
open Go.Gar Go.Shelf Go.Sort Go.RowKit Go.Lib
theorem Mj:iM (Value.int .i64) D.is (fun x=> .i .i64 x) where
 sl _:=rfl
 ok _:=trivial
 c _:=rfl
 n _:=rfl
 z _:=rfl
 r m a v:=by simp only[RD]
 one _:=rfl
theorem vS(p x:Int)(B:Nat)(W:World)(hc:W.cell? ⟨B,0,none⟩=some (.int .i64 p)):FnGives Tryz.prog 337 #[.pointer (some ⟨B,0,none⟩)] #[.int .i64 x] (.bool (x==p)) W:=by
 show Calls Tryz.prog 337 #[.int .i64 x,.pointer (some ⟨B,0,none⟩)] W _
 go_enter Tryz.func337,Tryz.ntmps337
 go_wp2
 all_goals(go_ret;exact⟨by simp_all,0,rfl⟩)
theorem sH(p:Int)(B:Nat)(w:World)(hB:B<w.heap.size)(hcell:w.cell? ⟨B,0,none⟩=some (.int .i64 p)):
  PredAt Tryz.prog 337 #[.pointer (some ⟨B,0,none⟩)] (Value.int .i64) (fun x=>x==p) w:=
 fun W x hb=>vS p x B W ((hb.cell (p:=⟨B,0,none⟩) hB).trans hcell)
theorem jW(p:Int)(B blk off size:Nat)(w:World)(hB:B<w.heap.size)(hne:B≠blk)(hcell:w.cell? ⟨B,0,none⟩=some (.int .i64 p)):
  PredOver Tryz.prog 337 #[.pointer (some ⟨B,0,none⟩)] (Value.int .i64) (fun x=>x==p) blk off size w:=
 fun n os dk x _=>vS p x B _ (by
  unfold sortWorld;rw[cell?_grow _ _ _ (by show B<(putRow _ _ _ _ _).heap.size;rw[size_putRow];exact hB),cell?_putRow_other _ _ blk off _ _ (Or.inl hne)]
  exact hcell)
theorem jZ(l:Ad)(p:Int):(C1 l p).length<=l.length:=yu _ _
theorem jV(p:Int)(zs:Ad)(h0:zs≠[])(h:zs.length<=1048576):
  xC 336 [.sl 1 zs.length 1,.fn (.func 337) [] [.ptr 0 0 1]] [.c [.wo p],.a (.is zs)] (.sl 2 (C1 zs p).length 1) [.c [.wo p],.gone,.a (.is (C1 zs p))]:=by
 refine⟨⟨_,Tryz.func336,rfl,rfl⟩,fun G w vs hG hR hv=> ?_⟩;rw[callsIn_wide];obtain⟨v,r0,hvs,hv1,u,r1,hr0,hv2,hr1⟩:=hv;simp only[Ba]at hr1;subst hr1;subst hr0;have hvs':vs= #[v,u]:=by rw[<-Array.toArray_toList (xs:=vs),hvs]
 subst hvs';simp only[RV]at hv1 hv2;obtain⟨p',q,rfl,hp0,hq⟩:=hv2;simp only[Ba]at hp0 hq;subst hp0;obtain⟨pv,r2,rfl,hpv,rfl⟩:=hq;simp only[RV]at hpv;obtain⟨_,blk0,hb0',hpt⟩:=hpv;have hbc:G.H[0]? =some (.c [.wo p]):=by rw[hG];rfl
 rw[hbc]at hb0';cases hb0';obtain⟨_,c,Nc,hρc,rfl⟩:=hpt;obtain⟨_,blk,hb,hp⟩:=hv1;have hb1:G.H[1]? =some (.a (.is zs)):=by rw[hG];rfl
 rw[hb1]at hb;cases hb;obtain⟨_,_,hp⟩:=hp;have hl:=jZ zs p;let G':Gh:={ρ:=fun id=>if id=2 then G.ρ 1 else G.ρ id,H:=[.c [.wo p],.gone,.a (.is (C1 zs p))],m:=G.m}
 have gle:J2 G G':=by
  refine⟨fun id q hq=> ?_,Mem.le_refl _⟩;rw[hG]at hq
  match id with
  |0=>cases hq;exact⟨_,rfl,rfl,rfl⟩
  |1=>cases hq;exact⟨.gone,rfl,trivial⟩
  |i+2=>simp at hq
 have own':∀c,Own G' c↔Own G c:=by
  intro c;constructor
  .rintro⟨j,M,q,hq,lq,hr⟩
   match j with
   |0=>exact⟨0,M,_,hbc,rfl,hr⟩
   |1=>cases hq;cases lq
   |2=>exact⟨1,M,_,hb1,rfl,hr⟩
   |j+3=>cases hq
  .rintro⟨j,M,q,hq,lq,hr⟩;rw[hG]at hq
   match j with
   |0=>exact⟨0,M,_,rfl,rfl,hr⟩
   |1=>exact⟨2,M,_,rfl,rfl,hr⟩
   |j+2=>simp at hq
 rcases hp (by rw[Mj.n])with⟨hz,a,rfl⟩|⟨b,N,cap,hρ,rfl,hnc,hcm,hN⟩
 .exact absurd (q09.1 hz) h0
 .obtain⟨_,_,hB⟩:=hR.blk 1 _ hb1;rcases hB with⟨_,hno⟩|⟨b',N',vs,T,hρ',hw,hM,hcell⟩
  .rw[hρ]at hno;cases hno
  rw[hρ]at hρ';cases hρ';have hBc:=hR.blk 0 _ hbc;obtain⟨c',Nc',vc,Tc,hρc',hwc,hMc,hlc,hcc⟩:=hBc;rw[hρc]at hρc';cases hρc';have hlt:b<w.heap.size:=(y5.1 hw).1;have hltc:c<w.heap.size:=(y5.1 hwc).1
  have hne:c≠b:=fun e=>by
   subst e;have:=hR.inj 0 1 _ _ _ _ _ hbc hb1 rfl rfl hρc hρ;cases this
  have hcid:w.cell? ⟨c,0,none⟩=some (.int .i64 p):=by
   obtain⟨v0,q1,q2⟩:=hcc 0 (.wo p) rfl;simp only[RV,RD]at q2;subst q2;unfold World.cell?;simp only[hwc,Option.isSome_none,yJ,yC];exact q1
  have hrun:=AnyE.slices_DeleteFunc Tryz.l9 (Value.int .i64) (fun _=>rfl) (fun x=>x==p) 337 #[.pointer (some ⟨c,0,none⟩)] (enters_of Tryz.func337 (by kernel_rfl) rfl) 0 Tryz.zeroValue3 b 0 cap zs.toArray w (sH p c w hltc hcid) (jW p c b 0 zs.toArray.size w hltc hne hcid) (gB Mj hw hcell) (by simp;omega) (by simpa using hnc);refine hrun.mono ?_;rintro e w' ⟨rfl,n,rfl⟩;have hvl:zs.length<=vs.size:=om
  have e1:(zs.toArray.toList.filter fun x=> !(x==p))=C1 zs p:=rfl;rw[e1,putRow_ahead,aP (Value.int .i64) hw]
  have hoth:∀d,¬Own G d\/d=c->(Sort.ahead (w.setRow b (putCells (Value.int .i64) 0 (C1 zs p++List.replicate (zs.toArray.size-(C1 zs p).length) 0).toArray vs)) n).heap[d]? =w.heap[d]?:=fun d hd=>setRow_other w b d _ (fun e=>by
   rcases hd with hd|hd
   .exact hd (by rw[e];exact⟨1,N,_,hb1,rfl,hρ⟩)
   .exact hne (hd▸e))
  have hB':BR G' (Sort.ahead (w.setRow b (putCells (Value.int .i64) 0 (C1 zs p++List.replicate (zs.toArray.size-(C1 zs p).length) 0).toArray vs)) n) 2 (.a (.is (C1 zs p))):=by
   refine⟨Mj.sl _,Mj.ok _,.inr ⟨b,N,_,T,hρ,setRow_heap w b vs _ T _ hw,by simp[putCells];omega,?_⟩⟩;refine gA Mj (fun k hk=>⟨by simp;omega,?_⟩) om;rw[getElem!_pos _ k (by simp;omega),xu,xP hk];simp[List.getElem_append_left,hk]
  have hH:BM G' (Sort.ahead (w.setRow b (putCells (Value.int .i64) 0 (C1 zs p++List.replicate (zs.toArray.size-(C1 zs p).length) 0).toArray vs)) n):=by
   refine⟨fun id q hq=> ?_,fun i j q r d N1 N2 hq hr lq lr e1 e2=> ?_,fun d k v hv=> ?_,fun d hd k=>hR.sep d ((own' d).1 hd) k,hR.st⟩
   .match id with
    |0=>
     cases hq;exact(hR.blk 0 _ hbc).QN gle (fun d M _ hd=>hoth d (.inr (by rw[hρc]at hd;cases hd;rfl))) rfl
    |1=>cases hq;trivial
    |2=>cases hq;exact hB'
    |j+3=>cases hq
   .match i,j with
    |0,0=>rfl
    |2,2=>rfl
    |0,2=>exact absurd (hR.inj 0 1 _ _ _ _ _ hbc hb1 rfl rfl e1 e2) (by decide)
    |2,0=>exact absurd (hR.inj 1 0 _ _ _ _ _ hb1 hbc rfl rfl e1 e2) (by decide)
    |1,_=>cases hq;cases lq
    |_,1=>cases hr;cases lr
    |j+3,_=>cases hq
    |_,j+3=>cases hr
   .have hno:¬Own G d:=fun h=>by rw[hR.sep d h k]at hv;cases hv
    rw[World.cell?_of_block (w:=w) (hoth d (.inl hno))];exact hR.mem d k v hv
  refine⟨_,.sl 2 (C1 zs p).length 1,G',rfl,⟨rfl,rfl⟩,?_,hH,⟨rfl,rfl,rfl,by show w.heap.size<=(w.setRow b _).heap.size;simp,fun d hd ho=>⟨hoth d (.inl ho),fun h=>ho ((own' d).1 h)⟩,fun _ _ _ hv=> .inl hv,gle⟩⟩;simp only[RV];exact⟨rfl,.a (.is (C1 zs p)),rfl,Mj.z _,by rw[Mj.n];exact xH _,fun _=> .inr ⟨b,N,cap,hρ,rfl,om,hcm,hN⟩⟩
end Go.Proofs.YtkljbfejbakooaaGreatDoor
namespace Go.Proofs.YtkljbfejbakooaaGreatDoor
namespace Nd
open Go.Gar
open Wi (AC Bp BE AN Bc mC)
abbrev Lx:Aw:=[0,1,2,4,6,16,27,37]
theorem dS(l:Ad)(hl:l.length<=1048576):xC 151 [.xG l] [] (.sl 0 l.length 1) [.a (.is l)]:=by
 refine zD AF Tryz.func151 ?_;have nS:=zl
 repeat'(first|((with_reducible refine sg ?_);first|with_reducible rfl|((with_reducible refine Pz ?_);first|kernel_rfl|rfl|(simp[GX,JI,nS];done))|with_reducible refine Ki ?_ ?_|with_reducible exact zn _|with_reducible exact E4 _|((with_reducible refine xM ?_);first|omega|(simp only[KZ,nS];omega))|decide|(simp[KZ,slc,DF,D.one,FE,AV.one,nS];done)|(simp[KZ,nS];omega))|((with_reducible refine kI ?_);first|(refine Fy rfl ?_;refine ic AF rfl rfl rfl rfl ?_)|refine oE [7] AF rfl rfl rfl rfl rfl rfl ?_ ?_|refine rb AF rfl rfl rfl rfl rfl rfl (fun hnil=> ?_) ?_|refine re AF rfl rfl rfl rfl rfl rfl (fun hnil=> ?_) ?_|refine Xq AF rfl rfl rfl rfl ?_ ?_|refine Xn [0,2,4] rfl ?_|refine Xw AF rfl rfl rfl rfl ?_ ?_)|refine J6 ?_|refine EW ?_|refine GV ?_|refine J5 ?_|refine F0 ?_|refine GU ?_|refine E1 rfl ?_|refine E0 rfl ?_|(refine GT rfl (fun hc=> ?_) (fun hc=> ?_)<;>(try simp only[Pu]at hc)<;>(try(exfalso;omega))))
 .have e:=is_nil hnil;subst e;refine wd [0,2,4] [] A4 A4 ?_;exact⟨_,A6.bP 2 (.is []) rfl rfl rfl trivial,xQ _,_,_,rfl,rfl,rfl,rfl⟩
 .exact⟨_,(A6.ck rfl),xQ _,_,_,rfl,rfl,rfl,rfl⟩
theorem Fn.own{P:Program}{f:FuncId}{x a:D}{sz:Nat}{t:Bool}(h:Go.Gar.Fn P f [x,a] (.b t)):BJ P f [.sl 0 (BK x) sz,.d a] [.a x] (.wu t) [.a x]:=by
 refine⟨h.1,fun G w vs hG hR hv=> ?_⟩;have hid:G.H[0]? =some (.a x):=by rw[hG];rfl
 have hF:=(Jo hR hid).1;have hv2:=Ba.Fu hR hid hv;have e1:AV.Hd 0 x [.sl 0 (BK x) sz,.d a]=[x,a].map .d:=by simp[AV.Hd,AV.Fu]
 rw[e1]at hv2;refine(h.2 _ w vs hF.mem hF.st (Ke.1 hv2)).mono ?_;rintro e w' ⟨v,m',rfl,hr,hle,hok,hnew,ho,ht,hou,hs,hk⟩;have hlow:∀b,b<w.heap.size->w'.heap[b]? =w.heap[b]?:=hk
 have hH:BM G w':=by
  refine⟨fun id q hq=>(hR.blk id q hq).QN (J2.refl G) (fun b N hl hρ=>hlow b (FH hR ⟨id,N,q,hq,hl,hρ⟩)) rfl,hR.inj,fun b k v hv=> ?_,hR.sep,hR.st⟩;have hc:=hR.mem b k v hv
  have hb:b<w.heap.size:=by
   unfold World.cell? at hc;rcases yO b w.heap.size with hlt|hge
   .exact hlt
   .simp[Array.getElem?_eq_none hge]at hc
  rw[World.cell?_of_block (w:=w) (hlow b hb)];exact hc
 exact⟨_,.wu t,G,rfl,⟨rfl,hG⟩,by simp only[RD]at hr;subst hr;simp only[RV,RD],hH,⟨ho,ht,hou,hs,fun b hb ho=>⟨hk b hb,ho⟩,fun _ _ _ hv=> .inl hv,J2.refl G⟩⟩
abbrev JL(j:An)(lf:AV):xD:=[.wz j.AL,.wz j.A5,.wo j.Ak.AH,.wo j.Ak.Cj,.wo j.Ak.Bn,.wu j.Ak.B4,.wu j.Ak.CB,.wo j.Ak.AQ,.xE j.A9.AH,.wo j.A9.B2,.wo j.A9.AZ,.wu j.A9.gone,.wo j.AO,lf,.wo j.AQ]
theorem kh(j:An)(h:j.left.length<=1048576)(h0:j.left≠[]):xC 86 [.d j.d] [] (.ag (JL j (.sl 2 j.left.length 1))) [.gone,.c (JL j (.sl 2 j.left.length 1)),.a (.is j.left)]:=by
 have c1:=dS j.left h;have f1:=eq_false' (show(j.left.length:Int)≠0 by have:=List.length_pos_iff.2 h0;omega);refine zD AF Tryz.func86 ?_;unfold An.d An.A0;have d1:=Ds.mk [] (c1);refine wd [0,1,2,6] [] (AM f1) A4 ?_;clear d1;exact⟨⟨[(2,.ptr 1 0 15)],[.gone,.c (JL j (.sl 2 j.left.length 1)),.a (.is j.left)],_⟩,(A6.ck rfl),xQ _,_,_,rfl,rfl,rfl,rfl⟩
theorem dR(v:AD)(j:An)(p e:Int)(h:p∉j.left)(hn:j.left.length<=100000):xC 287 [.ptr 0 0 37,.wo p,.wo e] [.c (jC v j (.xG j.left) .e0 false)] (.tup []) (jE v ⟨Dm j p e,[],false⟩):=by
 have c1:=IW j.left p om;rw[xO h]at c1;refine zD AF Tryz.func287 ?_;have hj:Dm j p e=j:=if_neg h;rw[hj];unfold jE jC;refine wd Lx [] A4 (AM @c1) ?_;exact⟨⟨[],[.c (jC v j (.xG j.left) (.d (Ap [])) false)],_⟩,(A6.trans' (A6.JF 0 35 (.sl 15 []) rfl rfl rfl rfl (by simp[B0])) (A6.ck rfl) xA),xA,_,_,rfl,rfl,rfl,rfl⟩
theorem YV(v:AD)(j:An)(p e:Int)(h:p∈j.left)(hn:j.left.length<=100000):xC 287 [.ptr 0 0 37,.wo p,.wo e] [.c (jC v j (.sl 1 j.left.length 1) .e0 false),.a (.is j.left)] (.tup []) (jE v ⟨Dm j p e,[],false⟩++[.gone]):=by
 obtain⟨AL,A5,Ak,A9,AO,left,AQ⟩:=j;have h0:left≠[]:=fun e=>by dsimp only at h;rw[e]at h;cases h
 have hn':left.length<=100000:=hn;have c0:=IW left p hn';rw[xM h]at c0;have c1:=Fn.own (sz:=1) c0;have c2:=jV p left h0 om;have hj:Dm ⟨AL,A5,Ak,A9,AO,left,AQ⟩ p e=⟨AL,if C1 left p=[]then 5 else A5,Ak,A9,AO,C1 left p,if e≠0 then e else AQ⟩:=if_pos h;rw[hj];generalize C1 left p=L at *;refine zD AF Tryz.func287 ?_;unfold jE jC;have d1:=Ds.mk [1] (c1);have d2:=Ds.mk [2,1] (c2);refine wd Lx [4] A4 A4 ?_;clear d2 d1;refine BC (A6.freeze 3 (x:=.is L) rfl) (by rw[E5];exact xH _) ?_;simp only[KS,EP,AI.Fu,AV.Fu,AV.Hd,KU,Nat.reduceEqDiff,Nat.reduceAdd,decide_true,q0M,BK,xw,yI,yG,yC,reduceCtorEq];clear h hn c0 c1 c2 hj
 by_cases he:e=0
 .by_cases hL:L=[]
  .subst hL;subst he;have hv:=Ik v ⟨AL,A5,Ak,A9,AO,[],AQ⟩ .e0 false rfl;unfold jC at hv;rw[if_pos rfl,if_neg (by decide)];have d1:=Ds.mk [0] (hv);refine wd Lx [] A4 A4 ?_;clear d1;exact⟨⟨[],[.c (jC v ⟨AL,5,Ak,A9,AO,[],AQ⟩ (.xG ([])) (.d (Ap [])) false),.gone],_⟩,(A6.trans' (A6.JF 0 35 (.sl 15 []) rfl rfl rfl rfl (by simp[B0])) (A6.ck rfl) xA),xA,_,_,rfl,rfl,rfl,rfl⟩
  .subst he;have hl0:((L.length:Int)==0)=false:=eq_false' (by have:=List.length_pos_iff.2 hL;omega);rw[if_neg hL,if_neg (by decide)];refine wd Lx [] (AM hl0) A4 ?_;exact⟨⟨[],[.c (jC v ⟨AL,A5,Ak,A9,AO,L,AQ⟩ (.xG L) (.d (Ap [])) false),.gone],_⟩,(A6.trans' (A6.JF 0 35 (.sl 15 []) rfl rfl rfl rfl (by simp[B0])) (A6.ck rfl) xA),xA,_,_,rfl,rfl,rfl,rfl⟩
 .have f1:(e !=0)=true:=by simpa using he
  rw[if_pos he]
  by_cases hL:L=[]
  .subst hL;have hv:=Ik v ⟨AL,A5,Ak,A9,AO,[],e⟩ .e0 false rfl;unfold jC at hv;rw[if_pos rfl];have d1:=Ds.mk [0] (hv);refine wd Lx [] (AM f1) A4 ?_;clear d1;exact⟨⟨[],[.c (jC v ⟨AL,5,Ak,A9,AO,[],e⟩ (.xG ([])) (.d (Ap [])) false),.gone],_⟩,(A6.trans' (A6.JF 0 35 (.sl 15 []) rfl rfl rfl rfl (by simp[B0])) (A6.ck rfl) xA),xA,_,_,rfl,rfl,rfl,rfl⟩
  .have hl0:((L.length:Int)==0)=false:=eq_false' (by have:=List.length_pos_iff.2 hL;omega);rw[if_neg hL];refine wd Lx [] (Ax f1 hl0) A4 ?_;exact⟨⟨[],[.c (jC v ⟨AL,A5,Ak,A9,AO,L,e⟩ (.xG L) (.d (Ap [])) false),.gone],_⟩,(A6.trans' (A6.JF 0 35 (.sl 15 []) rfl rfl rfl rfl (by simp[B0])) (A6.ck rfl) xA),xA,_,_,rfl,rfl,rfl,rfl⟩
abbrev W3:Aw:=[0,1,4,5,6,11,16]
abbrev OE:Aw:=[0,1,4,5,6,7,11,12,33,38,59]
abbrev hC(n:AA)(aq:AV):xD:=.wo n.A7.id:: .xG n.A7.AB:: .xG n.A7.A8:: .wo n.A7.AG:: .wo (n.A7.f 0):: .wo (n.A7.f 1):: .wo (n.A7.f 2):: .wo (n.A7.f 3):: .wo (n.A7.f 4):: .wo (n.A7.f 5):: .wo (n.A7.f 6):: .wo (n.A7.f 7):: .wo (n.A7.f 8):: .wo (n.A7.f 9):: .wo (n.A7.f 10):: .wo (n.A7.f 11):: .wo (n.A7.f 12):: .wo (n.A7.f 13):: .wo (n.A7.f 14):: .wo (n.A7.f 15):: .wo n.Aj:: .wo n.AX.id:: .wo n.AX.AU:: .d (Ag n.AX.op):: .d (B5 n.BO):: .wz n.A5:: .wo n.B8:: .wz n.AP.AL:: .wz n.AP.A5:: .wo n.AP.Ak.AH:: .wo n.AP.Ak.Cj:: .wo n.AP.Ak.Bn:: .wu n.AP.Ak.B4:: .wu n.AP.Ak.CB:: .wo n.AP.Ak.AQ:: .xE n.AP.A9.AH:: .wo n.AP.A9.B2:: .wo n.AP.A9.AZ:: .wu n.AP.A9.gone:: .wo n.AP.AO:: .xG n.AP.left:: .wo n.AP.AQ:: .wz n.Ai.AL:: .wz n.Ai.A5:: .wo n.Ai.Ak.AH:: .wo n.Ai.Ak.Cj:: .wo n.Ai.Ak.Bn:: .wu n.Ai.Ak.B4:: .wu n.Ai.Ak.CB:: .wo n.Ai.Ak.AQ:: .xE n.Ai.A9.AH:: .wo n.Ai.A9.B2:: .wo n.Ai.A9.AZ:: .wu n.Ai.A9.gone:: .wo n.Ai.AO:: .xG n.Ai.left:: .wo n.Ai.AQ:: .wz n.Ah.AL:: .wz n.Ah.A5:: .wo n.Ah.Ak.AH:: .wo n.Ah.Ak.Cj:: .wo n.Ah.Ak.Bn:: .wu n.Ah.Ak.B4:: .wu n.Ah.Ak.CB:: .wo n.Ah.Ak.AQ:: .xE n.Ah.A9.AH:: .wo n.Ah.A9.B2:: .wo n.Ah.A9.AZ:: .wu n.Ah.A9.gone:: .wo n.Ah.AO:: .xG n.Ah.left:: .wo n.Ah.AQ:: .wo n.next:: .xE n.last:: .d (BX n.keep):: .wo n.bad::aq::[]
theorem IH(n:AA):xC 136 [.ptr 0 0 77,.wz 5] [.c (hC n .e0)] (.ptr 0 27 77) [.c (hC n .e0)]:=by
 refine zD AF Tryz.func136 ?_;refine wd W3 [] A4 A4 ?_;exact⟨_,(A6.ck rfl),xA,_,_,rfl,rfl,rfl,rfl⟩
theorem II(n:AA):xC 136 [.ptr 0 0 77,.wz 6] [.c (hC n .e0)] (.ptr 0 42 77) [.c (hC n .e0)]:=by
 refine zD AF Tryz.func136 ?_;refine wd W3 [] A4 A4 ?_;exact⟨_,(A6.ck rfl),xA,_,_,rfl,rfl,rfl,rfl⟩
theorem IJ(n:AA):xC 136 [.ptr 0 0 77,.wz 7] [.c (hC n .e0)] (.ptr 0 57 77) [.c (hC n .e0)]:=by
 refine zD AF Tryz.func136 ?_;refine wd W3 [] A4 A4 ?_;exact⟨_,(A6.ck rfl),xA,_,_,rfl,rfl,rfl,rfl⟩
abbrev hK(n:AA)(k:List AK):AA:={n with keep:=k}
theorem Vp(n:AA)(j:An)(hn:n.keep.length<=1048576)(hs:0<=j.A9.AH.length):xC 208 [.ptr 0 0 77,.ptr 1 0 15] [.c (hC n .e0),.c (JL j (.xG j.left))] (.tup []) [.c (hC (hK n (EK n.keep j).1) .e0),.c (JL (EK n.keep j).2 (.xG ((EK n.keep j).2.left)))]:=by
 obtain⟨AL,A5,Ak,A9,AO,left,AQ⟩:=j;have c1:=cK n.keep A9 hn;have c2:=cH n.keep A9.AH hn;generalize hT:EK n.keep ⟨AL,A5,Ak,A9,AO,left,AQ⟩=T;unfold EK at hT;dsimp only at hT;unfold AK.d AK.A0 at c1;refine zD AF Tryz.func208 ?_;generalize FI n.keep A9=p at *;obtain⟨pk,pe⟩:=p;generalize E6 n.keep A9.AH=g at *;obtain⟨gi,ge⟩:=g;dsimp only at *;unfold hC
 by_cases h1:AL=2
 .have f1:=AS h1;rw[if_pos h1]at hT
  by_cases h2:pe=0
  .have f2:=AS h2;rw[if_neg (fun h=>h h2)]at hT;subst hT;refine wd OE [] (Ax f1 f2) (AM @c1) ?_;with_reducible repeat' first|constructor|intro hc
   exact⟨⟨[],[.c (hC (hK n pk) .e0),.c (JL ⟨AL,A5,Ak,A9,AO,left,AQ⟩ (.xG left))],_⟩,(A6.ck rfl),xA,_,_,rfl,rfl,rfl,rfl⟩
  .have f2:=eq_false' h2;rw[if_pos h2]at hT;subst hT;refine wd OE [] (Ax f1 f2) (AM @c1) ?_;with_reducible repeat' first|constructor|intro hc
   exact⟨⟨[],[.c (hC (hK n pk) .e0),.c (JL ⟨AL,A5,Ak,A9,AO,left,pe⟩ (.xG left))],_⟩,(A6.ck rfl),xA,_,_,rfl,rfl,rfl,rfl⟩
 rw[if_neg h1]at hT;have f1:=eq_false' h1
 by_cases h3:AL=3
 .have f3:=AS h3;rw[if_pos h3]at hT;unfold AK.d AK.A0 at c2
  by_cases h2:ge=0
  .have f2:=AS h2;rw[if_pos h2]at hT;subst hT;subst h2;refine wd OE [] (Ax f1 f3) (AM @c2) ?_ [(0,14),(1,14),(2,14),(3,14),(4,14),(5,14),(6,14),(7,14),(8,14),(9,14),(13,15)];exact⟨⟨[],[.c (hC (hK n n.keep) .e0),.c (JL ⟨AL,A5,Ak,gi,AO,left,0⟩ (.xG left))],_⟩,(A6.ck rfl),xA,_,_,rfl,rfl,rfl,rfl⟩
  .have f2:=eq_false' h2;rw[if_neg h2]at hT;subst hT;refine wd OE [] (Ci f1 f2 f3) (AM @c2) ?_ [(0,14),(1,14),(2,14),(3,14),(4,14),(5,14),(6,14),(7,14),(8,14),(9,14),(13,15)];exact⟨⟨[],[.c (hC (hK n n.keep) .e0),.c (JL ⟨AL,A5,Ak,A9,AO,left,ge⟩ (.xG left))],_⟩,(A6.ck rfl),xA,_,_,rfl,rfl,rfl,rfl⟩
 .have f3:=eq_false' h3;rw[if_neg h3]at hT;subst hT;refine wd OE [] (Ax f1 f3) A4 ?_;exact⟨⟨[],[.c (hC (hK n n.keep) .e0),.c (JL ⟨AL,A5,Ak,A9,AO,left,AQ⟩ (.xG left))],_⟩,(A6.ck rfl),xA,_,_,rfl,rfl,rfl,rfl⟩
abbrev Qd:Aw:=[0,1,2,4,5,9,10]
theorem Vk(n:Int):xB 362 [.i .i64 n] (.i .i64 (Cp n)):=by
 have e:=iu n;refine zF AF Tryz.func362 ?_;refine wd [0,2] [] (AM e) A4 ?_;exact zE
theorem pU(n:Int)(b:UInt8):xB 364 [.i .i64 n,.i .u8 (b.toNat:Int)] (.i .i64 (lT n b)):=by
 have c1:=Vk n;have c2:=Vk (40503*Cp n+(b.toNat:Int)+1);have hp:=PD n;have hb:b.toNat<256:=b.toNat_lt;have hT:lT n b=Cp (40503*Cp n+(b.toNat:Int)+1):=rfl;rw[hT];clear hT;refine zF AF Tryz.func364 ?_;generalize Cp n=p at *;refine wd [0,1,4] [] A4 (Ax @c1 @c2) ?_;exact zE
theorem jM(s:AJ):xC 363 [.xE s] [] (.fn (.func 368) [] [.ptr 0 0 1]) [.c [.xE s]]:=by
 refine zD AF Tryz.func363 ?_;refine wd [0,1,2] [] A4 A4 ?_;exact⟨_,(A6.ck rfl),xQ _,_,_,rfl,rfl,rfl,rfl⟩
theorem lS(s:AJ)(hs:s.length<=9223372036854775807):xB 338 [.i .i64 7,.s s] (.i .i64 (VM s)):=by
 have c1:=Vk 7;have c2:=jM s;refine zF AF Tryz.func338 ?_;rw[show Cp 7=7 from rfl]at c1;have d1:=Ds.mk [] (c2);refine wd Qd [] A4 (AM @c1) ?_;clear d1;refine zG (K:=fun r _ H'=>H'=[.c [.wo (VM s)],.c [.xE s],.lp r]) ?_ ?_
 .intro r hr;have hk:=hr.ok (k:=2) rfl
  have hY:∀(b:UInt8) p,YT Tryz.prog 2 [.wz (b.toNat:Int)] [.c [.wo p],.c [.xE s],.lp r] fun x K=>x= .wu true/\K=[.c [.wo (lT p b)],.c [.xE s],.lp r]:=by
   intro b p;have c3:=pU p b;refine BD hr rfl rfl rfl ?_;refine wd Qd [] A4 A4 ?_;refine zR ?_;refine wd Qd [] A4 (AM @c3) ?_;exact⟨_,A6.refl _,xH _,rfl,rfl,rfl⟩
  refine zT AF Tryz.func368 ?_;refine wd [0,1,3,5,6,7,14] [] A4 A4 ?_;refine Ct (fun j=>j<=s.length) (fun j:Nat=>[(6,.wo j)]) (fun j=>[(0,.c [.wo (VM (s.take j))])]) (fun j=>s.length-j) 0 (xQ _) (fun _=>rfl) (fun _=>rfl) ?_ ?_
  .exact A6.ck rfl
  intro j hj
  by_cases hjl:j<s.length
  .obtain⟨b,hq⟩:=BB hjl;have gq:s.getD j 0=b:=getD_at hq;have hn:VM (s.take (j+1))=lT (VM (s.take j)) b:=by unfold VM;rw[Au hq,q04];rfl
   have q1:=@hY;refine wd [0,1,3,5,6,7,14] [] (AM gq) A4 ?_;clear q1;with_reducible repeat' first|constructor|intro hc
   refine⟨j+1,hjl,om,xH _,?_⟩;exact(have nC:=hn;A6.cn rfl)
  .have e:j=s.length:=om
   subst e;rw[yD];refine wd [0,1,3,5,6,7,14] [] A4 A4 ?_;with_reducible repeat' first|constructor|intro hc
   exact⟨_,A6.refl _,xH _,_,_,rfl,rfl,rfl⟩
 .rintro r hr x H' rfl;refine .inl ⟨rfl,?_⟩;refine wd Qd [] A4 A4 ?_;exact zE
theorem lU(s:AJ)(hs:s.length<=9223372036854775807):xB 292 [.s s] (.tup [.i .i64 (VN s).1,.i .i64 (VN s).2]):=by
 have c1:=lS s hs;have hT:VN s=if Bc s then(VM s,0)else(0,2):=rfl
 have hK:Bc s=(decide ((s.length:Int)>=1)&&decide ((s.length:Int)<=20)):=rfl;generalize VM s=g at *;generalize VN s=R at *;refine zF AF Tryz.func292 ?_
 by_cases h:Bc s=true
 .rw[if_pos h]at hT;rw[h]at hK;have hK':=hK.symm;simp only[xI,xK]at hK';have f1:decide ((s.length:Int)<1)=false:=xO om;have f2:decide ((s.length:Int)>20)=false:=xO om;rw[hT];refine wd [0,2,3,11] [] (Ax f1 f2) (AM @c1) ?_ [] true;exact zE
 .have h':Bc s=false:=by simpa using h
  rw[if_neg h]at hT;rw[h']at hK;have hK':=hK.symm;rw[hT]
  by_cases h1:(s.length:Int)<1
  .have f1:decide ((s.length:Int)<1)=true:=xM h1;refine wd [0,2,3,11] [] (AM f1) A4 ?_ [] true;exact zE
  .have f1:decide ((s.length:Int)<1)=false:=xO h1
   have f2:decide ((s.length:Int)>20)=true:=xM (by
    simp only[Bool.and_eq_false_iff,zK]at hK';omega)
   refine wd [0,2,3,11] [] (Ax f1 f2) A4 ?_ [] true;exact zE
abbrev Ly:Aw:=[0,1,2,5,6,7,8,9,10,11,12,13,14,24,40]
theorem jI(AL AT:Int)(x:AK)(hs:x.AH.length<=9223372036854775807):xB 213 [.i .u8 AL,.i .i64 AT,x.d] (.tup [.i .i64 (Pw AL AT x).1,(Pw AL AT x).2.1.d,.b (Pw AL AT x).2.2]):=by
 obtain⟨AH,B2,AZ,gone⟩:=x;have c1:=lU AH hs;have c2:=Wi.LO ⟨AH,B2,AZ,gone⟩;unfold Pw;dsimp only;generalize VN AH=q at *;obtain⟨a,e⟩:=q;refine zF AF Tryz.func213 ?_;unfold AK.d AK.A0 at*
 by_cases h1:AL=1
 .have f1:=AS h1;rw[if_pos h1]
  by_cases h2:0<=AT
  .have f2:decide (AT>=0)=true:=xM h2;rw[xM h2];refine wd Ly [] (Ax f1 f2) A4 ?_;exact BL @AY.eq_1
  .have f2:decide (AT>=0)=false:=xO h2;rw[xO h2];refine wd Ly [] (Ax f1 f2) A4 ?_;exact BL @AY.eq_1
 have f1:=eq_false' h1;rw[if_neg h1]
 by_cases h2:AL=2
 .have f2:=AS h2;rw[if_pos h2]
  by_cases h3:e=0
  .have f3:=AS h3;rw[xM h3];refine wd Ly [] (Ci f1 f2 f3) (Ax @c1 @c2) ?_;exact zE
  .have f3:=eq_false' h3;rw[xO h3];refine wd Ly [] (Ci f1 f2 f3) (Ax @c1 @c2) ?_;exact zE
 have f2:=eq_false' h2;rw[if_neg h2]
 by_cases h3:AL=3
 .have f3:=AS h3;have f4:(e==0)=decide (e=0):=rfl;rw[if_pos h3];refine wd Ly [] (KQ f1 f2 f3 f4) (AM @c1) ?_;exact zE
 .have f3:=eq_false' h3;rw[if_neg h3];refine wd Ly [] (Ci f1 f2 f3) A4 ?_;exact BL @AY.eq_1
abbrev Qh:Aw:=[0,1,2,3,4,7,8,9,10,11,12,13,14,29]
theorem Oo(v:AD)(AL AT:Int)(x:AK)(hb:v.AB.length<=1000)(hl:v.A8.length<=1000)(hs:x.AH.length<=9223372036854775807):xB 137 [v.d,.i .u8 AL,.i .i64 AT,x.d] (.tup [(Ep v AL AT x).job.d,Ap (Ep v AL AT x).BN,.b (Ep v AL AT x).own]):=by
 have c1:=jI AL AT x hs;have c2:=BV v hb hl;generalize hJ:Ep v AL AT x=r;unfold Ep at hJ;generalize Pw AL AT x=q at *;obtain⟨Cj,y,b⟩:=q;dsimp only at *;have c3:=tB v Cj hb hl;generalize vn v Cj=lk at *;have c4:=Ow v ⟨AL,0,lk,y,0,[],0⟩ om;unfold jE at c4;unfold AD.d AD.A0 at c2 c3;unfold Bw.d Bw.A0 at c3;unfold AK.d AK.A0 at c1;refine zF AF Tryz.func137 ?_;unfold AD.d AD.A0 AK.d AK.A0
 cases b with
 |false=>
  rw[zN,if_neg (by decide)]at hJ;subst hJ;refine wd Qh [] A4 (AM @c1) ?_;exact BL (xU @An.d.eq_1 (xU @An.A0.eq_1 (xU @Ps.eq_1 @AY.eq_1)))
 |true=>
  rw[yF]at hJ
  cases hR:Al v with
  |false=>
   rw[hR,if_neg (by decide)]at hJ;rw[hR]at c2;subst hJ;refine wd Qh [] A4 (Ax @c1 @c2) ?_;exact BL (xU @An.d.eq_1 (xU @An.A0.eq_1 (xU @Ps.eq_1 @AY.eq_1)))
  |true=>
   rw[hR,if_pos rfl]at hJ;rw[hR]at c2;rw[hJ]at c4;clear hJ;unfold jC at c4;refine wd Qh [6] A4 (Ci @c1 @c2 @c3) ?_;refine BC (A6.JF 4 33 (.is []) rfl rfl rfl rfl trivial) sm ?_;have d1:=Ds.mk [4] (c4);refine wd Qh [] A4 A4 ?_ [(2,6),(3,6),(4,6),(5,6)];clear d1;exact BL (xU @An.d.eq_1 @An.A0.eq_1)
end Nd
end Go.Proofs.YtkljbfejbakooaaGreatDoor
namespace Go.Proofs.YtkljbfejbakooaaGreatDoor
namespace Wi
open Go.Gar
def gH(m:AC)(b:AJ):xS:=[.c [.ptr 3 0 1],.c [.ptr 2 0 15],.c (mC m),.c [.d (.by b)]]
def gX:xS:=[.gone,.gone,.c uC,.gone]
theorem Ks{env:xF}{a b c:xD}{n:Nat}(hc:c.length=15):A6 ⟨env,[.c a,.c b,.c c,.gone],n⟩ ⟨[],gX,n⟩:=
 (A6.us (S:=⟨env,[.c a,.c b,.c c,.gone],n⟩) 2 15 rfl hc.symm).trans' (A6.cut (S':=⟨[],gX,n⟩) rfl trivial ⟨.inl ⟨rfl,rfl⟩,.inl ⟨rfl,rfl⟩,.inr rfl,.inr rfl,trivial⟩ rfl rfl) (xH _)
def HG(m:AC)(b:AJ):Option (AC×AJ):=
 if m.AR=4 then match DR b with
  |none=>none
  |some (n,b1)=>match GN b1 with
   |none=>none
   |some (g,b2)=>some ({m with AH:=n,B4:=g},b2)
 else if m.AR=5 then match HT b with
  |none=>none
  |some (x,b1)=>some ({m with A9:=x},b1)
 else if m.AR=6 then match Im b with
  |none=>none
  |some (s,b1)=>some ({m with A9:=⟨s,m.A9.B2,m.A9.AZ,m.A9.gone⟩},b1)
 else if m.AR=7 then match DR b with
  |none=>none
  |some (n,b1)=>match KJ b1 with
   |none=>none
   |some (l,b2)=>some ({m with AG:=(n:Int)-1,A8:=l},b2)
 else if m.AR=10 then match DR b with
  |none=>none
  |some (n,b1)=>match GN b1 with
   |none=>none
   |some (g,b2)=>some ({m with AT:=n,done:=g},b2)
 else if m.AR=11 then match DR b with
  |none=>none
  |some (n,b1)=>some ({m with AQ:=n},b1)
 else if m.AR=12 then match DR b with
  |none=>none
  |some (n,b1)=>if n=0 then(match HT b1 with
   |none=>none
   |some (x,b2)=>some ({m with AQ:=0,A9:=x},b2))else some ({m with AQ:=n},b1)
 else some (m,b)
theorem VZ{b r:AJ}{n:Nat}(h:DR b=some (n,r)):n<=1099511627776:=by
 have e:=JS h;unfold Bl at e;split at e
 .simp at e
 .split at e
  .simp at e
  .split at e
   .simp at e
   .split at e
    .simp at e
    .rename_i hh;simp only[xZ]at e;simp only[not_or]at hh;rw[<-e.1];omega
theorem wB(m:AC)(b:AJ)(hb:b.length<70368744177664)(n:Nat)(b1:AJ)(h1:DR b=some (n,b1))(g:Bool)(b2:AJ)(h2:GN b1=some (g,b2)):xC 261 [.ptr 0 0 1,.ptr 1 0 1] (gH m b) (.tup []) (gH {m with AH:=(n:Int),B4:=g} b2):=by
 have c1:=Bu b hb n b1 h1;have c2:=Uv b1 (by have:=Bb h1;omega) g b2 h2;refine zD AF Tryz.func261 ?_;unfold gH rH mC at *;have d1:=Ds.mk [3] (c1);have d2:=Ds.mk [3] (c2);refine wd [0,1] [] A4 A4 ?_ [(0,3),(0,5),(1,3),(1,5),(1,8),(4,3)];clear d2 d1;exact⟨_,A6.refl _,xH _,_,_,rfl,rfl,rfl,rfl⟩
theorem tW(m:AC)(b:AJ)(hb:b.length<70368744177664)(h1:DR b=none):MY Tryz.prog 261 [.ptr 0 0 1,.ptr 1 0 1] (gH m b) (pF 12) gX:=by
 have c1:=Dh b hb h1;refine zX AF Tryz.func261 ?_;unfold gH rH mC at *;have x1:=Ds.mk [3] (c1);refine wd [0,1] [] A4 A4 ?_ [(0,3),(1,3),(4,3)];clear x1;exact⟨rfl,_,Ks rfl,xH _,rfl⟩
theorem tX(m:AC)(b:AJ)(hb:b.length<70368744177664)(n:Nat)(b1:AJ)(h1:DR b=some (n,b1))(h2:GN b1=none):MY Tryz.prog 261 [.ptr 0 0 1,.ptr 1 0 1] (gH m b) (pF 12) gX:=by
 have c1:=Bu b hb n b1 h1;have c2:=Uu b1 (by have:=Bb h1;omega) h2;refine zX AF Tryz.func261 ?_;unfold gH rH mC at *;have d1:=Ds.mk [3] (c1);have x1:=Ds.mk [3] (c2);refine wd [0,1] [] A4 A4 ?_ [(0,3),(0,5),(1,3),(1,5),(4,3)];clear x1 d1;exact⟨rfl,_,Ks rfl,xH _,rfl⟩
theorem wF(m:AC)(b:AJ)(hb:b.length<70368744177664)(n:Nat)(b1:AJ)(h1:DR b=some (n,b1))(g:Bool)(b2:AJ)(h2:GN b1=some (g,b2)):xC 269 [.ptr 0 0 1,.ptr 1 0 1] (gH m b) (.tup []) (gH {m with AT:=(n:Int),done:=g} b2):=by
 have c1:=Bu b hb n b1 h1;have c2:=Uv b1 (by have:=Bb h1;omega) g b2 h2;refine zD AF Tryz.func269 ?_;unfold gH rH mC at *;have d1:=Ds.mk [3] (c1);have d2:=Ds.mk [3] (c2);refine wd [0,1] [] A4 A4 ?_ [(0,3),(0,5),(1,3),(1,5),(1,8),(4,3)];clear d2 d1;exact⟨_,A6.refl _,xH _,_,_,rfl,rfl,rfl,rfl⟩
theorem td(m:AC)(b:AJ)(hb:b.length<70368744177664)(h1:DR b=none):MY Tryz.prog 269 [.ptr 0 0 1,.ptr 1 0 1] (gH m b) (pF 12) gX:=by
 have c1:=Dh b hb h1;refine zX AF Tryz.func269 ?_;unfold gH rH mC at *;have x1:=Ds.mk [3] (c1);refine wd [0,1] [] A4 A4 ?_ [(0,3),(1,3),(4,3)];clear x1;exact⟨rfl,_,Ks rfl,xH _,rfl⟩
theorem te(m:AC)(b:AJ)(hb:b.length<70368744177664)(n:Nat)(b1:AJ)(h1:DR b=some (n,b1))(h2:GN b1=none):MY Tryz.prog 269 [.ptr 0 0 1,.ptr 1 0 1] (gH m b) (pF 12) gX:=by
 have c1:=Bu b hb n b1 h1;have c2:=Uu b1 (by have:=Bb h1;omega) h2;refine zX AF Tryz.func269 ?_;unfold gH rH mC at *;have d1:=Ds.mk [3] (c1);have x1:=Ds.mk [3] (c2);refine wd [0,1] [] A4 A4 ?_ [(0,3),(0,5),(1,3),(1,5),(4,3)];clear x1 d1;exact⟨rfl,_,Ks rfl,xH _,rfl⟩
theorem wC(m:AC)(b:AJ)(hb:b.length<70368744177664)(x:AK)(b1:AJ)(h1:HT b=some (x,b1)):xC 263 [.ptr 0 0 1,.ptr 1 0 1] (gH m b) (.tup []) (gH {m with A9:=x} b1):=by
 have c1:=cf b hb x b1 h1;obtain⟨xk,xv,xn,xg⟩:=x;unfold AK.d AK.A0 at c1;refine zD AF Tryz.func263 ?_;unfold gH rH mC at *;have d1:=Ds.mk [3] (c1);refine wd [0,1] [] A4 A4 ?_ [(0,2)];clear d1;exact⟨_,A6.refl _,xH _,_,_,rfl,rfl,rfl,rfl⟩
theorem tY(m:AC)(b:AJ)(hb:b.length<70368744177664)(h1:HT b=none):MY Tryz.prog 263 [.ptr 0 0 1,.ptr 1 0 1] (gH m b) (pF 12) gX:=by
 have c1:=ce b hb h1;refine zX AF Tryz.func263 ?_;unfold gH rH mC at *;have x1:=Ds.mk [3] (c1);refine wd [0,1] [] A4 A4 ?_ [(0,2)];clear x1;exact⟨rfl,_,Ks rfl,xH _,rfl⟩
theorem wD(m:AC)(b:AJ)(hb:b.length<70368744177664)(s b1:AJ)(h1:Im b=some (s,b1)):xC 265 [.ptr 0 0 1,.ptr 1 0 1] (gH m b) (.tup []) (gH {m with A9:=⟨s,m.A9.B2,m.A9.AZ,m.A9.gone⟩} b1):=by
 have c1:=Vw b hb s b1 h1;refine zD AF Tryz.func265 ?_;unfold gH rH mC at *;have d1:=Ds.mk [3] (c1);refine wd [0,1] [] A4 A4 ?_ [(0,2)];clear d1;exact⟨_,A6.refl _,xH _,_,_,rfl,rfl,rfl,rfl⟩
theorem tZ(m:AC)(b:AJ)(hb:b.length<70368744177664)(h1:Im b=none):MY Tryz.prog 265 [.ptr 0 0 1,.ptr 1 0 1] (gH m b) (pF 12) gX:=by
 have c1:=dK b hb h1;refine zX AF Tryz.func265 ?_;unfold gH rH mC at *;have x1:=Ds.mk [3] (c1);refine wd [0,1] [] A4 A4 ?_ [(0,2)];clear x1;exact⟨rfl,_,Ks rfl,xH _,rfl⟩
theorem wE(m:AC)(b:AJ)(hb:b.length<70368744177664)(n:Nat)(b1:AJ)(h1:DR b=some (n,b1))(l:Ad)(b2:AJ)(h2:KJ b1=some (l,b2)):xC 267 [.ptr 0 0 1,.ptr 1 0 1] (gH m b) (.tup []) (gH {m with AG:=(n:Int)-1,A8:=l} b2):=by
 have c1:=Bu b hb n b1 h1;have c2:=VH b1 (by have:=Bb h1;omega) l b2 h2;have hn:=VZ h1;refine zD AF Tryz.func267 ?_;unfold gH rH mC at *;have d1:=Ds.mk [3] (c1);refine wd [0,1] [1] A4 A4 ?_ [(0,2)];clear d1;have d1:=Ds.mk [3] (c2);refine wd [0,1] [] A4 A4 ?_ [(0,2)];clear d1;exact⟨_,A6.refl _,xH _,_,_,rfl,rfl,rfl,rfl⟩
theorem ta(m:AC)(b:AJ)(hb:b.length<70368744177664)(h1:DR b=none):MY Tryz.prog 267 [.ptr 0 0 1,.ptr 1 0 1] (gH m b) (pF 12) gX:=by
 have c1:=Dh b hb h1;refine zX AF Tryz.func267 ?_;unfold gH rH mC at *;have x1:=Ds.mk [3] (c1);refine wd [0,1] [1] A4 A4 ?_ [(0,2)];clear x1;exact⟨rfl,_,Ks rfl,xH _,rfl⟩
theorem tc(m:AC)(b:AJ)(hb:b.length<70368744177664)(n:Nat)(b1:AJ)(h1:DR b=some (n,b1))(h2:KJ b1=none):MY Tryz.prog 267 [.ptr 0 0 1,.ptr 1 0 1] (gH m b) (pF 12) gX:=by
 have c1:=Bu b hb n b1 h1;have c2:=pM b1 (by have:=Bb h1;omega) h2;have hn:=VZ h1;refine zX AF Tryz.func267 ?_;unfold gH rH mC at *;have d1:=Ds.mk [3] (c1);refine wd [0,1] [1] A4 A4 ?_ [(0,2)];clear d1;have x1:=Ds.mk [3] (c2);refine wd [0,1] [] A4 A4 ?_ [(0,2)];clear x1;exact⟨rfl,_,Ks rfl,xH _,rfl⟩
theorem wG(m:AC)(b:AJ)(hb:b.length<70368744177664)(n:Nat)(b1:AJ)(h1:DR b=some (n,b1))  :xC 270 [.ptr 0 0 1,.ptr 1 0 1] (gH m b) (.tup []) (gH {m with AQ:=(n:Int)} b1):=by
 have c1:=Bu b hb n b1 h1;refine zD AF Tryz.func270 ?_;unfold gH rH mC at *;have d1:=Ds.mk [3] (c1);refine wd [0,1] [] A4 A4 ?_ [(0,2)];clear d1;exact⟨_,A6.refl _,xH _,_,_,rfl,rfl,rfl,rfl⟩
theorem tf(m:AC)(b:AJ)(hb:b.length<70368744177664)(h1:DR b=none):MY Tryz.prog 270 [.ptr 0 0 1,.ptr 1 0 1] (gH m b) (pF 12) gX:=by
 have c1:=Dh b hb h1;refine zX AF Tryz.func270 ?_;unfold gH rH mC at *;have x1:=Ds.mk [3] (c1);refine wd [0,1] [] A4 A4 ?_ [(0,2)];clear x1;exact⟨rfl,_,Ks rfl,xH _,rfl⟩
theorem wI(m:AC)(b:AJ)(hb:b.length<70368744177664)(n:Nat)(b1:AJ)(h1:DR b=some (n,b1))(hn:n≠0):xC 271 [.ptr 0 0 1,.ptr 1 0 1] (gH m b) (.tup []) (gH {m with AQ:=(n:Int)} b1):=by
 have c1:=Bu b hb n b1 h1;have f:=eq_false' (show(n:Int)≠0 by omega);refine zD AF Tryz.func271 ?_;unfold gH rH mC at *;have d1:=Ds.mk [3] (c1);refine wd [0,1,11] [] (AM f) A4 ?_ [(0,2)];clear d1;exact⟨_,A6.refl _,xH _,_,_,rfl,rfl,rfl,rfl⟩
theorem tg(m:AC)(b:AJ)(hb:b.length<70368744177664)(h1:DR b=none):MY Tryz.prog 271 [.ptr 0 0 1,.ptr 1 0 1] (gH m b) (pF 12) gX:=by
 have c1:=Dh b hb h1;refine zX AF Tryz.func271 ?_;unfold gH rH mC at *;have x1:=Ds.mk [3] (c1);refine wd [0,1,11] [] A4 A4 ?_ [(0,2)];clear x1;exact⟨rfl,_,Ks rfl,xH _,rfl⟩
theorem tk(m:AC)(b:AJ)(hb:b.length<70368744177664)(b1:AJ)(h1:DR b=some (0,b1))(x:AK)(b2:AJ)(h2:HT b1=some (x,b2)):xC 271 [.ptr 0 0 1,.ptr 1 0 1] (gH m b) (.tup []) (gH {m with AQ:=0,A9:=x} b2):=by
 have c1:=Bu b hb 0 b1 h1;have c2:=cf b1 (by have:=Bb h1;omega) x b2 h2;obtain⟨xk,xv,xn,xg⟩:=x;unfold AK.d AK.A0 at c2;refine zD AF Tryz.func271 ?_;unfold gH rH mC at *;have d1:=Ds.mk [3] (c1);have d2:=Ds.mk [3] (c2);refine wd [0,1,11] [] A4 A4 ?_ [(0,2)];clear d2 d1;exact⟨_,A6.refl _,xH _,_,_,rfl,rfl,rfl,rfl⟩
theorem tj(m:AC)(b:AJ)(hb:b.length<70368744177664)(b1:AJ)(h1:DR b=some (0,b1))(h2:HT b1=none):MY Tryz.prog 271 [.ptr 0 0 1,.ptr 1 0 1] (gH m b) (pF 12) gX:=by
 have c1:=Bu b hb 0 b1 h1;have c2:=ce b1 (by have:=Bb h1;omega) h2;refine zX AF Tryz.func271 ?_;unfold gH rH mC at *;have d1:=Ds.mk [3] (c1);have x1:=Ds.mk [3] (c2);refine wd [0,1,11] [] A4 A4 ?_ [(0,2)];clear x1 d1;exact⟨rfl,_,Ks rfl,xH _,rfl⟩
end Wi
end Go.Proofs.YtkljbfejbakooaaGreatDoor
namespace Go.Proofs.YtkljbfejbakooaaGreatDoor
namespace Nd
open Go.Gar
open Wi (AC Bp BE AN Bc mC)
theorem BJ.sw{P:Program}{f:FuncId}{args:xD}{r:AV}{H':xS}(p q:Nat)(h:BJ P f args [] r H')(hp:p<H'.length)(hq:q<H'.length):BJ P f args [] (r.ren (sw p q)) (W9 p q H'):=by
 refine⟨h.1,fun G w vs hG hR hv=>(h.2 G w vs hG hR hv).mono ?_⟩;rintro e w' ⟨v,r',G',rfl,⟨rfl,hH⟩,hrv,hr,hf⟩;have e3:p<G'.H.length:=by rw[hH];exact hp
 have e4:q<G'.H.length:=by rw[hH];exact hq
 let K:Gh:=⟨fun j=>G'.ρ (Go.Gar.sw p q j),W9 p q G'.H,G'.m⟩
 have up:∀id b,G'.H[id]? =some b->K.H[Go.Gar.sw p q id]? =some (b.ren (Go.Gar.sw p q))/\K.ρ (Go.Gar.sw p q id)=G'.ρ id:=by
  intro id b hb;refine⟨?_,by show G'.ρ (Go.Gar.sw p q (Go.Gar.sw p q id))=_;rw[LG]⟩;show(W9 p q G'.H)[Go.Gar.sw p q id]? =_;rw[Lq e3 e4,LG,hb];rfl
 have dn:∀j b,K.H[j]? =some b->∃b0,G'.H[Go.Gar.sw p q j]? =some b0/\b=b0.ren (Go.Gar.sw p q):=by
  intro j b hb;have hb:(W9 p q G'.H)[j]? =some b:=hb;rw[Lq e3 e4,yN]at hb;obtain⟨b0,k1,k2⟩:=hb;exact⟨b0,k1,k2.symm⟩
 have own:∀b,Own K b->Own G' b:=by
  rintro b ⟨id,M,blk,h1,h2,h3⟩;obtain⟨b0,k1,rfl⟩:=dn id blk h1;rw[EA]at h2;exact⟨Go.Gar.sw p q id,M,b0,k1,h2,h3⟩
 refine⟨v,_,K,rfl,⟨rfl,by show W9 p q G'.H=_;rw[hH]⟩,RV.ren (G0:=G') (G:=K) (ι:=Go.Gar.sw p q) (Mem.le_refl _) up hrv,⟨fun j b hb=> ?_,fun i j x y b M M' hx hy lx ly r1 r2=> ?_,hr.mem,fun b hb=>hr.sep b (own b hb),hr.st⟩,⟨hf.os,hf.tape,hf.output,hf.size,fun b hb hno=> ?_,hf.memNew,fun id b hb=> ?_,hf.gle.mem⟩⟩
 .obtain⟨b0,k1,rfl⟩:=dn j b hb;have:=BR.ren (G0:=G') (G:=K) (ι:=Go.Gar.sw p q) (Mem.le_refl _) up (up _ _ k1).2 (hr.blk _ _ k1);rw[LG]at this;exact this
 .obtain⟨x0,k1,rfl⟩:=dn i x hx;obtain⟨y0,k2,rfl⟩:=dn j y hy;rw[EA]at lx ly;have:=hr.inj _ _ _ _ b M M' k1 k2 lx ly r1 r2;rw[<-LG p q i,this,LG]
 .obtain⟨f1,f2⟩:=hf.keep b hb hno;exact⟨f1,fun h=>f2 (own b h)⟩
 .rw[hG]at hb;simp at hb
theorem BJ.cut{P:Program}{f:FuncId}{args:xD}{r:AV}{H':xS}(K:xS)(h:BJ P f args [] r H')(hs:Bj K H')(ho:BY K.length K=true)(hx:r.ok K.length=true):BJ P f args [] r K:=by
 refine⟨h.1,fun G w vs hG hR hv=>(h.2 G w vs hG hR hv).mono ?_⟩;rintro e w' ⟨v,r',G',rfl,⟨rfl,hH⟩,hrv,hr,hf⟩;have hs':Bj K G'.H:=by rw[hH];exact hs
 exact⟨v,_,G'.cut K,rfl,⟨rfl,rfl⟩,RV.cut hs' hx hrv,hr.cut hs' ho,hf.ghost (av.cut hs') (by rw[hG];exact xQ _)⟩
theorem XJ(j:An)(h:j.left.length<=1048576)(h0:j.left≠[]):xC 86 [.d j.d] [] (.ag (JL j (.sl 0 j.left.length 1))) [.a (.is j.left)]:=
 BJ.cut [.a (.is j.left)] (BJ.sw 0 2 (kh j h h0) xA xA) ⟨.inr rfl,trivial⟩ rfl rfl
end Nd
end Go.Proofs.YtkljbfejbakooaaGreatDoor
