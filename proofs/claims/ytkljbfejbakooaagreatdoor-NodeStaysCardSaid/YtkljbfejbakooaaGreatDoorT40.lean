/- Part 40 of a proof. Conditions: those that its theorems state. -/
import Derived.Test.YtkljbfejbakooaaGreatDoorT35
import Derived.Test.YtkljbfejbakooaaGreatDoorT39
set_option linter.unusedSimpArgs false
set_option linter.unusedVariables false
set_option maxHeartbeats 40000000
set_option maxRecDepth 4000
namespace Go.Proofs.YtkljbfejbakooaaGreatDoor
namespace Nd
open Go.Gar
open Wi (AC Bp BE AN Bc mC C6 BP)
abbrev C9:Aw:=[0,1,2,3,4,5,6,7,8,9,10,11,17,28,38]
theorem JX(m:AC):(CV m).A8=[]:=by unfold CV;split<;>rfl
theorem ee(v:AD)(m:AC):(Oj v m).A8=[]:=by
 unfold Oj;split
 .exact JX m
 .rfl
theorem Am.nil{m:AC}(h:m.A8=[]):Am m:=by unfold Am;rw[h];exact xQ _
theorem NB.PO{n:AA}(h:NB n):n.BO.length<=40:=by
 obtain⟨_,_,_,_,_,_,_,hs,_⟩:=Aq.1 h.r;exact(Hr.1 hs).1
theorem mq(n:AA)(m:AC)(h:NB n)(hm:Am m)(hs:D3 n m=false):xB 45 [n.d,m.d] (.tup [(BH n m).1.d,(BH n m).2.d]):=by
 have c1:=Ay n h.FV;have c2:=Fl n m h.FV hm;have c3:=ER AN (.nil rfl);have hT:BH n m=(n,AN):=by unfold BH;rw[hs];rfl
 rw[hs]at c2;rw[hT];refine zF AF Tryz.func45 ?_;unfold AA.d AA.A0 AD.A0 Calls.A0 An.A0 Wi.AC.d Wi.AC.A0 at *;unfold AN AY at c3;refine wd C9 [11] A4 (Ax @c1 @c2) ?_ [] true;refine BC (A6.JF 5 9 (.is []) rfl rfl rfl rfl trivial) sm ?_;refine wd C9 [] A4 (AM @c3) ?_ [(1,3)] true;exact BL (xU @AN.eq_1 @AY.eq_1)
theorem gJ(n:AA)(m:AC)(h:NB n)(hm:Am m)(hs:D3 n m=true)(hf:(Cr n.BO m.As m.Aa).2=true)(hl:Am (Cr n.BO m.As m.Aa).1):xB 45 [n.d,m.d] (.tup [(BH n m).1.d,(BH n m).2.d]):=by
 have c1:=Ay n h.FV;have c2:=Fl n m h.FV hm;have c3:=ER _ hl;have c4:=IF n.BO m.As m.Aa h.FV.sl h.FV.sn;have hT:BH n m=(n,(Cr n.BO m.As m.Aa).1):=by unfold BH;rw[if_pos hs,if_pos hf]
 rw[hs]at c2;rw[hT];clear hT;generalize Cr n.BO m.As m.Aa=p at *;obtain⟨p1,p2⟩:=p;dsimp only at *;subst hf;refine zF AF Tryz.func45 ?_;unfold AA.d AA.A0 AD.A0 Calls.A0 An.A0 Wi.AC.d Wi.AC.A0 at *;refine wd C9 [11] A4 (Ci @c1 @c2 @c4) ?_ [] true;refine wd C9 [] A4 (AM @c3) ?_ [(1,3)] true;exact zE
theorem q6(n:AA)(m:AC)(h:NB n)(hm:Am m)(hs:D3 n m=true)(hf:(Cr n.BO m.As m.Aa).2=false)(hk:m.AR=1):xB 45 [n.d,m.d] (.tup [(BH n m).1.d,(BH n m).2.d]):=by
 have c1:=Ay n h.FV;have c2:=Fl n m h.FV hm;have c3:=IF n.BO m.As m.Aa h.FV.sl h.FV.sn;have c4:=GW n m;have c5:=rm n m (CV m) h.FV.vl;have hl:Am ({CV m with AG:=n.A7.AG,A8:=n.A7.A8}:AC):=(by unfold Am;have:=h.FV.vl;dsimp only;omega);have c6:=Lm n.BO _ h.FV.sl h.PO hl;have c7:=ER _ hl
 have hT:BH n m=({(n:AA)with BO:=EJ n.BO ({CV m with AG:=n.A7.AG,A8:=n.A7.A8})},{CV m with AG:=n.A7.AG,A8:=n.A7.A8}):=by
  unfold BH;rw[if_pos hs,hf];unfold CF;rw[hk];rfl
 rw[hs]at c2;rw[hT];clear hT hl;generalize EJ n.BO _=S at*
 skip
 generalize CV m=t at *;generalize Cr n.BO m.As m.Aa=p at *;obtain⟨p1,p2⟩:=p;obtain⟨AR,Aa,As,dst,AH,B4,done,AT,AG,A8,A9,AQ⟩:=m;dsimp only at *;subst hf hk;refine zF AF Tryz.func45 ?_;unfold AA.d AA.A0 AD.A0 Calls.A0 An.A0 Wi.AC.d Wi.AC.A0 at *;unfold aH at *;simp only[xX,xY]at c4;refine wd C9 [7] A4 (Ci @c1 @c2 @c3) ?_ [] true;have d1:=Ds.mk [4] (c4);refine wd C9 [9] A4 A4 ?_ [(2,1),(3,1)] true;clear d1;have d1:=Ds.mk [4,7,8,9] (c5);refine wd C9 [11] A4 (AM @c6) ?_ [] true;clear d1;refine wd C9 [] A4 (AM @c7) ?_ [(1,3)] true;exact zE
theorem q7(n:AA)(m:AC)(h:NB n)(hm:Am m)(hs:D3 n m=true)(hf:(Cr n.BO m.As m.Aa).2=false)(hk:m.AR=2):xB 45 [n.d,m.d] (.tup [(BH n m).1.d,(BH n m).2.d]):=by
 have c1:=Ay n h.FV;have c2:=Fl n m h.FV hm;have c3:=IF n.BO m.As m.Aa h.FV.sl h.FV.sn;have c4:=GW n m;have c5:=rp (CV m);have hl:Am (CV m:AC):=(.nil (JX m));have c6:=Lm n.BO _ h.FV.sl h.PO hl;have c7:=ER _ hl
 have hT:BH n m=({(n:AA)with BO:=EJ n.BO (CV m)},CV m):=by
  unfold BH;rw[if_pos hs,hf];unfold CF;rw[hk];rfl
 rw[hs]at c2;rw[hT];clear hT hl;generalize EJ n.BO _=S at*
 skip
 generalize CV m=t at *;generalize Cr n.BO m.As m.Aa=p at *;obtain⟨p1,p2⟩:=p;obtain⟨AR,Aa,As,dst,AH,B4,done,AT,AG,A8,A9,AQ⟩:=m;dsimp only at *;subst hf hk;refine zF AF Tryz.func45 ?_;unfold AA.d AA.A0 AD.A0 Calls.A0 An.A0 Wi.AC.d Wi.AC.A0 at *;unfold aH at *;simp only[xX,xY]at c4;refine wd C9 [7] A4 (Ci @c1 @c2 @c3) ?_ [] true;have d1:=Ds.mk [4] (c4);refine wd C9 [9] A4 A4 ?_ [(2,1),(3,1)] true;clear d1;have d1:=Ds.mk [9] (c5);refine wd C9 [11] A4 (AM @c6) ?_ [] true;clear d1;refine wd C9 [] A4 (AM @c7) ?_ [(1,3)] true;exact zE
theorem q8(n:AA)(m:AC)(h:NB n)(hm:Am m)(hs:D3 n m=true)(hf:(Cr n.BO m.As m.Aa).2=false)(hk:m.AR=3):xB 45 [n.d,m.d] (.tup [(BH n m).1.d,(BH n m).2.d]):=by
 have c1:=Ay n h.FV;have c2:=Fl n m h.FV hm;have c3:=IF n.BO m.As m.Aa h.FV.sl h.FV.sn;have c4:=GW n m;have c5:=rq n m (CV m) h.FV.vb h.FV.vl;have hl:Am (CV m:AC):=(.nil (JX m));have c6:=Lm n.BO _ h.FV.sl h.PO hl;have c7:=ER _ hl
 have hT:BH n m=({({n with A7:=Eg n.A7 m.As}:AA)with BO:=EJ n.BO (CV m)},CV m):=by
  unfold BH;rw[if_pos hs,hf];unfold CF;rw[hk];rfl
 rw[hs]at c2;rw[hT];clear hT hl;generalize EJ n.BO _=S at *;generalize Eg n.A7 m.As=w at *;generalize CV m=t at *;generalize Cr n.BO m.As m.Aa=p at *;obtain⟨p1,p2⟩:=p;obtain⟨AR,Aa,As,dst,AH,B4,done,AT,AG,A8,A9,AQ⟩:=m;dsimp only at *;subst hf hk;refine zF AF Tryz.func45 ?_;unfold AA.d AA.A0 AD.A0 Calls.A0 An.A0 Wi.AC.d Wi.AC.A0 at *;unfold aH at *;simp only[xX,xY]at c4;refine wd C9 [7] A4 (Ci @c1 @c2 @c3) ?_ [] true;have d1:=Ds.mk [4] (c4);refine wd C9 [9] A4 A4 ?_ [(2,1),(3,1)] true;clear d1;have d1:=Ds.mk [4,7,8,9] (c5);refine wd C9 [11] A4 (AM @c6) ?_ [] true;clear d1;refine wd C9 [] A4 (AM @c7) ?_ [(1,3)] true;exact zE
theorem q9(n:AA)(m:AC)(h:NB n)(hm:Am m)(hs:D3 n m=true)(hf:(Cr n.BO m.As m.Aa).2=false)(hk:m.AR=4):xB 45 [n.d,m.d] (.tup [(BH n m).1.d,(BH n m).2.d]):=by
 have c1:=Ay n h.FV;have c2:=Fl n m h.FV hm;have c3:=IF n.BO m.As m.Aa h.FV.sl h.FV.sn;have c4:=GW n m;have c5:=rt n m (CV m) h.FV.vb h.FV.vl hm;have hl:Am (Oj n.A7 m:AC):=(.nil (ee n.A7 m));have c6:=Lm n.BO _ h.FV.sl h.PO hl;have c7:=ER _ hl
 have hT:BH n m=({(n:AA)with BO:=EJ n.BO (Oj n.A7 m)},Oj n.A7 m):=by
  unfold BH;rw[if_pos hs,hf];unfold CF;rw[hk];rfl
 rw[hs]at c2;rw[hT];clear hT hl;generalize EJ n.BO _=S at *;generalize Oj n.A7 m=w at *;generalize CV m=t at *;generalize Cr n.BO m.As m.Aa=p at *;obtain⟨p1,p2⟩:=p;obtain⟨AR,Aa,As,dst,AH,B4,done,AT,AG,A8,A9,AQ⟩:=m;dsimp only at *;subst hf hk;refine zF AF Tryz.func45 ?_;unfold AA.d AA.A0 AD.A0 Calls.A0 An.A0 Wi.AC.d Wi.AC.A0 at *;unfold aH at *;simp only[xX,xY]at c4;refine wd C9 [7] A4 (Ci @c1 @c2 @c3) ?_ [] true;have d1:=Ds.mk [4] (c4);refine wd C9 [9] A4 A4 ?_ [(2,1),(3,1)] true;clear d1;have d1:=Ds.mk [4,7,8,9] (c5);refine wd C9 [11] A4 (AM @c6) ?_ [] true;clear d1;refine wd C9 [] A4 (AM @c7) ?_ [(1,3)] true;exact zE
theorem qA(n:AA)(m:AC)(h:NB n)(hm:Am m)(hs:D3 n m=true)(hf:(Cr n.BO m.As m.Aa).2=false)(hk:m.AR=5):xB 45 [n.d,m.d] (.tup [(BH n m).1.d,(BH n m).2.d]):=by
 have c1:=Ay n h.FV;have c2:=Fl n m h.FV hm;have c3:=IF n.BO m.As m.Aa h.FV.sl h.FV.sn;have c4:=GW n m;have c5:=ru n m (CV m) h.FV.kn;have hl:Am ({CV m with AQ:=(FI n.keep m.A9).2}:AC):=(.nil (JX m));have c6:=Lm n.BO _ h.FV.sl h.PO hl;have c7:=ER _ hl
 have hT:BH n m=({({n with keep:=(FI n.keep m.A9).1}:AA)with BO:=EJ n.BO ({CV m with AQ:=(FI n.keep m.A9).2})},{CV m with AQ:=(FI n.keep m.A9).2}):=by
  unfold BH;rw[if_pos hs,hf];unfold CF;rw[hk];rfl
 rw[hs]at c2;rw[hT];clear hT hl;generalize EJ n.BO _=S at *;generalize FI n.keep m.A9=w at *;generalize CV m=t at *;generalize Cr n.BO m.As m.Aa=p at *;obtain⟨p1,p2⟩:=p;obtain⟨AR,Aa,As,dst,AH,B4,done,AT,AG,A8,A9,AQ⟩:=m;dsimp only at *;subst hf hk;refine zF AF Tryz.func45 ?_;unfold AA.d AA.A0 AD.A0 Calls.A0 An.A0 Wi.AC.d Wi.AC.A0 at *;unfold aH at *;simp only[xX,xY]at c4;refine wd C9 [7] A4 (Ci @c1 @c2 @c3) ?_ [] true;have d1:=Ds.mk [4] (c4);refine wd C9 [9] A4 A4 ?_ [(2,1),(3,1)] true;clear d1;have d1:=Ds.mk [4,7,8,9] (c5);refine wd C9 [11] A4 (AM @c6) ?_ [] true;clear d1;refine wd C9 [] A4 (AM @c7) ?_ [(1,3)] true;exact zE
theorem qB(n:AA)(m:AC)(h:NB n)(hm:Am m)(hs:D3 n m=true)(hf:(Cr n.BO m.As m.Aa).2=false)(hk:m.AR=6):xB 45 [n.d,m.d] (.tup [(BH n m).1.d,(BH n m).2.d]):=by
 have c1:=Ay n h.FV;have c2:=Fl n m h.FV hm;have c3:=IF n.BO m.As m.Aa h.FV.sl h.FV.sn;have c4:=GW n m;have c5:=rx n m (CV m) h.FV.kn;have hl:Am ({CV m with A9:=(E6 n.keep m.A9.AH).1,AQ:=(E6 n.keep m.A9.AH).2}:AC):=(.nil (JX m));have c6:=Lm n.BO _ h.FV.sl h.PO hl;have c7:=ER _ hl
 have hT:BH n m=({(n:AA)with BO:=EJ n.BO ({CV m with A9:=(E6 n.keep m.A9.AH).1,AQ:=(E6 n.keep m.A9.AH).2})},{CV m with A9:=(E6 n.keep m.A9.AH).1,AQ:=(E6 n.keep m.A9.AH).2}):=by
  unfold BH;rw[if_pos hs,hf];unfold CF;rw[hk];rfl
 rw[hs]at c2;rw[hT];clear hT hl;generalize EJ n.BO _=S at *;generalize E6 n.keep m.A9.AH=w at *;generalize CV m=t at *;generalize Cr n.BO m.As m.Aa=p at *;obtain⟨p1,p2⟩:=p;obtain⟨AR,Aa,As,dst,AH,B4,done,AT,AG,A8,A9,AQ⟩:=m;dsimp only at *;subst hf hk;refine zF AF Tryz.func45 ?_;unfold AA.d AA.A0 AD.A0 Calls.A0 An.A0 Wi.AC.d Wi.AC.A0 at *;unfold aH at *;simp only[xX,xY]at c4;refine wd C9 [7] A4 (Ci @c1 @c2 @c3) ?_ [] true;have d1:=Ds.mk [4] (c4);refine wd C9 [9] A4 A4 ?_ [(2,1),(3,1)] true;clear d1;have d1:=Ds.mk [4,7,8,9] (c5);refine wd C9 [11] A4 (AM @c6) ?_ [] true;clear d1;refine wd C9 [] A4 (AM @c7) ?_ [(1,3)] true;exact zE
theorem mo(n:AA)(m:AC)(h:NB n)(hm:Am m):xB 45 [n.d,m.d] (.tup [(BH n m).1.d,(BH n m).2.d]):=by
 cases hs:D3 n m with
 |false=>exact mq n m h hm hs
 |true=>
 cases hf:(Cr n.BO m.As m.Aa).2 with
 |true=>
  refine gJ n m h hm hs hf ?_;unfold Cr;split
  .rename_i p hp;exact h.FV.sl p (List.mem_of_find?_eq_some hp)
  .exact .nil rfl
 |false=>
 have hk:=ND.1 (Mt.1 hs).1;rcases(by omega:m.AR=1\/m.AR=2\/m.AR=3\/m.AR=4\/m.AR=5\/m.AR=6)with hk|hk|hk|hk|hk|hk
 .exact q6 n m h hm hs hf hk
 .exact q7 n m h hm hs hf hk
 .exact q8 n m h hm hs hf hk
 .exact q9 n m h hm hs hf hk
 .exact qA n m h hm hs hf hk
 .exact qB n m h hm hs hf hk
end Nd
end Go.Proofs.YtkljbfejbakooaaGreatDoor
