/- Part 17 of a proof. Conditions: those that its theorems state. -/
import Derived.Test.YtamjpnmjpponpaaGreatDoorC14
import Derived.Test.YtamjpnmjpponpaaGreatDoorC15
set_option linter.unusedSimpArgs false
set_option linter.unusedVariables false
set_option maxHeartbeats 40000000
set_option maxRecDepth 4000
namespace Go.Proofs.YtamjpnmjpponpaaGreatDoor
namespace Nd
open Go.Gar
open Wi (AF BV B7 AU Bp mC)
abbrev Qv:BF:=[0,2,3,5,7,8,9]
abbrev WF:BF:=[0,1,3,4,5,6,7,8,16]
abbrev KI:BF:=[0,1,2,3,4,5,6,17,18,20]
theorem EG(m:AF)(h:Ay m):yS 143 [m.d] m.d:=by
 unfold Ay at h;refine zF AE Tryz.func143 ?_;unfold Wi.AF.d Wi.AF.A4;refine A9 [0,1,2] ?_;exact zE
theorem K5(x:Al)(h:Ay x.BD):yS 259 [x.d] x.d:=by
 have c1:=EG x.BD h;refine zF AE Tryz.func259 ?_;unfold Al.d Al.A4;unfold Wi.AF.d Wi.AF.A4 at c1;refine AO [0,1,2] ?_ (AK @c1);exact zE
theorem LR(l:Ai)(hl:l.length<=1048576):yS 19 [.is l] (.is l):=by
 refine zF AE Tryz.func19 ?_;have nS:=q0r
 repeat'(first|((with_reducible refine sg ?_);first|with_reducible rfl|((with_reducible refine Na ?_);first|kernel_rfl|rfl|(simp[Fp,IL,nS];done))|with_reducible refine Mb ?_ ?_|with_reducible exact q1K _|with_reducible exact DL _|((with_reducible refine zU ?_);first|omega|(simp only[IK,nS];omega))|decide|(simp[IK,slc,Cs,D.one,ER,AV.one,nS];done)|(simp[IK,nS];omega))|((with_reducible refine g0 ?_);first|(refine Er rfl ?_;refine el AE rfl rfl rfl rfl ?_)|refine q8 AE rfl rfl rfl rfl rfl rfl (fun hnil=> ?_) ?_|refine q9 AE rfl rfl rfl rfl rfl rfl (fun hnil=> ?_) ?_|refine Xq AE rfl rfl rfl rfl ?_ ?_|refine Xn [0,2,4] rfl ?_|refine Xw AE rfl rfl rfl rfl ?_ ?_)|refine IR ?_|refine Fh ?_|refine Fi ?_|refine IQ ?_|refine EU ?_|refine Fg ?_|refine Df rfl ?_|refine De rfl ?_|(refine FJ rfl (fun hc=> ?_) (fun hc=> ?_)<;>(try simp only[Ma]at hc)<;>(try(exfalso;omega))))
 .have e:=is_nil hnil;subst e;exact zE
 .exact zE
theorem HP(j:B9)(h:j.left.length<=1048576):yS 61 [j.d] j.d:=by
 have c1:=LR j.left h;refine zF AE Tryz.func61 ?_;unfold B9.d B9.A4
 by_cases h0:(j.left.length:Int)=0
 .have f1:=AT h0;have e:j.left=[]:=q18.1 om;refine Aj [0,1,2,6] ?_ (AK f1);exact BW e
 .have f1:=eq_false' h0;refine AJ [0,1,2,6] ?_ (AK f1) (AK @c1);exact zE
abbrev dq(x:Past):yr:=[.yO x.B8,.yO x.Ae,.yQ x.AD.AN,.yO x.AD.Ae,.yO x.AD.B8,.yO x.AD.dst,.yO x.AD.AI,.yP x.AD.BA,.yP x.AD.done,.yO x.AD.AP,.yO x.AD.AH,.yV x.AD.AB,.yU x.AD.AC.AI,.yO x.AD.AC.B4,.yO x.AD.AC.AZ,.yP x.AD.AC.gone,.yO x.AD.Aa]
abbrev Bz(x:Al):yr:=[.yO x.id,.yQ x.BD.AN,.yO x.BD.Ae,.yO x.BD.B8,.yO x.BD.dst,.yO x.BD.AI,.yP x.BD.BA,.yP x.BD.done,.yO x.BD.AP,.yO x.BD.AH,.yV x.BD.AB,.yU x.BD.AC.AI,.yO x.BD.AC.B4,.yO x.BD.AC.AZ,.yP x.BD.AC.gone,.yO x.BD.Aa,.yQ x.Bd,.yO x.ref,.yO x.CZ,.yO x.BQ]
theorem Q5(l:List Past)(hl:∀x∈l,Ay x.AD)(hn:l.length<=1048576):yT 60 [.d (Az l)] [] (.sl 2 l.length 17) [.gone,.gone,.a (Az l)]:=by
 have c1:=O5 l;refine zD AE Tryz.func60 ?_;refine Ax Qv ?_ (BJ [] c1);refine BG (A8.ES 0 0 (.sl 17 []) rfl rfl rfl rfl (by simp[BM])) sm ?_;refine zG (K:=fun r _ H'=>H'=[.c [.sl 2 l.length 17],.c [.d (Az l)],.a (Az l),.lp r]) ?_ ?_
 .intro r hr;have hk:=hr.ok (k:=3) rfl
  have hY:∀(k:Nat)(x:Past)(o:List Past),Ay x.AD->o.length<=1048576->YT Tryz.prog 3 [.yO k,.d (.agg [.yX x.B8,.yX x.Ae,.i .u8 x.AD.AN,.yX x.AD.Ae,.yX x.AD.B8,.yX x.AD.dst,.yX x.AD.AI,.b x.AD.BA,.b x.AD.done,.yX x.AD.AP,.yX x.AD.AH,.is x.AD.AB,.s x.AD.AC.AI,.yX x.AD.AC.B4,.yX x.AD.AC.AZ,.b x.AD.AC.gone,.yX x.AD.Aa])] [.c [.sl 2 o.length 17],.c [.d (Az l)],.a (Az o),.lp r,.c (dq x)] fun v K=>v= .yP true/\K=[.c [.sl 2 (o++[x]).length 17],.c [.d (Az l)],.a (Az (o++[x])),.lp r,.c (dq x)]:=by
   intro k x o hx ho;have c2:=EG x.AD hx;unfold Wi.AF.d Wi.AF.A4 at c2;refine Ar hr rfl rfl rfl ?_;unfold dq;refine A9 Qv ?_;refine zR ?_;refine AO Qv ?_ (AK @c2);refine⟨⟨[],[.c [.sl 2 (o++[x]).length 17],.c [.d (Az l)],.a (Az (o++[x])),.lp r.busy,.c (dq x)],_⟩,(have nC:=zh @Az.eq_1 @Past.A4.eq_1;A8.cn rfl),zN _,rfl,rfl,rfl⟩
  refine zT AE Tryz.func192 ?_;refine A9 WF ?_;refine CM (fun j:Nat=>j<=l.length) (fun j:Nat=>[(7,.yO j)]) (fun j=>[(0,.c [.sl 2 (l.take j).length 17]),(2,.a (Az (l.take j)))]) (fun j=>l.length-j) 0 (zi _) (fun _=>rfl) (fun _=>rfl) ?_ ?_
  .exact A8.ck rfl
  intro j hj
  by_cases hjl:j<l.length
  .obtain⟨x,hx⟩:=Ah hjl;have hy:=hY j x (l.take j) (hl x (q00 hx)) (by rw[q0D];omega);have hn:=AY hx;rw[<-hn]at hy;have ix1:=hx;have q1:=@hy;refine A9 WF ?_;clear q1 ix1;with_reducible repeat' first|constructor|intro hc
   refine⟨j+1,hjl,om,zN _,?_⟩;exact A8.ck rfl
  .have e:j=l.length:=om
   subst e;rw[q06];refine A9 WF ?_;with_reducible repeat' first|constructor|intro hc
   exact⟨_,A8.refl _,zN _,_,_,rfl,rfl,rfl⟩
 .rintro r hr x H' rfl;refine .inl ⟨rfl,?_⟩;refine A9 Qv ?_;exact wE
theorem bA(l:List Past)(hl:∀x∈l,Ay x.AD)(hn:l.length<=1048576):yS 60 [Az l] (Az l):=by
 refine Ff (ds:=[Az l]) (Q5 l hl hn) ?_;simp[Cw,BP,CC,Bl,BM,Az]
theorem NN(c:Calls):yT 191 [.d c.d] [] (.fn (.func 258) [] [.ptr 0 0 3]) [.c [.yO c.id,.yO c.Ad,.d (Ag c.op)]]:=by
 refine zD AE Tryz.func191 ?_;unfold Calls.d Calls.A4;refine A9 [0,1,2] ?_;exact wE
theorem kW(cs:yr):yT 141 [.ptr 0 0 20] [.c cs] (.yP true) [.c cs]:=by
 refine zD AE Tryz.func141 ?_;refine A9 [2] ?_;exact⟨_,A8.refl _,zN _,_,_,rfl,rfl,rfl,rfl⟩
theorem Wr(id Ad:Int)(l:List Al)(hl:∀x∈l,Ay x.BD)(hn:l.length<=1048576):yT 140 [.d (Calls.d ⟨id,Ad,l⟩),.fn (.func 141) [] []] [] (.ag [.yO id,.yO Ad,.sl 3 l.length 20]) [.gone,.gone,.c [.yO id,.yO Ad,.sl 3 l.length 20],.a (Ag l)]:=by
 have c1:=NN ⟨id,Ad,l⟩;refine zD AE Tryz.func140 ?_;unfold Calls.d Calls.A4 at *;refine A9 KI ?_ [] [1];refine Hn T.get 7 9 3 4 ⟨[(0,.d (.agg [.yX id,.yX Ad,Ag l])),(1,.fn (.func 141) [] []),(2,.ptr 0 0 3),(3,.ptr 1 0 1),(4,.ptr 2 0 3),(5,.ptr 4 0 3)],[.c [.yO id,.yO Ad,.d (Ag l)],.c [.fn (.func 141) [] []],.c [.yO 0,.yO 0,.e0],.a (Ag []),.c [.yO id,.yO Ad,.sl 3 0 20]],28⟩ mixed rfl rfl rfl ?_ ?_ ?_
 .refine A9 KI ?_ [(0,7),(1,7),(2,7),(3,7),(0,9),(1,9),(2,9),(3,9)];exact⟨rfl,.inl rfl⟩
 .refine A9 KI ?_ [(0,7),(1,7),(2,7),(3,7),(4,7),(5,7),(0,8),(1,8),(2,8),(3,8)];exact⟨rfl,.inr rfl⟩
 refine Ax KI ?_ (BJ [] c1);refine zG (K:=fun r _ H'=>H'=[.c [.yO id,.yO Ad,.d (Ag l)],.c [.fn (.func 141) [] []],.c [.yO 0,.yO 0,.e0],.a (Ag l),.c [.yO id,.yO Ad,.sl 3 l.length 20],.c [.yO id,.yO Ad,.d (Ag l)],.lp r]) ?_ ?_
 .intro r hr;have hk:=hr.ok (k:=6) rfl
  have hY:∀(x:Al)(o:List Al)(B:AM),o.length<=1048576->AM.ok 7 B=true->YT Tryz.prog 6 [.d (.agg [.yX x.id,.i .u8 x.BD.AN,.yX x.BD.Ae,.yX x.BD.B8,.yX x.BD.dst,.yX x.BD.AI,.b x.BD.BA,.b x.BD.done,.yX x.BD.AP,.yX x.BD.AH,.is x.BD.AB,.s x.BD.AC.AI,.yX x.BD.AC.B4,.yX x.BD.AC.AZ,.b x.BD.AC.gone,.yX x.BD.Aa,.i .u8 x.Bd,.yX x.ref,.yX x.CZ,.yX x.BQ])] [.c [.yO id,.yO Ad,.d (Ag l)],.c [.fn (.func 141) [] []],.c [.yO 0,.yO 0,.e0],.a (Ag o),.c [.yO id,.yO Ad,.sl 3 o.length 20],.c [.yO id,.yO Ad,.d (Ag l)],.lp r,.c (Bz x)] fun v K=>v= .yP true/\K=[.c [.yO id,.yO Ad,.d (Ag l)],.c [.fn (.func 141) [] []],.c [.yO 0,.yO 0,.e0],.a (Ag (o++[x])),.c [.yO id,.yO Ad,.sl 3 (o++[x]).length 20],.c [.yO id,.yO Ad,.d (Ag l)],.lp r,.c (Bz x)]:=by
   intro x o B ho hB;have c2:=kW (Bz x);refine Ar hr rfl rfl rfl ?_;unfold Bz at *;refine A9 KI ?_;refine zR ?_;refine Ax KI ?_ (BJ [8] c2);refine⟨⟨[],[.c [.yO id,.yO Ad,.d (Ag l)],.c [.fn (.func 141) [] []],.c [.yO 0,.yO 0,.e0],.a (Ag (o++[x])),.c [.yO id,.yO Ad,.sl 3 (o++[x]).length 20],.c [.yO id,.yO Ad,.d (Ag l)],.lp r.busy,.c (Bz x)],_⟩,(have nC:=zh @Ag.eq_1 @Al.A4.eq_1;A8.cn rfl),zN _,rfl,rfl,rfl⟩
  refine zT AE Tryz.func258 ?_;refine A9 [0,1,4,6,7,8,9,16] ?_;refine CM (fun j:Nat=>j<=l.length) (fun j:Nat=>[(8,.yO j)]) (fun j=>[(3,.a (Ag (l.take j))),(4,.c [.yO id,.yO Ad,.sl 3 (l.take j).length 20])]) (fun j=>l.length-j) 0 (zi _) (fun _=>rfl) (fun _=>rfl) ?_ ?_
  .exact A8.ck rfl
  intro j hj
  by_cases hjl:j<l.length
  .obtain⟨x,hx⟩:=Ah hjl;have c3:=K5 x (hl x (q00 hx));unfold Al.d Al.A4 at c3;have hy:=hY x (l.take j) .gone (by rw[q0D];omega) rfl;have hn:=AY hx;rw[<-hn]at hy;have ix1:=hx;have q1:=@hy;refine AO [0,1,4,6,7,8,9,16] ?_ (AK @c3);clear q1 ix1;with_reducible repeat' first|constructor|intro hc
   refine⟨j+1,hjl,om,zN _,?_⟩;exact A8.ck rfl
  .have e:j=l.length:=om
   subst e;rw[q06];refine A9 [0,1,4,6,7,8,9,16] ?_;with_reducible repeat' first|constructor|intro hc
   exact⟨_,A8.refl _,zN _,_,_,rfl,rfl,rfl⟩
 .rintro r hr x H' rfl;refine .inl ⟨rfl,?_⟩;refine A9 KI ?_;exact wE
end Nd
end Go.Proofs.YtamjpnmjpponpaaGreatDoor
