/- Part 9 of a proof. Conditions: those that its theorems state. -/
import Derived.Test.YtmlaifbbpdanmaaV07
import Derived.Test.YtmlaifbbpdanmaaProg
set_option linter.unusedSimpArgs false
set_option linter.unusedVariables false
set_option linter.unnecessarySimpa false
set_option maxHeartbeats 40000000
set_option maxRecDepth 4000
namespace Go.Proofs.Ytmlaifbbpdanmaa
open Go.Gar
set_option maxRecDepth 100000
abbrev QS:Value:= .pointer none
abbrev QT:Value:= .int .u8 0
abbrev QU:Value:= .int .i64 0
abbrev QV:Value:= .nilFunc
abbrev QW:Value:= .slice none 0 0
abbrev QX:Value:= .string ⟨#[]⟩
abbrev QY:Value:= .int .u64 0
abbrev QZ:Value:= .int .i32 0
abbrev Qa:AK:=⟨.fn,1,8,false,[QV],false⟩
abbrev Qc:AK:=⟨.int .u8,1,1,false,[QT],false⟩
abbrev Qd:AK:=⟨.int .i64,1,8,false,[QU],false⟩
abbrev Qe:AK:=⟨.str,1,16,false,[QX],false⟩
abbrev Qg:AK:=⟨.int .i32,1,4,false,[QZ],false⟩
def T:Tr:=(.n (.n (.n (.n (.n (.n .l 2 Qd .l) 3 Qd .l) 4 ⟨.bool,1,1,false,[.bool false],false⟩ (.n .l 5 Qc .l)) 6 Qc (.n (.n (.n .l 8 ⟨.st [(0,2),(1,3),(2,4),(3,6)],4,24,true,[QU,QU,.bool false,QT],false⟩ .l) 9 Qe .l) 10 Qe (.n .l 11 Qe .l))) 12 ⟨.int .u64,1,8,false,[QY],false⟩ (.n (.n (.n (.n .l 14 ⟨.st [(0,9),(1,12)],2,24,true,[QX,QY],false⟩ .l) 15 ⟨.ptr 58,1,8,false,[QS],false⟩ .l) 16 ⟨.ptr 61,1,8,false,[QS],false⟩ (.n .l 17 ⟨.ptr 71,1,8,false,[QS],false⟩ .l)) 19 ⟨.st [(0,17)],1,8,true,[QS],false⟩ (.n (.n (.n .l 20 ⟨.ifc,1,16,false,[.nilIface],false⟩ .l) 22 ⟨.sl 27,1,24,false,[QW],false⟩ .l) 24 ⟨.st [(0,22),(1,3)],2,32,true,[QW,QU],false⟩ (.n .l 25 ⟨.sl 5,1,24,false,[QW],false⟩ .l)))) 27 ⟨.st [(0,3),(1,25),(2,4)],3,40,true,[QU,QW,.bool false],false⟩ (.n (.n (.n (.n (.n .l 34 Qd .l) 38 ⟨.sl 24,1,24,false,[QW],false⟩ .l) 40 Qa (.n .l 42 ⟨.sl 3,1,24,false,[QW],false⟩ .l)) 47 ⟨.ptr 27,1,8,false,[QS],false⟩ (.n (.n (.n .l 48 Qa .l) 52 Qa .l) 53 Qa (.n .l 55 Qa .l))) 58 ⟨.st [(0,17),(1,17),(2,17),(3,9)],4,40,true,[QS,QS,QS,QX],false⟩ (.n (.n (.n (.n .l 63 ⟨.int .u32,1,4,false,[.int .u32 0],false⟩ .l) 64 Qc .l) 65 Qc (.n .l 66 Qa .l)) 67 ⟨.ptr 5,1,8,false,[QS],false⟩ (.n (.n .l 68 Qg .l) 69 Qg (.n .l 71 ⟨.st [(0,12),(1,12),(2,63),(3,64),(4,5),(5,5),(6,65),(7,66),(8,67),(9,68),(10,69)],11,48,true,[QY,QY,.int .u32 0,QT,QT,QT,QT,QV,QS,QZ,QZ],false⟩ .l)))))
theorem A7:Ai Try.prog T.get:=Tr.ok (by kernel_rfl)
end Go.Proofs.Ytmlaifbbpdanmaa
namespace Go.Proofs.Ytmlaifbbpdanmaa
open Go.Gar
abbrev QK:=Go.Gar.Fn Try.prog
abbrev QL:=Df Try.prog
end Go.Proofs.Ytmlaifbbpdanmaa
namespace Go.Proofs.Ytmlaifbbpdanmaa
open Go.Gar
abbrev Dx:QQ:=[0,1,2,3,12,22]
abbrev Dy:QQ:=[0,1,4,5,10,14,26]
theorem mixed:Try.prog.follows .mixedOrders=true:=by kernel_rfl
structure AF where
 to:Int
 by_:A5
 harmed:Bool
 deriving DecidableEq
def AF.C1(g:AF):R6:=[.QO g.to,.by g.by_,.b g.harmed]
def AF.d(g:AF):D:=.agg g.C1
abbrev A1(l:List AF):D:=.sl 3 (l.map AF.C1)
structure Av where
 grams:List AF
 lost:Int
 deriving DecidableEq
def Av.d(b:Av):D:=.agg [.sl 3 (b.grams.map AF.C1),.QO b.lost]
def De:AF:=⟨0,[],false⟩
theorem KI{α:Type}[BEq α][LawfulBEq α][DecidableEq α](a b:α):(a==b)=decide (a=b):=by
 by_cases h:a=b<;>simp[h]
theorem B1{α:Type}{xs:List α}{k:Nat}(h:k<xs.length):∃x,xs[k]? =some x:=⟨xs[k],Qm h⟩
theorem Ht(x y:AF):QK 14 [x.d,y.d] (.b (decide (x=y))):=by
 obtain⟨n1,l1,c1⟩:=x;obtain⟨n2,l2,c2⟩:=y;refine zF A7 Try.func14 ?_;refine AC [0,1,2,3,4] ?_;with_reducible repeat' first|constructor|intro hc
 all_goals(refine⟨_,_,rfl,rfl,?_⟩;simp_all[Bg])
 exact(KI _ _).symm
theorem OH(g:AF)(h:g.by_.length<=100000):QK 17 [g.d] g.d:=by
 obtain⟨n,l,c⟩:=g;replace h:l.length<=100000:=h;refine zF A7 Try.func17 ?_;refine AC [0,1,2] ?_;with_reducible repeat' first|constructor|intro hc
 exact L0 (RI @AF.d.eq_1 @AF.C1.eq_1)
theorem BU(g:AF)(h:g.by_.length<=100000):QK 29 [g.d] g.d:=by
 obtain⟨n,l,c⟩:=g;replace h:l.length<=100000:=h;refine zF A7 Try.func29 ?_;refine AC [0,1,2] ?_;with_reducible repeat' first|constructor|intro hc
 exact L0 (RI @AF.d.eq_1 @AF.C1.eq_1)
theorem FX(n:Int)(l:A5)(c:Bool)(h:l.length<=100000):QL 29 [.d (AF.d ⟨n,l,c⟩)] [] (.ag [.QF n,.sl 2 l.length 1,.QG c]) [.gone,.c [.QF n,.sl 2 l.length 1,.QG c],.a (.by l)]:=by
 refine zD A7 Try.func29 ?_;have ow:Lv [5]:=trivial;refine AC [0,1,2] ?_;clear ow;with_reducible repeat' first|constructor|intro hc
 exact wE
def Av.E9(b:Av)(BO:Int):Bool:=decide (BO>=0)&&decide (BO<b.grams.length)
theorem Cy(b:Av)(BO:Int):QK 19 [b.d,.QO BO] (.b (b.E9 BO)):=by
 obtain⟨l,n⟩:=b;refine zF A7 Try.func19 ?_;refine AC [0,1,2,4] ?_;with_reducible repeat' first|constructor|intro hc
 all_goals(refine⟨_,_,rfl,rfl,?_⟩;simp_all[Bg,Av.E9]<;>omega)
def Av.great(b:Av):Bool:=(b.grams.take 421).any (fun g=>decide (g.by_.length>300))||decide (b.grams.length>420)
theorem Mk(b:Av):QK 4 [b.d] (.b b.great):=by
 obtain⟨l,n⟩:=b;refine zF A7 Try.func4 ?_;refine AC Dx ?_;with_reducible repeat' first|constructor|intro hc
 refine AT (fun k=>k<=421/\k<=l.length/\(l.take k).any (fun g=>decide (g.by_.length>300))=false) (fun k:Nat=>⟨[(1,.ptr 0 0 2),(2,.QG false),(3,.QF k)],[.c [.d (.sl 3 (l.map AF.C1)),.QF n]],27⟩) (fun k=>421-k) 0 ⟨om,om,sm⟩ ?_ (Qn _) ?_
 .exact A3.ck rfl
 rintro k ⟨hk,hkl,hpre⟩
 by_cases h1:k<l.length
 .by_cases h2:k<=420
  .obtain⟨x,hx⟩:=B1 h1
   have hnext:(l.take (k+1)).any (fun g=>decide (g.by_.length>300))=decide (x.by_.length>300):=by
    rw[List.take_add_one,hx,List.any_append,hpre];simp
   by_cases h3:x.by_.length>300
   .have hT:(l.take 421).any (fun g=>decide (g.by_.length>300))=true:=by
     rw[List.any_eq_true];exact⟨x,Ro (i:=k) (by rw[SB,Rf om];exact hx),by simpa using h3⟩
    have ix1:=hx;refine AC Dx ?_;clear ix1;with_reducible repeat' first|constructor|intro hc
    exact L0 (RI @Av.great.eq_1 hT)
   .have ix1:=hx;refine AC Dx ?_;clear ix1;with_reducible repeat' first|constructor|intro hc
    refine⟨k+1,⟨om,h1,by rw[hnext];simpa using h3⟩,om,Qn _,?_⟩;exact A3.ck rfl
  .have e:k=421:=om
   subst e;refine AC Dx ?_;with_reducible repeat' first|constructor|intro hc
   refine⟨_,_,rfl,rfl,?_⟩;simp[L1,AI,Af,AX,Av.great,hpre];omega
 .have e:k=l.length:=om
  subst e;refine AC Dx ?_;with_reducible repeat' first|constructor|intro hc
  have hT:(l.take 421).any (fun g=>decide (g.by_.length>300))=false:=by
   rw[List.take_of_length_le om];rwa [SK]at hpre
  refine⟨_,_,rfl,rfl,?_⟩;simp[L1,AI,Af,AX,Av.great,hT];omega
theorem Mj(xs ys:List AF)(hl:xs.length<1000000):QK 25 [A1 xs,A1 ys] (.b (decide (xs=ys))):=by
 refine zF A7 Try.func25 ?_
 by_cases heq:xs.length=ys.length
 .have e1:((xs.length:Int)!=(ys.length:Int))=false:=by rw[bne_eq_false_iff_eq];omega
  refine B6 Dy ?_ (C0 e1);with_reducible repeat' first|constructor|intro hc
  refine AT (fun k=>k<=xs.length/\xs.take k=ys.take k) (fun k:Nat=>⟨[(0,.d (A1 xs)),(1,.d (A1 ys)),(4,.QG false),(5,.QF k)],[],27⟩) (fun k=>xs.length-k) 0 ⟨RN _,sm⟩ ?_ (Qn _) ?_
  .exact A3.ck rfl
  rintro k ⟨hk,hpre⟩
  by_cases hkl:k<xs.length
  .obtain⟨x,hx⟩:=B1 hkl;obtain⟨y,hy⟩:=B1 (xs:=ys) (k:=k) om
   by_cases hxy:x=y
   .have ix1:=hx;have ix2:=hy;refine D2 Dy ?_ (C0 (RQ hxy)) (C0 (Ht x y));clear ix2 ix1;with_reducible repeat' first|constructor|intro hc
    refine⟨k+1,⟨hkl,by rw[List.take_add_one,List.take_add_one,hpre,hx,hy,hxy]⟩,om,Qn _,?_⟩;exact A3.ck rfl
   .have hne:¬xs=ys:=fun e=>by subst e;rw[hx]at hy;cases hy;exact hxy rfl
    have ix1:=hx;have ix2:=hy;refine D2 Dy ?_ (C0 (decide_eq_false hxy)) (C0 (Ht x y));clear ix2 ix1;with_reducible repeat' first|constructor|intro hc
    exact L0 hne
  .have e:k=xs.length:=om
   subst e;have hE:xs=ys:=by rw[SK,heq,SK]at hpre;exact hpre
   refine AC Dy ?_;with_reducible repeat' first|constructor|intro hc
   exact L0 hE
 .have e1:((xs.length:Int)!=(ys.length:Int))=true:=by rw[bne_iff_ne];omega
  have hne:¬xs=ys:=fun e=>heq (by rw[e]);refine B6 Dy ?_ (C0 e1);with_reducible repeat' first|constructor|intro hc
  exact L0 hne
theorem Iw(a b:Av)(hl:a.grams.length<1000000):QK 13 [a.d,b.d] (.b (decide (a=b))):=by
 obtain⟨xs,n⟩:=a;obtain⟨ys,m⟩:=b;refine zF A7 Try.func13 ?_;refine Ex [0,1,2,3,4] ?_ (C0 (Mj xs ys hl));with_reducible repeat' first|constructor|intro hc
 all_goals(refine⟨_,_,rfl,rfl,?_⟩;simp_all[Bg])
abbrev E0:QQ:=[0,1,2,6,7,8,9,14,15,16,17,18,30]
theorem MO(a b:A5):QK 28 [.by a,.by b] (.b (a==b)):=by
 refine zF A7 Try.func28 ?_;refine AC [0,1,4] ?_;with_reducible repeat' first|constructor|intro hc
 exact zE
theorem J2(x y:AF):QK 27 [x.d,y.d] (.b (decide (x=y))):=by
 obtain⟨n1,l1,c1⟩:=x;obtain⟨n2,l2,c2⟩:=y;refine zF A7 Try.func27 ?_;refine Ex [0,1,2,3,4] ?_ (C0 (MO l1 l2));with_reducible repeat' first|constructor|intro hc
 all_goals(refine⟨_,_,rfl,rfl,?_⟩;simp_all[Bg])
 exact(KI _ _).symm
theorem Hi(xs ys:List AF)(hl:xs.length<1000000):QL 26 [.d (A1 xs),.d (A1 ys),.fn (.func 27) [] []] [] (.QG (decide (xs=ys))) []:=by
 refine zD A7 Try.func26 ?_
 by_cases heq:xs.length=ys.length
 .have e1:((xs.length:Int)!=(ys.length:Int))=false:=by rw[bne_eq_false_iff_eq];omega
  refine B6 E0 ?_ (C0 e1);with_reducible repeat' first|constructor|intro hc
  refine AT (fun k=>k<=xs.length/\xs.take k=ys.take k) (fun k:Nat=>⟨[(1,.d (A1 ys)),(2,.fn (.func 27) [] []),(6,.QG false),(15,.d (A1 xs)),(16,.QF xs.length),(17,.QF k)],[],32⟩) (fun k=>xs.length-k) 0 ⟨RN _,sm⟩ ?_ (Qn _) ?_
  .exact A3.ck rfl
  rintro k ⟨hk,hpre⟩
  by_cases hkl:k<xs.length
  .obtain⟨x,hx⟩:=B1 hkl;obtain⟨y,hy⟩:=B1 (xs:=ys) (k:=k) om
   by_cases hxy:x=y
   .have ix1:=hx;have ix2:=hy;refine D2 E0 ?_ (C0 (RQ hxy)) (C0 (J2 x y));clear ix2 ix1;with_reducible repeat' first|constructor|intro hc
    refine⟨k+1,⟨hkl,by rw[List.take_add_one,List.take_add_one,hpre,hx,hy,hxy]⟩,om,Qn _,?_⟩;exact A3.ck rfl
   .have hne:¬xs=ys:=fun e=>by subst e;rw[hx]at hy;cases hy;exact hxy rfl
    rw[decide_eq_false hne];have ix1:=hx;have ix2:=hy;refine D2 E0 ?_ (C0 (decide_eq_false hxy)) (C0 (J2 x y));clear ix2 ix1;with_reducible repeat' first|constructor|intro hc
    exact wE
  .have e:k=xs.length:=om
   subst e;have hE:xs=ys:=by rw[SK,heq,SK]at hpre;exact hpre
   rw[RQ hE];refine AC E0 ?_;with_reducible repeat' first|constructor|intro hc
   exact wE
 .have e1:((xs.length:Int)!=(ys.length:Int))=true:=by rw[bne_iff_ne];omega
  have hne:¬xs=ys:=fun e=>heq (by rw[e]);rw[decide_eq_false hne]
  refine B6 E0 ?_ (C0 e1);with_reducible repeat' first|constructor|intro hc
  exact wE
theorem Ku(a b:Av)(hl:a.grams.length<1000000):QK 16 [a.d,b.d] (.b (decide (a=b))):=by
 obtain⟨xs,n⟩:=a;obtain⟨ys,m⟩:=b;refine zF A7 Try.func16 ?_;refine Fi [0,1,2,3,4] ?_ (HY [] (Hi xs ys hl));with_reducible repeat' first|constructor|intro hc
 all_goals(refine⟨_,_,rfl,rfl,?_⟩;simp_all[Bg])
end Go.Proofs.Ytmlaifbbpdanmaa
