/- Part 8 of a proof. Conditions: those that its theorems state. -/
import Derived.Test.YtamjpnmjpponpaaGreatDoorC07
import Derived.Test.YtamjpnmjpponpaaGreatDoorProg
import Derived.Shelf.Slices.In.SortAlone
import Derived.Shelf.SlicesE.DeleteFunc
set_option linter.unusedSimpArgs false
set_option linter.unusedVariables false
set_option linter.unnecessarySimpa false
set_option maxHeartbeats 40000000
set_option maxRecDepth 4000
namespace Go.Proofs.YtamjpnmjpponpaaGreatDoor
open Go.Gar
set_option maxRecDepth 100000
abbrev yY:Value:= .int .i64 0
abbrev yZ:Value:= .slice none 0 0
abbrev yc:Value:= .bool false
abbrev yg:Value:= .int .u8 0
abbrev yh:Value:= .nilFunc
abbrev yj:Value:= .string ⟨#[]⟩
abbrev yu:Value:= .pointer none
abbrev yw:Value:= .int .u64 0
abbrev yx:Value:= .int .i32 0
abbrev zA:Value:= .map none
abbrev zH:Bv:=⟨.fn,1,8,false,[yh],false⟩
abbrev zI:Bv:=⟨.int .i64,1,8,false,[yY],false⟩
abbrev zJ:Bv:=⟨.int .u8,1,1,false,[yg],false⟩
abbrev zK:Bv:=⟨.int .u64,1,8,false,[yw],false⟩
abbrev zL:Bv:=⟨.str,1,16,false,[yj],false⟩
abbrev zM:Bv:=⟨.int .i32,1,4,false,[yx],false⟩
def T:Tr:=(.n (.n (.n (.n (.n (.n (.n (.n .l 1 zH .l) 2 zI .l) 3 zI (.n .l 4 ⟨.bool,1,1,false,[yc],false⟩ .l)) 5 zJ (.n (.n (.n .l 6 zJ .l) 7 ⟨.st [(0,2),(1,3),(2,4),(3,6)],4,24,true,[yY,yY,yc,yg],true⟩ .l) 8 ⟨.st [(0,2),(1,3),(2,4),(3,6)],4,24,true,[yY,yY,yc,yg],false⟩ (.n .l 9 zL .l))) 10 zL (.n (.n (.n (.n .l 11 zL .l) 12 zK .l) 14 ⟨.st [(0,9),(1,12)],2,24,true,[yj,yw],false⟩ (.n .l 15 ⟨.ptr 424,1,8,false,[yu],false⟩ .l)) 16 ⟨.ptr 427,1,8,false,[yu],false⟩ (.n (.n .l 17 ⟨.ptr 435,1,8,false,[yu],false⟩ .l) 18 ⟨.st [(0,17)],1,8,true,[yu],false⟩ (.n .l 19 ⟨.st [(0,17)],1,8,true,[yu],false⟩ .l)))) 20 ⟨.ifc,1,16,false,[.nilIface],false⟩ (.n (.n (.n (.n (.n .l 21 zM .l) 22 ⟨.sl 3,1,24,false,[yZ],false⟩ .l) 23 ⟨.sl 40,1,24,false,[yZ],false⟩ (.n .l 24 zH .l)) 25 zH (.n (.n .l 26 ⟨.sl 58,1,24,false,[yZ],false⟩ .l) 27 ⟨.sl 68,1,24,false,[yZ],false⟩ (.n .l 28 ⟨.st [(0,27),(1,3)],2,32,true,[yZ,yY],false⟩ .l))) 29 ⟨.st [(0,27),(1,3)],2,32,true,[yZ,yY],false⟩ (.n (.n (.n (.n .l 31 ⟨.st [(0,26),(1,22),(2,22),(3,29)],5,104,true,[yZ,yZ,yZ,yZ,yY],false⟩ .l) 32 zI .l) 34 zH (.n .l 36 ⟨.sl 5,1,24,false,[yZ],false⟩ .l)) 38 ⟨.st [(0,9),(1,3),(2,3),(3,4)],4,40,true,[yj,yY,yY,yc],true⟩ (.n (.n .l 40 ⟨.st [(0,5),(1,3),(2,3),(3,3),(4,36),(5,38)],9,96,true,[yg,yY,yY,yY,yZ,yj,yY,yY,yc],false⟩ .l) 43 ⟨.arr 16 3,16,128,true,[yY,yY,yY,yY,yY,yY,yY,yY,yY,yY,yY,yY,yY,yY,yY,yY],true⟩ (.n .l 45 ⟨.st [(0,3),(1,22),(2,22),(3,3),(4,43)],20,192,true,[yY,yZ,yZ,yY,yY,yY,yY,yY,yY,yY,yY,yY,yY,yY,yY,yY,yY,yY,yY,yY],false⟩ .l))))) 46 ⟨.sl 152,1,24,false,[yZ],false⟩ (.n (.n (.n (.n (.n (.n .l 48 ⟨.st [(0,3),(1,3),(2,46)],3,40,true,[yY,yY,yZ],false⟩ .l) 49 ⟨.sl 120,1,24,false,[yZ],false⟩ .l) 51 ⟨.st [(0,5),(1,3)],2,16,true,[yg,yY],true⟩ (.n .l 53 ⟨.st [(0,3),(1,3),(2,3),(3,4),(4,4),(5,32)],6,40,true,[yY,yY,yY,yc,yc,yY],true⟩ .l)) 55 ⟨.st [(0,5),(1,5),(2,53),(8,38),(12,3),(13,22),(14,32)],15,128,true,[yg,yg,yY,yY,yY,yc,yc,yY,yj,yY,yY,yc,yY,yZ,yY],false⟩ (.n (.n .l 56 ⟨.sl 38,1,24,false,[yZ],false⟩ .l) 57 ⟨.st [(0,45),(20,3),(21,48),(24,49),(25,51),(27,55),(42,55),(57,55),(72,3),(73,9),(74,56),(75,3)],76,720,true,yY::yZ::yZ::yY::yY::yY::yY::yY::yY::yY::yY::yY::yY::yY::yY::yY::yY::yY::yY::yY::yY::yY::yY::yZ::yZ::yg::yY::yg::yg::yY::yY::yY::yc::yc::yY::yj::yY::yY::yc::yY::yZ::yY::yg::yg::yY::yY::yY::yc::yc::yY::yj::yY::yY::yc::yY::yZ::yY::yg::yg::yY::yY::yY::yc::yc::yY::yj::yY::yY::yc::yY::yZ::yY::yY::yj::yZ::yY::[],false⟩ (.n .l 58 ⟨.st [(0,45),(20,3),(21,48),(24,49),(25,51),(27,55),(42,55),(57,55),(72,3),(73,9),(74,56),(75,3)],76,720,true,yY::yZ::yZ::yY::yY::yY::yY::yY::yY::yY::yY::yY::yY::yY::yY::yY::yY::yY::yY::yY::yY::yY::yY::yZ::yZ::yg::yY::yg::yg::yY::yY::yY::yc::yc::yY::yj::yY::yY::yc::yY::yZ::yY::yg::yg::yY::yY::yY::yc::yc::yY::yj::yY::yY::yc::yY::yZ::yY::yg::yg::yY::yY::yY::yc::yc::yY::yj::yY::yY::yc::yY::yZ::yY::yY::yj::yZ::yY::[],false⟩ .l))) 68 ⟨.st [(0,3),(1,36),(2,4)],3,40,true,[yY,yZ,yc],false⟩ (.n (.n (.n (.n .l 74 zH .l) 76 ⟨.ptr 31,1,8,false,[yu],false⟩ .l) 82 zH (.n .l 86 zH .l)) 87 zH (.n (.n .l 89 ⟨.ptr 58,1,8,false,[yu],false⟩ .l) 96 ⟨.mp 5 74,1,8,false,[zA],false⟩ (.n .l 114 zH .l)))) 118 ⟨.st [(0,5),(1,3),(2,3),(3,3),(4,3),(5,4),(6,4),(7,3),(8,3),(9,22),(10,38),(14,32)],15,136,true,[yg,yY,yY,yY,yY,yc,yc,yY,yY,yZ,yj,yY,yY,yc,yY],false⟩ (.n (.n (.n (.n (.n .l 120 ⟨.st [(0,3),(1,3),(2,118)],17,152,true,[yY,yY,yg,yY,yY,yY,yY,yc,yc,yY,yY,yZ,yj,yY,yY,yc,yY],false⟩ .l) 121 zH .l) 126 zH (.n .l 128 ⟨.ptr 68,1,8,false,[yu],false⟩ .l)) 129 zH (.n (.n .l 133 zH .l) 136 zH (.n .l 145 zH .l))) 152 ⟨.st [(0,3),(1,118),(16,5),(17,3),(18,3),(19,3)],20,176,true,[yY,yg,yY,yY,yY,yY,yc,yc,yY,yY,yZ,yj,yY,yY,yc,yY,yg,yY,yY,yY],false⟩ (.n (.n (.n (.n .l 160 ⟨.ptr 152,1,8,false,[yu],false⟩ .l) 161 zH .l) 162 zH (.n .l 163 zH .l)) 166 zH (.n (.n .l 167 zH .l) 169 ⟨.sl 25,1,24,false,[yZ],false⟩ (.n .l 170 zH .l)))))) 171 zH (.n (.n (.n (.n (.n (.n (.n .l 173 zH .l) 174 zH .l) 181 zK (.n .l 183 zH .l)) 184 zH (.n (.n (.n .l 185 zH .l) 188 ⟨.st [(0,58),(76,27)],77,744,true,yY::yZ::yZ::yY::yY::yY::yY::yY::yY::yY::yY::yY::yY::yY::yY::yY::yY::yY::yY::yY::yY::yY::yY::yZ::yZ::yg::yY::yg::yg::yY::yY::yY::yc::yc::yY::yj::yY::yY::yc::yY::yZ::yY::yg::yg::yY::yY::yY::yc::yc::yY::yj::yY::yY::yc::yY::yZ::yY::yg::yg::yY::yY::yY::yc::yc::yY::yj::yY::yY::yc::yY::yZ::yY::yY::yj::yZ::yY::yZ::[],false⟩ .l) 191 ⟨.sl 258,1,24,false,[yZ],false⟩ (.n .l 195 ⟨.sl 1,1,24,false,[yZ],false⟩ .l))) 202 zH (.n (.n (.n (.n .l 215 zH .l) 216 zH .l) 218 zH (.n .l 219 zH .l)) 220 zH (.n (.n .l 221 zH .l) 222 zH (.n .l 227 zH .l)))) 229 zI (.n (.n (.n (.n (.n .l 237 ⟨.int .u32,1,4,false,[.int .u32 0],false⟩ .l) 239 zK .l) 240 zH (.n .l 242 ⟨.ptr 188,1,8,false,[yu],false⟩ .l)) 245 ⟨.st [(0,58),(76,191)],77,744,true,yY::yZ::yZ::yY::yY::yY::yY::yY::yY::yY::yY::yY::yY::yY::yY::yY::yY::yY::yY::yY::yY::yY::yY::yZ::yZ::yg::yY::yg::yg::yY::yY::yY::yc::yc::yY::yj::yY::yY::yc::yY::yZ::yY::yg::yg::yY::yY::yY::yc::yc::yY::yj::yY::yY::yc::yY::yZ::yY::yg::yg::yY::yY::yY::yc::yc::yY::yj::yY::yY::yc::yY::yZ::yY::yY::yj::yZ::yY::yZ::[],false⟩ (.n (.n .l 246 ⟨.ptr 55,1,8,false,[yu],false⟩ .l) 248 ⟨.sl 118,1,24,false,[yZ],false⟩ (.n .l 258 ⟨.st [(0,118),(15,5)],16,144,true,[yg,yY,yY,yY,yY,yc,yc,yY,yY,yZ,yj,yY,yY,yc,yY,yg],false⟩ .l))) 266 zH (.n (.n (.n (.n .l 268 ⟨.mp 5 266,1,8,false,[zA],false⟩ .l) 276 zH .l) 278 ⟨.mp 5 1,1,8,false,[zA],false⟩ (.n .l 281 zH .l)) 283 zK (.n (.n .l 287 ⟨.ptr 3,1,8,false,[yu],false⟩ .l) 289 zH (.n .l 290 zH .l))))) 298 ⟨.st [(0,45),(20,55),(35,248),(36,4)],37,352,true,[yY,yZ,yZ,yY,yY,yY,yY,yY,yY,yY,yY,yY,yY,yY,yY,yY,yY,yY,yY,yY,yg,yg,yY,yY,yY,yc,yc,yY,yj,yY,yY,yc,yY,yZ,yY,yZ,yc],false⟩ (.n (.n (.n (.n (.n (.n .l 300 ⟨.ptr 245,1,8,false,[yu],false⟩ .l) 316 ⟨.st [(0,32)],1,8,true,[yY],true⟩ .l) 318 ⟨.st [(0,36)],1,24,true,[yZ],false⟩ (.n .l 320 ⟨.ptr 118,1,8,false,[yu],false⟩ .l)) 322 ⟨.ptr 318,1,8,false,[yu],false⟩ (.n (.n .l 332 ⟨.mp 5 202,1,8,false,[zA],false⟩ .l) 334 zH (.n .l 337 ⟨.ptr 283,1,8,false,[yu],false⟩ .l))) 340 zH (.n (.n (.n (.n .l 342 zH .l) 344 ⟨.ptr 298,1,8,false,[yu],false⟩ .l) 354 zH (.n .l 363 ⟨.ptr 45,1,8,false,[yu],false⟩ .l)) 367 ⟨.st [(0,36)],1,24,true,[yZ],false⟩ (.n (.n .l 370 ⟨.ptr 367,1,8,false,[yu],false⟩ .l) 377 zH (.n .l 379 ⟨.mp 5 377,1,8,false,[zA],false⟩ .l)))) 382 ⟨.st [(0,5),(1,5)],2,2,true,[yg,yg],true⟩ (.n (.n (.n (.n (.n .l 383 ⟨.arr 4 382,8,8,true,[yg,yg,yg,yg,yg,yg,yg,yg],true⟩ .l) 394 zH .l) 395 zH (.n .l 400 zH .l)) 401 zH (.n (.n .l 408 ⟨.arr 3 3,3,24,true,[yY,yY,yY],true⟩ .l) 412 ⟨.st [(0,3),(1,3),(2,4)],3,24,true,[yY,yY,yc],true⟩ (.n .l 415 zH .l))) 419 zH (.n (.n (.n (.n .l 424 ⟨.st [(0,17),(1,17),(2,17),(3,9)],4,40,true,[yu,yu,yu,yj],false⟩ .l) 428 zJ .l) 429 zJ (.n .l 430 zH .l)) 431 ⟨.ptr 5,1,8,false,[yu],false⟩ (.n (.n .l 432 zM .l) 433 zM (.n .l 435 ⟨.st [(0,12),(1,12),(2,237),(3,428),(4,5),(5,5),(6,429),(7,430),(8,431),(9,432),(10,433)],11,48,true,[yw,yw,.int .u32 0,yg,yg,yg,yg,yh,yu,yx,yx],false⟩ .l)))))))
theorem AE:Ce Tryz.prog T.get:=Tr.ok (by kernel_rfl)
end Go.Proofs.YtamjpnmjpponpaaGreatDoor
namespace Go.Proofs.YtamjpnmjpponpaaGreatDoor
open Go.Gar
abbrev yS:=Go.Gar.Fn Tryz.prog
abbrev yT:=Aw Tryz.prog
end Go.Proofs.YtamjpnmjpponpaaGreatDoor
namespace Go.Proofs.YtamjpnmjpponpaaGreatDoor
open Go.Gar
abbrev Pj:BF:=[0,1,4,5,6,11,12,13,16,19]
abbrev Hd:BF:=[0,2,3,5,6,7,8,9,14]
theorem mixed:Tryz.prog.follows .mixedOrders=true:=by kernel_rfl
variable {α:Type}
theorem Dp[BEq α][LawfulBEq α][DecidableEq α](a b:α):(a==b)=decide (a=b):=by
 by_cases h:a=b<;>simp[h]
theorem Ah{xs:List α}{k:Nat}(h:k<xs.length):∃x,xs[k]? =some x:=⟨xs[k],zV h⟩
theorem AY{l:List α}{k:Nat}{x:α}(hx:l[k]? =some x):l.take (k+1)=l.take k++[x]:=by
 rw[q1S,hx];rfl
variable {a b:Int}
theorem C8(h:a=b):(a !=b)=false:=by rw[bne_eq_false_iff_eq];exact h
theorem CI(h:a≠b):(a !=b)=true:=by rw[bne_iff_ne];exact h
theorem eq_false'(h:a≠b):(a==b)=false:=by rw[beq_eq_false_iff_ne];exact h
theorem AT(h:a=b):(a==b)=true:=by rw[beq_iff_eq];exact h
structure AS where
 AI:AL
 B4:Int
 AZ:Int
 gone:Bool
 deriving DecidableEq
def AS.A4(x:AS):yp:=[.s x.AI,.yX x.B4,.yX x.AZ,.b x.gone]
def AS.d(x:AS):D:=.agg x.A4
abbrev BU(l:List AS):D:=.sl 4 (l.map AS.A4)
def An:AS:=⟨[],0,0,false⟩
def AS.rank(x:AS):D:=.agg [.yX x.AZ,.yX x.B4,.b x.gone]
theorem ma(x y:AS):Ix x.A4 y.A4=decide (x=y):=by
 obtain⟨a,b,c,d⟩:=x;obtain⟨a',b',c',d'⟩:=y;simp[AS.A4,Ix,eq1,Dp]
theorem L0(x y:AS):Ix [.s x.AI,.yX x.B4,.yX x.AZ,.b x.gone] [.s y.AI,.yX y.B4,.yX y.AZ,.b y.gone]=decide (x=y):=ma x y
theorem tJ(x:AS):yS 424 [x.d] x.rank:=by
 obtain⟨k,v,n,g⟩:=x;refine zF AE Tryz.func424 ?_;refine A9 [0,1,2] ?_;exact BW @AS.rank.eq_1
theorem XZ(x:Int):yS 268 [.yX x] (.b false):=by
 refine zF AE Tryz.func268 ?_;refine A9 [0,2] ?_;exact zE
def Hv(x y:Int):Int:=if x<y then -1 else if y<x then 1 else 0
theorem R7(x y:Int):yS 426 [.yX x,.yX y] (.yX (Hv x y)):=by
 have h1:=XZ x;have h2:=XZ y;refine zF AE Tryz.func426 ?_;rcases Int.lt_trichotomy x y with h|h|h
 .have e:Hv x y= -1:=zn h;refine AO Pj ?_ (Au @h1 @h2);with_reducible repeat' first|constructor|intro hc
  exact BW e
 .have e:Hv x y=0:=by unfold Hv;rw[zx om,zx om]
  refine AO Pj ?_ (Au @h1 @h2);with_reducible repeat' first|constructor|intro hc
  exact BW e
 .have e:Hv x y=1:=by unfold Hv;rw[zx om,zn h]
  refine AO Pj ?_ (Au @h1 @h2);with_reducible repeat' first|constructor|intro hc
  exact BW e
def hU(a b:Int):Int:=if a=0 then b else a
theorem wg(a b:Int):yS 425 [.is [a,b]] (.yX (hU a b)):=by
 refine zF AE Tryz.func425 ?_;refine A9 Hd ?_;refine BX (fun k:Nat=>k<=2/\(1<=k->a=0)/\(2<=k->b=0)) (fun k:Nat=>⟨[(2,.yO 0),(3,.yO 0),(6,.yV ([a,b])),(7,.yO 2),(8,.yO k)],[],18⟩) (fun k=>2-k) 0 ⟨zi _,om,om⟩ ?_ (zN _) ?_
 .exact A8.ck rfl
 rintro k ⟨hk,h1,h2⟩
 by_cases k0:k=0
 .subst k0
  by_cases ha:a=0
  .refine Aj Hd ?_ (AK (C8 ha));refine⟨1,⟨om,fun _=>ha,om⟩,om,zN _,?_⟩;exact A8.ck rfl
  .have e:hU a b=a:=zx ha;refine Aj Hd ?_ (AK (CI ha));exact BW e
 .have ha:=h1 om;have e:hU a b=b:=zn ha
  by_cases k1:k=1
  .subst k1
   by_cases hb:b=0
   .refine Aj Hd ?_ (AK (C8 hb));refine⟨2,⟨om,fun _=>ha,fun _=>hb⟩,om,zN _,?_⟩;exact A8.ck rfl
   .refine Aj Hd ?_ (AK (CI hb));exact BW e
  .have k2:k=2:=om
   subst k2;have hb:b=0:=h2 (zN 2);subst hb;refine A9 Hd ?_;exact BW e
abbrev EM:BF:=[0,1,2,3,4,5,6,7,14,32,34]
def Jn(x y:AS):Int:=
 if x.AZ<y.AZ then -1 else if y.AZ<x.AZ then 1 else if x.B4<y.B4 then -1 else if y.B4<x.B4 then 1 else
 if x.gone=y.gone then 0 else if x.gone then 1 else -1
theorem tY(x y:AS):yS 392 [x.d,y.d] (.yX (Jn x y)):=by
 have c1:=tJ x;have c2:=tJ y;obtain⟨k,v,n,g⟩:=x;obtain⟨k',v',n',g'⟩:=y;have c3:=R7 n n';have c4:=R7 v v';have c5:=wg (Hv n n') (Hv v v');refine zF AE Tryz.func392 ?_;refine A9 EM ?_ [] [1];refine Hn T.get 4 5 2 3 ⟨[(0,.d (AS.d ⟨k,v,n,g⟩)),(1,.d (AS.d ⟨k',v',n',g'⟩)),(2,.ptr 0 0 4),(3,.ptr 1 0 4),(4,.yO 0),(5,.ptr 2 0 3),(6,.ptr 3 0 3)],[.c [.yU k,.yO v,.yO n,.yP g],.c [.yU k',.yO v',.yO n',.yP g'],.c [.yO n,.yO v,.yP g],.c [.yO n',.yO v',.yP g']],36⟩ mixed rfl rfl rfl ?_ ?_ ?_
 .refine AO EM ?_ (Au @c1 @c2) [(0,4),(0,5),(0,6),(0,7),(2,4),(2,5),(2,6),(2,7)];exact⟨rfl,.inl rfl⟩
 .refine AO EM ?_ (Au @c1 @c2) [(0,4),(0,5),(0,6),(0,7),(2,4),(2,5),(2,6),(2,7)];exact⟨rfl,.inr rfl⟩
 by_cases hs:n=n'/\v=v'/\g=g'
 .obtain⟨rfl,rfl,rfl⟩:=hs;have e:Ix [.yX n,.yX v,.b g] [.yX n,.yX v,.b g]=true:=by simp[Ix,eq1]
  have eT:Jn ⟨k,v,n,g⟩ ⟨k',v,n,g⟩=0:=by simp[Jn]
  refine Aj EM ?_ (AK e);exact BW eT
 have e:Ix [.yX n,.yX v,.b g] [.yX n',.yX v',.b g']=false:=by
  cases h:Ix [.yX n,.yX v,.b g] [.yX n',.yX v',.b g']with
  |false=>rfl
  |true=>simp[Ix,eq1]at h;exact absurd h hs
 rcases Int.lt_trichotomy n n' with h|h|h
 .have hO:hU (Hv n n') (Hv v v')= -1:=by simp[hU,Hv,h]
  have eT:Jn ⟨k,v,n,g⟩ ⟨k',v',n',g'⟩= -1:=by simp[Jn,h]
  rw[hO]at c5;refine AJ EM ?_ (AK e) (CP @c3 @c4 @c5);exact BW eT
 .subst h;rcases Int.lt_trichotomy v v' with h|h|h
  .have hO:hU (Hv n n) (Hv v v')= -1:=by simp[hU,Hv,h]
   have eT:Jn ⟨k,v,n,g⟩ ⟨k',v',n,g'⟩= -1:=by simp[Jn,h]
   rw[hO]at c5;refine AJ EM ?_ (AK e) (CP @c3 @c4 @c5);exact BW eT
  .subst h;have hg:¬g=g':=fun hg=>hs ⟨rfl,rfl,hg⟩
   have hO:hU (Hv n n) (Hv v v)=0:=by simp[hU,Hv]
   rw[hO]at c5
   cases g with
   |true=>
    have eT:Jn ⟨k,v,n,true⟩ ⟨k',v,n,g'⟩=1:=by simp[Jn,hg]
    refine AJ EM ?_ (AK e) (CP @c3 @c4 @c5);exact BW eT
   |false=>
    have eT:Jn ⟨k,v,n,false⟩ ⟨k',v,n,g'⟩= -1:=by simp[Jn,hg]
    refine AJ EM ?_ (AK e) (CP @c3 @c4 @c5);exact BW eT
  .have hO:hU (Hv n n) (Hv v v')=1:=by simp[hU,Hv,h,show ¬v<v' by omega]
   have eT:Jn ⟨k,v,n,g⟩ ⟨k',v',n,g'⟩=1:=by simp[Jn,h,show ¬v<v' by omega]
   rw[hO]at c5;refine AJ EM ?_ (AK e) (CP @c3 @c4 @c5);exact BW eT
 .have hO:hU (Hv n n') (Hv v v')=1:=by simp[hU,Hv,h,show ¬n<n' by omega]
  have eT:Jn ⟨k,v,n,g⟩ ⟨k',v',n',g'⟩=1:=by simp[Jn,h,show ¬n<n' by omega]
  rw[hO]at c5;refine AJ EM ?_ (AK e) (CP @c3 @c4 @c5);exact BW eT
theorem jR(x y:AS):yS 359 [x.d,y.d] (.b (decide (Jn x y>0))):=by
 have c:=tY x y;refine zF AE Tryz.func359 ?_;refine AO [0,1,2,3,4] ?_ (AK @c);exact zE
def AS.may(x:AS):Bool:=decide (1<=x.AI.length)&&decide (x.AI.length<=20)&&decide (0<=x.B4)&&decide (x.B4<=1048576)&&decide (0<=x.AZ)&&decide (x.AZ<=1048576)
theorem rY(x:AS):x.may=true↔(1<=x.AI.length/\x.AI.length<=20)/\(0<=x.B4/\x.B4<=1048576)/\(0<=x.AZ/\x.AZ<=1048576):=by
 simp only[AS.may,zO,zW];constructor
 .rintro⟨⟨⟨⟨⟨h1,h2⟩,h3⟩,h4⟩,h5⟩,h6⟩;exact⟨⟨h1,h2⟩,⟨h3,h4⟩,h5,h6⟩
 .rintro⟨⟨h1,h2⟩,⟨h3,h4⟩,h5,h6⟩;exact⟨⟨⟨⟨⟨h1,h2⟩,h3⟩,h4⟩,h5⟩,h6⟩
theorem Np(s:AL):yS 201 [.s s] (.b (decide (1<=s.length/\s.length<=20))):=by
 refine zF AE Tryz.func201 ?_
 by_cases h1:1<=s.length
 .have f1:decide ((s.length:Int)>=1)=true:=zU om
  by_cases h2:s.length<=20
  .have f2:decide ((s.length:Int)<=20)=true:=zU om;rw[zU (show 1<=s.length/\s.length<=20 from⟨h1,h2⟩)];refine Aj [0,2] ?_ (Au f1 f2);exact zE
  .have f2:decide ((s.length:Int)<=20)=false:=zQ om;rw[zQ (show ¬(1<=s.length/\s.length<=20)from fun h=>h2 h.2)];refine Aj [0,2] ?_ (Au f1 f2);exact zE
 .have f1:decide ((s.length:Int)>=1)=false:=zQ om;rw[zQ (show ¬(1<=s.length/\s.length<=20)from fun h=>h1 h.1)];refine Aj [0,2] ?_ (AK f1);exact zE
theorem I3(n:Int):yS 202 [.yX n] (.b (decide (0<=n/\n<=1048576))):=by
 refine zF AE Tryz.func202 ?_;refine A9 [0,2] ?_;repeat'(apply zB<;>intro hc)
 all_goals(refine⟨_,_,rfl,rfl,?_⟩;simp_all[Cw]<;>omega)
theorem LO(x:AS):yS 151 [x.d] (.b x.may):=by
 obtain⟨k,v,n,g⟩:=x;have c1:=Np k;have c2:=I3 v;have c3:=I3 n;have hm:=rY ⟨k,v,n,g⟩;refine zF AE Tryz.func151 ?_;refine AO [0,1,2] ?_ (CP @c1 @c2 @c3);repeat'(apply zB<;>intro hc)
 all_goals(refine⟨_,_,rfl,rfl,?_⟩;simp_all[Cw,AS.may]<;>omega)
theorem T4(x:AS):yS 139 [x.d] (.b x.may):=by
 obtain⟨k,v,n,g⟩:=x;refine zF AE Tryz.func139 ?_;refine A9 [0,1,2] ?_;repeat'(apply zB<;>intro hc)
 all_goals(refine⟨_,_,rfl,rfl,?_⟩;simp_all[Cw,AS.may]<;>omega)
end Go.Proofs.YtamjpnmjpponpaaGreatDoor
namespace Go.Proofs.YtamjpnmjpponpaaGreatDoor
namespace Wi
open Go.Gar
structure AF where
 AN:Int
 Ae:Int
 B8:Int
 dst:Int
 AI:Int
 BA:Bool
 done:Bool
 AP:Int
 AH:Int
 AB:Ai
 AC:AS
 Aa:Int
 deriving DecidableEq
def AF.A4(m:AF):yp:=[.i .u8 m.AN,.yX m.Ae,.yX m.B8,.yX m.dst,.yX m.AI,.b m.BA,.b m.done,.yX m.AP,.yX m.AH,.is m.AB,.s m.AC.AI,.yX m.AC.B4,.yX m.AC.AZ,.b m.AC.gone,.yX m.Aa]
def AF.d(m:AF):D:=.agg m.A4
def AU:AF:=⟨0,0,0,0,0,false,false,0,0,[],An,0⟩
def BV(n:Int):Bool:=decide (0<=n)&&decide (n<65536)
theorem Et(n:Int):yS 186 [.yX n] (.b (BV n)):=by
 refine zF AE Tryz.func186 ?_;refine A9 [0,2] ?_;repeat'(apply zB<;>intro hc)
 all_goals(refine⟨_,_,rfl,rfl,?_⟩;simp_all[Cw,BV]<;>omega)
theorem PK(n:Int):yS 205 [.yX n] (.b (BV n)):=by
 refine zF AE Tryz.func205 ?_;refine A9 [0,2] ?_;repeat'(apply zB<;>intro hc)
 all_goals(refine⟨_,_,rfl,rfl,?_⟩;simp_all[Cw,BV]<;>omega)
def AF.BY(m:AF):Bool:=decide (1<=m.AN)&&decide (m.AN<=6)
theorem T3(m:AF):yS 135 [m.d] (.b m.BY):=by
 obtain⟨k,c,s,d,ky,sl,dn,pl,pr,l,⟨ik,iv,ir,ig⟩,co⟩:=m;refine zF AE Tryz.func135 ?_;refine A9 [0,1,2] ?_;repeat'(apply zB<;>intro hc)
 all_goals(refine⟨_,_,rfl,rfl,?_⟩;simp_all[Cw,AF.BY]<;>omega)
theorem Gs(m:AF):yS 153 [m.d] (.b m.BY):=by
 obtain⟨k,c,s,d,ky,sl,dn,pl,pr,l,⟨ik,iv,ir,ig⟩,co⟩:=m;refine zF AE Tryz.func153 ?_;refine A9 [0,1,2] ?_;repeat'(apply zB<;>intro hc)
 all_goals(refine⟨_,_,rfl,rfl,?_⟩;simp_all[Cw,AF.BY]<;>omega)
def AF.asker(m:AF):Int:=if m.BY then m.B8 else m.dst
theorem iC(m:AF):yS 187 [m.d] (.yX m.asker):=by
 have h:=T3 m
 by_cases e:m.BY=true
 .rw[e]at h;have e2:m.asker=m.B8:=zn e;obtain⟨k,c,s,d,ky,sl,dn,pl,pr,l,⟨ik,iv,ir,ig⟩,co⟩:=m;refine zF AE Tryz.func187 ?_;refine AO [0,1,2,4] ?_ (AK @h);exact BW e2
 .have e:m.BY=false:=by simpa using e
  rw[e]at h;have e2:m.asker=m.dst:=zx (by simp[e]);obtain⟨k,c,s,d,ky,sl,dn,pl,pr,l,⟨ik,iv,ir,ig⟩,co⟩:=m;refine zF AE Tryz.func187 ?_;refine AO [0,1,2,4] ?_ (AK @h);exact BW e2
theorem gZ(m:AF):yS 207 [m.d] (.yX m.asker):=by
 have h:=Gs m
 by_cases e:m.BY=true
 .rw[e]at h;have e2:m.asker=m.B8:=zn e;obtain⟨k,c,s,d,ky,sl,dn,pl,pr,l,⟨ik,iv,ir,ig⟩,co⟩:=m;refine zF AE Tryz.func207 ?_;refine AO [0,1,2,4] ?_ (AK @h);exact BW e2
 .have e:m.BY=false:=by simpa using e
  rw[e]at h;have e2:m.asker=m.dst:=zx (by simp[e]);obtain⟨k,c,s,d,ky,sl,dn,pl,pr,l,⟨ik,iv,ir,ig⟩,co⟩:=m;refine zF AE Tryz.func207 ?_;refine AO [0,1,2,4] ?_ (AK @h);exact BW e2
def Bp(s:AL):Bool:=decide ((s.length:Int)>=1)&&decide ((s.length:Int)<=20)
def isVal(n:Int):Bool:=decide (0<=n)&&decide (n<=1048576)
def B7(x:AS):Bool:=Bp x.AI&&isVal x.B4&&isVal x.AZ
theorem Np(s:AL):yS 201 [.s s] (.b (Bp s)):=by
 refine zF AE Tryz.func201 ?_
 by_cases h:(s.length:Int)>=1
 .refine A9 [0,2] ?_;with_reducible repeat' first|constructor|intro hc
  all_goals(refine⟨_,_,rfl,rfl,?_⟩;simp only[Cw,Bp,h,decide_true,q0A])
 .refine A9 [0,2] ?_;with_reducible repeat' first|constructor|intro hc
  all_goals(refine⟨_,_,rfl,rfl,?_⟩;simp only[Cw,Bp,h,decide_false,q0m])
theorem I3(n:Int):yS 202 [.yX n] (.b (isVal n)):=by
 refine zF AE Tryz.func202 ?_;refine A9 [0,2] ?_;repeat'(apply zB<;>intro hc)
 all_goals(refine⟨_,_,rfl,rfl,?_⟩;simp_all[Cw,isVal]<;>omega)
abbrev MA:BF:=[0,1,2,3,4,5,12,17,30]
abbrev MB:BF:=[0,1,4,5,10,12,13,14,24]
variable {k:Nat}
theorem YK{a b:Ai}(hka:k<a.length)(h2:k<b.length)(hpre:a.take k=b.take k):(a.getD k 0=b.getD k 0)↔a.take (k+1)=b.take (k+1):=by
 rw[q0N hka,q0N h2,hpre,zo,zo,zV hka,zV h2];exact⟨fun e=>congrArg (fun z=>List.take k b++[z]) e,fun e=>(List.cons.inj (List.append_cancel_left e)).1⟩
theorem YN(a b:AF)(ha:a.AB.length<=9223372036854775807):yS 130 [a.d,b.d] (.b (decide (a=b))):=by
 obtain⟨k,c,s,d,ky,sl,dn,pl,pr,l,⟨ik,iv,ir,ig⟩,co⟩:=a;obtain⟨k',c',s',d',ky',sl',dn',pl',pr',l',⟨ik',iv',ir',ig'⟩,co'⟩:=b;have ha:l.length<=9223372036854775807:=ha;have hI:=L0 ⟨ik,iv,ir,ig⟩ ⟨ik',iv',ir',ig'⟩;refine zF AE Tryz.func130 ?_
 by_cases hl:l.length=l'.length
 .refine A9 MA ?_;with_reducible repeat' first|constructor|intro hc
  refine BX (fun k=>k<=l.length/\l.take k=l'.take k) (fun j:Nat=>⟨[(2,.ptr 0 0 15),(3,.ptr 1 0 15),(5,.yO j)],[.c ((AF.mk k c s d ky sl dn pl pr l ⟨ik,iv,ir,ig⟩ co).A4.map .d),.c ((AF.mk k' c' s' d' ky' sl' dn' pl' pr' l' ⟨ik',iv',ir',ig'⟩ co').A4.map .d)],106⟩) (fun k=>l.length-k) 0 ⟨zi _,sm⟩ ?_ (zN _) ?_
  .exact A8.ck rfl
  rintro j ⟨hk,hpre⟩;simp only[AF.A4,List.map_cons,List.map_nil]
  by_cases hka:j<l.length
  .have hab:=YK hka om hpre;refine A9 MA ?_;with_reducible repeat' first|constructor|intro hc
   .have:l≠l':=fun e=>by subst e;exact hc rfl
    exact BW this
   .refine⟨j+1,⟨hka,hab.1 hc⟩,om,zN _,?_⟩;simp only[AF.A4,List.map_cons,List.map_nil];exact A8.ck rfl
  .have:l=l':=by
    have e:j=l.length:=om
    subst e;rwa [q06,hl,q06]at hpre
   subst this;refine Aj MA ?_ (AK hI);with_reducible repeat' first|constructor|intro hc
   all_goals(clear ha hl hk hpre hka;refine⟨_,_,rfl,rfl,?_⟩;simp_all[Cw,Dp])
 .have:l≠l':=fun e=>hl (by rw[e]);refine A9 MA ?_;with_reducible repeat' first|constructor|intro hc
  exact BW this
theorem Nz(a b:AF)(ha:a.AB.length<9223372036854775807):yS 130 [a.d,b.d] (.b (decide (a=b))):=YN a b (Nat.le_of_lt ha)
theorem GH(a b:Ai)(ha:a.length<9223372036854775807):yS 34 [.is a,.is b] (.b (decide (a=b))):=by
 refine zF AE Tryz.func34 ?_
 by_cases hl:a.length=b.length
 .refine A9 MB ?_;with_reducible repeat' first|constructor|intro hc
  refine BX (fun k=>k<=a.length/\a.take k=b.take k) (fun k:Nat=>⟨[(0,.yV a),(1,.yV b),(12,.yO a.length),(13,.yO k)],[],26⟩) (fun k=>a.length-k) 0 ⟨zi _,sm⟩ ?_ (zN _) ?_
  .exact A8.ck rfl
  rintro k ⟨hk,hpre⟩
  by_cases hka:k<a.length
  .have hab:=YK hka om hpre;refine A9 MB ?_;with_reducible repeat' first|constructor|intro hc
   .have:a≠b:=fun e=>by subst e;exact hc rfl
    exact BW this
   .refine⟨k+1,⟨hka,hab.1 hc⟩,om,zN _,?_⟩;exact A8.ck rfl
  .have:a=b:=by
    have e:k=a.length:=om
    subst e;rwa [q06,hl,q06]at hpre
   refine A9 MB ?_;with_reducible repeat' first|constructor|intro hc
   exact BW this
 .have:a≠b:=fun e=>hl (by rw[e]);refine A9 MB ?_;with_reducible repeat' first|constructor|intro hc
  exact BW this
def Zy(l:Ai)(x:Int):Int:=if x∈l then(l.idxOf x:Nat)else -1
variable {l:Ai}
theorem mF{x:Int}(hk:k<l.length)(hpre:x∉l.take k)(h:x=l.getD k 0):x∈l/\l.idxOf x=k:=by
 rw[zo,zV hk]at h;simp only[q1e]at h;have hm:x∈l:=by rw[h];exact q0q hk
 refine⟨hm,?_⟩;have e:l=l.take k++(l[k]::l.drop (k+1)):=by rw[<-q14 hk,q0d]
 have hi:l.idxOf x=(l.take k++(l[k]::l.drop (k+1))).idxOf x:=by rw[<-e]
 rw[hi,List.idxOf_append,zx hpre,<-h,List.idxOf_cons_self,q0D];omega
theorem nW{x:Int}(hk:k<l.length)(hpre:x∉l.take k)(h:¬x=l.getD k 0):x∉l.take (k+1):=by
 rw[q0N hk,q0W];rw[zo,zV hk]at h;simp at h;rintro(h1|h1)
 .exact hpre h1
 .simp at h1;exact h h1
theorem mU(l:Ai)(x:Int)(hl:l.length<9223372036854775807):yS 177 [.is l,.yX x] (.yX (Zy l x)):=by
 refine zF AE Tryz.func177 ?_;refine A9 [0,1,4,5,7,8,9,16] ?_;refine BX (fun k=>k<=l.length/\x∉l.take k) (fun k:Nat=>⟨[(0,.yV l),(1,.yO x),(7,.yO l.length),(8,.yO k)],[],19⟩) (fun k=>l.length-k) 0 ⟨zi _,sm⟩ ?_ (zN _) ?_
 .exact A8.ck rfl
 rintro k ⟨hk,hpre⟩
 by_cases hkl:k<l.length
 .refine A9 [0,1,4,5,7,8,9,16] ?_;with_reducible repeat' first|constructor|intro hc
  .obtain⟨h1,h2⟩:=mF hkl hpre hc;have e:Zy l x=(k:Nat):=by unfold Zy;rw[zn h1,h2]
   exact BW e
  .refine⟨k+1,⟨hkl,nW hkl hpre hc⟩,om,zN _,?_⟩;exact A8.ck rfl
 .have e:k=l.length:=om
  have e2:Zy l x= -1:=by unfold Zy;rw[zx];rwa [e,q06]at hpre
  refine A9 [0,1,4,5,7,8,9,16] ?_;with_reducible repeat' first|constructor|intro hc
  exact BW e2
theorem X1(l:Ai)(x:Int)(hl:l.length<9223372036854775807):yS 120 [.is l,.yX x] (.b (decide (x∈l))):=by
 have hi:=mU l x hl;refine zF AE Tryz.func120 ?_;refine AO [0,1,4] ?_ (AK @hi)
 have e:decide (Zy l x>=0)=decide (x∈l):=by
  unfold Zy
  by_cases h:x∈l<;>simp[h]
 exact BW e
end Wi
end Go.Proofs.YtamjpnmjpponpaaGreatDoor
namespace Go.Proofs.YtamjpnmjpponpaaGreatDoor
open Go.Gar
def fits(n:Int):Bool:=decide (n>=0)&&decide (n<=1099511627776)
theorem Qc(n:Int):yS 434 [.yX n] (.b (fits n)):=by
 refine zF AE Tryz.func434 ?_;refine A9 [0,2] ?_;repeat'(apply zB<;>intro hc)
 all_goals(refine⟨_,_,rfl,rfl,?_⟩;simp_all[Cw,fits]<;>omega)
def Dy(n:Nat):Nat:=if n=0 then 0 else n.log2+1
theorem JM{n k:Nat}:Dy n=k↔n<2^k/\(k=0\/2^(k-1)<=n):=by
 unfold Dy;split
 .rename_i h;subst h;constructor
  .intro h;subst h;simp
  .rintro⟨h1,h2|h2⟩
   .exact h2.symm
   .have:0<2^(k-1):=Nat.two_pow_pos _;omega
 .rename_i h;constructor
  .intro hk;subst hk;exact⟨Nat.lt_log2_self,.inr (by simpa using Nat.log2_self_le h)⟩
  .rintro⟨h1,h2⟩;have h2':k≠0:=fun e=>by subst e;simp at h1;omega
   have h2:2^(k-1)<=n:=by rcases h2 with h2|h2;exact absurd h2 h2';exact h2
   have:=(Nat.log2_eq_iff h).2 ⟨h2,by rwa [show k-1+1=k by omega]⟩;omega
theorem Xj{n k:Nat}(h:2^k<=n):Dy n=Dy (n/2^k)+k:=by
 rw[JM];have hp:0<2^k:=Nat.two_pow_pos k;obtain⟨h1,h2⟩:=(JM (n:=n/2^k)).1 rfl;have hne:0<n/2^k:=Nat.div_pos h hp;have hk:Dy (n/2^k)≠0:=fun e=>by rw[e]at h1;simp at h1;omega
 have h2:2^(Dy (n/2^k)-1)<=n/2^k:=by rcases h2 with h2|h2;exact absurd h2 hk;exact h2
 refine⟨?_,.inr ?_⟩
 .rw[Nat.pow_add];exact(Nat.div_lt_iff_lt_mul hp).1 h1
 .rw[show Dy (n/2^k)+k-1=(Dy (n/2^k)-1)+k by omega,Nat.pow_add];exact(Nat.le_div_iff_mul_le hp).1 h2
def ie:AL:=[0,1,2,2,3,3,3,3,4,4,4,4,4,4,4,4,5,5,5,5,5,5,5,5,5,5,5,5,5,5,5,5,6,6,6,6,6,6,6,6,6,6,6,6,6,6,6,6,6,6,6,6,6,6,6,6,6,6,6,6,6,6,6,6,7,7,7,7,7,7,7,7,7,7,7,7,7,7,7,7,7,7,7,7,7,7,7,7,7,7,7,7,7,7,7,7,7,7,7,7,7,7,7,7,7,7,7,7,7,7,7,7,7,7,7,7,7,7,7,7,7,7,7,7,7,7,7,7,8,8,8,8,8,8,8,8,8,8,8,8,8,8,8,8,8,8,8,8,8,8,8,8,8,8,8,8,8,8,8,8,8,8,8,8,8,8,8,8,8,8,8,8,8,8,8,8,8,8,8,8,8,8,8,8,8,8,8,8,8,8,8,8,8,8,8,8,8,8,8,8,8,8,8,8,8,8,8,8,8,8,8,8,8,8,8,8,8,8,8,8,8,8,8,8,8,8,8,8,8,8,8,8,8,8,8,8,8,8,8,8,8,8,8,8,8,8,8,8,8,8,8,8,8,8,8,8]
theorem sU:∀n:Fin 256,(ie.getD n.1 0).toNat=Dy n.1:=by decide +kernel
theorem VB(a:Int)(h:(decide (0<=a)&&decide (a<=4611686018427387904))=true)(u:UInt8):HH .i64 (a+(u.toNat:Int))=true:=by
 have:=u.toNat_lt;simp[HH]at h|-;omega
theorem rI(y:Int):UA (y%256) ie.length=true:=by
 have:ie.length=256:=by decide +kernel
 rw[this,EV];omega
theorem eK(y:Int)(h:0<=y)(h':y<256):((ie.getD (y%256).toNat 0).toNat:Int)=(Dy y.toNat:Int):=by
 have:=sU ⟨y.toNat,om⟩;simp only at this;rw[<-this];congr 4;omega
theorem Jz(x k:Nat)(h:2^k<=x)(h':x/2^k<256)(y:Int)(hy:y=((x/2^k:Nat):Int)):(Dy x:Int)=(k:Int)+((ie.getD (y%256).toNat 0).toNat:Int):=by
 subst hy;have:=Xj h;rw[eK _ (q0V _) (Int.ofNat_lt.2 h'),q1Y];omega
theorem Xk(x:Nat)(h':x<256):(Dy x:Int)=((ie.getD ((x:Int)%256).toNat 0).toNat:Int):=by
 rw[eK x om om,q1Y]
theorem mu(x:Nat)(hx:x<18446744073709551616):yS 220 [.i .u64 x] (.yX (Dy x)):=by
 refine zF AE Tryz.func220 ?_;refine A9 [0,2,4,8,14] ?_;repeat'(first|with_reducible constructor|(with_reducible intro hc;try simp only[Ma]at hc)|with_reducible refine Mb ?_ ?_|(with_reducible refine zU ?_;first|rfl|omega)|decide)
 all_goals first
  |exact DL _
  |exact VB _ rfl _
  |exact rI _
  |(refine⟨_,_,rfl,rfl,?_⟩;simp only[Cw];refine congrArg (D.i .i64) ?_
    first
     |exact Jz x 56 om om _ om
     |exact Jz x 48 om om _ om
     |exact Jz x 40 om om _ om
     |exact Jz x 32 om om _ om
     |exact Jz x 24 om om _ om
     |exact Jz x 16 om om _ om
     |exact Jz x 8 om om _ om
     |exact(Xk x om).trans (Int.zero_add _).symm
     |exact Xk x om)
end Go.Proofs.YtamjpnmjpponpaaGreatDoor
namespace Go.Proofs.YtamjpnmjpponpaaGreatDoor
namespace Wi
open Go.Gar
abbrev pat:BitVec 32:=0x741b8cd7#32
def kK(b:Bool):BitVec 32:=if b then 1#32 else 0#32
def IV(s:BitVec 32)(b:Bool):BitVec 32:=(s<<<1^^^kK b)^^^(if s.getLsbD 31 then pat else 0#32)
def JD(s:BitVec 32)(l:List Bool):BitVec 32:=l.foldl IV s
theorem Re(s:BitVec 32)(l m:List Bool):JD s (l++m)=JD (JD s l) m:=by simp[JD]
end Wi
end Go.Proofs.YtamjpnmjpponpaaGreatDoor
namespace Go.Proofs
open Go.Shelf
def Tryz.Td:Go.Shelf.Ren:=⟨fun|189=>81|125=>158|257=>157|128=>219|129=>220|294=>210|295=>211|296=>212|297=>213|298=>214|299=>215|216=>216|300=>217|301=>218|328=>263|329=>264|330=>265|331=>266|332=>267|215=>268|343=>316|n=>n,fun|28=>22|3=>3|46=>181|0=>0|51=>237|53=>239|4=>4|183=>230|182=>229|131=>234|5=>5|9=>9|218=>283|222=>287|228=>337|229=>338|n=>n,fun|n=>n⟩
theorem Tryz.UE:Go.Proofs.Lays.n189 Tryz.prog Tryz.Td:={
 mixed:=by kernel_rfl
 f125:=Tryz.func158.trans (congrArg some (by kernel_rfl))
 f128:=Tryz.func219.trans (congrArg some (by kernel_rfl))
 f129:=Tryz.func220.trans (congrArg some (by kernel_rfl))
 f189:=Tryz.func81.trans (congrArg some (by kernel_rfl))
 f215:=Tryz.func268.trans (congrArg some (by kernel_rfl))
 f216:=Tryz.func216.trans (congrArg some (by kernel_rfl))
 f257:=Tryz.func157.trans (congrArg some (by kernel_rfl))
 f294:=Tryz.func210.trans (congrArg some (by kernel_rfl))
 f295:=Tryz.func211.trans (congrArg some (by kernel_rfl))
 f296:=Tryz.func212.trans (congrArg some (by kernel_rfl))
 f297:=Tryz.func213.trans (congrArg some (by kernel_rfl))
 f298:=Tryz.func214.trans (congrArg some (by kernel_rfl))
 f299:=Tryz.func215.trans (congrArg some (by kernel_rfl))
 f300:=Tryz.func217.trans (congrArg some (by kernel_rfl))
 f301:=Tryz.func218.trans (congrArg some (by kernel_rfl))
 f328:=Tryz.func263.trans (congrArg some (by kernel_rfl))
 f329:=Tryz.func264.trans (congrArg some (by kernel_rfl))
 f330:=Tryz.func265.trans (congrArg some (by kernel_rfl))
 f331:=Tryz.func266.trans (congrArg some (by kernel_rfl))
 f332:=Tryz.func267.trans (congrArg some (by kernel_rfl))
 f343:=Tryz.func316.trans (congrArg some (by kernel_rfl))
 t0:=Tryz.underlying0
 a0:=Tryz.isAgg0
 z0:=Tryz.sizeOf0
 v0:=Tryz.zeroValue0
 t3:=Tryz.underlying3
 a3:=Tryz.isAgg3
 z3:=Tryz.sizeOf3
 v3:=Tryz.zeroValue3
 t4:=Tryz.underlying4
 a4:=Tryz.isAgg4
 z4:=Tryz.sizeOf4
 v4:=Tryz.zeroValue4
 t5:=Tryz.underlying5
 a5:=Tryz.isAgg5
 z5:=Tryz.sizeOf5
 v5:=Tryz.zeroValue5
 t9:=Tryz.underlying9
 a9:=Tryz.isAgg9
 z9:=Tryz.sizeOf9
 v9:=Tryz.zeroValue9
 t28:=Tryz.underlying22
 a28:=Tryz.isAgg22
 z28:=Tryz.sizeOf22
 v28:=Tryz.zeroValue22
 t46:=Tryz.underlying181
 a46:=Tryz.isAgg181
 z46:=Tryz.sizeOf181
 v46:=Tryz.zeroValue181
 t51:=Tryz.underlying237
 a51:=Tryz.isAgg237
 z51:=Tryz.sizeOf237
 v51:=Tryz.zeroValue237
 t53:=Tryz.underlying239
 a53:=Tryz.isAgg239
 z53:=Tryz.sizeOf239
 v53:=Tryz.zeroValue239
 t131:=Tryz.underlying234
 a131:=Tryz.isAgg234
 z131:=Tryz.sizeOf234
 v131:=Tryz.zeroValue234
 t182:=Tryz.underlying229
 a182:=Tryz.isAgg229
 z182:=Tryz.sizeOf229
 v182:=Tryz.zeroValue229
 t183:=Tryz.underlying230
 a183:=Tryz.isAgg230
 z183:=Tryz.sizeOf230
 v183:=Tryz.zeroValue230
 t218:=Tryz.underlying283
 a218:=Tryz.isAgg283
 z218:=Tryz.sizeOf283
 v218:=Tryz.zeroValue283
 t222:=Tryz.underlying287
 a222:=Tryz.isAgg287
 z222:=Tryz.sizeOf287
 v222:=Tryz.zeroValue287
 t228:=Tryz.underlying337
 a228:=Tryz.isAgg337
 z228:=Tryz.sizeOf337
 v228:=Tryz.zeroValue337
 t229:=Tryz.underlying338
 a229:=Tryz.isAgg338
 z229:=Tryz.sizeOf338
 v229:=Tryz.zeroValue338}
def Tryz.VV:Go.Shelf.Ren:=⟨fun|10=>407|6=>432|n=>n,fun|22=>22|23=>3|25=>82|3=>3|4=>4|0=>0|n=>n,fun|n=>n⟩
theorem Tryz.mo:Go.Proofs.SlLaysH.n10 Tryz.prog Tryz.VV:={
 mixed:=by kernel_rfl
 f6:=⟨Tryz.f432.name,by decide,Tryz.func432.trans (congrArg some (by kernel_rfl))⟩
 f10:=⟨Tryz.f407.name,by decide,Tryz.func407.trans (congrArg some (by kernel_rfl))⟩
 t0:=Tryz.underlying0
 a0:=Tryz.isAgg0
 z0:=Tryz.sizeOf0
 v0:=Tryz.zeroValue0
 t3:=Tryz.underlying3
 a3:=Tryz.isAgg3
 z3:=Tryz.sizeOf3
 v3:=Tryz.zeroValue3
 t4:=Tryz.underlying4
 a4:=Tryz.isAgg4
 z4:=Tryz.sizeOf4
 v4:=Tryz.zeroValue4
 t22:=Tryz.underlying22
 a22:=Tryz.isAgg22
 z22:=Tryz.sizeOf22
 v22:=Tryz.zeroValue22
 a23:=Tryz.isAgg3
 z23:=Tryz.sizeOf3
 t25:=Tryz.underlying82
 a25:=Tryz.isAgg82
 z25:=Tryz.sizeOf82
 v25:=Tryz.zeroValue82}
end Go.Proofs
