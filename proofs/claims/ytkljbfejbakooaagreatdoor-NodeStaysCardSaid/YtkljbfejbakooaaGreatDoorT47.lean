/- Part 47 of a proof. Conditions: those that its theorems state. -/
import Derived.Test.YtkljbfejbakooaaGreatDoorT39
import Derived.Test.YtkljbfejbakooaaGreatDoorT43
import Derived.Test.YtkljbfejbakooaaGreatDoorTie
import Derived.Test.YtkljbfejbakooaaGreatDoorCards
import Derived.LaidMore
import Derived.Lib.LaidU8
set_option linter.unusedSimpArgs false
set_option linter.unusedVariables false
set_option linter.unnecessarySimpa false
set_option maxHeartbeats 40000000
set_option maxRecDepth 4000
namespace Go.Proofs.YtkljbfejbakooaaGreatDoor
open Go Go.Gar Go.RowKit
theorem own:ownKnob Tryz.prog.godebug=none:=by kernel_rfl
theorem laidOut:laidOutB Tryz.prog=true:=by kernel_rfl
theorem wf_i64{n:Int}(h:(Lit.int .i64 n).wf=true):i64 n:=by
 simp[Lit.wf,IntKind.min,IntKind.max,IntKind.signed,IntKind.bits]at h;unfold i64;omega
theorem wf_u8{n:Int}(h:(Lit.int .u8 n).wf=true):0<=n/\n<256:=by
 simp[Lit.wf,IntKind.min,IntKind.max,IntKind.signed,IntKind.bits]at h;omega
theorem it{a b:Bool}(h:a=true)(k:b=true):(a&&b)=true:=by rw[h,k];rfl
theorem QR{X:Type}(f:X->ww):∀{es:List (ww)},(∀e∈es,∃x,e=f x)->∃l:List X,es=l.map f
 |[],_=>⟨[],rfl⟩
 |e::r,h=>by
  obtain⟨x,rfl⟩:=h e (yT ..);obtain⟨l,rfl⟩:=QR f (fun e he=>h e (yQ _ he));exact⟨x::l,rfl⟩
variable {e:ww}
theorem eA(h:EL [.int .i64,.int .u8,.int .i64,.int .i64,.int .i64,.int .i64,.bool,.bool,.int .i64,.int .i64,.is,.str,.int .i64,.int .i64,.bool,.int .i64,.int .u8,.int .i64,.int .i64,.int .i64] e):∃x:Nd.AW,e=x.A0:=by
 obtain⟨_,_,rfl,⟨x0,rfl,w0⟩,h⟩:=h;obtain⟨_,_,rfl,⟨x1,rfl,w1⟩,h⟩:=h;obtain⟨_,_,rfl,⟨x2,rfl,w2⟩,h⟩:=h;obtain⟨_,_,rfl,⟨x3,rfl,w3⟩,h⟩:=h;obtain⟨_,_,rfl,⟨x4,rfl,w4⟩,h⟩:=h;obtain⟨_,_,rfl,⟨x5,rfl,w5⟩,h⟩:=h;obtain⟨_,_,rfl,⟨x6,rfl⟩,h⟩:=h;obtain⟨_,_,rfl,⟨x7,rfl⟩,h⟩:=h;obtain⟨_,_,rfl,⟨x8,rfl,w8⟩,h⟩:=h;obtain⟨_,_,rfl,⟨x9,rfl,w9⟩,h⟩:=h;obtain⟨_,_,rfl,⟨x10,rfl,w10,v10⟩,h⟩:=h;obtain⟨_,_,rfl,⟨x11,rfl,w11⟩,h⟩:=h;obtain⟨_,_,rfl,⟨x12,rfl,w12⟩,h⟩:=h;obtain⟨_,_,rfl,⟨x13,rfl,w13⟩,h⟩:=h;obtain⟨_,_,rfl,⟨x14,rfl⟩,h⟩:=h;obtain⟨_,_,rfl,⟨x15,rfl,w15⟩,h⟩:=h;obtain⟨_,_,rfl,⟨x16,rfl,w16⟩,h⟩:=h;obtain⟨_,_,rfl,⟨x17,rfl,w17⟩,h⟩:=h;obtain⟨_,_,rfl,⟨x18,rfl,w18⟩,h⟩:=h;obtain⟨_,_,rfl,⟨x19,rfl,w19⟩,h⟩:=h;cases h;exact⟨⟨x0,⟨x1,x2,x3,x4,x5,x6,x7,x8,x9,x10,⟨x11,x12,x13,x14⟩,x15⟩,x16,x17,x18,x19⟩,rfl⟩
theorem fh(h:EL [.int .i64,.int .i64,.int .u8,.int .i64,.int .i64,.int .i64,.int .i64,.bool,.bool,.int .i64,.int .i64,.is,.str,.int .i64,.int .i64,.bool,.int .i64] e):∃x:Nd.Past,e=x.A0:=by
 obtain⟨_,_,rfl,⟨x0,rfl,w0⟩,h⟩:=h;obtain⟨_,_,rfl,⟨x1,rfl,w1⟩,h⟩:=h;obtain⟨_,_,rfl,⟨x2,rfl,w2⟩,h⟩:=h;obtain⟨_,_,rfl,⟨x3,rfl,w3⟩,h⟩:=h;obtain⟨_,_,rfl,⟨x4,rfl,w4⟩,h⟩:=h;obtain⟨_,_,rfl,⟨x5,rfl,w5⟩,h⟩:=h;obtain⟨_,_,rfl,⟨x6,rfl,w6⟩,h⟩:=h;obtain⟨_,_,rfl,⟨x7,rfl⟩,h⟩:=h;obtain⟨_,_,rfl,⟨x8,rfl⟩,h⟩:=h;obtain⟨_,_,rfl,⟨x9,rfl,w9⟩,h⟩:=h;obtain⟨_,_,rfl,⟨x10,rfl,w10⟩,h⟩:=h;obtain⟨_,_,rfl,⟨x11,rfl,w11,v11⟩,h⟩:=h;obtain⟨_,_,rfl,⟨x12,rfl,w12⟩,h⟩:=h;obtain⟨_,_,rfl,⟨x13,rfl,w13⟩,h⟩:=h;obtain⟨_,_,rfl,⟨x14,rfl,w14⟩,h⟩:=h;obtain⟨_,_,rfl,⟨x15,rfl⟩,h⟩:=h;obtain⟨_,_,rfl,⟨x16,rfl,w16⟩,h⟩:=h;cases h;exact⟨⟨x0,x1,⟨x2,x3,x4,x5,x6,x7,x8,x9,x10,x11,⟨x12,x13,x14,x15⟩,x16⟩⟩,rfl⟩
theorem Tl(h:EL [.str,.int .i64,.int .i64,.bool] e):∃x:AK,e=x.A0:=by
 obtain⟨_,_,rfl,⟨x0,rfl,w0⟩,h⟩:=h;obtain⟨_,_,rfl,⟨x1,rfl,w1⟩,h⟩:=h;obtain⟨_,_,rfl,⟨x2,rfl,w2⟩,h⟩:=h;obtain⟨_,_,rfl,⟨x3,rfl⟩,h⟩:=h;cases h;exact⟨⟨x0,x1,x2,x3⟩,rfl⟩
theorem lZ(h:EL [.int .u8,.int .i64,.int .i64,.int .i64,.int .i64,.bool,.bool,.int .i64,.int .i64,.is,.str,.int .i64,.int .i64,.bool,.int .i64] e):∃m:Wi.AC,e=m.A0/\i64 m.As/\(∀y∈m.A8,i64 y)/\m.A8.length<=9223372036854775807:=by
 obtain⟨_,_,rfl,⟨x0,rfl,w0⟩,h⟩:=h;obtain⟨_,_,rfl,⟨x1,rfl,w1⟩,h⟩:=h;obtain⟨_,_,rfl,⟨x2,rfl,w2⟩,h⟩:=h;obtain⟨_,_,rfl,⟨x3,rfl,w3⟩,h⟩:=h;obtain⟨_,_,rfl,⟨x4,rfl,w4⟩,h⟩:=h;obtain⟨_,_,rfl,⟨x5,rfl⟩,h⟩:=h;obtain⟨_,_,rfl,⟨x6,rfl⟩,h⟩:=h;obtain⟨_,_,rfl,⟨x7,rfl,w7⟩,h⟩:=h;obtain⟨_,_,rfl,⟨x8,rfl,w8⟩,h⟩:=h;obtain⟨_,_,rfl,⟨x9,rfl,w9,v9⟩,h⟩:=h;obtain⟨_,_,rfl,⟨x10,rfl,w10⟩,h⟩:=h;obtain⟨_,_,rfl,⟨x11,rfl,w11⟩,h⟩:=h;obtain⟨_,_,rfl,⟨x12,rfl,w12⟩,h⟩:=h;obtain⟨_,_,rfl,⟨x13,rfl⟩,h⟩:=h;obtain⟨_,_,rfl,⟨x14,rfl,w14⟩,h⟩:=h;cases h;exact⟨⟨x0,x1,x2,x3,x4,x5,x6,x7,x8,x9,⟨x10,x11,x12,x13⟩,x14⟩,rfl,wf_i64 w2,fun y hy=>wf_i64 (v9 y hy),w9⟩
theorem fP(h:EL [.int .i64,.is,.is,.int .i64,.int .i64,.int .i64,.int .i64,.int .i64,.int .i64,.int .i64,.int .i64,.int .i64,.int .i64,.int .i64,.int .i64,.int .i64,.int .i64,.int .i64,.int .i64,.int .i64,.int .i64,.int .i64,.int .i64,.sl [.int .i64,.int .u8,.int .i64,.int .i64,.int .i64,.int .i64,.bool,.bool,.int .i64,.int .i64,.is,.str,.int .i64,.int .i64,.bool,.int .i64,.int .u8,.int .i64,.int .i64,.int .i64],.sl [.int .i64,.int .i64,.int .u8,.int .i64,.int .i64,.int .i64,.int .i64,.bool,.bool,.int .i64,.int .i64,.is,.str,.int .i64,.int .i64,.bool,.int .i64],.int .u8,.int .i64,.int .u8,.int .u8,.int .i64,.int .i64,.int .i64,.bool,.bool,.int .i64,.str,.int .i64,.int .i64,.bool,.int .i64,.is,.int .i64,.int .u8,.int .u8,.int .i64,.int .i64,.int .i64,.bool,.bool,.int .i64,.str,.int .i64,.int .i64,.bool,.int .i64,.is,.int .i64,.int .u8,.int .u8,.int .i64,.int .i64,.int .i64,.bool,.bool,.int .i64,.str,.int .i64,.int .i64,.bool,.int .i64,.is,.int .i64,.int .i64,.str,.sl [.str,.int .i64,.int .i64,.bool],.int .i64] e):∃n:Nd.AA,e=n.A0/\Nd.TG n:=by
 obtain⟨_,_,rfl,⟨x0,rfl,w0⟩,h⟩:=h;obtain⟨_,_,rfl,⟨x1,rfl,w1,v1⟩,h⟩:=h;obtain⟨_,_,rfl,⟨x2,rfl,w2,v2⟩,h⟩:=h;obtain⟨_,_,rfl,⟨x3,rfl,w3⟩,h⟩:=h;obtain⟨_,_,rfl,⟨x4,rfl,w4⟩,h⟩:=h;obtain⟨_,_,rfl,⟨x5,rfl,w5⟩,h⟩:=h;obtain⟨_,_,rfl,⟨x6,rfl,w6⟩,h⟩:=h;obtain⟨_,_,rfl,⟨x7,rfl,w7⟩,h⟩:=h;obtain⟨_,_,rfl,⟨x8,rfl,w8⟩,h⟩:=h;obtain⟨_,_,rfl,⟨x9,rfl,w9⟩,h⟩:=h;obtain⟨_,_,rfl,⟨x10,rfl,w10⟩,h⟩:=h;obtain⟨_,_,rfl,⟨x11,rfl,w11⟩,h⟩:=h;obtain⟨_,_,rfl,⟨x12,rfl,w12⟩,h⟩:=h;obtain⟨_,_,rfl,⟨x13,rfl,w13⟩,h⟩:=h;obtain⟨_,_,rfl,⟨x14,rfl,w14⟩,h⟩:=h;obtain⟨_,_,rfl,⟨x15,rfl,w15⟩,h⟩:=h;obtain⟨_,_,rfl,⟨x16,rfl,w16⟩,h⟩:=h;obtain⟨_,_,rfl,⟨x17,rfl,w17⟩,h⟩:=h;obtain⟨_,_,rfl,⟨x18,rfl,w18⟩,h⟩:=h;obtain⟨_,_,rfl,⟨x19,rfl,w19⟩,h⟩:=h;obtain⟨_,_,rfl,⟨x20,rfl,w20⟩,h⟩:=h;obtain⟨_,_,rfl,⟨x21,rfl,w21⟩,h⟩:=h;obtain⟨_,_,rfl,⟨x22,rfl,w22⟩,h⟩:=h;obtain⟨_,_,rfl,⟨x23,rfl,w23,v23⟩,h⟩:=h;obtain⟨_,_,rfl,⟨x24,rfl,w24,v24⟩,h⟩:=h;obtain⟨_,_,rfl,⟨x25,rfl,w25⟩,h⟩:=h;obtain⟨_,_,rfl,⟨x26,rfl,w26⟩,h⟩:=h;obtain⟨_,_,rfl,⟨x27,rfl,w27⟩,h⟩:=h;obtain⟨_,_,rfl,⟨x28,rfl,w28⟩,h⟩:=h;obtain⟨_,_,rfl,⟨x29,rfl,w29⟩,h⟩:=h;obtain⟨_,_,rfl,⟨x30,rfl,w30⟩,h⟩:=h;obtain⟨_,_,rfl,⟨x31,rfl,w31⟩,h⟩:=h;obtain⟨_,_,rfl,⟨x32,rfl⟩,h⟩:=h;obtain⟨_,_,rfl,⟨x33,rfl⟩,h⟩:=h;obtain⟨_,_,rfl,⟨x34,rfl,w34⟩,h⟩:=h;obtain⟨_,_,rfl,⟨x35,rfl,w35⟩,h⟩:=h;obtain⟨_,_,rfl,⟨x36,rfl,w36⟩,h⟩:=h;obtain⟨_,_,rfl,⟨x37,rfl,w37⟩,h⟩:=h;obtain⟨_,_,rfl,⟨x38,rfl⟩,h⟩:=h;obtain⟨_,_,rfl,⟨x39,rfl,w39⟩,h⟩:=h;obtain⟨_,_,rfl,⟨x40,rfl,w40,v40⟩,h⟩:=h;obtain⟨_,_,rfl,⟨x41,rfl,w41⟩,h⟩:=h;obtain⟨_,_,rfl,⟨x42,rfl,w42⟩,h⟩:=h
 obtain⟨_,_,rfl,⟨x43,rfl,w43⟩,h⟩:=h;obtain⟨_,_,rfl,⟨x44,rfl,w44⟩,h⟩:=h;obtain⟨_,_,rfl,⟨x45,rfl,w45⟩,h⟩:=h;obtain⟨_,_,rfl,⟨x46,rfl,w46⟩,h⟩:=h;obtain⟨_,_,rfl,⟨x47,rfl⟩,h⟩:=h;obtain⟨_,_,rfl,⟨x48,rfl⟩,h⟩:=h;obtain⟨_,_,rfl,⟨x49,rfl,w49⟩,h⟩:=h;obtain⟨_,_,rfl,⟨x50,rfl,w50⟩,h⟩:=h;obtain⟨_,_,rfl,⟨x51,rfl,w51⟩,h⟩:=h;obtain⟨_,_,rfl,⟨x52,rfl,w52⟩,h⟩:=h;obtain⟨_,_,rfl,⟨x53,rfl⟩,h⟩:=h;obtain⟨_,_,rfl,⟨x54,rfl,w54⟩,h⟩:=h;obtain⟨_,_,rfl,⟨x55,rfl,w55,v55⟩,h⟩:=h;obtain⟨_,_,rfl,⟨x56,rfl,w56⟩,h⟩:=h;obtain⟨_,_,rfl,⟨x57,rfl,w57⟩,h⟩:=h;obtain⟨_,_,rfl,⟨x58,rfl,w58⟩,h⟩:=h;obtain⟨_,_,rfl,⟨x59,rfl,w59⟩,h⟩:=h;obtain⟨_,_,rfl,⟨x60,rfl,w60⟩,h⟩:=h;obtain⟨_,_,rfl,⟨x61,rfl,w61⟩,h⟩:=h;obtain⟨_,_,rfl,⟨x62,rfl⟩,h⟩:=h;obtain⟨_,_,rfl,⟨x63,rfl⟩,h⟩:=h;obtain⟨_,_,rfl,⟨x64,rfl,w64⟩,h⟩:=h;obtain⟨_,_,rfl,⟨x65,rfl,w65⟩,h⟩:=h;obtain⟨_,_,rfl,⟨x66,rfl,w66⟩,h⟩:=h;obtain⟨_,_,rfl,⟨x67,rfl,w67⟩,h⟩:=h;obtain⟨_,_,rfl,⟨x68,rfl⟩,h⟩:=h;obtain⟨_,_,rfl,⟨x69,rfl,w69⟩,h⟩:=h;obtain⟨_,_,rfl,⟨x70,rfl,w70,v70⟩,h⟩:=h;obtain⟨_,_,rfl,⟨x71,rfl,w71⟩,h⟩:=h;obtain⟨_,_,rfl,⟨x72,rfl,w72⟩,h⟩:=h;obtain⟨_,_,rfl,⟨x73,rfl,w73⟩,h⟩:=h;obtain⟨_,_,rfl,⟨x74,rfl,w74,v74⟩,h⟩:=h;obtain⟨_,_,rfl,⟨x75,rfl,w75⟩,h⟩:=h;cases h;obtain⟨cl,rfl⟩:=QR Nd.AW.A0 (fun e he=>eA (v23 e he));obtain⟨sl,rfl⟩:=QR Nd.Past.A0 (fun e he=>fh (v24 e he));obtain⟨kl,rfl⟩:=QR AK.A0 (fun e he=>Tl (v74 e he));exact⟨⟨⟨x0,x1,x2,x3,fun k=>[x4,x5,x6,x7,x8,x9,x10,x11,x12,x13,x14,x15,x16,x17,x18,x19].getD k 0⟩,x20,⟨x21,x22,cl⟩,sl,x25,x26,⟨x27,x28,⟨x29,x30,x31,x32,x33,x34⟩,⟨x35,x36,x37,x38⟩,x39,x40,x41⟩,⟨x42,x43,⟨x44,x45,x46,x47,x48,x49⟩,⟨x50,x51,x52,x53⟩,x54,x55,x56⟩,⟨x57,x58,⟨x59,x60,x61,x62,x63,x64⟩,⟨x65,x66,x67,x68⟩,x69,x70,x71⟩,x72,x73,kl,x75⟩,rfl,⟨wf_i64 w0,fun y hy=>wf_i64 (v2 y hy),(wf_u8 w25).1⟩⟩
variable {d:D}
theorem cj(h:Pk T.get 41 d):∃n:Nd.AA,d=n.d/\Nd.TG n:=by
 obtain⟨l,rfl,h⟩:=h;obtain⟨n,rfl,hn⟩:=fP h;exact⟨n,rfl,hn⟩
theorem tT(h:Pk T.get 56 d):∃m:Wi.AC,d=m.d/\i64 m.As/\(∀y∈m.A8,i64 y)/\m.A8.length<=9223372036854775807:=by
 obtain⟨l,rfl,h⟩:=h;obtain⟨m,rfl,hm⟩:=lZ h;exact⟨m,rfl,hm⟩
theorem pm(h:Pk T.get 36 d):∃x:AK,d=x.d:=by
 obtain⟨l,rfl,h⟩:=h;obtain⟨x,rfl⟩:=Tl h;exact⟨x,rfl⟩
theorem vt(h:Pk T.get 42 d):∃l,d= .by l:=by
 obtain⟨s,hs,h⟩:=h;cases hs;obtain⟨l,rfl,_⟩:=h;exact⟨l,rfl⟩
theorem vu(h:Pk T.get 5 d):∃n,d= .i .u8 n:=by
 obtain⟨s,hs,h⟩:=h;cases hs;obtain⟨n,rfl,_⟩:=h;exact⟨n,rfl⟩
abbrev dG:Ad:=[1,2,4,8,16,32,64,128,256,512,1024,2048,4096,8192,16384,32768]
abbrev Vn:List (Ad):=[[0,0],[1,1],[1,2],[3,3]]
abbrev Ky:List (String×DataW Unit):=[("garland/arc.starts", Rows.laid_garland_arc_starts), ("garland/wait.waits", Rows.laid_garland_wait_waits), ("garland/stab.rounds", Rows.laid_garland_stab_rounds)]
theorem bm:Tryz.prog.globalNamed "garland/arc.starts" =some 0:=by kernel_rfl
theorem Uy:Tryz.prog.globalNamed "garland/stab.rounds" =some 1:=by kernel_rfl
theorem kG:Tryz.prog.globalNamed "garland/wait.waits" =some 2:=by kernel_rfl
theorem u6:(Tryz.prog.globals[2]?).map (·.type)=some 337:=by kernel_rfl
theorem qH:(Tryz.prog.globals[0]?).map (·.type)=some 23:=by kernel_rfl
theorem qG:(Tryz.prog.globals[1]?).map (·.type)=some 317:=by kernel_rfl
variable {W:World}
theorem gS(h:laidMet Tryz.prog Ky W)(k:Nat)(hk:k<16):W.cell? ⟨0,k,none⟩=some (.int .i64 (dG.getD k 0)):=by
 have hT:Lib.TabIs Tryz.prog W "garland/arc.starts" .i64 dG:=Lib.tabIs_of_head bm qH Tryz.underlying23 Tryz.underlying3 (by kernel_rfl) (by kernel_rfl) h
 exact hT.cell bm k hk
theorem g9(h:laidMet Tryz.prog Ky W)(i:Nat)(hi:i<4):W.cell? ⟨1,2*i,none⟩=some (.int .u8 ((Vn.getD i []).getD 0 0))/\W.cell? ⟨1,2*i+1,none⟩=some (.int .u8 ((Vn.getD i []).getD 1 0)):=by
 obtain⟨g, t, cs, fuel, p, hg, hty, hvar, hd⟩:=Lib.laidMet.reads h (n:= "garland/stab.rounds") (d:=Rows.laid_garland_stab_rounds) sm
 obtain rfl:=q0A (Uy.symm.trans hg);obtain rfl:=q0A (qG.symm.trans hty);have hce:Tryz.prog.cellsOf 316=2:=by kernel_rfl
 have hc5:Tryz.prog.cellsOf 5=1:=by kernel_rfl
 obtain⟨fuel',d,q,hdi,he⟩:=Lib.array_elem Tryz.underlying317 hd i hi
 have hds:([[0,0],[1,1],[1,2],[3,3]]:List (Ad))[i]?.map (fun l=>(DataW.agg (l.map fun z=> .lit (.int .u8 z)):DataW Unit))=some d:=by
  rw[<-hdi,<-yU];rfl
 obtain⟨zs,hz,rfl⟩:=yN.1 hds;rw[hce]at he
 have hcs:=Lib.ints_of_struct Tryz.underlying316 (fun j f hj=>by
  match j,hj with
  |0,hj=>simp at hj;subst hj;exact⟨Tryz.underlying5,rfl,hc5⟩
  |1,hj=>simp at hj;subst hj;exact⟨Tryz.underlying5,rfl,hc5⟩
  |j+2,hj=>simp at hj) (by rw[hce];rfl) he
 have e0:=congrArg (·[0]?) hcs;have e1:=congrArg (·[1]?) hcs
 have hzl:zs.length=2:=by
  have:i=0\/i=1\/i=2\/i=3:=om
  rcases this with rfl|rfl|rfl|rfl<;>(cases hz;rfl)
 have hzr:Vn.getD i []=zs:=by rw[xu,hz];rfl
 rw[hzr];clear hzr hds hdi hz he
 obtain⟨a,b,rfl⟩:∃a b,zs=[a,b]:=by
  match zs,hzl with
  |[a,b],_=>exact⟨a,b,rfl⟩
 simp only[zL,zW]at e0 e1
 .constructor
  .rw[World.var?_cell Uy hvar (2*i),<-Array.getElem?_toList];simpa[Nat.mul_comm]using e0
  .rw[World.var?_cell Uy hvar (2*i+1),<-Array.getElem?_toList];simpa[Nat.mul_comm]using e1
theorem nZ(h:laidMet Tryz.prog Ky W)(k:Nat)(hk:k<3):W.cell? ⟨2,k,none⟩=some (.int .i64 (([1,2,4]:Ad).getD k 0)):=by
 have h1:laidMet Tryz.prog [("garland/wait.waits", Rows.laid_garland_wait_waits)] W:=laidMet.filter (fun p=>p.1== "garland/wait.waits") h
 have hT:Lib.TabIs Tryz.prog W "garland/wait.waits" .i64 [1, 2, 4]:=Lib.tabIs_of_head kG u6 Tryz.underlying337 Tryz.underlying3 (by kernel_rfl) (by kernel_rfl) h1
 exact hT.cell kG k hk
theorem Sv(h:laidMetH Tryz.prog Ky W):o3 (HA W):=by
 rw[MakeChecks.laidMetH_plain _ _ _ (by kernel_rfl)]at h;intro b k v hv;unfold Vu nG at hv;show W.cell? ⟨b,k,none⟩=some v
 match b,hv with
 |0,hv=>
  have hk:k<16:=by
   have:=(xW.1 hv).1;simpa using this
  rw[gS h k hk];have:k=0\/k=1\/k=2\/k=3\/k=4\/k=5\/k=6\/k=7\/k=8\/k=9\/k=10\/k=11\/k=12\/k=13\/k=14\/k=15:=om
  rcases this with rfl|rfl|rfl|rfl|rfl|rfl|rfl|rfl|rfl|rfl|rfl|rfl|rfl|rfl|rfl|rfl<;>(cases hv;rfl)
 |1,hv=>
  have hk:k<8:=by
   have:=(xW.1 hv).1;simpa using this
  have h4:=g9 h (k/2) om;have:k=0\/k=1\/k=2\/k=3\/k=4\/k=5\/k=6\/k=7:=om
  rcases this with rfl|rfl|rfl|rfl|rfl|rfl|rfl|rfl<;>(cases hv;first|exact h4.1|exact h4.2)
 |2,hv=>
  have hk:k<3:=by
   have:=(xW.1 hv).1;simpa using this
  rw[nZ h k hk];have:k=0\/k=1\/k=2:=om
  rcases this with rfl|rfl|rfl<;>(cases hv;rfl)
 |b+3,hv=>cases hv
theorem door_met(os:Os)(args:wn):laidMetH Tryz.prog Ky ((World.doorLaid Tryz.prog 27 os).forCall (fun _ _=>0) ⟨#[],args,[]⟩).memory:=
 laidMetH_of_parts3 (fuel:=8) (laidMet_of_run' 8 (by kernel_rfl) (by kernel_rfl)) (by kernel_rfl) (by kernel_rfl)
end Go.Proofs.YtkljbfejbakooaaGreatDoor
