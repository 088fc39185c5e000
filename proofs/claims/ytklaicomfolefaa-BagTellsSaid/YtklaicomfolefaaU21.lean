/- Part 21 of a proof. Conditions: those that its theorems state. -/
import Derived.Test.YtklaicomfolefaaU11
set_option linter.unusedSimpArgs false
set_option linter.unusedVariables false
set_option maxHeartbeats 40000000
set_option maxRecDepth 4000
namespace Go.Proofs.Ytklaicomfolefaa
open Go.Gar
theorem MA(n:Int)(l:On)(c:Bool)(h:l.length<=100000):Ox 34 [.d (A5.d ⟨n,l,c⟩)] [] (.ag [.Oo n,.sl 2 l.length 1,.Oq c]) [.gone,.c [.Oo n,.sl 2 l.length 1,.Oq c],.a (.by l)]:=by
 refine zD AM Try.func34 ?_;have ow:Lv [6]:=trivial;refine wd [0,1,2] [] AA AA ?_;clear ow;with_reducible repeat' first|constructor|intro hc
 exact⟨⟨[(2,.ptr 1 0 3)],[.gone,.c [.Oo n,.sl 2 l.length 1,.Oq c],.a (.by l)],Try.f34.ntmps⟩,(A6.ck rfl),Q7 _,_,_,rfl,rfl,rfl,rfl⟩
def Fw(x:A5)(b N:Nat):PQ:=[.i .i64 x.to,.raw (.slice (some ⟨b,0,none⟩) x.by_.length N),.b x.harmed]
def Ax(l:List A5)(a:Nat)(x:A5)(b N k:Nat):List (PQ):=((l.take k).map A5.AX).set a (Fw x b N)
theorem N9{l:List A5}{a:Nat}{x:A5}(hx:l[a]? =some x)(b N:Nat):(l.take a).map A5.AX++[Fw x b N]=Ax l a x b N (a+1):=by
 unfold Ax;have ha:a<l.length:=(P6.1 hx).1;rw[AJ hx,QD,List.set_append_right _ _ (by simp;omega)];have:a-((l.take a).map A5.AX).length=0:=by simp;omega
 rw[this];rfl
theorem Kf{l:List A5}{a:Nat}(x:A5)(b N:Nat){k:Nat}{y:A5}(hk:a<k)(hy:l[k]? =some y):Ax l a x b N k++[y.AX]=Ax l a x b N (k+1):=by
 unfold Ax;have:k<l.length:=(P6.1 hy).1;rw[AJ hy,QD,List.set_append_left _ _ (by simp;omega)];rfl
theorem EA(l:List A5)(a:Nat)(x:A5)(b N k:Nat):(Ax l a x b N k).length=(l.take k).length:=by simp[Ax]
def owF(l:List A5)(n:Int)(a:Nat)(x:A5):Nat ⊕ (Nat×Nat×Nat)->St
 | .inl k=>⟨[(1,.ptr 0 0 2),(2,.ptr 1 0 2),(3,.sl 2 (l.take k).length 3),(4,.d (.i .i64 k))],[.c [.d (A0 l),.d (.i .i64 n)],.c [.e0,.d (.i .i64 0)],.a (A0 (l.take k))],24⟩
 | .inr (b,N,k)=>⟨[(1,.ptr 0 0 2),(2,.ptr 1 0 2),(3,.sl 2 (Ax l a x b N k).length 3),(4,.d (.i .i64 k))],[.c [.d (A0 l),.d (.i .i64 n)],.c [.e0,.d (.i .i64 0)],.a (.sl 3 (Ax l a x b N k)),.gone,.gone,.gone,.Bb b N x.by_],24⟩
def owI(l:List A5)(a:Nat)(x:A5):Nat ⊕ (Nat×Nat×Nat)->Prop
 | .inl k=>k<=a
 | .inr (_,N,k)=>(x.by_.length<=N/\N<=maxLen)/\a<k/\k<=l.length
def owM(l:List A5):Nat ⊕ (Nat×Nat×Nat)->Nat
 | .inl k=>l.length-k
 | .inr (_,_,k)=>l.length-k
theorem N8(l:List A5)(n:Int)(hl:l.length<=1000)(hs:small l)(a:Nat)(x:A5)(hx:l[a]? =some x)(h0:0<x.by_.length):
  Dj Try.prog 28 [.d (AQ.d ⟨l,n⟩)] [] fun r K=>∃b N,(x.by_.length<=N/\N<=maxLen)/\r= .ag [.sl 2 l.length 3,.Oo n]/\K=[.gone,.c [.sl 2 (Ax l a x b N l.length).length 3,.Oo n],.a (.sl 3 (Ax l a x b N l.length)),.gone,.gone,.gone,.Bb b N x.by_]:=by
 have ha:a<l.length:=(P6.1 hx).1;refine zT AM Try.func28 ?_;refine wd [0,1,2,3,4,9] [] AA AA ?_;with_reducible repeat' first|constructor|intro hc
 refine D4 (A6.Je 3 (.sl 3 []) rfl rfl rfl (by simp[AI])) sm ?_;refine Aq (owI l a x) (owF l n a x) (owM l) (.inl 0) (Q7 _) ?_ (PL _) ?_
 .exact A6.ck rfl
 rintro(k|⟨b,N,k⟩) hI
 .replace hI:k<=a:=hI;have htl:(l.take k).length<=k:=List.length_take_le _ _
  by_cases hka:k=a
  .subst hka;have hb:=Ab hs hx;have e1:=N9 hx;have hl':=List.length_take_of_le (show k<=l.length by omega);obtain⟨xt,xb,xh⟩:=x;show W _ _ _ ⟨[(1,.ptr 0 0 2),(2,.ptr 1 0 2),(3,.sl 2 (l.take k).length 3),(4,.Oo k)],[.c [.d (A0 l),.Oo n],.c [.e0,.Oo 0],.a (A0 (l.take k))],24⟩ _;have nS:=QN
   repeat'(first|((with_reducible refine sg ?_);first|with_reducible rfl|((with_reducible refine Ix ?_);first|kernel_rfl|rfl|(simp[C3,DY,nS];done))|with_reducible refine Ie ?_ ?_|with_reducible exact Nat.beq_refl _|with_reducible exact Bv _|((with_reducible refine Pq ?_);first|omega|(simp only[GD,nS];omega))|decide|(simp[GD,slc,BH,D.one,Bs,AV.one,nS];done)|(simp[GD,nS];omega))|((with_reducible refine O2 ?_);first|(refine D5 rfl ?_;refine Nz AM rfl rfl rfl rfl ?_)|(refine JW rfl ?_;refine Ny AM rfl rfl rfl rfl rfl (QA _) (Bz hx) ?_)|refine Xq AM rfl rfl rfl rfl ?_ ?_|refine Xn [0,1,2,3,4,9] rfl ?_|refine XD [] (MA xt xb xh hb) rfl rfl rfl trivial rfl rfl rfl rfl ?_|refine Xa AM rfl rfl rfl rfl rfl ?_ ?_|refine Xw AM rfl rfl rfl rfl ?_ ?_)|refine FD ?_|refine Cl ?_|(refine Mg 18 5 rfl rfl h0 (fun b N hbN=> ?_))|refine DW ?_|refine FC ?_|refine CS ?_|refine DU ?_|refine Bq rfl ?_|refine Bp rfl ?_|(refine Ck rfl (fun hc=> ?_) (fun hc=> ?_)<;>(try simp only[GC]at hc)<;>(try(exfalso;omega))))
   have e2:=e1 b N;simp only[Fw]at e2;have e3:(Ax l k ⟨xt,xb,xh⟩ b N (k+1)).length=(l.take k).length+1:=by rw[EA,QT,QT];omega
   refine⟨.inr (b,N,k+1),⟨hbN,Nat.lt_succ_self _,ha⟩,(by show l.length-(k+1)<l.length-k;omega),Ou,?_⟩;show A6 _ ⟨[(1,.ptr 0 0 2),(2,.ptr 1 0 2),(3,.sl 2 (Ax l k ⟨xt,xb,xh⟩ b N (k+1)).length 3),(4,.Oo (k+1:Nat))],[.c [.d (A0 l),.Oo n],.c [.e0,.Oo 0],.a (.sl 3 (Ax l k ⟨xt,xb,xh⟩ b N (k+1))),.gone,.gone,.gone,.Bb b N xb],24⟩;exact(have nC:=PV e2 e3;A6.cn rfl)
  .have hkl:k<l.length:=om
   obtain⟨y,hy⟩:=Ac hkl;have hb:=Ab hs hy;have hn:=AJ hy;show W _ _ _ ⟨[(1,.ptr 0 0 2),(2,.ptr 1 0 2),(3,.sl 2 (l.take k).length 3),(4,.Oo k)],[.c [.d (A0 l),.Oo n],.c [.e0,.Oo 0],.a (A0 (l.take k))],24⟩ _;have ix1:=hy;refine wd [0,1,2,3,4,9] [] AA (BC (ED y hb)) ?_;clear ix1;with_reducible repeat' first|constructor|intro hc
   refine⟨.inl (k+1),(by show k+1<=a;omega),(by show l.length-(k+1)<l.length-k;omega),PL _,?_⟩;show A6 _ ⟨[(1,.ptr 0 0 2),(2,.ptr 1 0 2),(3,.sl 2 (l.take (k+1)).length 3),(4,.Oo (k+1:Nat))],[.c [.d (A0 l),.Oo n],.c [.e0,.Oo 0],.a (A0 (l.take (k+1)))],24⟩;exact(have nC:=PV hn (PV @A0.eq_1 @A5.AX.eq_1);A6.cn rfl)
 .obtain⟨hbN,hak,hkl⟩:=hI;replace hbN:x.by_.length<=N/\N<=maxLen:=hbN;replace hak:a<k:=hak;replace hkl:k<=l.length:=hkl;have hR:=EA l a x b N k;rw[QT]at hR;show W _ _ _ ⟨[(1,.ptr 0 0 2),(2,.ptr 1 0 2),(3,.sl 2 (Ax l a x b N k).length 3),(4,.Oo k)],[.c [.d (A0 l),.Oo n],.c [.e0,.Oo 0],.a (.sl 3 (Ax l a x b N k)),.gone,.gone,.gone,.Bb b N x.by_],24⟩ _
  by_cases hk:k<l.length
  .obtain⟨y,hy⟩:=Ac hk;have hb:=Ab hs hy;have hn:=Kf x b N hak hy;have e3:(Ax l a x b N (k+1)).length=(Ax l a x b N k).length+1:=by rw[EA,QT,hR];omega
   generalize hr':Ax l a x b N (k+1)=r' at *;generalize hr:Ax l a x b N k=r at *;unfold A5.AX at hn;have ix1:=hy;refine wd [0,1,2,3,4,9] [] AA (BC (ED y hb)) ?_;clear ix1;with_reducible repeat' first|constructor|intro hc
   refine⟨.inr (b,N,k+1),⟨hbN,Nat.lt_succ_of_lt hak,hk⟩,(by show l.length-(k+1)<l.length-k;omega),PL _,?_⟩;show A6 _ ⟨[(1,.ptr 0 0 2),(2,.ptr 1 0 2),(3,.sl 2 (Ax l a x b N (k+1)).length 3),(4,.Oo (k+1:Nat))],[.c [.d (A0 l),.Oo n],.c [.e0,.Oo 0],.a (.sl 3 (Ax l a x b N (k+1))),.gone,.gone,.gone,.Bb b N x.by_],24⟩;rw[hr'];exact(have nC:=PV hn e3;A6.cn rfl)
  .have e:k=l.length:=om
   subst e;have hR':(Ax l a x b N l.length).length=l.length:=by rw[hR];omega
   generalize hrr:Ax l a x b N l.length=r at *;refine wd [0,1,2,3,4,9] [] AA AA ?_;with_reducible repeat' first|constructor|intro hc
   refine⟨⟨[(2,.ptr 1 0 2)],[.gone,.c [.sl 2 r.length 3,.Oo n],.a (.sl 3 r),.gone,.gone,.gone,.Bb b N x.by_],Try.f28.ntmps⟩,(A6.ck rfl),Q7 _,_,_,rfl,rfl,?_⟩;exact⟨b,N,hbN,by rw[hR'],by rw[hrr]⟩
end Go.Proofs.Ytklaicomfolefaa
